/- What the functions of the program compute, part 3, for RegistryAreas. No condition. -/
import Derived.Test.YtnfppojnmdohnaaGreatDoorP14b
import Derived.Test.YtnfppojnmdohnaaGreatDoorS1
set_option linter.unusedVariables false
set_option linter.unusedSimpArgs false
open Nat (reduceAdd reduceSub reduceMul reduceLT reduceLeDiff)
namespace Go.AM
open Go
theorem Zad (x:Str):Z3 x x=true:=by unfold Z3;exact beq_self_eq_true _
theorem Zat (ex:Bool) (l:List Pt) (hl:l.length≤1000):pfn rE 51 [.isl false ex 2 (l.map Pt.enc),.isl false ex 2 (l.map Pt.enc)]=some (.bool true):=by
 rw [Z5 (f:=51) rfl rfl];have L:=Y8 (E:=rE) (live:=[0,1,5]) (b:=c51L0b) l.length (fun i=>[(0,.isl false ex 2 (l.map Pt.enc)),(1,.isl false ex 2 (l.map Pt.enc)),(5,I i)]) (fun i=>[]) (fun i=>rfl)
  (fun i hi=>by
   obtain ⟨x,hx⟩:∃ x,l[i]? = some x:=⟨_,Zij hi⟩;have hg:=Z6 (f:=Pt.enc) hx;have hi':=Zh hi;have hwr:=Zx (n:=i) (by omega)
   refine ⟨[(0,.isl false ex 2 (l.map Pt.enc)),(1,.isl false ex 2 (l.map Pt.enc)),(4,.bot),(5,I (i+1:Nat))],?_,rfl⟩;simp only [go_sem,Nat.reduceBEq,reduceAdd,reduceSub,reduceMul,reduceLT,reduceLeDiff,reduceIte,c51L0b,hg,hi',hwr,Pt.enc,beq_self_eq_true])
  (e:=.exit 0) (fr:=[(0,.isl false ex 2 (l.map Pt.enc)),(1,.isl false ex 2 (l.map Pt.enc)),(4,.bot),(5,I l.length)]) (h:=[]) (by simp only [go_sem,Nat.reduceBEq,reduceAdd,reduceSub,reduceMul,reduceLT,reduceLeDiff,reduceIte,c51L0b,ZG]) (by simp)
 have hne:((l.length:Int) != (l.length:Int))=false:=by simp
 have L':Zg rE [0,1,5] c51L0b [(0,.isl false ex 2 (l.map Pt.enc)),(1,.isl false ex 2 (l.map Pt.enc)),(5,.int .i64 0)] []=_:=L;simp only [go_sem,Nat.reduceBEq,reduceAdd,reduceSub,reduceMul,reduceLT,reduceLeDiff,reduceIte,c51,c51L0,L',hne]
end Go.AM
namespace Go.AM
open Go
theorem Zbz {α:Type} (l:List α) (k:Nat) (f:α→α) (i:Nat):(ZK l k f)[i]? = if i=k then (l[k]?).map f else l[i]?:=by
 unfold ZK;cases h:l[k]? with
 | none=>
  by_cases hi:i=k
  ·subst hi;rw [if_pos rfl,h];rfl
  ·rw [if_neg hi]
 | some x=>
  by_cases hi:i=k
  ·subst hi;rw [if_pos rfl,List.getElem?_set_self (ZiF.1 h).1];rfl
  ·rw [if_neg hi,List.getElem?_set_ne (Ne.symm hi)]
end Go.AM
namespace Go.AM
open Go
theorem ZbV {s:Sta} {a:Int} {e:Event} (h:Qk s a e=0):okB s a e=true∧Q1 (wk0 s a e)=0∧Wh (stepW (wk0 s a e)).s.Doors=true∧ZP s a e=(stepW (wk0 s a e)).s:=by
 unfold Qk at h;unfold ZP;cases c1:okB s a e with
 | false=>rw [c1] at h;cases h
 | true=>
 cases c2:Q1 (wk0 s a e)==0 with
 | false=>
  rw [c1,c2,cond_true,cond_false] at h;rw [h] at c2;cases c2
 | true=>
 cases c3:Wh (stepW (wk0 s a e)).s.Doors with
 | false=>rw [c1,c2,c3] at h;cases h
 | true=>exact ⟨rfl,by simpa using c2,rfl,rfl⟩
theorem ZbX {s:Sta} {a:Int} {e:Event} (h:okB s a e=true):Jx s=true∧QM a 0 0=true∧Q9 e=true:=by
 unfold okB at h;simp only [Zih] at h;exact h
end Go.AM
namespace Go.AM
open Go
def ZcX:List (List UInt8)→List (List UInt8)
 | []=>[]
 | a::r=>match ZcX r with
  | []=>[a]
  | b::s=>if a=b then b::s else a::b::s
theorem ZdC:∀ l:List (List UInt8),Ys (l.map Qd)=(ZcX l).map Qd
 | []=>rfl
 | a::r=>by
  rw [ZiB];unfold Ys ZcX;rw [ZdC r];cases ZcX r with
  | nil=>rfl
  | cons b s=>
   have e:sameKey (Qd a) (Qd b)=decide (a=b):=by
    show Z3 _ _=_
    unfold Z3;have e1:(⟨a.toArray⟩:ByteArray).data.toList=a:=by simp
    have e2:(⟨b.toArray⟩:ByteArray).data.toList=b:=by simp
    rw [e1,e2];by_cases h:a=b
    ·subst h;simp
    ·rw [decide_eq_false h];simpa using h
   show (bif sameKey (Qd a) (Qd b) then _ else _)=_
   rw [e];by_cases h:a=b
   ·simp [h]
   ·simp [h]
theorem Ze5 (a:List UInt8) (r:List (List UInt8)):∃ t,ZcX (a::r)=a::t∧t.length≤r.length:=by
 induction r generalizing a with
 | nil=>exact ⟨[],rfl,ZiD _⟩
 | cons b s ih=>
  obtain ⟨t,h1,h2⟩:=ih b;unfold ZcX;rw [h1];by_cases h:a=b
  ·subst h;exact ⟨t,by simp,by simp;omega⟩
  ·exact ⟨b::t,by simp [h],by simp;omega⟩
def Adj:List (List UInt8)→Prop
 | []=>True
 | [_]=>True
 | a::b::r=>a≠b∧Adj (b::r)
theorem ZdD:∀ l:List (List UInt8),(ZcX l).length=l.length↔Adj l
 | []=>⟨fun _=>trivial,fun _=>rfl⟩
 | [a]=>⟨fun _=>trivial,fun _=>rfl⟩
 | a::b::r=>by
  have ih:=ZdD (b::r);obtain ⟨t,h1,h2⟩:=Ze5 b r;rw [h1] at ih;unfold Adj;rw [←ih];unfold ZcX;rw [h1];by_cases h:a=b
  ·subst h;simp;omega
  ·simp [h]
theorem ZdE:∀ l:List (List UInt8),l.Pairwise (fun a b=>leB a b=true)→Adj l→l.Nodup
 | [],_,_=>.nil
 | [a],_,_=>by simp
 | a::b::r,hs,h=>by
  unfold Adj at h;rw [List.pairwise_cons] at hs;have ih:=ZdE (b::r) hs.2 h.2;rw [Zja];refine ⟨fun hm=>?_,ih⟩
  rcases List.mem_cons.1 hm with e | hm
  ·exact h.1 e
  ·have hb:=(List.pairwise_cons.1 hs.2).1 a hm;exact h.1 (ET _ _ (hs.1 b (Zje ..)) hb)
theorem ZdF:∀ l:List (List UInt8),l.Nodup→Adj l
 | [],_=>trivial
 | [a],_=>trivial
 | a::b::r,h=>by
  rw [Zja] at h;exact ⟨fun e=>h.1 (by rw [e];exact Zje ..),ZdF (b::r) h.2⟩
theorem bytes_inj {a b:Str} (h:a.data.toList=b.data.toList):a=b:=by
 obtain ⟨⟨a⟩⟩:=a;obtain ⟨⟨b⟩⟩:=b;have:a=b:=h;rw [this]
theorem ZdG {α β:Type} {f:α→β} (hf:∀ a b,f a=f b→a=b):∀ {l:List α},(l.map f).Nodup↔l.Nodup
 | []=>by simp
 | a::r=>by
  rw [ZiB,Zja,Zja,ZdG hf];refine and_congr_left fun _=>not_congr ⟨fun h=>?_,fun h=>List.mem_map_of_mem h⟩
  obtain ⟨b,hb,e⟩:=Zj2.1 h;rw [←hf _ _ e];exact hb
theorem Ze6 (l:List Str):l.map encS=(l.map (fun x:Str=>x.data.toList)).map Qd:=by
 rw [List.map_map];apply List.map_congr_left;intro x _;obtain ⟨⟨x⟩⟩:=x;rfl
theorem Zdk (l:List Str):Jq l=true↔l.Nodup:=by
 have e:(Ys (Yk (l.map encS))).length=(ZcX (WD (l.map (fun x:Str=>x.data.toList)))).length:=by
  rw [Ze6,D4,ZdC,Zik]
 have hl:(WD (l.map (fun x:Str=>x.data.toList))).length=l.length:=by
  rw [(RS _).length_eq,Zik]
 unfold Jq;rw [beq_iff_eq,e];rw [show ((ZcX (WD (l.map (fun x:Str=>x.data.toList)))).length:Int)=(l.length:Int)↔(ZcX (WD (l.map (fun x:Str=>x.data.toList)))).length=(WD (l.map (fun x:Str=>x.data.toList))).length from by rw [hl];omega]
 rw [ZdD];have h1:Adj (WD (l.map (fun x:Str=>x.data.toList)))↔(WD (l.map (fun x:Str=>x.data.toList))).Nodup:=⟨ZdE _ (D8 _),ZdF _⟩
 rw [h1,(RS _).nodup_iff,ZdG (fun a b h=>bytes_inj h)]
end Go.AM
namespace Go.AM
open Go
structure Prop' (s:Sta):Prop where
 rg:∀ x∈s.Regions,Vo x=true
 st:∀ x∈s.Streets,Vp x=true
 bu:∀ x∈s.Buildings,Vq x=true
 dr:∀ (i:Nat) d,s.Doors[i]? = some d→Vr s i d=true
 un:∀ x∈s.Units,Vs s x=true
 ids:(Qp s).Nodup
 pa:WK s=true
theorem Zda {α:Type} {P:Nat→α→Bool}:∀ {l:List α} {i:Nat},Zu P i l=true↔∀ (j:Nat) x,l[j]? = some x→P (i+j) x=true
 | [],i=>⟨fun _ j x h=>(by simp at h),fun _=>rfl⟩
 | y::r,i=>by
  unfold Zu;rw [Zih,Zda (l:=r)];constructor
  ·rintro ⟨h1,h2⟩ j x hx;cases j with
   | zero=>cases hx;exact h1
   | succ j=>have:=h2 j x hx;rw [show i+(j+1)=i+1+j by omega];exact this
  ·intro h;exact ⟨h 0 y rfl,fun j x hx=>by have:=h (j+1) x hx;rw [show i+1+j=i+(j+1) by omega];exact this⟩
theorem Zdb (s:Sta):Jx s=true↔Prop' s∧Wh s.Doors=true:=by
 unfold Jx;simp only [Zih];constructor
 ·rintro ⟨h1,h2,h3,h4,h5,h6,h7,h8⟩;exact ⟨⟨Zit.1 h1,Zit.1 h2,Zit.1 h3,fun i d hd=>by have:=Zda.1 h4 i d hd;rwa [ZiN] at this,Zit.1 h5,(Zdk _).1 h6,h8⟩,h7⟩
 ·rintro ⟨⟨h1,h2,h3,h4,h5,h6,h8⟩,h7⟩;exact ⟨Zit.2 h1,Zit.2 h2,Zit.2 h3,Zda.2 (fun i d hd=>by rw [ZiN];exact h4 i d hd),Zit.2 h5,(Zdk _).2 h6,h7,h8⟩
def look {α:Type} (f:α→Str) (l:List α) (id:Str):Int:=Zp (fun x=>Z3 (f x) id) l 0
theorem ZcU {α:Type} {f:α→Str} {l:List α} {id:Str} (h:decide (look f l id < 0)=false):∃ (j:Nat) (x:α),look f l id=(j:Int)∧l[j]? = some x∧f x=id:=by
 unfold look at h ⊢;rcases UA (fun x=>Z3 (f x) id) l 0 with ⟨h1,_⟩ | ⟨j,x,h1,h2,h3⟩
 ·rw [h1] at h;cases h
 ·exact ⟨j,x,by omega,h2,by have:=List.find?_some h3;exact (Ky _ _).1 this⟩
theorem Ze8 {α:Type} {f:α→Str} {l:List α} {x:α} (h:x∈l):decide (look f l (f x) < 0)=false:=by
 unfold look;rcases UA (fun y=>Z3 (f y) (f x)) l 0 with ⟨_,h2⟩ | ⟨j,y,h1,_,_⟩
 ·exfalso;have:=List.find?_eq_none.1 h2 x h;exact this ((Ky _ _).2 rfl)
 ·exact decide_eq_false (by omega)
theorem Zi1 {α:Type} {f:α→Str} {l:List α} {j:Nat} {x:α} (hn:(l.map f).Nodup) (h:l[j]? = some x):look f l (f x)=(j:Int):=by
 obtain ⟨k,y,h1,h2,h3⟩:=ZcU (Ze8 (f:=f) (Ziq h));have hk:(l.map f)[k]? = some (f x):=by rw [ZiX,h2,Ziv,h3]
 have hj:(l.map f)[j]? = some (f x):=by rw [ZiX,h,Ziv]
 have hkl:=(ZiF.1 hk).1;have:k=j:=(List.getElem?_inj hkl hn).1 (hk.trans hj.symm);rw [h1,this]
end Go.AM
namespace Go.AM
open Go
theorem Zd3 {e:Event} (h1:(ZD e.Kind 1 15&&(ZD e.Day 0 100000&&(!Fb (Zq e)&&NG (Zq e))))=true):Q9 e=Q8 e:=by
 unfold Q9;simp only [Zih] at h1;rw [h1.1,h1.2.1,h1.2.2.1,h1.2.2.2];rfl
theorem Zdu (x:Region):Q9 { Jt x with Kind:=1 }=(ZZ x.Id&&(ZD x.Kind 1 3&&Vh x.Ring.l)):=(Zd3 (by rfl)).trans (by kernel_rfl)
theorem Zd2 {s:Sta} {a:Int} {e:Event} {id:Str} (h:twB (wk0 s a e) id=false):id ∉ Qp s:=by
 intro hm;have:=Zj9.1 h id hm;exact this ((Ky _ _).2 rfl)
end Go.AM
namespace Go.AM
open Go
theorem Zah {n m:Int} (h:(n != m)=false):n=m:=by simpa using h
theorem Zdo {b:Bool} (h:(bif b then (8:Int) else 0)=0):b=false:=by cases b with | true=>cases h | false=>rfl
end Go.AM
namespace Go.AM
open Go
end Go.AM
namespace Go.AM
open Go
theorem ZdP {K:List Str} {x:Str}:K.any (Z3 x)=true↔x∈K:=by
 rw [List.any_eq_true];exact ⟨fun ⟨y,h1,h2⟩=>by rw [(Ky _ _).1 h2];exact h1,fun h=>⟨x,h,(Ky _ _).2 rfl⟩⟩
end Go.AM
namespace Go.AM
open Go
end Go.AM
namespace Go.AM
open Go
end Go.AM
namespace Go.AM
open Go
end Go.AM
namespace Go.AM
open Go
end Go.AM
namespace Go.AM
open Go
end Go.AM
namespace Go.AM
open Go
end Go.AM
namespace Go.AM
open Go
theorem ZbD {α:Type} {Q:α→Prop} {f:α→α} {l:List α} {k:Nat} (h:∀ x∈l,Q x) (hf:∀ x,Q x→Q (f x)):∀ x∈ZK l k f,Q x:=by
 unfold ZK;split
 ·rename_i x hx;intro y hy;rcases List.mem_or_eq_of_mem_set hy with h1 | rfl
  ·exact h y h1
  ·exact hf x (h x (Ziq hx))
 ·exact h
theorem Zd9 {α:Type} {Q:α→Prop} {l m:List α} (h:∀ x∈l,Q x) (hm:∀ x∈m,Q x):∀ x∈l++m,Q x:=fun x hx=>by
 rcases List.mem_append.1 hx with h1 | h1
 ·exact h x h1
 ·exact hm x h1
theorem Zdi {α:Type} {Q:α→Prop} {y:α} (h:Q y):∀ x∈[y],Q x:=fun x hx=>by rw [Zj3] at hx;subst hx;exact h
structure SizeOk (s:Sta):Prop where
 rg:∀ x∈s.Regions,x.Names.l.length≤100∧x.Ring.l.length≤100∧x.Id.size≤1000
 st:∀ x∈s.Streets,x.Names.l.length≤100∧x.Line.l.length≤100∧x.Id.size≤1000
 bu:∀ x∈s.Buildings,x.Ring.l.length≤100∧x.Id.size≤1000
 dr:∀ x∈s.Doors,DoS x
 un:∀ x∈s.Units,x.Id.size≤1000∧x.Door.size≤1000∧x.Text.size≤1000
theorem Zdr {w:Wk} {k:Nat} {a:NL Str} (h:SizeOk w.s) (ha:a.l.length≤100) (hi:∀ id∈a.l,id.size≤1000):SizeOk (Qf w k a).s:=by
 unfold Qf;split
 ·rename_i x hx;refine ⟨h.rg,h.st,h.bu,ZbD h.dr (fun d hd=>⟨ha,hd.id,hd.building,hd.street,hd.veil⟩),fun u hu=>?_⟩
  obtain ⟨v,hv,rfl⟩:=Zj2.1 hu;have h0:=h.un v hv;unfold XO;cases Z3P x.Id v with
  | false=>exact h0
  | true=>
   rw [cond_true];unfold UG;split
   ·rename_i id r hc;exact ⟨h0.1,hi id (by rw [hc];exact Zje ..),h0.2.2⟩
   ·exact h0
 ·exact h
theorem ZdB {w:Wk} {d:Door} (h:SizeOk w.s) (hd:DoS d):SizeOk (Qw w d).s:=
 ⟨h.rg,h.st,h.bu,Zd9 h.dr (Zdi ⟨hd.after,hd.id,hd.building,hd.street,hd.veil⟩),h.un⟩
theorem Ze1 {a:NL Str} (ha:a.l.length≤100) (hi:∀ id∈a.l,id.size≤1000):∀ (l:List Int) (w:Wk),SizeOk w.s→SizeOk (Yg w l a).s
 | [],_,h=>h
 | k::r,w,h=>Ze1 ha hi r (Qf w k.toNat a) (Zdr h ha hi)
theorem Ze2 {w:Wk} {l:List Door} (h:SizeOk w.s):∀ i,SizeOk (Y6 w l i).s
 | 0=>h
 | i+1=>by
  have ih:=Ze2 (w:=w) (l:=l) h i;unfold Y6;split
  ·rename_i x hx;cases NV w.e.Id x with
   | false=>exact ih
   | true=>exact Zdr ih (Zig _) (fun id hc=>by cases hc)
  ·exact ih
theorem Ze3 {D:List Door} {l:List Ent} (h:∀ x∈D,DoS x):∀ i,∀ x∈Yn D l i,DoS x
 | 0=>h
 | i+1=>by
  have ih:=Ze3 (l:=l) h i;unfold Yn;split
  ·exact ZbD ih (fun d hd=>⟨hd.after,hd.id,hd.building,hd.street,hd.veil⟩)
  ·exact ih
theorem Ze4 {s:Sta} (h:SizeOk s) (k:Nat):(JF s k).l.length≤100:=by
 unfold JF;split
 ·rename_i x hx;exact (h.st x (Ziq hx)).1
 ·exact Zig _
theorem Zdj:emp.size≤1000:=Zig _
theorem ZeG {w:Wk} (h:SizeOk w.s) (he:EvS w.e) (hL:∀ x∈w.e.Lst.l,x.Id.size≤1000):SizeOk (stepW w).s:=by
 unfold stepW;split
 ·refine ⟨?_,h.st,h.bu,h.dr,h.un⟩;unfold Hj;cases decide (Qo w.s w.e.Id < 0) with
  | true=>exact Zd9 h.rg (Zdi ⟨Zig _,he.path,he.id⟩)
  | false=>exact ZbD h.rg (fun x hx=>⟨hx.1,he.path,hx.2.2⟩)
 ·exact ⟨h.rg,Zd9 h.st (Zdi ⟨Zig _,he.path,he.id⟩),h.bu,h.dr,h.un⟩
 ·unfold Hl;cases decide (Qo w.s w.e.Id ≥ 0) with
  | true=>exact ⟨ZbD h.rg (fun x hx=>⟨he.names,hx.2⟩),h.st,h.bu,h.dr,h.un⟩
  | false=>exact ⟨h.rg,ZbD h.st (fun x hx=>⟨he.names,hx.2⟩),h.bu,h.dr,h.un⟩
 ·exact ⟨h.rg,ZbD (ZbD h.st (fun x hx=>⟨Ze4 h _,hx.2⟩)) (fun x hx=>⟨Ze4 h _,hx.2⟩),h.bu,h.dr,h.un⟩
 ·exact ⟨h.rg,h.st,Zd9 h.bu (Zdi ⟨he.path,he.id⟩),h.dr,h.un⟩
 ·exact ZdB h ⟨Zig _,he.id,he.other,he.text,Zdj⟩
 ·exact ⟨h.rg,h.st,h.bu,h.dr,Zd9 h.un (Zdi ⟨he.id,he.other,he.text⟩)⟩
 ·exact ⟨h.rg,h.st,h.bu,Ze3 h.dr _,h.un⟩
 ·unfold Kb;split
  ·rename_i d hd;have hd':=h.dr d (Ziq hd);refine Zdr (w:=Y5 w d w.e.Lst.l) ⟨h.rg,h.st,h.bu,Zd9 h.dr (fun y hy=>?_),h.un⟩ ?_ (fun id hid=>?_)
   ·obtain ⟨x,hx,rfl⟩:=Zj2.1 hy;exact ⟨Zig _,hL x hx,hd'.building,hd'.street,Zdj⟩
   ·rw [Zik];exact he.lst
   ·obtain ⟨x,hx,rfl⟩:=Zj2.1 hid;exact hL x hx
  ·exact h
 ·unfold Kd;split
  ·rename_i d hd;have hd':=h.dr d (Ziq hd);exact Ze1 (a:=⟨false,[w.e.Id]⟩) (by simp) (fun id hid=>by rw [Zj3] at hid;subst hid;exact he.id) _ _ (ZdB h ⟨Zig _,he.id,hd'.building,hd'.street,Zdj⟩)
  ·exact h
 ·unfold Ht;exact Ze2 (w:=JH w (ZK w.s.Buildings (Y1 w.s w.e.Id).toNat (Ke w.e))) ⟨h.rg,h.st,ZbD (f:=Ke w.e) h.bu (fun x hx=>hx),h.dr,h.un⟩ _
 ·unfold Hy;cases Kg w.s w.e.Id with
  | true=>exact ⟨ZbD h.rg (fun x hx=>hx),h.st,h.bu,h.dr,h.un⟩
  | false=>
  cases Kh w.s w.e.Id with
  | true=>exact ⟨h.rg,ZbD h.st (fun x hx=>hx),h.bu,h.dr,h.un⟩
  | false=>
  cases Ki w.s w.e.Id with
  | true=>exact Zdr h (Zig _) (fun id hc=>by cases hc)
  | false=>exact ⟨h.rg,h.st,h.bu,h.dr,ZbD h.un (fun x hx=>hx)⟩
 ·exact ⟨h.rg,h.st,h.bu,h.dr,h.un⟩
 ·exact ⟨h.rg,h.st,h.bu,h.dr,h.un⟩
 ·exact ZdB h ⟨Zig _,he.id,Zdj,Zdj,he.text⟩
theorem ZeH (s:Sta) (hs:StF s) (a:Int) (e:Event) (he:EvS e) (hL:∀ x∈e.Lst.l,x.Id.size≤1000):StE (ZP s a e):=by
 unfold ZP;cases okB s a e&&(Q1 (wk0 s a e)==0&&Wh (stepW (wk0 s a e)).s.Doors) with
 | true=>
  have h:=ZeG (w:=wk0 s a e) ⟨hs.e.regions,hs.e.streets,hs.e.buildings,hs.e.doors,hs.e.units⟩ he hL;exact ⟨FN s hs a e he,h.rg,h.st,h.bu,h.dr,h.un⟩
 | false=>
  refine ⟨⟨Zig _,Zig _,Zig _,Zig _,Zig _,Zig _,Zig _⟩,?_,?_,?_,?_,?_⟩
  all_goals (intro x hx;cases hx)
end Go.AM
namespace Go.AM
open Go
def lvR (l:List Region):List Region:=l.filter (fun x=>x.Ended==-1)
theorem Zi5 {l:List Region} {i:Nat} {x:Region} (hx:l[i]? = some x) (hl:x.Ended=-1):(lvR l)[(lvR (l.take i)).length]? = some x:=by
 have e1:l=l.take i++(x::l.drop (i+1)):=by
  have h:=(ZiF.1 hx);rw [←Zj5 i l];have:l.drop i=x::l.drop (i+1):=by
   rw [ZiQ h.1,h.2]
  rw [Zj5,this.symm,Zj5]
 have e2:lvR l=lvR (l.take i)++(x::lvR (l.drop (i+1))):=by
  have:=congrArg lvR e1;rw [this];unfold lvR;rw [List.filter_append,List.filter_cons];have hb:(x.Ended==-1)=true:=by simpa using hl
  rw [hb];rfl
 rw [e2,Zjd (ZiD _),Nat.sub_self];rfl
theorem Zi6 {l:List Region} {k:Nat} {x:Region} {id:Str} {f:Region→Region} (hn:(l.map (·.Id)).Nodup) (hx:l[k]? = some x) (hid:x.Id=id):ZK l k f=l.map (fun y=>if y.Id=id then f y else y):=by
 apply List.ext_getElem?;intro i;rw [Zbz,ZiX];by_cases hi:i=k
 ·subst hi;rw [if_pos rfl,hx];simp [hid]
 ·rw [if_neg hi];cases hy:l[i]? with
  | none=>rfl
  | some y=>
   have hne:y.Id≠id:=by
    intro hc;have h1:=Zi1 (f:=fun r:Region=>r.Id) hn hx
    have h2:=Zi1 (f:=fun r:Region=>r.Id) hn hy
    have h1':look (fun r:Region=>r.Id) l id=(k:Int):=by rw [←hid];exact h1
    have h2':look (fun r:Region=>r.Id) l id=(i:Int):=by rw [←hc];exact h2
    omega
   rw [Ziv,if_neg hne]
theorem Zi7 {s:Sta} {a:Int} {e:Event} (h:Qk s a e=0) (hk:e.Kind=1):
 (∀ (i:Nat) (y:Region),(lvR (ZP s a e).Regions)[i]? = some y→(y.Id=e.Id∧y.Kind=e.A∧y.Ring=e.Path)∨(y.Id≠e.Id∧∃ x:Region,(lvR s.Regions)[i]? = some x∧x.Id=y.Id∧x.Ring=y.Ring))∧
 (∃ y∈lvR (ZP s a e).Regions,y.Id=e.Id)∧((lvR (ZP s a e).Regions).length=(lvR s.Regions).length∨(lvR (ZP s a e).Regions).length=(lvR s.Regions).length+1):=by
 obtain ⟨h1,h2,h3,h4⟩:=ZbV h;obtain ⟨p1,_,_⟩:=ZbX h1;have hp:=((Zdb s).1 p1).1;have hids:=hp.ids;have hnR:(s.Regions.map (·.Id)).Nodup:=by
  unfold Qp at hids;exact (Zjf.1 hids).1
 have hw:stepW (wk0 s a e)=Hj (wk0 s a e):=by unfold stepW;rw [show (wk0 s a e).e.Kind=1 from hk];rfl
 have he:Q1 (wk0 s a e)=Hi (wk0 s a e):=by unfold Q1;rw [show (wk0 s a e).e.Kind=1 from hk];rfl
 rw [he] at h2;rw [h4,hw];unfold Hi at h2;unfold Hj;have ws:(wk0 s a e).s=s:=rfl;have we:(wk0 s a e).e=e:=rfl;rw [ws,we] at h2 ⊢;cases c:decide (Qo s e.Id < 0) with
 | true=>
  rw [c,cond_true] at h2;have hnew:=Zd2 (Zdo h2);have hM:lvR (s.Regions++[Fw (wk0 s a e)])=lvR s.Regions++[Fw (wk0 s a e)]:=by
   unfold lvR;rw [List.filter_append];rfl
  show (∀ (i:Nat) (y:Region),(lvR (s.Regions++[Fw (wk0 s a e)]))[i]? = some y→_)∧(∃ y∈lvR (s.Regions++[Fw (wk0 s a e)]),_)∧((lvR (s.Regions++[Fw (wk0 s a e)])).length=_∨(lvR (s.Regions++[Fw (wk0 s a e)])).length=_)
  rw [hM];refine ⟨fun i y hy=>?_,⟨Fw (wk0 s a e),List.mem_append_right _ (Zj3.2 rfl),rfl⟩,Or.inr (by rw [Ziy];rfl)⟩
  by_cases hl:i < (lvR s.Regions).length
  ·rw [List.getElem?_append_left hl] at hy;refine Or.inr ⟨fun hc=>hnew ?_,y,hy,rfl,rfl⟩
   have hm:y∈s.Regions:=(List.mem_filter.1 (Ziq hy)).1;rw [←hc];unfold Qp;exact List.mem_append_left _ (List.mem_map_of_mem hm)
  ·rw [Zjd (by omega)] at hy
   have:=Ziq hy;rw [Zj3] at this;subst this;exact Or.inl ⟨rfl,rfl,rfl⟩
 | false=>
  rw [c,cond_false] at h2;obtain ⟨k,x0,g1,g2,g3⟩:=ZcU (f:=fun r:Region=>r.Id) c
  have g1':Qo s e.Id=(k:Int):=g1;rw [g1'] at h2 ⊢;rw [show ((k:Nat):Int).toNat=k by omega]
  have d1:WM s (k:Int)=x0.Ended:=by simp [WM,g2]
  have d2:NU s (k:Int)=x0.Kind:=by simp [NU,g2]
  rw [d1,d2] at h2;have hl:x0.Ended=-1∧x0.Kind=e.A:=by
   cases q1:x0.Ended != -1 with
   | true=>rw [q1] at h2;cases h2
   | false=>
   cases q2:x0.Kind != e.A with
   | true=>rw [q1,q2] at h2;cases h2
   | false=>exact ⟨Zah q1,Zah q2⟩
  have hmod:=Zi6 (f:=NS e.Path) hnR g2 g3;show (∀ (i:Nat) (y:Region),(lvR (ZK s.Regions k (NS e.Path)))[i]? = some y→_)∧(∃ y∈lvR (ZK s.Regions k (NS e.Path)),_)∧((lvR (ZK s.Regions k (NS e.Path))).length=_∨(lvR (ZK s.Regions k (NS e.Path))).length=_)
  rw [hmod];have hM:lvR (s.Regions.map (fun y=>if y.Id=e.Id then NS e.Path y else y))=(lvR s.Regions).map (fun y=>if y.Id=e.Id then NS e.Path y else y):=by
   unfold lvR;rw [List.filter_map];congr 2
   funext y
   show ((if y.Id=e.Id then NS e.Path y else y).Ended==-1)=_
   by_cases hc:y.Id=e.Id
   ·rw [if_pos hc];rfl
   ·rw [if_neg hc]
  rw [hM];refine ⟨fun i y hy=>?_,⟨NS e.Path x0,?_,g3⟩,Or.inl (Zik _)⟩
  ·rw [ZiX] at hy;obtain ⟨x,hx,rfl⟩:=Option.map_eq_some_iff.1 hy;by_cases hc:x.Id=e.Id
   ·rw [if_pos hc];have hm:x∈s.Regions:=(List.mem_filter.1 (Ziq hx)).1;obtain ⟨j,hj⟩:=List.mem_iff_getElem?.1 hm;have h5:=Zi1 (f:=fun r:Region=>r.Id) hnR hj
    have h5':look (fun r:Region=>r.Id) s.Regions e.Id=(j:Int):=by rw [←hc];exact h5
    have hjk:j=k:=by omega
    subst hjk;rw [g2] at hj;cases hj;exact Or.inl ⟨hc,hl.2,rfl⟩
   ·rw [if_neg hc];exact Or.inr ⟨hc,x,hx,rfl,rfl⟩
  ·refine Zj2.2 ⟨x0,List.mem_filter.2 ⟨Ziq g2,by simpa using hl.1⟩,?_⟩
   rw [if_pos g3]
end Go.AM
namespace Go.AM
open Go
theorem Zi8 (s:Str):pfn rE 124 [.str s]=some (.bool (ZZ s)):=by
 have h:=Z1W s;unfold ZZ;generalize Up s=x at h ⊢;obtain ⟨ts,err,pos⟩:=x;unfold Lx.val at h;simp only at h ⊢;rw [Z5 (f:=124) rfl rfl];cases h0:err==0 with
 | false=>simp only [go_sem,Nat.reduceBEq,reduceAdd,reduceSub,reduceMul,reduceLT,reduceLeDiff,reduceIte,c124,h,h0]
 | true=>
  rcases ts with _ | ⟨⟨tk,ta,tn,tt⟩,_ | ⟨t2,ts⟩⟩
  ·have e:(((0:Nat):Int)==1)=false:=rfl;simp only [go_sem,Nat.reduceBEq,reduceAdd,reduceSub,reduceMul,reduceLT,reduceLeDiff,reduceIte,c124,h,h0,e]
  ·have e:(((0+1:Nat):Int)==1)=true:=rfl;have e1:ixG [.agg [I tk,I ta,I tn,.str tt]] 0=some (.agg [I tk,I ta,I tn,.str tt]):=rfl;have e2:(((1:Nat):Int)==1)=true:=rfl;cases h1:tk==1<;>simp only [go_sem,Nat.reduceBEq,reduceAdd,reduceSub,reduceMul,reduceLT,reduceLeDiff,reduceIte,c124,h,h0,e,e1,e2,h1,Tok.enc]
  ·have e:(((ts.length+1+1:Nat):Int)==1)=false:=by
    rw [beq_eq_false_iff_ne];omega
   simp only [go_sem,Nat.reduceBEq,reduceAdd,reduceSub,reduceMul,reduceLT,reduceLeDiff,reduceIte,c124,h,h0,e]
theorem Zi9 (k:Int):pfn rE 125 [I k]=some (.bool (ZD k 1 3)):=by
 rw [Z5 (f:=125) rfl rfl];unfold ZD;cases h:decide (k ≥ 1)<;>simp only [go_sem,Nat.reduceBEq,reduceAdd,reduceSub,reduceMul,reduceLT,reduceLeDiff,reduceIte,c125,h]
def arA (x:Region):AV:=.agg [.str x.Id,I x.Kind,.isl false x.Ring.ex 2 (x.Ring.l.map Pt.enc)]
theorem Zi0 (l:List Region):(lvR l).length≤l.length:=List.length_filter_le ..
theorem Zi2 {l:List Region} {i:Nat} {x:Region} (hx:l[i]? = some x):lvR (l.take (i+1))=lvR (l.take i)++(bif x.Ended==-1 then [x] else []):=by
 unfold lvR;rw [Zj0,hx,List.filter_append];cases h:x.Ended==-1 with
 | true=>simp [h]
 | false=>simp [h]
theorem Zi3 (s:Sta) (hs:StS s):pfn rE 49 [stA s]=some (.isl false false 3 ((lvR s.Regions).map arA)):=by
 have hbS:∀ n (K:List Region),Zd n (K.map arA)=true:=fun n K=>ZN _ (Zw (fun t=>rfl) K)
 have hl:=hs.regions;have L:=Y8 (E:=rE) (live:=[3,7,8,9]) (b:=c49L0b) s.Regions.length
  (fun i=>[(3,.sl 0 (lvR (s.Regions.take i)).length 0 (lvR (s.Regions.take i)).length false),(7,.isl false false 6 (s.Regions.map Region.enc)),(8,I s.Regions.length),(9,I i)])
  (fun i=>[.row 3 ((lvR (s.Regions.take i)).map arA)]) (fun i=>rfl)
  (fun i hi=>by
   obtain ⟨x,hx⟩:∃ x,s.Regions[i]? = some x:=⟨_,Zij hi⟩;have hg:=Z6 (f:=Region.enc) hx;have hi':=Zh hi;have hw:=Zx (n:=i) (by omega)
   have hn:(lvR (s.Regions.take i)).length≤1000:=Zj4 (Zi0 _) (by rw [Zj1];omega)
   rw [Zi2 hx];generalize lvR (s.Regions.take i)=KS at hn ⊢;cases c:x.Ended==-1 with
   | false=>
    rw [cond_false,Zii];refine ⟨_,by simp only [go_sem,Nat.reduceBEq,reduceAdd,reduceSub,reduceMul,reduceLT,reduceLeDiff,reduceIte,c49L0b,hg,hi',hw,Region.enc,NL.enc,c,hbS];rfl,?_⟩
    simp only [go_sem,Nat.reduceBEq,reduceAdd,reduceSub,reduceMul,reduceLT,reduceLeDiff,reduceIte]
   | true=>
    have ha:=fun q=>XC (h:=[.row 3 (KS.map arA),q]) (fz:=false) (b:=0) (g:=KS.length) (sz:=3) (es:=KS.map arA) (bw:=false) (ex:=false) (ys:=[.agg [.str x.Id,I x.Kind,.isl false x.Ring.ex 2 (x.Ring.l.map Pt.enc)]]) (bytes:=48) (by simp [rowAt]) rfl (by rfl) (by omega) (by omega) (by simp;omega)
    have e1:(KS++[x]).map arA=KS.map arA++[.agg [.str x.Id,I x.Kind,.isl false x.Ring.ex 2 (x.Ring.l.map Pt.enc)]]:=by rw [Zis];rfl
    rw [cond_true,e1,Ziy,ZiZ];refine ⟨_,by simp only [go_sem,Nat.reduceBEq,reduceAdd,reduceSub,reduceMul,reduceLT,reduceLeDiff,reduceIte,c49L0b,hg,hi',hw,Region.enc,NL.enc,c,ha,beq_self_eq_true,hbS];rfl,?_⟩
    simp only [go_sem,Nat.reduceBEq,reduceAdd,reduceSub,reduceMul,reduceLT,reduceLeDiff,reduceIte])
  (e:=.exit 0) (by simp only [go_sem,Nat.reduceBEq,reduceAdd,reduceSub,reduceMul,reduceLT,reduceLeDiff,reduceIte,c49L0b,ZG,Ziw];rfl) (by simp)
 have e0:lvR (s.Regions.take 0)=[]:=rfl;simp only [e0,ZiL,Zin] at L;have L':Zg rE [3,7,8,9] c49L0b [(3,.sl 0 0 0 0 false),(7,.isl false false 6 (s.Regions.map Region.enc)),(8,I s.Regions.length),(9,.int .i64 0)] [.row 3 []]=_:=L;rw [Z5 (f:=49) rfl rfl];have hcl:Z4 ((lvR s.Regions).map arA)=true:=Zw (fun t=>rfl) _
 have htk:((lvR s.Regions).map arA).take (lvR s.Regions).length=(lvR s.Regions).map arA:=Ziu (by rw [Zik];omega)
 simp only [go_sem,Nat.reduceBEq,reduceAdd,reduceSub,reduceMul,reduceLT,reduceLeDiff,reduceIte,c49,c49L0,L',hbS,beq_self_eq_true,ZiY,htk,hcl]
end Go.AM
namespace Go.AM
open Go
theorem Zia {K:List Str} {x:Str} (h:x ∉ K):Qi Z3 K x=K++[x]:=by
 unfold Qi;cases hx:K.any (Z3 x) with
 | true=>exact absurd (ZdP.1 hx) h
 | false=>rfl
theorem Zib (L:List Region) (hl:L.length≤400) (hn:(L.map (·.Id)).Nodup) (hv:∀ x∈L,ZZ x.Id=true∧ZD x.Kind 1 3=true∧Vh x.Ring.l=true∧x.Ring.l.length≤1000000):
 pfn rE 52 [.isl false false 3 (L.map arA)]=some (.bool true):=by
 have hb2:∀ n (K:List Str),Zd n (K.map encS)=true:=fun n K=>ZN _ (Zw (fun t=>rfl) K)
 have hb3:∀ n k,Zd n (ZO k)=true:=fun n k=>ZN _ (Ut k)
 have H:=Y8 (E:=rE) (live:=[0,3,7,8,9]) (b:=c52L0b) L.length (fun i=>[(0,.isl false false 3 (L.map arA)),(3,.mp 0),(7,.isl false false 3 (L.map arA)),(8,I L.length),(9,I i)])
  (fun i=>[.map (((L.take i).map (·.Id)).map encS) (ZO ((L.take i).map (·.Id)).length)]) (fun i=>rfl)
  (fun i hi=>by
   obtain ⟨x,hx⟩:∃ x,L[i]? = some x:=⟨_,Zij hi⟩;have hg:=Z6 (f:=arA) hx;have hi':=Zh hi;have hw:=Zx (n:=i) (by omega)
   obtain ⟨v1,v2,v3,v4⟩:=hv x (Ziq hx);have k1:=Zi8 x.Id;have k2:=Zi9 x.Kind;have k3:=Dz x.Ring.l x.Ring.ex v4;rw [v1] at k1;rw [v2] at k2;rw [v3] at k3;have ht:=YW (fun x:Region=>x.Id) hx
   have hnew:x.Id ∉ (L.take i).map (·.Id):=by
    intro hm;have h1:(((L.take (i+1)).map (·.Id))).Nodup:=by
     rw [List.map_take];exact hn.sublist (List.take_sublist _ _)
    rw [ht,Zjf] at h1;exact h1.2.2 _ hm _ (Zj3.2 rfl) rfl
   have hf:=Zia hnew;have hany:((L.take i).map (·.Id)).any (Z3 x.Id)=false:=by
    cases hc:((L.take i).map (·.Id)).any (Z3 x.Id) with
    | false=>rfl
    | true=>exact absurd (ZdP.1 hc) hnew
   rw [ht];generalize (L.take i).map (·.Id)=K at hf hany ⊢;have hp:=fun hh=>Ur (ag:=false) (kk:=[2]) (enc:=encS) (eq:=Z3) Z1Y K x.Id (h:=.map (K.map encS) (ZO K.length)::hh) (b:=0) rfl
   have hq:=fun hh=>H5 (ag:=false) (kk:=[2]) (enc:=encS) (eq:=Z3) Z1Y K x.Id (h:=.map (K.map encS) (ZO K.length)::hh) (b:=0) rfl
   rw [hf] at hp;rw [hany] at hq;simp only [encS] at hp hq;simp only [arA] at hg;refine ⟨_,by simp only [go_sem,Nat.reduceBEq,reduceAdd,reduceSub,reduceMul,reduceLT,reduceLeDiff,reduceIte,c52L0b,hg,hi',hw,k1,k2,k3,hp,hq,hb2,hb3];rfl,?_⟩
   simp only [go_sem,Nat.reduceBEq,reduceAdd,reduceSub,reduceMul,reduceLT,reduceLeDiff,reduceIte])
  (e:=.exit 0) (by simp only [go_sem,Nat.reduceBEq,reduceAdd,reduceSub,reduceMul,reduceLT,reduceLeDiff,reduceIte,c52L0b,ZG];rfl) (by simp)
 have H':Zg rE [0,3,7,8,9] c52L0b [(0,.isl false false 3 (L.map arA)),(3,.mp 0),(7,.isl false false 3 (L.map arA)),(8,I L.length),(9,.int .i64 0)] [.map [] []]=_:=H;have h400:decide ((L.length:Int)≤400)=true:=decide_eq_true (by omega)
 rw [Z5 (f:=52) rfl rfl];simp only [go_sem,Nat.reduceBEq,reduceAdd,reduceSub,reduceMul,reduceLT,reduceLeDiff,reduceIte,c52,c52L0,H',h400]
end Go.AM
namespace Go.AM
open Go
theorem c14_eq:c14=.seq s14p0 (.seq s14p1 (.seq s14p2 (.seq s14p3 (.seq s14p4 (.seq s14p5 (.seq s14p6 (.seq s14p7 (.seq s14p8 (.seq s14p9 (.seq s14p10 (.seq s14p11 (.seq s14p12 .ret)))))))))))):=rfl
theorem Zi4 (r:NL Pt) (h:r.l.length≤1000):pfn rE 51 [.isl false r.ex 2 (r.l.map Pt.enc),.isl false r.ex 2 (r.l.map Pt.enc)]=some (.bool true):=Zat r.ex r.l h
theorem Zic (s:Sta) (hE:StE s) (a:Int) (e:Event):Zg rE [1,3,5,7,8,9,10] c14L0b [(1,I a),(3,stI s),(5,evI e),(7,.bool true),(8,.isl false false 3 ((lvR s.Regions).map arA)),(9,.int .i64 0),(10,.int .i64 0)] [] =
 some (.exit 0,[(1,I a),(3,stI s),(5,evI e),(6,.bot),(7,.bool true),(8,.isl false false 3 ((lvR s.Regions).map arA)),(9,I (lvR s.Regions).length),(10,I s.Regions.length)],[]):=by
 have hl:=hE.sizes.regions;have L:=Y8 (E:=rE) (live:=[1,3,5,7,8,9,10]) (b:=c14L0b) s.Regions.length
  (fun i=>[(1,I a),(3,stI s),(5,evI e),(7,.bool true),(8,.isl false false 3 ((lvR s.Regions).map arA)),(9,I (lvR (s.Regions.take i)).length),(10,I i)]) (fun i=>[]) (fun i=>rfl)
  (fun i hi=>by
   obtain ⟨x,hx⟩:∃ x,s.Regions[i]? = some x:=⟨_,Zij hi⟩;have hg:=Z6 (f:=Region.enc) hx;have hi':=Zh hi;have hwr:=Zx (n:=i) (by omega)
   have hlt:((i:Int) < (s.Regions.length:Int)):=by omega
   have hn:(lvR (s.Regions.take i)).length≤1000:=Zj4 (Zi0 _) (by rw [Zj1];omega)
   rw [Zi2 hx];cases c:x.Ended==-1 with
   | false=>
    have c':(x.Ended != -1)=true:=by simpa using c
    rw [cond_false,Zii];generalize (lvR (s.Regions.take i)).length=n at hn ⊢;refine ⟨[(1,I a),(3,stI s),(5,evI e),(6,.bot),(7,.bool true),(8,.isl false false 3 ((lvR s.Regions).map arA)),(9,I n),(10,I (i+1:Nat))],?_,rfl⟩;simp only [go_sem,Nat.reduceBEq,reduceAdd,reduceSub,reduceMul,reduceLT,reduceLeDiff,reduceIte,c14L0b,hg,hi',hwr,hlt,if_true,Region.enc,NL.enc,c']
   | true=>
    have c':(x.Ended != -1)=false:=by simpa using c
    have hle:x.Ended=-1:=by simpa using c
    have hy:=Zi5 hx hle;have hg2:=Z6 (f:=arA) hy;have hnl:=(ZiF.1 hy).1;have hS:=Zi4 x.Ring (Zj4 (hE.regions x (Ziq hx)).2.1 (by omega))
    have hw2:=Zx (n:=(lvR (s.Regions.take i)).length) (by omega)
    rw [cond_true,Ziy,ZiZ];generalize (lvR (s.Regions.take i)).length=n at hn hg2 hnl hw2 ⊢;have hge:decide ((n:Int) ≥ ((lvR s.Regions).length:Int))=false:=decide_eq_false (by omega)
    have hlt2:((n:Int) < ((lvR s.Regions).length:Int)):=by omega
    have hk:(x.Kind != x.Kind)=false:=by simp
    simp only [arA] at hg2;refine ⟨[(1,I a),(3,stI s),(5,evI e),(6,.bot),(7,.bool true),(8,.isl false false 3 ((lvR s.Regions).map arA)),(9,I (n+1:Nat)),(10,I (i+1:Nat))],?_,rfl⟩;simp only [go_sem,Nat.reduceBEq,reduceAdd,reduceSub,reduceMul,reduceLT,reduceLeDiff,reduceIte,c14L0b,hg,hg2,hi',hwr,hw2,hlt,hlt2,hge,if_true,Region.enc,NL.enc,c',hk,Zad,hS])
  (e:=.exit 0) (fr:=[(1,I a),(3,stI s),(5,evI e),(6,.bot),(7,.bool true),(8,.isl false false 3 ((lvR s.Regions).map arA)),(9,I (lvR (s.Regions.take s.Regions.length)).length),(10,I s.Regions.length)]) (h:=[]) (by simp only [go_sem,Nat.reduceBEq,reduceAdd,reduceSub,reduceMul,reduceLT,reduceLeDiff,reduceIte,c14L0b,ZG]) (by simp)
 rw [Ziw] at L;exact L
theorem Zid (t:Sta) (e:Event) (LV M:List Region) (hM:M.length≤1000) (hr:∀ y∈M,y.Ring.l.length≤1000)
 (hA:∀ (i:Nat) (y:Region),M[i]? = some y→(y.Id=e.Id∧y.Kind=e.A∧y.Ring=e.Path)∨(y.Id≠e.Id∧∃ x:Region,LV[i]? = some x∧x.Id=y.Id∧x.Ring=y.Ring)):
 Zg rE [5,7,8,13,14,15] c14L1b [(5,evI e),(7,.bool true),(8,.isl false false 3 (LV.map arA)),(13,.isl false false 3 (M.map arA)),(14,.bool false),(15,.int .i64 0)] [.row 7 [stA t]] =
 some (.exit 2,[(5,evI e),(6,.bot),(7,.bool true),(8,.isl false false 3 (LV.map arA)),(13,.isl false false 3 (M.map arA)),(14,.bool (M.any (fun y=>Z3 y.Id e.Id))),(15,I M.length)],[.row 7 [stA t]]):=by
 have L:=Y8 (E:=rE) (live:=[5,7,8,13,14,15]) (b:=c14L1b) M.length
  (fun i=>[(5,evI e),(7,.bool true),(8,.isl false false 3 (LV.map arA)),(13,.isl false false 3 (M.map arA)),(14,.bool ((M.take i).any (fun y=>Z3 y.Id e.Id))),(15,I i)]) (fun i=>[.row 7 [stA t]]) (fun i=>rfl)
  (fun i hi=>by
   obtain ⟨y,hy⟩:∃ y,M[i]? = some y:=⟨_,Zij hi⟩;have hg:=Z6 (f:=arA) hy;simp only [arA] at hg;have hi':=Zh hi;have hwr:=Zx (n:=i) (by omega)
   have hlt:((i:Int) < (M.length:Int)):=by omega
   have hany:(M.take (i+1)).any (fun y=>Z3 y.Id e.Id)=((M.take i).any (fun y=>Z3 y.Id e.Id)||Z3 y.Id e.Id):=by
    rw [Zj0,hy,List.any_append];simp
   have hS:=Zi4 y.Ring (hr y (Ziq hy));rw [hany];generalize (M.take i).any (fun y=>Z3 y.Id e.Id)=f
   rcases hA i y hy with ⟨g1,g2,g3⟩ | ⟨g1,x,g2,g3,g4⟩
   ·have k1:Z3 y.Id e.Id=true:=(Ky _ _).2 g1;have k2:(y.Kind==e.A)=true:=by simpa using g2
    rw [g3] at hS hg;rw [k1,ZiI];refine ⟨[(5,evI e),(6,.bot),(7,.bool true),(8,.isl false false 3 (LV.map arA)),(13,.isl false false 3 (M.map arA)),(14,.bool true),(15,I (i+1:Nat))],?_,rfl⟩;simp only [go_sem,Nat.reduceBEq,reduceAdd,reduceSub,reduceMul,reduceLT,reduceLeDiff,reduceIte,c14L1b,hg,hi',hwr,hlt,if_true,k1,k2,hS]
   ·have k1:Z3 y.Id e.Id=false:=by
     cases hc:Z3 y.Id e.Id with
     | false=>rfl
     | true=>exact absurd ((Ky _ _).1 hc) g1
    have hg2:=Z6 (f:=arA) g2;simp only [arA] at hg2;have hxl:=(ZiF.1 g2).1;have hge:decide ((i:Int) ≥ (LV.length:Int))=false:=decide_eq_false (by omega)
    have hlt2:((i:Int) < (LV.length:Int)):=by omega
    rw [g3,g4] at hg2;rw [k1,Bool.or_false];refine ⟨[(5,evI e),(6,.bot),(7,.bool true),(8,.isl false false 3 (LV.map arA)),(13,.isl false false 3 (M.map arA)),(14,.bool f),(15,I (i+1:Nat))],?_,rfl⟩;simp only [go_sem,Nat.reduceBEq,reduceAdd,reduceSub,reduceMul,reduceLT,reduceLeDiff,reduceIte,c14L1b,hg,hg2,hi',hwr,hlt,hlt2,hge,if_true,k1,Zad,hS])
  (e:=.exit 2) (fr:=[(5,evI e),(6,.bot),(7,.bool true),(8,.isl false false 3 (LV.map arA)),(13,.isl false false 3 (M.map arA)),(14,.bool ((M.take M.length).any (fun y=>Z3 y.Id e.Id))),(15,I M.length)]) (h:=[.row 7 [stA t]]) (by simp only [go_sem,Nat.reduceBEq,reduceAdd,reduceSub,reduceMul,reduceLT,reduceLeDiff,reduceIte,c14L1b,ZG]) (by simp)
 rw [Ziw] at L;exact L
theorem ZeI {e:Event} (h:Xn e=true):∀ x∈e.Lst.l,x.Id.size≤1000:=by
 simp only [Xn,Zih] at h;obtain ⟨h1,_,_,_,_,_,h6⟩:=h;have k6:=of_decide_eq_true h6;unfold FT at h1;rw [Ziu (by omega)] at h1
 intro x hx;have:=Zit.1 h1 x hx;unfold M2 at this;simp [ZU] at this;omega
theorem Zie {s:Sta} (h:YQ s=true):s.Regions.length≤8:=by
 simp only [YQ,M3,Zih,Ziz] at h;have:=of_decide_eq_false h.1.1;omega
theorem Zif (s:Sta) (a:Int) (e:Event):pfn rE 14 [stA s,I a,evA e]=some (.bool true):=by
 have hH:=Z4U;have hF:=Z4G s e;rw [Z5 (f:=14) (c:=c14) rfl rfl,c14_eq];cases c:YQ s&&Xn e with
 | false=>
  rw [c] at hF;simp only [go_sem,Nat.reduceBEq,reduceAdd,reduceSub,reduceMul,reduceLT,reduceLeDiff,reduceIte,s14p0,s14p1,s14p2,hH,hF]
 | true=>
 rw [c] at hF;rw [Zih] at c;have hs:=Kl s c.1;have he:=JL e c.2;have hP:=Z3i s hs.e;cases cp:Jx s with
 | false=>
  rw [cp] at hP;simp only [go_sem,Nat.reduceBEq,reduceAdd,reduceSub,reduceMul,reduceLT,reduceLeDiff,reduceIte,s14p0,s14p1,s14p2,hH,hF,hP]
 | true=>
 rw [cp] at hP;have hpr:=((Zdb s).1 cp).1;have hA:=JJ s hs a e he;have hT:=ZeH s hs a e he (ZeI c.2);have hl:=Zi3 s hs.e.sizes;have hlt:=Zi3 (ZP s a e) hT.sizes;have l0:=Zic s hs.e a e;have h8:=Zie c.1;have hLV:(lvR s.Regions).length≤8:=Zj4 (Zi0 _) h8;have hval:=Zib (lvR s.Regions) (by omega) (by
  have h1:=hpr.ids;unfold Qp at h1;exact (Zjf.1 h1).1.sublist (List.filter_sublist.map _)) (fun x hx=>by
  have hm:x∈s.Regions:=(List.mem_filter.1 hx).1;have h1:=hpr.rg x hm;unfold Vo at h1;rw [Zdu] at h1;simp only [Zih] at h1;exact ⟨h1.2.2.1,h1.2.2.2.1,h1.2.2.2.2,by have:=(hs.e.regions x hm).2.1;omega⟩)
 have hne:(((lvR s.Regions).length:Int) != ((lvR s.Regions).length:Int))=false:=by simp
 have hev:=fun (h1:Qk s a e=0) (h2:e.Kind=1)=>Zi7 (a:=a) h1 h2
 have hM:(lvR (ZP s a e).Regions).length≤1000:=Zj4 (Zi0 _) hT.sizes.regions;have hr:∀ y∈lvR (ZP s a e).Regions,y.Ring.l.length≤1000:=fun y hy=>by have:=(hT.regions y (List.mem_filter.1 hy).1).2.1;omega
 simp only [stI,evI] at l0;cases c1:Qk s a e==0 with
 | false=>
  have n1:(Qk s a e != 0)=true:=by simpa using c1
  generalize ZP s a e=t at *;generalize Qk s a e=err at *;generalize lvR s.Regions=LV at *;simp only [go_sem,Nat.reduceBEq,reduceAdd,reduceSub,reduceMul,reduceLT,reduceLeDiff,reduceIte,s14p0,s14p1,s14p2,s14p3,s14p4,s14p5,s14p6,s14p7,s14p8,c14L0,hH,hF,hP,hl,l0,hne,hval,hA,n1]
 | true=>
  have e0:Qk s a e=0:=by simpa using c1
  rw [e0] at hA;have n1:((0:Int) != 0)=false:=rfl;cases k1:e.Kind != 1 with
  | true=>
   generalize ZP s a e=t at *;generalize lvR s.Regions=LV at *;simp only [go_sem,Nat.reduceBEq,reduceAdd,reduceSub,reduceMul,reduceLT,reduceLeDiff,reduceIte,s14p0,s14p1,s14p2,s14p3,s14p4,s14p5,s14p6,s14p7,s14p8,c14L0,hH,hF,hP,hl,l0,hne,hval,hA,n1,k1]
  | false=>
   obtain ⟨vA,⟨y,hy,hyid⟩,vC⟩:=hev e0 (Zah k1);have l1:=Zid (ZP s a e) e (lvR s.Regions) (lvR (ZP s a e).Regions) hM hr vA;have hany:(lvR (ZP s a e).Regions).any (fun y=>Z3 y.Id e.Id)=true:=List.any_eq_true.2 ⟨y,hy,(Ky _ _).2 hyid⟩
   rw [hany] at l1;have hw2:=Zx (n:=(lvR s.Regions).length) (by omega)
   simp only [evI] at l1;generalize lvR (ZP s a e).Regions=M at *;generalize ZP s a e=t at *;generalize lvR s.Regions=LV at *;rcases vC with vC | vC
   ·have q1:((M.length:Int)==(LV.length:Int))=true:=by rw [beq_iff_eq];omega
    simp only [go_sem,Nat.reduceBEq,reduceAdd,reduceSub,reduceMul,reduceLT,reduceLeDiff,reduceIte,s14p0,s14p1,s14p2,s14p3,s14p4,s14p5,s14p6,s14p7,s14p8,s14p9,s14p10,s14p11,s14p12,c14L0,c14L1,hH,hF,hP,hl,hlt,l0,l1,hne,hval,hA,n1,k1,q1,hw2]
   ·have q1:((M.length:Int)==(LV.length:Int))=false:=by rw [beq_eq_false_iff_ne];omega
    have q2:((M.length:Int)==((LV.length+1:Nat):Int))=true:=by rw [beq_iff_eq];omega
    simp only [go_sem,Nat.reduceBEq,reduceAdd,reduceSub,reduceMul,reduceLT,reduceLeDiff,reduceIte,s14p0,s14p1,s14p2,s14p3,s14p4,s14p5,s14p6,s14p7,s14p8,s14p9,s14p10,s14p11,s14p12,c14L0,c14L1,hH,hF,hP,hl,hlt,l0,l1,hne,hval,hA,n1,k1,q1,q2,hw2]
end Go.AM
