/- What the functions of the program compute, part 3, for RegistryEnds. No condition. -/
import Derived.Test.YtnfppojnmdohnaaGreatDoorP11b
import Derived.Test.YtnfppojnmdohnaaGreatDoorS1
set_option linter.unusedVariables false
set_option linter.unusedSimpArgs false
open Nat renaming reduceAdd → qq, reduceSub → qx, reduceMul → qz, reduceLT → qv, reduceLeDiff → qk, reduceBEq → qy
namespace Go.AM
open Go
def ZcX:List (List UInt8)→List (List UInt8)
 | []=>[]
 | a::r=>match ZcX r with
  | []=>[a]
  | b::s=>if a=b then b::s else a::b::s
theorem ZdC:∀ l:List (List UInt8),Ys (l.map Qd)=(ZcX l).map Qd
 | []=>rfl
 | a::r=>by
  rw [Zny];unfold Ys ZcX;rw [ZdC r];cases ZcX r with
  | nil=>rfl
  | cons b s=>
   have e:sameKey (Qd a) (Qd b)=decide (a=b):=by
    show Z3 _ _=_
    unfold Z3;have e1:(⟨a.toArray⟩:ByteArray).data.toList=a:=by simp
    have e2:(⟨b.toArray⟩:ByteArray).data.toList=b:=by simp
    rw [e1,e2];by_cases h:a=b
    ·subst h;simp
    ·rw [decide_eq_false h];simpa using h
   show (bif sameKey (Qd a) (Qd b) then _ else _)=_
   rw [e];by_cases h:a=b
   ·simp [h]
   ·simp [h]
theorem Ze5 (a:List UInt8) (r:List (List UInt8)):∃ t,ZcX (a::r)=a::t∧t.length≤r.length:=by
 induction r generalizing a with
 | nil=>exact ⟨[],rfl,Znr _⟩
 | cons b s ih=>
  obtain ⟨t,h1,h2⟩:=ih b;unfold ZcX;rw [h1];by_cases h:a=b
  ·subst h;exact ⟨t,by simp,by simp;omega⟩
  ·exact ⟨b::t,by simp [h],by simp;omega⟩
def Adj:List (List UInt8)→Prop
 | []=>True
 | [_]=>True
 | a::b::r=>a≠b∧Adj (b::r)
theorem ZdD:∀ l:List (List UInt8),(ZcX l).length=l.length↔Adj l
 | []=>⟨fun _=>trivial,fun _=>rfl⟩
 | [a]=>⟨fun _=>trivial,fun _=>rfl⟩
 | a::b::r=>by
  have ih:=ZdD (b::r);obtain ⟨t,h1,h2⟩:=Ze5 b r;rw [h1] at ih;unfold Adj;rw [←ih];unfold ZcX;rw [h1];by_cases h:a=b
  ·subst h;simp;omega
  ·simp [h]
theorem ZdE:∀ l:List (List UInt8),l.Pairwise (fun a b=>leB a b=true)→Adj l→l.Nodup
 | [],_,_=>.nil
 | [a],_,_=>by simp
 | a::b::r,hs,h=>by
  unfold Adj at h;rw [List.pairwise_cons] at hs;have ih:=ZdE (b::r) hs.2 h.2;rw [Znu];refine ⟨fun hm=>?_,ih⟩
  rcases Zo8.1 hm with e | hm
  ·exact h.1 e
  ·have hb:=(List.pairwise_cons.1 hs.2).1 a hm;exact h.1 (ET _ _ (hs.1 b (Znw ..)) hb)
theorem ZdF:∀ l:List (List UInt8),l.Nodup→Adj l
 | [],_=>trivial
 | [a],_=>trivial
 | a::b::r,h=>by
  rw [Znu] at h;exact ⟨fun e=>h.1 (by rw [e];exact Znw ..),ZdF (b::r) h.2⟩
theorem bytes_inj {a b:Str} (h:a.data.toList=b.data.toList):a=b:=by
 obtain ⟨⟨a⟩⟩:=a;obtain ⟨⟨b⟩⟩:=b;have:a=b:=h;rw [this]
theorem ZdG {α β:Type} {f:α→β} (hf:∀ a b,f a=f b→a=b):∀ {l:List α},(l.map f).Nodup↔l.Nodup
 | []=>by simp
 | a::r=>by
  rw [Zny,Znu,Znu,ZdG hf];refine and_congr_left fun _=>not_congr ⟨fun h=>?_,fun h=>ZnJ h⟩
  obtain ⟨b,hb,e⟩:=Znl.1 h;rw [←hf _ _ e];exact hb
theorem Ze6 (l:List Str):l.map encS=(l.map (fun x:Str=>x.data.toList)).map Qd:=by
 rw [ZnZ];apply List.map_congr_left;intro x _;obtain ⟨⟨x⟩⟩:=x;rfl
theorem Zdk (l:List Str):Jq l=true↔l.Nodup:=by
 have e:(Ys (Yk (l.map encS))).length=(ZcX (WD (l.map (fun x:Str=>x.data.toList)))).length:=by
  rw [Ze6,D4,ZdC,Zn7]
 have hl:(WD (l.map (fun x:Str=>x.data.toList))).length=l.length:=by
  rw [(RS _).length_eq,Zn7]
 unfold Jq;rw [beq_iff_eq,e];rw [show ((ZcX (WD (l.map (fun x:Str=>x.data.toList)))).length:Int)=(l.length:Int)↔(ZcX (WD (l.map (fun x:Str=>x.data.toList)))).length=(WD (l.map (fun x:Str=>x.data.toList))).length from by rw [hl];omega]
 rw [ZdD];have h1:Adj (WD (l.map (fun x:Str=>x.data.toList)))↔(WD (l.map (fun x:Str=>x.data.toList))).Nodup:=⟨ZdE _ (D8 _),ZdF _⟩
 rw [h1,(RS _).nodup_iff,ZdG (fun a b h=>bytes_inj h)]
end Go.AM
namespace Go.AM
open Go
theorem Zc8 {s t:Sta} (h:t.Merged=s.Merged):∀ n k,chN t n k=chN s n k:=by
 have hk:XJ t=XJ s:=by funext k;unfold XJ;rw [h]
 intro n;induction n with
 | zero=>intro k;rfl
 | succ n ih=>
  intro k;simp only [chN,hk,h,ih]
theorem ZbN {s t:Sta} (h:t.Merged=s.Merged) (h2:t.Rulings=s.Rulings):WK t=WK s:=by
 unfold WK;rw [h,h2];have e:(fun p:Pair=>chN t (s.Merged.length+1) p.b)=(fun p=>chN s (s.Merged.length+1) p.b):=funext fun p=>Zc8 h _ _
 rw [e]
theorem ZbO {s:Sta} {L:List Street} (hI:L.map (·.Id)=s.Streets.map (·.Id)) (hE:L.map (·.Ended)=s.Streets.map (·.Ended)) (hok:L.all Vp=true) (h:Jx s=true):Jx { s with Streets:=L }=true:=by
 have h1:∀ id,ZL { s with Streets:=L } id=ZL s id:=fun id=>by
  unfold ZL;rw [NX (fun x:Street=>x.Id) (fun y=>Z3 y id) L 0,NX (fun x:Street=>x.Id) (fun y=>Z3 y id) s.Streets 0]
  rw [hI]
 have h2:∀ k,QF { s with Streets:=L } k=QF s k:=fun k=>by
  have:(L.map (·.Ended))[k.toNat]? = (s.Streets.map (·.Ended))[k.toNat]?:=by rw [hE]
  rw [ZnB,ZnB] at this;unfold QF;show (match L[k.toNat]? with | some b=>b.Ended | none=>0)=_
  cases ha:L[k.toNat]? with
  | none=>
   rw [ha] at this;cases hb:s.Streets[k.toNat]? with
   | none=>rfl
   | some y=>rw [hb] at this;cases this
  | some x=>
   rw [ha] at this;cases hb:s.Streets[k.toNat]? with
   | none=>rw [hb] at this;cases this
   | some y=>rw [hb] at this;exact Option.some.inj this
 have h3:Vr { s with Streets:=L }=Vr s:=by
  funext i x
  unfold Vr Hg NO;rw [h1,h2];rfl
 have h4:Qp { s with Streets:=L }=Qp s:=by
  unfold Qp;rw [hI]
 have h5:WK { s with Streets:=L }=WK s:=ZbN rfl rfl
 have h6:Vs { s with Streets:=L }=Vs s:=rfl
 unfold Jx at h ⊢;rw [h3,h4,h5,h6];simp only [Zn5] at h ⊢;exact ⟨h.1,hok,h.2.2⟩
theorem Zc9 {s:Sta} {L:List Region} (hI:L.map (·.Id)=s.Regions.map (·.Id)) (hok:L.all Vo=true) (h:Jx s=true):Jx { s with Regions:=L }=true:=by
 have h4:Qp { s with Regions:=L }=Qp s:=by
  unfold Qp;rw [hI]
 have h5:WK { s with Regions:=L }=WK s:=ZbN rfl rfl
 have h6:Vs { s with Regions:=L }=Vs s:=rfl
 have h3:Vr { s with Regions:=L }=Vr s:=rfl
 unfold Jx at h ⊢;rw [h3,h4,h5,h6];simp only [Zn5] at h ⊢;exact ⟨hok,h.2⟩
theorem ZbB {α:Type} {P:α→Bool} {f:α→α} {l:List α} {k:Nat} (h:l.all P=true) (hf:∀ x,P x=true→P (f x)=true):(ZK l k f).all P=true:=by
 unfold ZK;split
 ·rename_i x hx;rw [Zn9] at h ⊢;intro y hy;rcases List.mem_or_eq_of_mem_set hy with h1 | rfl
  ·exact h y h1
  ·exact hf x (h x (Znb hx))
 ·exact h
theorem Zbz {α:Type} (l:List α) (k:Nat) (f:α→α) (i:Nat):(ZK l k f)[i]? = if i=k then (l[k]?).map f else l[i]?:=by
 unfold ZK;cases h:l[k]? with
 | none=>
  by_cases hi:i=k
  ·subst hi;rw [if_pos rfl,h];rfl
  ·rw [if_neg hi]
 | some x=>
  by_cases hi:i=k
  ·subst hi;rw [if_pos rfl,List.getElem?_set_self (ZnA.1 h).1];rfl
  ·rw [if_neg hi,List.getElem?_set_ne (Ne.symm hi)]
def Zbx (S:List Street) (k:Nat):NL Nm:=match S[k]? with | some x=>x.Names | none=>⟨false,[]⟩
def swN (S:List Street) (j k:Nat):List Street:=ZK (ZK S j (XN (Zbx S k))) k (XN (Zbx S j))
theorem ZbR {α:Type} {S:List Street} {j k:Nat} (g:Street→α) (hg:∀ n x,g (XN n x)=g x):(swN S j k).map g=S.map g:=by
 unfold swN;rw [FK g _ (fun x=>hg _ x),FK g _ (fun x=>hg _ x)]
theorem Zcb {x:Street} (h:Vp x=true):Jp x.Names.l x.Names.ex=true:=by
 unfold Vp at h;simp only [Zn5] at h;exact h.2.1
theorem ZbG {x:Street} {n:NL Nm} (h:Vp x=true) (hn:Jp n.l n.ex=true):Vp (XN n x)=true:=by
 have:Vp (XN n x)=(QM x.Owner x.Ended 0&&(Jp n.l n.ex&&Q9 { Ju x with Kind:=2 })):=rfl
 rw [this,hn];unfold Vp at h;simp only [Zn5] at h ⊢;exact ⟨h.1,trivial,h.2.2⟩
theorem Zcc {x:Region} {n:NL Nm} (h:Vo x=true) (hn:Jp n.l n.ex=true):Vo (NT n x)=true:=by
 have:Vo (NT n x)=(QM x.Owner x.Ended 0&&(Jp n.l n.ex&&Q9 { Jt x with Kind:=1 })):=rfl
 rw [this,hn];unfold Vo at h;simp only [Zn5] at h ⊢;exact ⟨h.1,trivial,h.2.2⟩
theorem ZbS {S:List Street} {k:Nat} {y:Street} (hk:S[k]? = some y) (h:S.all Vp=true):Jp (Zbx S k).l (Zbx S k).ex=true:=by
 have:Zbx S k=y.Names:=by simp [Zbx,hk]
 rw [this];exact Zcb (Zn9.1 h y (Znb hk))
end Go.AM
namespace Go.AM
open Go
theorem Zcd (e:Event) (he:Q9 e=true) (hk:e.Kind=3):Jp e.Names.l e.Names.ex=true:=by
 have hn:Uz e.Names.l=true:=by
  unfold Q9 Q8 at he;rw [hk] at he;simp only [Zn5] at he;have:=he.2.2.2.2;have h2:(ZZ e.Id&&Uz e.Names.l)=true:=this;rw [Zn5] at h2;exact h2.2
 have h1:Q9 (Jo e.Names.l e.Names.ex)=Uz e.Names.l:=by
  have e1:(ZD (Jo e.Names.l e.Names.ex).Kind 1 15&&(ZD (Jo e.Names.l e.Names.ex).Day 0 100000&&(!Fb (Zq (Jo e.Names.l e.Names.ex))&&NG (Zq (Jo e.Names.l e.Names.ex)))))=true:=by rfl
  have e2:Q8 (Jo e.Names.l e.Names.ex)=(ZZ (B [120])&&Uz e.Names.l):=by kernel_rfl
  have e3:ZZ (B [120])=true:=by decide +kernel
  unfold Q9;simp only [Zn5] at e1;rw [e1.1,e1.2.1,e1.2.2.1,e1.2.2.2,e2,e3];rfl
 unfold Jp;rw [h1,hn,ZnE]
theorem ZbU {α β:Type} {f:α→β} {a b:Option α} (h:a.map f=b.map f):(∃ x y,a=some x∧b=some y∧f x=f y)∨(a=none∧b=none):=by
 cases a with
 | none=>cases b with
  | none=>exact Or.inr ⟨rfl,rfl⟩
  | some y=>cases h
 | some x=>cases b with
  | none=>cases h
  | some y=>exact Or.inl ⟨x,y,rfl,rfl,Option.some.inj h⟩
theorem ZbV {s:Sta} {a:Int} {e:Event} (h:Qk s a e=0):okB s a e=true∧Q1 (wk0 s a e)=0∧Wh (stepW (wk0 s a e)).s.Doors=true∧ZP s a e=(stepW (wk0 s a e)).s:=by
 unfold Qk at h;unfold ZP;cases c1:okB s a e with
 | false=>rw [c1] at h;cases h
 | true=>
 cases c2:Q1 (wk0 s a e)==0 with
 | false=>
  rw [c1,c2,cond_true,cond_false] at h;rw [h] at c2;cases c2
 | true=>
 cases c3:Wh (stepW (wk0 s a e)).s.Doors with
 | false=>rw [c1,c2,c3] at h;cases h
 | true=>exact ⟨rfl,by simpa using c2,rfl,rfl⟩
theorem ZbX {s:Sta} {a:Int} {e:Event} (h:okB s a e=true):Jx s=true∧QM a 0 0=true∧Q9 e=true:=by
 unfold okB at h;simp only [Zn5] at h;exact h
end Go.AM
namespace Go.AM
open Go
structure Prop' (s:Sta):Prop where
 rg:∀ x∈s.Regions,Vo x=true
 st:∀ x∈s.Streets,Vp x=true
 bu:∀ x∈s.Buildings,Vq x=true
 dr:∀ (i:Nat) d,s.Doors[i]? = some d→Vr s i d=true
 un:∀ x∈s.Units,Vs s x=true
 ids:(Qp s).Nodup
 pa:WK s=true
theorem Zda {α:Type} {P:Nat→α→Bool}:∀ {l:List α} {i:Nat},Zu P i l=true↔∀ (j:Nat) x,l[j]? = some x→P (i+j) x=true
 | [],i=>⟨fun _ j x h=>(by simp at h),fun _=>rfl⟩
 | y::r,i=>by
  unfold Zu;rw [Zn5,Zda (l:=r)];constructor
  ·rintro ⟨h1,h2⟩ j x hx;cases j with
   | zero=>cases hx;exact h1
   | succ j=>have:=h2 j x hx;rw [show i+(j+1)=i+1+j by omega];exact this
  ·intro h;exact ⟨h 0 y rfl,fun j x hx=>by have:=h (j+1) x hx;rw [show i+1+j=i+(j+1) by omega];exact this⟩
theorem Zdb (s:Sta):Jx s=true↔Prop' s∧Wh s.Doors=true:=by
 unfold Jx;simp only [Zn5];constructor
 ·rintro ⟨h1,h2,h3,h4,h5,h6,h7,h8⟩;exact ⟨⟨Zn9.1 h1,Zn9.1 h2,Zn9.1 h3,fun i d hd=>by have:=Zda.1 h4 i d hd;rwa [Znm] at this,Zn9.1 h5,(Zdk _).1 h6,h8⟩,h7⟩
 ·rintro ⟨⟨h1,h2,h3,h4,h5,h6,h8⟩,h7⟩;exact ⟨Zn9.2 h1,Zn9.2 h2,Zn9.2 h3,Zda.2 (fun i d hd=>by rw [Znm];exact h4 i d hd),Zn9.2 h5,(Zdk _).2 h6,h7,h8⟩
def look {α:Type} (f:α→Str) (l:List α) (id:Str):Int:=Zp (fun x=>Z3 (f x) id) l 0
theorem ZdH {α:Type} (P:α→Bool):∀ (l m:List α) (i:Int),Zp P l i≠-1→0≤i→Zp P (l++m) i=Zp P l i
 | [],m,i,h,_=>absurd rfl h
 | x::r,m,i,h,hi=>by
  unfold Zp at h ⊢;cases hx:P x with
  | true=>simp [hx]
  | false=>
   rw [hx] at h;simp only [Zna,hx] at h ⊢;exact ZdH P r m (i+1) h (by omega)
theorem Ze7 {α:Type} {f:α→Str} {l:List α} {id:Str} (h:decide (look f l id < 0)=true):look f l id=-1:=by
 unfold look at h ⊢;rcases UA (fun x=>Z3 (f x) id) l 0 with ⟨h1,_⟩ | ⟨j,x,h1,_⟩
 ·exact h1
 ·have:=of_decide_eq_true h;omega
theorem Zdt {α:Type} {f:α→Str} {l m:List α} {id:Str} (h:decide (look f l id < 0)=false):look f (l++m) id=look f l id:=by
 unfold look;apply ZdH
 ·intro e;have:=of_decide_eq_false h;unfold look at this;omega
 ·omega
theorem Zdc {α:Type} {f:α→Str} {l m:List α} {id:Str} (h:l.map f=m.map f):look f l id=look f m id:=by
 unfold look;rw [NX f (fun y=>Z3 y id) l 0,NX f (fun y=>Z3 y id) m 0,h]
theorem ZcU {α:Type} {f:α→Str} {l:List α} {id:Str} (h:decide (look f l id < 0)=false):∃ (j:Nat) (x:α),look f l id=(j:Int)∧l[j]? = some x∧f x=id:=by
 unfold look at h ⊢;rcases UA (fun x=>Z3 (f x) id) l 0 with ⟨h1,_⟩ | ⟨j,x,h1,h2,h3⟩
 ·rw [h1] at h;cases h
 ·exact ⟨j,x,by omega,h2,by have:=List.find?_some h3;exact (Ky _ _).1 this⟩
theorem Ze8 {α:Type} {f:α→Str} {l:List α} {x:α} (h:x∈l):decide (look f l (f x) < 0)=false:=by
 unfold look;rcases UA (fun y=>Z3 (f y) (f x)) l 0 with ⟨_,h2⟩ | ⟨j,y,h1,_,_⟩
 ·exfalso;have:=Zo9.1 h2 x h;exact this ((Ky _ _).2 rfl)
 ·exact decide_eq_false (by omega)
theorem Zi1 {α:Type} {f:α→Str} {l:List α} {j:Nat} {x:α} (hn:(l.map f).Nodup) (h:l[j]? = some x):look f l (f x)=(j:Int):=by
 obtain ⟨k,y,h1,h2,h3⟩:=ZcU (Ze8 (f:=f) (Znb h));have hk:(l.map f)[k]? = some (f x):=by rw [ZnB,h2,Znq,h3]
 have hj:(l.map f)[j]? = some (f x):=by rw [ZnB,h,Znq]
 have hkl:=(ZnA.1 hk).1;have:k=j:=(List.getElem?_inj hkl hn).1 (hk.trans hj.symm);rw [h1,this]
theorem Zd0 (s:Sta) (i:Nat) (d:Door):Vr s i d=true↔QM d.Owner d.Ended d.From=true∧(∀ id∈d.After.l,decide (Zn s id≤i)=false)∧UC d=false∧(Z3 d.Veil emp=true→NO s d=false∧Q9 { Hf d with Kind:=6 }=true)∧(Z3 d.Veil emp=false→NN d=true):=by
 unfold Vr Hg K8;rw [Zn5,Zn5,Zn5,Zn9,Znk];simp only [Znk];cases Z3 d.Veil emp with
 | true=>rw [cond_true,Zn5,Znk];simp
 | false=>rw [cond_false];simp
theorem Zdd (s:Sta) (d:Door):NO s d=false↔d.Office=0∧decide (Y1 s d.Building < 0)=false∧decide (ZL s d.Street < 0)=false∧(d.Ended=-1→WL s (Y1 s d.Building)=-1∧QF s (ZL s d.Street)=-1):=by
 unfold NO exD;rw [Zo2,Zo2,Zo2,bne_eq_false_iff_eq];constructor
 ·rintro ⟨⟨⟨h1,h2⟩,h3⟩,h4⟩;refine ⟨h1,h2,h3,fun he=>?_⟩
  rw [he] at h4;have:(WL s (Y1 s d.Building) != -1||QF s (ZL s d.Street) != -1)=false:=by simpa using h4
  rw [Zo2,bne_eq_false_iff_eq,bne_eq_false_iff_eq] at this;exact this
 ·rintro ⟨h1,h2,h3,h4⟩;refine ⟨⟨⟨h1,h2⟩,h3⟩,?_⟩;cases he:d.Ended==-1 with
  | false=>rfl
  | true=>
   obtain ⟨a,b⟩:=h4 (by simpa using he)
   rw [a,b];rfl
theorem Zdl (s:Sta) (x:Unit'):Vs s x=true↔decide (Zn s x.Door < 0)=false∧QM 0 x.Ended x.From=true∧Q9 { Vn x with Kind:=7 }=true∧(x.Ended=-1→x.Why=0∧QN s (Zn s x.Door)=-1)∧(x.Ended≠-1→x.Why=12∨x.Why=11):=by
 unfold Vs Jw;rw [Zn5,Zn5,Zn5,Znk,Znk];refine and_congr_right fun _=>and_congr_right fun _=>and_congr_right fun _=>?_
 rw [Zo2];cases he:x.Ended==-1 with
 | true=>
  have h:x.Ended=-1:=by simpa using he
  have h2:(x.Ended != -1)=false:=by simpa using he
  rw [h2];simp [h]
 | false=>
  have h:x.Ended≠-1:=by simpa using he
  have h2:(x.Ended != -1)=true:=by simpa using he
  rw [h2];simp [h];by_cases hw:x.Why=12
  ·simp [hw]
  ·simp [hw]
end Go.AM
namespace Go.AM
open Go
theorem ZcV {e:Event} (h:Q9 e=true):Q8 e=true:=by
 unfold Q9 at h;simp only [Zn5] at h;exact h.2.2.2.2
theorem Zd1 {e:Event} (h:Q9 e=true):ZD e.Day 0 100000=true:=by
 unfold Q9 at h;simp only [Zn5] at h;exact h.2.1
theorem Zd3 {e:Event} (h1:(ZD e.Kind 1 15&&(ZD e.Day 0 100000&&(!Fb (Zq e)&&NG (Zq e))))=true):Q9 e=Q8 e:=by
 unfold Q9;simp only [Zn5] at h1;rw [h1.1,h1.2.1,h1.2.2.1,h1.2.2.2];rfl
theorem ZdI (x:Street):Q9 { Ju x with Kind:=2 }=(ZZ x.Id&&Ul x.Line.l):=(Zd3 (by rfl)).trans (by kernel_rfl)
theorem ZdJ (x:Building):Q9 { Jv x with Kind:=5 }=(ZZ x.Id&&Vh x.Ring.l):=(Zd3 (by rfl)).trans (by kernel_rfl)
theorem Zdu (x:Region):Q9 { Jt x with Kind:=1 }=(ZZ x.Id&&(ZD x.Kind 1 3&&Vh x.Ring.l)):=(Zd3 (by rfl)).trans (by kernel_rfl)
theorem Zdm (x:Door):Q9 { Hf x with Kind:=6 }=(Qv [x.Id,x.Building,x.Street]&&(YO x.Number&&gOn x.Point)):=(Zd3 (by rfl)).trans (by kernel_rfl)
theorem Ze9 (x:Door):Q9 { NM x with Kind:=15 }=(ZZ x.Id&&(ZD x.Office 0 63&&Uu x.Veil)):=(Zd3 (by rfl)).trans (by kernel_rfl)
theorem ZdK (x:Unit'):Q9 { Vn x with Kind:=7 }=(Qv [x.Id,x.Door]&&Jm x.Text 24):=(Zd3 (by rfl)).trans (by kernel_rfl)
theorem ZcW {e:Event} {k:Int} (hk:e.Kind=k):Q8 e=Q8 { e with Kind:=k }:=by rw [←hk]
theorem Zd4 {a:Int} (h:QM a 0 0=true) {b c:Int} (hb:ZD b (-1) 100000=true) (hc:ZD c 0 100000=true):QM a b c=true:=by
 unfold QM at h ⊢;simp only [Zn5] at h ⊢;exact ⟨h.1,hb,hc⟩
theorem Zde {d:Int} (h:ZD d 0 100000=true):ZD d (-1) 100000=true:=by
 unfold ZD at h ⊢;simp only [Zn5,decide_eq_true_eq] at h ⊢;omega
theorem Zd5 {d:Int} (h:ZD d 0 100000=true):d≠-1:=by
 unfold ZD at h;simp only [Zn5,decide_eq_true_eq] at h;omega
theorem Zd6 {s t:Sta} {i:Nat} {d:Door} (h:Vr s i d=true)
 (hf:∀ id,decide (Zn s id < 0)=false→Zn t id=Zn s id)
 (hb:∀ id,decide (Y1 s id < 0)=false→Y1 t id=Y1 s id)
 (hs:∀ id,decide (ZL s id < 0)=false→ZL t id=ZL s id)
 (he:d.Ended=-1→Z3 d.Veil emp=true→decide (Y1 s d.Building < 0)=false→WL s (Y1 s d.Building)=-1→WL t (Y1 s d.Building)=-1)
 (he2:d.Ended=-1→Z3 d.Veil emp=true→decide (ZL s d.Street < 0)=false→QF s (ZL s d.Street)=-1→QF t (ZL s d.Street)=-1):Vr t i d=true:=by
 rw [Zd0] at h ⊢;obtain ⟨h1,h2,h3,h4,h5⟩:=h;refine ⟨h1,fun id hid=>?_,h3,fun hv=>?_,h5⟩
 ·have:=h2 id hid;have hp:decide (Zn s id < 0)=false:=decide_eq_false (by have:=of_decide_eq_false this;omega)
  rw [hf id hp];exact this
 ·obtain ⟨h6,h7⟩:=h4 hv;rw [Zdd] at h6 ⊢;obtain ⟨g1,g2,g3,g4⟩:=h6;refine ⟨⟨g1,?_,?_,fun hE=>?_⟩,h7⟩
  ·rw [hb _ g2];exact g2
  ·rw [hs _ g3];exact g3
  ·obtain ⟨g5,g6⟩:=g4 hE;rw [hb _ g2,hs _ g3];exact ⟨he hE hv g2 g5,he2 hE hv g3 g6⟩
theorem Zdv {s t:Sta} {x:Unit'} (h:Vs s x=true) (hf:∀ id,decide (Zn s id < 0)=false→Zn t id=Zn s id)
 (he:x.Ended=-1→decide (Zn s x.Door < 0)=false→QN s (Zn s x.Door)=-1→QN t (Zn s x.Door)=-1):Vs t x=true:=by
 rw [Zdl] at h ⊢;obtain ⟨h1,h2,h3,h4,h5⟩:=h;refine ⟨by rw [hf _ h1];exact h1,h2,h3,fun hE=>?_,h5⟩
 obtain ⟨h6,h7⟩:=h4 hE;exact ⟨h6,by rw [hf _ h1];exact he hE h1 h7⟩
theorem Zdw {α:Type} {f:α→Str} {l m:List α} {id:Str} (h:decide (look f l id < 0)=false):(l++m)[(look f l id).toNat]? = l[(look f l id).toNat]?:=by
 obtain ⟨j,x,h1,h2,_⟩:=ZcU h;have hj:(look f l id).toNat=j:=by omega
 rw [hj,ZnH (ZnA.1 h2).1]
theorem Zd2 {s:Sta} {a:Int} {e:Event} {id:Str} (h:twB (wk0 s a e) id=false):id ∉ Qp s:=by
 intro hm;have:=ZnI.1 h id hm;exact this ((Ky _ _).2 rfl)
theorem Zdn {l1 l2:List Str} {x:Str} (h:(l1++l2).Nodup) (hx:x ∉ l1++l2):(l1++[x]++l2).Nodup:=by
 have hp:(l1++[x]++l2).Perm (x::(l1++l2)):=by
  rw [Zng];exact List.perm_middle
 rw [hp.nodup_iff,Znu];exact ⟨hx,h⟩
theorem ZcY {s t:Sta} (h:Prop' s) (h1:t.Merged=s.Merged) (h2:t.Rulings=s.Rulings):WK t=true:=(ZbN h1 h2).trans h.pa
theorem Zea {s:Sta} (h:Prop' s) {x:Street} (hx:Vp x=true) (hn:x.Id ∉ Qp s):Prop' { s with Streets:=s.Streets++[x] }:=by
 refine ⟨h.rg,?_,h.bu,fun i d hd=>?_,h.un,?_,?_⟩
 ·intro y hy;rcases Znz.1 hy with h1 | h1
  ·exact h.st y h1
  ·rw [Zno] at h1;subst h1;exact hx
 ·refine Zd6 (h.dr i d hd) (fun id _=>rfl) (fun id _=>rfl) (fun id h1=>Zdt h1) (fun _ _ _ h=>h) (fun _ _ h1 h2=>?_)
  unfold QF at h2 ⊢;rw [show ({ s with Streets:=s.Streets++[x] }:Sta).Streets[(ZL s d.Street).toNat]? = s.Streets[(ZL s d.Street).toNat]? from Zdw h1]
  exact h2
 ·have h0:=h.ids;unfold Qp at h0 hn ⊢;show (s.Regions.map _++((s.Streets++[x]).map _++_)).Nodup
  rw [Znh,Zng,←Zng,←Zng];rw [←Zng] at h0 hn;exact Zdn h0 hn
 ·exact ZcY h rfl rfl
theorem Zeb {s:Sta} (h:Prop' s) {x:Building} (hx:Vq x=true) (hn:x.Id ∉ Qp s):Prop' { s with Buildings:=s.Buildings++[x] }:=by
 refine ⟨h.rg,h.st,?_,fun i d hd=>?_,h.un,?_,?_⟩
 ·intro y hy;rcases Znz.1 hy with h1 | h1
  ·exact h.bu y h1
  ·rw [Zno] at h1;subst h1;exact hx
 ·refine Zd6 (h.dr i d hd) (fun id _=>rfl) (fun id h1=>Zdt h1) (fun id _=>rfl) (fun _ _ h1 h2=>?_) (fun _ _ _ h=>h)
  unfold WL at h2 ⊢;rw [show ({ s with Buildings:=s.Buildings++[x] }:Sta).Buildings[(Y1 s d.Building).toNat]? = s.Buildings[(Y1 s d.Building).toNat]? from Zdw h1]
  exact h2
 ·have h0:=h.ids;unfold Qp at h0 hn ⊢;show (s.Regions.map _++(s.Streets.map _++((s.Buildings++[x]).map _++_))).Nodup
  rw [Znh,Zng,←Zng,←Zng,←Zng];rw [←Zng,←Zng] at h0 hn;exact Zdn h0 hn
 ·exact ZcY h rfl rfl
theorem Zec {s:Sta} (h:Prop' s) {x:Region} (hx:Vo x=true) (hn:x.Id ∉ Qp s):Prop' { s with Regions:=s.Regions++[x] }:=by
 refine ⟨?_,h.st,h.bu,fun i d hd=>h.dr i d hd,h.un,?_,?_⟩
 ·intro y hy;rcases Znz.1 hy with h1 | h1
  ·exact h.rg y h1
  ·rw [Zno] at h1;subst h1;exact hx
 ·have h0:=h.ids;unfold Qp at h0 hn ⊢;show ((s.Regions++[x]).map _++_).Nodup
  rw [Znh];exact Zdn h0 hn
 ·exact ZcY h rfl rfl
theorem Zed {s:Sta} (h:Prop' s) {x:Unit'} (hx:Vs s x=true) (hn:x.Id ∉ Qp s):Prop' { s with Units:=s.Units++[x] }:=by
 refine ⟨h.rg,h.st,h.bu,fun i d hd=>h.dr i d hd,?_,?_,?_⟩
 ·intro y hy;rcases Znz.1 hy with h1 | h1
  ·exact h.un y h1
  ·rw [Zno] at h1;subst h1;exact hx
 ·have h0:=h.ids;unfold Qp at h0 hn ⊢;show (s.Regions.map _++(s.Streets.map _++(s.Buildings.map _++(s.Doors.map _++(s.Units++[x]).map _)))).Nodup
  rw [Znh,←Zng,←Zng,←Zng,←Zng];rw [←Zng,←Zng,←Zng] at h0 hn;have:=Zdn (l2:=[]) (by rw [Znc];exact h0) (by rw [Znc];exact hn)
  rw [Znc] at this;exact this
 ·exact ZcY h rfl rfl
theorem ZdL {s:Sta} (h:Prop' s) {m:List Door} (hd:∀ d∈m,∀ i,Vr s i d=true) (hn:(m.map (·.Id)).Nodup) (hk:∀ d∈m,d.Id ∉ Qp s):Prop' { s with Doors:=s.Doors++m }:=by
 have hF:∀ id,decide (Zn s id < 0)=false→Zn { s with Doors:=s.Doors++m } id=Zn s id:=fun id h1=>Zdt h1
 refine ⟨h.rg,h.st,h.bu,fun i d hi=>?_,fun u hu=>?_,?_,?_⟩
 ·have h0:Vr s i d=true:=by
   by_cases hl:i < s.Doors.length
   ·have hi':(s.Doors++m)[i]? = some d:=hi;rw [ZnH hl] at hi';exact h.dr i d hi'
   ·have hi':(s.Doors++m)[i]? = some d:=hi;rw [ZnL (by omega)] at hi'
    exact hd d (Znb hi') i
  exact Zd6 h0 hF (fun id _=>rfl) (fun id _=>rfl) (fun _ _ _ h=>h) (fun _ _ _ h=>h)
 ·refine Zdv (h.un u hu) hF (fun _ h1 h2=>?_)
  unfold QN at h2 ⊢;rw [show ({ s with Doors:=s.Doors++m }:Sta).Doors[(Zn s u.Door).toNat]? = s.Doors[(Zn s u.Door).toNat]? from Zdw h1]
  exact h2
 ·have h0:=h.ids;have hp:(Qp { s with Doors:=s.Doors++m }).Perm (m.map (·.Id)++Qp s):=by
   unfold Qp;show (s.Regions.map _++(s.Streets.map _++(s.Buildings.map _++((s.Doors++m).map _++s.Units.map _)))).Perm _
   rw [Znh];generalize s.Regions.map (·.Id)=A;generalize s.Streets.map (·.Id)=B;generalize s.Buildings.map (·.Id)=C;generalize s.Doors.map (·.Id)=D;generalize s.Units.map (·.Id)=F;generalize m.map (·.Id)=M;have e1:A++(B++(C++(D++M++F)))=(A++B++C++D)++(M++F):=by simp only [Zng]
   have e2:M++(A++(B++(C++(D++F))))=M++((A++B++C++D)++F):=by simp only [Zng]
   rw [e1,e2,←Zng,←Zng];exact List.Perm.append_right F List.perm_append_comm
  rw [hp.nodup_iff,Zol];refine ⟨hn,h0,fun x hx y hy e=>?_⟩
  obtain ⟨d,hdm,rfl⟩:=Znl.1 hx;exact hk d hdm (e▸hy)
 ·exact ZcY h rfl rfl
end Go.AM
namespace Go.AM
open Go
theorem ZdM:Jp [] false=true:=rfl
theorem Zd7:ZD (-1) (-1) 100000=true:=rfl
theorem Zdf:ZD 0 0 100000=true:=rfl
theorem Zah {n m:Int} (h:(n != m)=false):n=m:=by simpa using h
theorem Zdo {b:Bool} (h:(bif b then (8:Int) else 0)=0):b=false:=by cases b with | true=>cases h | false=>rfl
theorem Zee {s:Sta} {a:Int} {e:Event} (h:Prop' s) (ha:QM a 0 0=true) (he:Q9 e=true) (hk:e.Kind=2) (h0:twB (wk0 s a e) e.Id=false):Prop' (Jz (wk0 s a e)).s:=by
 refine Zea h ?_ (Zd2 h0);have hn:(ZZ e.Id&&Ul e.Path.l)=true:=by have:=ZcV he;rw [ZcW hk] at this;exact this
 unfold Vp;rw [ZdI];show (QM a (-1) 0&&(Jp [] false&&(ZZ e.Id&&Ul e.Path.l)))=true
 rw [hn,ZdM,Zd4 ha Zd7 Zdf];rfl
theorem Zef {s:Sta} {a:Int} {e:Event} (h:Prop' s) (ha:QM a 0 0=true) (he:Q9 e=true) (hk:e.Kind=5) (h0:twB (wk0 s a e) e.Id=false):Prop' (JA (wk0 s a e)).s:=by
 refine Zeb h ?_ (Zd2 h0);have hn:(ZZ e.Id&&Vh e.Path.l)=true:=by have:=ZcV he;rw [ZcW hk] at this;exact this
 unfold Vq;rw [ZdJ];show (QM a (-1) 0&&(ZZ e.Id&&Vh e.Path.l))=true
 rw [hn,Zd4 ha Zd7 Zdf];rfl
theorem Zdx {s:Sta} {a:Int} {e:Event} {d:Door} (h:Prop' s) (hd:∀ i,Vr s i (Xl (wk0 s a e) d)=true) (h0:twB (wk0 s a e) d.Id=false):Prop' (Qw (wk0 s a e) d).s:=
 ZdL h (fun x hx i=>by rw [Zno] at hx;subst hx;exact hd i) (by simp) (fun x hx=>by rw [Zno] at hx;subst hx;exact Zd2 h0)
theorem Zeg {a b c:Int} (h:(bif a != -1||b != -1 then (11:Int) else 0)=0):a=-1∧b=-1:=by
 cases h1:a != -1 with
 | true=>rw [h1] at h;cases h
 | false=>
 cases h2:b != -1 with
 | true=>rw [h1,h2] at h;cases h
 | false=>exact ⟨by simpa using h1,by simpa using h2⟩
theorem Zeh {s:Sta} {a:Int} {e:Event} (h:Prop' s) (ha:QM a 0 0=true) (he:Q9 e=true) (hk:e.Kind=6) (h0:JD (wk0 s a e)=0):Prop' (Qw (wk0 s a e) (UE (wk0 s a e))).s:=by
 have hn:(Qv [e.Id,e.Other,e.Text]&&(YO e.Number&&gOn e.Point))=true:=by have:=ZcV he;rw [ZcW hk] at this;exact this
 unfold JD at h0;have ws:(wk0 s a e).s=s:=rfl;have we:(wk0 s a e).e=e:=rfl;rw [ws,we] at h0;cases c1:twB (wk0 s a e) e.Id with
 | true=>rw [c1] at h0;cases h0
 | false=>
 cases c2:decide (Y1 s e.Other < 0) with
 | true=>rw [c1,c2] at h0;cases h0
 | false=>
 cases c3:decide (ZL s e.Text < 0) with
 | true=>rw [c1,c2,c3] at h0;cases h0
 | false=>
 rw [c1,c2,c3] at h0;obtain ⟨g1,g2⟩:=Zeg (c:=0) h0;refine Zdx h (fun i=>?_) c1
 rw [Zd0];refine ⟨Zd4 ha Zd7 (Zd1 he),fun id hid=>(by cases hid),by rfl,fun _=>⟨?_,?_⟩,fun hv=>?_⟩
 ·rw [Zdd];exact ⟨rfl,c2,c3,fun _=>⟨g1,g2⟩⟩
 ·rw [Zdm];exact hn
 ·rw [show Z3 (Xl (wk0 s a e) (UE (wk0 s a e))).Veil emp=true from rfl] at hv;cases hv
theorem Zei {s:Sta} {a:Int} {e:Event} (h:Prop' s) (ha:QM a 0 0=true) (he:Q9 e=true) (hk:e.Kind=15) (h0:twB (wk0 s a e) e.Id=false):Prop' (Qw (wk0 s a e) (UD (wk0 s a e))).s:=by
 have hn:(ZZ e.Id&&(ZD e.Office 0 63&&Uu e.Text))=true:=by have:=ZcV he;rw [ZcW hk] at this;exact this
 have hv:Z3 e.Text emp=false:=by
  simp only [Zn5] at hn;have:=hn.2.2;unfold Uu at this;simp only [Zn5,Znk] at this;exact this.1
 refine Zdx h (fun i=>?_) h0
 rw [Zd0];refine ⟨Zd4 ha Zd7 (Zd1 he),fun id hid=>(by cases hid),by rfl,fun hv2=>?_,fun _=>?_⟩
 ·rw [show (Xl (wk0 s a e) (UD (wk0 s a e))).Veil=e.Text from rfl,hv] at hv2;cases hv2
 ·unfold NN;rw [Ze9];exact hn
theorem Zej {s:Sta} {a:Int} {e:Event} (h:Prop' s) (he:Q9 e=true) (hk:e.Kind=7) (h0:JB (wk0 s a e)=0):Prop' (JC (wk0 s a e)).s:=by
 have hn:(Qv [e.Id,e.Other]&&Jm e.Text 24)=true:=by have:=ZcV he;rw [ZcW hk] at this;exact this
 unfold JB at h0;have ws:(wk0 s a e).s=s:=rfl;have we:(wk0 s a e).e=e:=rfl;rw [ws,we] at h0;cases c1:twB (wk0 s a e) e.Id with
 | true=>rw [c1] at h0;cases h0
 | false=>
 cases c2:decide (Zn s e.Other < 0) with
 | true=>rw [c1,c2] at h0;cases h0
 | false=>
 cases c3:QN s (Zn s e.Other) != -1 with
 | true=>rw [c1,c2,c3] at h0;cases h0
 | false=>
 refine Zed h ?_ (Zd2 c1);rw [Zdl];refine ⟨c2,?_,?_,fun _=>⟨rfl,Zah c3⟩,fun hne=>absurd rfl hne⟩
 ·show QM 0 (-1) e.Day=true
  unfold QM;rw [Zd1 he];rfl
 ·rw [ZdK];exact hn
theorem Zek {s:Sta} {a:Int} {e:Event} (h:Prop' s) (hpr:Jx s=true) (ha:QM a 0 0=true) (he:Q9 e=true) (hk:e.Kind=1) (h0:Hi (wk0 s a e)=0):Prop' (Hj (wk0 s a e)).s:=by
 have hn:(ZZ e.Id&&(ZD e.A 1 3&&Vh e.Path.l))=true:=by have:=ZcV he;rw [ZcW hk] at this;exact this
 unfold Hi at h0;unfold Hj;have ws:(wk0 s a e).s=s:=rfl;have we:(wk0 s a e).e=e:=rfl;rw [ws,we] at h0 ⊢;cases c:decide (Qo s e.Id < 0) with
 | true=>
  rw [c,cond_true] at h0;refine Zec h ?_ (Zd2 (Zdo h0));unfold Vo;rw [Zdu];show (QM a (-1) 0&&(Jp [] false&&(ZZ e.Id&&(ZD e.A 1 3&&Vh e.Path.l))))=true
  rw [hn,ZdM,Zd4 ha Zd7 Zdf];rfl
 | false=>
  have hI:(ZK s.Regions (Qo s e.Id).toNat (NS e.Path)).map (·.Id)=s.Regions.map (·.Id):=FK (fun x:Region=>x.Id) (NS e.Path) (fun _=>rfl) _ _
  refine ((Zdb _).1 ?_).1;refine Zc9 hI ?_ hpr;refine ZbB (Zn9.2 h.rg) (fun x hx=>?_)
  unfold Vo at hx ⊢;rw [Zdu] at hx ⊢;simp only [Zn5] at hx hn ⊢;exact ⟨hx.1,hx.2.1,hx.2.2.1,hx.2.2.2.1,hn.2.2⟩
theorem Zel {s:Sta} {a:Int} {e:Event} (h:Prop' s) (he:Q9 e=true) (hk:e.Kind=14):Prop' (Hh (wk0 s a e)).s:=by
 have hn:K5 e.A e.B=true:=by have:=ZcV he;rw [ZcW hk] at this;exact this
 refine ⟨h.rg,h.st,h.bu,fun i d hd=>h.dr i d hd,h.un,h.ids,?_⟩
 have hp:=h.pa;unfold WK at hp ⊢;have e1:chN (Hh (wk0 s a e)).s=chN s:=by funext n k;exact Zc8 (s:=s) (t:=(Hh (wk0 s a e)).s) rfl n k
 rw [e1];simp only [Zn5] at hp ⊢;refine ⟨hp.1,?_,hp.2.2⟩;rw [Zn9];intro p hm;rcases Znz.1 hm with h1 | h1
 ·exact Zn9.1 hp.2.1 p h1
 ·rw [Zno] at h1;subst h1;unfold K5 at hn;simp only [Zn5] at hn;obtain ⟨n1,n2,n3⟩:=hn;show (QM e.A 0 0&&(QM e.B 0 0&&!(e.A==e.B)))=true
  unfold QM;have w0:ZD 0 (-1) 100000=true:=rfl;rw [n1,n2,w0,Zdf];simpa using n3
theorem Zem {s:Sta} {a:Int} {e:Event} (h:Prop' s) (hpr:Jx s=true) (h0:Hm (wk0 s a e)=0):Prop' (exW (wk0 s a e)).s:=by
 unfold Hm at h0;have ws:(wk0 s a e).s=s:=rfl;have we:(wk0 s a e).e=e:=rfl;rw [ws,we] at h0;cases c1:decide (ZL s e.Id < 0) with
 | true=>rw [c1] at h0;cases h0
 | false=>
 cases c2:decide (ZL s e.Other < 0) with
 | true=>rw [c1,c2] at h0;cases h0
 | false=>
 obtain ⟨j,x,hj,hx⟩:=QC c1;obtain ⟨k,y,hk',hy⟩:=QC c2;have hj':ZL s e.Id=(j:Int):=hj;have hk2:ZL s e.Other=(k:Int):=hk';have ht:(exW (wk0 s a e)).s={ s with Streets:=swN s.Streets j k }:=by
  unfold exW;rw [ws,we,hj',hk2];rfl
 rw [ht];refine ((Zdb _).1 ?_).1;have hall:s.Streets.all Vp=true:=Zn9.2 h.st;refine ZbO (ZbR (fun x=>x.Id) (fun _ _=>rfl)) (ZbR (fun x=>x.Ended) (fun _ _=>rfl)) ?_ hpr
 unfold swN;exact ZbB (ZbB hall (fun x hx=>ZbG hx (ZbS hy hall))) (fun x hx2=>ZbG hx2 (ZbS hx hall))
theorem Zen {s:Sta} {a:Int} {e:Event} (h:Prop' s) (hpr:Jx s=true) (he:Q9 e=true) (hk:e.Kind=3):Prop' (Hl (wk0 s a e)).s:=by
 have hnm:=Zcd e he hk;unfold Hl;have ws:(wk0 s a e).s=s:=rfl;have we:(wk0 s a e).e=e:=rfl;rw [ws,we];refine ((Zdb _).1 ?_).1;cases c:decide (Qo s e.Id ≥ 0) with
 | true=>exact Zc9 (FK (fun x:Region=>x.Id) (NT e.Names) (fun _=>rfl) _ _) (ZbB (Zn9.2 h.rg) (fun x hx=>Zcc hx hnm)) hpr
 | false=>exact ZbO (FK (fun x:Street=>x.Id) (XN e.Names) (fun _=>rfl) _ _) (FK (fun x:Street=>x.Ended) (XN e.Names) (fun _=>rfl) _ _) (ZbB (Zn9.2 h.st) (fun x hx=>ZbG hx hnm)) hpr
end Go.AM
namespace Go.AM
open Go
theorem Zd8 {s t:Sta} (h1:t.Regions.map (·.Id)=s.Regions.map (·.Id)) (h2:t.Streets.map (·.Id)=s.Streets.map (·.Id)) (h3:t.Buildings.map (·.Id)=s.Buildings.map (·.Id)) (h4:t.Doors.map (·.Id)=s.Doors.map (·.Id)) (h5:t.Units.map (·.Id)=s.Units.map (·.Id)):Qp t=Qp s:=by
 unfold Qp;rw [h1,h2,h3,h4,h5]
theorem Zeo (e:Event) (id:Str) (a:NL Str) (l:List Unit'):(UH e id a l).map (·.Id)=l.map (·.Id):=by
 unfold UH;rw [ZnZ];apply List.map_congr_left;intro u _;show (XO e id a u).Id=u.Id
 unfold XO;cases Z3P id u with
 | false=>rfl
 | true=>
  show (UG e a u).Id=u.Id
  unfold UG;split<;>rfl
theorem ZdN {id:Str} {u:Unit'}:Z3P id u=true↔u.Door=id∧u.Ended=-1:=by
 unfold Z3P;rw [Zn5,Ky];simp
theorem ZdO {s t:Sta} {j:Int} (h:t.Doors[j.toNat]? = s.Doors[j.toNat]?):QN t j=QN s j:=by
 unfold QN;rw [h]
theorem Zdp {w:Wk} {k:Nat} {x:Door} {a:NL Str} (h:Prop' w.s) (hx:w.s.Doors[k]? = some x) (hday:ZD w.e.Day 0 100000=true)
 (hend:UC (UF w.e a x)=false) (haft:∀ id∈a.l,decide (Zn w.s id≤k)=false)
 (hu0:a.l=[]→w.e.Kind=12∨w.e.Kind=11)
 (hu1:∀ id r,a.l=id::r→QN w.s (Zn w.s id)=-1∧∀ u∈w.s.Units,Qv [u.Id,u.Door]=true→Qv [u.Id,id]=true):Prop' (Qf w k a).s:=by
 have hI:(ZK w.s.Doors k (UF w.e a)).map (·.Id)=w.s.Doors.map (·.Id):=FK (fun d:Door=>d.Id) (UF w.e a) (fun _=>rfl) _ _
 have ht:(Qf w k a).s={ w.s with Doors:=ZK w.s.Doors k (UF w.e a),Units:=UH w.e x.Id a w.s.Units }:=by
  unfold Qf;rw [hx];rfl
 rw [ht];have hF:∀ id,Zn { w.s with Doors:=ZK w.s.Doors k (UF w.e a),Units:=UH w.e x.Id a w.s.Units } id=Zn w.s id:=fun id=>Zdc hI
 have hG:∀ i d,(ZK w.s.Doors k (UF w.e a))[i]? = some d→(i=k∧d=UF w.e a x)∨(i≠k∧w.s.Doors[i]? = some d):=by
  intro i d hd;rw [Zbz] at hd;by_cases hi:i=k
  ·subst hi;rw [if_pos rfl,hx] at hd;exact Or.inl ⟨rfl,(Option.some.inj hd).symm⟩
  ·rw [if_neg hi] at hd;exact Or.inr ⟨hi,hd⟩
 have hE:∀ (j:Int),0≤j→j≠(k:Int)→QN { w.s with Doors:=ZK w.s.Doors k (UF w.e a),Units:=UH w.e x.Id a w.s.Units } j=QN w.s j:=by
  intro j hj0 hj;have:(ZK w.s.Doors k (UF w.e a))[j.toNat]? = w.s.Doors[j.toNat]?:=by
   rw [Zbz,if_neg (by omega)]
  exact ZdO this
 refine ⟨h.rg,h.st,h.bu,fun i d hd=>?_,fun u hu=>?_,?_,ZcY h rfl rfl⟩
 ·rcases hG i d hd with ⟨rfl,rfl⟩ | ⟨hi,hd'⟩
  ·have h0:=h.dr i x hx;rw [Zd0] at h0 ⊢;obtain ⟨o1,o2,o3,o4,o5⟩:=h0;refine ⟨?_,fun id hid=>?_,hend,fun hv=>?_,fun hv=>o5 hv⟩
   ·show QM x.Owner w.e.Day x.From=true
    unfold QM at o1 ⊢;simp only [Zn5] at o1 ⊢;exact ⟨o1.1,Zde hday,o1.2.2⟩
   ·rw [hF];exact haft id hid
   ·obtain ⟨q1,q2⟩:=o4 hv;rw [Zdd] at q1 ⊢;exact ⟨⟨q1.1,q1.2.1,q1.2.2.1,fun hE=>absurd hE (Zd5 hday)⟩,q2⟩
  ·exact Zd6 (h.dr i d hd') (fun id _=>hF id) (fun id _=>rfl) (fun id _=>rfl) (fun _ _ _ h=>h) (fun _ _ _ h=>h)
 ·obtain ⟨v,hv,rfl⟩:=Znl.1 hu;have h0:=h.un v hv;unfold XO;cases hh:Z3P x.Id v with
  | false=>
   rw [cond_false];refine Zdv h0 (fun id _=>hF id) (fun hl hf hd=>?_)
   obtain ⟨j,y,hj,hy,hyi⟩:=ZcU (f:=fun d:Door=>d.Id) hf
   have hj':Zn w.s v.Door=(j:Int):=hj;have hjk:(j:Int)≠(k:Int):=by
    intro e;have:j=k:=by omega
    subst this;rw [hx] at hy;cases hy;rw [show Z3P x.Id v=true from ZdN.2 ⟨hyi.symm,hl⟩] at hh
    cases hh
   rw [hj'] at hd ⊢;rw [hE _ (by omega) hjk]
   exact hd
  | true=>
   rw [cond_true];obtain ⟨g1,g2⟩:=ZdN.1 hh;rw [Zdl] at h0 ⊢;obtain ⟨o1,o2,o3,o4,o5⟩:=h0;show decide (Zn _ (UG w.e a v).Door < 0)=false∧QM 0 (UG w.e a v).Ended (UG w.e a v).From=true∧Q9 { Vn (UG w.e a v) with Kind:=7 }=true∧((UG w.e a v).Ended=-1→(UG w.e a v).Why=0∧QN _ (Zn _ (UG w.e a v).Door)=-1)∧((UG w.e a v).Ended≠-1→(UG w.e a v).Why=12∨(UG w.e a v).Why=11)
   cases hal:a.l with
   | nil=>
    have e1:UG w.e a v={ v with Ended:=w.e.Day,Why:=w.e.Kind }:=by unfold UG;rw [hal]
    rw [e1];refine ⟨by rw [hF];exact o1,?_,o3,fun hE=>absurd hE (Zd5 hday),fun _=>hu0 hal⟩
    show QM 0 w.e.Day v.From=true
    unfold QM at o2 ⊢;simp only [Zn5] at o2 ⊢;exact ⟨o2.1,Zde hday,o2.2.2⟩
   | cons id r=>
    have e1:UG w.e a v={ v with Door:=id }:=by unfold UG;rw [hal]
    rw [e1];obtain ⟨q1,q2⟩:=hu1 id r hal;have q3:=haft id (by rw [hal];exact Znw ..)
    have q4:(k:Int) < Zn w.s id:=by have:=of_decide_eq_false q3;omega
    have q5:decide (Zn w.s id < 0)=false:=decide_eq_false (by omega)
    refine ⟨by rw [hF];exact q5,o2,?_,fun hE2=>⟨(o4 g2).1,?_⟩,o5⟩
    ·rw [ZdK] at o3 ⊢;rw [Zn5] at o3 ⊢;exact ⟨q2 v hv o3.1,o3.2⟩
    ·rw [hF];show QN _ (Zn w.s id)=-1
     rw [hE (Zn w.s id) (by omega) (by omega)]
     exact q1
 ·have e:=Zd8 (s:=w.s) (t:={ w.s with Doors:=ZK w.s.Doors k (UF w.e a),Units:=UH w.e x.Id a w.s.Units }) rfl rfl rfl hI (Zeo _ _ _ _)
  rw [e];exact h.ids
end Go.AM
namespace Go.AM
open Go
theorem ZdP {K:List Str} {x:Str}:K.any (Z3 x)=true↔x∈K:=by
 rw [List.any_eq_true];exact ⟨fun ⟨y,h1,h2⟩=>by rw [(Ky _ _).1 h2];exact h1,fun h=>⟨x,h,(Ky _ _).2 rfl⟩⟩
theorem Zdy:∀ (l K:List Str),(l.foldl (Qi Z3) K).length≤K.length+l.length∧((l.foldl (Qi Z3) K).length=K.length+l.length↔l.Nodup∧∀ x∈l,x ∉ K)
 | [],K=>⟨by simp,by simp⟩
 | x::r,K=>by
  rw [List.foldl_cons];unfold Qi;cases hx:K.any (Z3 x) with
  | true=>
   obtain ⟨h1,h2⟩:=Zdy r K;simp only [cond_true];rw [ZnK];refine ⟨by have:=h1;unfold Qi at this;omega,⟨fun h=>?_,fun h=>?_⟩⟩
   ·have:=h1;unfold Qi at this;omega
   ·exact absurd (ZdP.1 hx) (h.2 x (Znw ..))
  | false=>
   obtain ⟨h1,h2⟩:=Zdy r (K++[x]);have hk:x ∉ K:=fun h=>by rw [ZdP.2 h] at hx;cases hx
   simp only [cond_false];unfold Qi at h1 h2;rw [Znv,Zoc] at h1 h2;rw [ZnK];refine ⟨by omega,?_⟩
   rw [show K.length+(r.length+1)=K.length+1+r.length by omega,h2,Znu]
   constructor
   ·rintro ⟨g1,g2⟩;refine ⟨⟨fun hm=>g2 x hm (Zo3 _ (Zno.2 rfl)),g1⟩,fun y hy=>?_⟩
    rcases Zo8.1 hy with rfl | hy
    ·exact hk
    ·exact fun h=>g2 y hy (Zoa _ h)
   ·rintro ⟨⟨g1,g2⟩,g3⟩;refine ⟨g2,fun y hy hm=>?_⟩
    rcases Znz.1 hm with h | h
    ·exact g3 y (ZnV _ hy) h
    ·rw [Zno] at h;exact g1 (h▸hy)
theorem Zdg (l:List Str):Qv l=true↔l.Nodup∧∀ x∈l,Ha x=false:=by
 unfold Qv XH;rw [Zn5,beq_iff_eq,Znk,ZnI];have h:=(Zdy l []).2;rw [ZnD,Znm] at h;rw [show (((l.foldl (Qi Z3) []).length:Nat):Int)=(l.length:Int)↔(l.foldl (Qi Z3) []).length=l.length from by omega,h]
 constructor
 ·rintro ⟨⟨h1,_⟩,h2⟩;exact ⟨h1,fun x hx=>by simpa using h2 x hx⟩
 ·rintro ⟨h1,h2⟩;exact ⟨⟨h1,fun x _ h=>by cases h⟩,fun x hx=>by rw [h2 x hx];decide⟩
theorem Zep {s:Sta} {w:Wk} (ws:w.s=s) (hen:∀ x∈w.e.Lst.l,YO x.Number=true∧∃ (j:Nat) (d:Door),Zn s x.Id=((j:Nat):Int)∧s.Doors[j]? = some d∧Z3 d.Veil emp=true):
 ∀ (i k:Nat) (y:Door),(Yn s.Doors w.e.Lst.l i)[k]? = some y→∃ (d:Door) (n:HN),s.Doors[k]? = some d∧y=UP n d∧(n=d.Number∨(YO n=true∧Z3 d.Veil emp=true)):=by
 intro i;induction i with
 | zero=>intro k y hy;exact ⟨y,y.Number,hy,rfl,Or.inl rfl⟩
 | succ i ih=>
  intro k y hy;unfold Yn at hy;split at hy
  ·rename_i x hx;obtain ⟨hv,j,d,hj,hd,hve⟩:=hen x (Znb hx);have hf:Kk (Yn s.Doors w.e.Lst.l i) x.Id=Zn s x.Id:=Z4o (HA _ _ _) _;rw [hf,hj,Zbz] at hy;by_cases hk:k=((j:Nat):Int).toNat
   ·rw [if_pos hk] at hy;obtain ⟨z,hz,rfl⟩:=Option.map_eq_some_iff.1 hy;obtain ⟨d',n,h1,rfl,_⟩:=ih _ z hz;have hkj:k=j:=by omega
    refine ⟨d',x.Number,by rw [hk];exact h1,rfl,Or.inr ⟨hv,?_⟩⟩
    rw [show ((j:Nat):Int).toNat=j by omega] at h1
    rw [hd] at h1;cases h1;exact hve
   ·rw [if_neg hk] at hy;exact ih k y hy
  ·exact ih k y hy
theorem Zdz {α:Type} (g:Door→α) (hg:∀ n d,g (UP n d)=g d) (D:List Door) (l:List Ent):∀ i,(Yn D l i).map g=D.map g
 | 0=>rfl
 | i+1=>by
  unfold Yn;split
  ·rw [FK g _ (fun d=>hg _ d)]
   exact Zdz g hg D l i
  ·exact Zdz g hg D l i
theorem Zeq {s:Sta} {a:Int} {e:Event} (h:Prop' s) (he:Q9 e=true) (hk:e.Kind=8) (h0:HD (wk0 s a e)=0):Prop' (NY (wk0 s a e)).s:=by
 have hn:(ZZ e.Id&&(ZD e.Lst.l.length 1 40&&(Xi e.Lst.l []&&Vk e.Lst.l true)))=true:=by have:=ZcV he;rw [ZcW hk] at this;exact this
 simp only [Zn5] at hn;have hid:e.Id≠emp:=by
  intro hc;have:=hn.1;rw [hc] at this;exact absurd this (by decide +kernel)
 have hlist:∀ x∈e.Lst.l,YO x.Number=true:=by
  have:=hn.2.2.1;unfold Xi at this;simp only [Zn5] at this;exact fun x hx=>Zn9.1 this.1 x hx
 have ws:(wk0 s a e).s=s:=rfl;have we:(wk0 s a e).e=e:=rfl;unfold HD at h0;rw [ws,we] at h0;cases c1:decide (ZL s e.Id < 0) with
 | true=>rw [c1] at h0;cases h0
 | false=>
 cases c2:e.Lst.l.any (Kj s) with
 | true=>rw [c1,c2] at h0;cases h0
 | false=>
 rw [c1,c2,Bool.or_false,cond_false] at h0;cases c3:e.Lst.l.any (Hz (wk0 s a e)) with
 | true=>rw [c3,ZnE] at h0;cases h0
 | false=>
 have hen:∀ x∈e.Lst.l,YO x.Number=true∧∃ (j:Nat) (d:Door),Zn s x.Id=((j:Nat):Int)∧s.Doors[j]? = some d∧Z3 d.Veil emp=true:=by
  intro x hx;have b1:Kj s x=false:=by simpa using ZnI.1 c2 x hx
  have b2:Hz (wk0 s a e) x=false:=by simpa using ZnI.1 c3 x hx
  unfold Kj at b1;unfold Hz at b2;rw [Zo2] at b2;obtain ⟨j,d,hj,hd,_⟩:=ZcU (f:=fun d:Door=>d.Id) b1
  have hj':Zn s x.Id=(j:Int):=hj;refine ⟨hlist x hx,j,d,hj',hd,?_⟩;cases hv:Z3 d.Veil emp with
  | true=>rfl
  | false=>
   exfalso;have h1:=((Zd0 s j d).1 (h.dr j d hd)).2.2.2.2 hv;unfold NN at h1;simp only [Zn5] at h1;have h2:d.Street=emp:=(Ky _ _).1 h1.2.1;have h3:=b2.2;rw [ws,hj'] at h3;have h4:XP s (j:Int)=d.Street:=by simp [XP,hd]
   rw [h4,h2] at h3;rw [we] at h3;have h5:Z3 emp e.Id=true:=by simpa using h3
   exact hid ((Ky _ _).1 h5).symm
 have hI:=HA s.Doors e.Lst.l e.Lst.l.length;have hE:=Zdz (fun d:Door=>d.Ended) (fun _ _=>rfl) s.Doors e.Lst.l e.Lst.l.length
 have hform:=Zep (s:=s) (w:=wk0 s a e) rfl hen e.Lst.l.length;have ht:(NY (wk0 s a e)).s={ s with Doors:=Yn s.Doors e.Lst.l e.Lst.l.length }:=rfl
 rw [ht];have hF:∀ id,Zn { s with Doors:=Yn s.Doors e.Lst.l e.Lst.l.length } id=Zn s id:=fun id=>Zdc hI
 have hD:∀ j,QN { s with Doors:=Yn s.Doors e.Lst.l e.Lst.l.length } j=QN s j:=by
  intro j;have hm:((Yn s.Doors e.Lst.l e.Lst.l.length).map (fun d:Door=>d.Ended))[j.toNat]? = (s.Doors.map (fun d:Door=>d.Ended))[j.toNat]?:=by rw [hE]
  rw [ZnB,ZnB] at hm;unfold QN;rcases ZbU hm with ⟨x,y,h1,h2,h3⟩ | ⟨h1,h2⟩
  ·simp only [h1,h2,h3]
  ·simp only [h1,h2]
 refine ⟨h.rg,h.st,h.bu,fun i y hy=>?_,fun u hu=>?_,?_,ZcY h rfl rfl⟩
 ·obtain ⟨d,n,hd,rfl,hn2⟩:=hform i y hy;have h0:=h.dr i d hd;rw [Zd0] at h0 ⊢;obtain ⟨o1,o2,o3,o4,o5⟩:=h0;refine ⟨o1,fun id hid=>by rw [hF];exact o2 id hid,o3,fun hv=>?_,fun hv=>?_⟩
  ·obtain ⟨q1,q2⟩:=o4 hv;refine ⟨q1,?_⟩;rw [Zdm] at q2 ⊢;rcases hn2 with rfl | ⟨hv2,_⟩
   ·exact q2
   ·simp only [Zn5] at q2 ⊢;exact ⟨q2.1,hv2,q2.2.2⟩
  ·rcases hn2 with rfl | ⟨_,hv2⟩
   ·exact o5 hv
   ·rw [show (UP n d).Veil=d.Veil from rfl,hv2] at hv;cases hv
 ·exact Zdv (h.un u hu) (fun id _=>hF id) (fun _ _ hd=>by rw [hD];exact hd)
 ·have e1:=Zd8 (s:=s) (t:={ s with Doors:=Yn s.Doors e.Lst.l e.Lst.l.length }) rfl rfl rfl hI rfl
  rw [e1];exact h.ids
end Go.AM
namespace Go.AM
open Go
theorem ZdQ {α:Type} {f:α→Str} {l m:List α} {id:Str} (h:id ∉ l.map f) (hm:id∈m.map f):∃ (j:Nat) (x:α),look f (l++m) id=(j:Int)∧l.length≤j∧m[j - l.length]? = some x:=by
 have hin:id∈(l++m).map f:=by rw [Znh];exact Zo3 _ hm
 obtain ⟨y,hy,rfl⟩:=Znl.1 hin;obtain ⟨j,x,h1,h2,h3⟩:=ZcU (Ze8 (f:=f) hy);have hj:l.length≤j:=by
  refine Nat.not_lt.1 (fun hl=>?_)
  rw [ZnH hl] at h2;exact h (by rw [←h3];exact ZnJ (Znb h2))
 exact ⟨j,x,h1,hj,by rw [ZnL hj] at h2;exact h2⟩
theorem ZdR {s:Sta} {d:Door} (h:d∈s.Doors):d.Id∈Qp s:=by
 unfold Qp;simp only [Znz];exact Or.inr (Or.inr (Or.inr (Or.inl (ZnJ h))))
theorem Zer {s:Sta} {u:Unit'} (h:u∈s.Units):u.Id∈Qp s:=by
 unfold Qp;simp only [Znz];exact Or.inr (Or.inr (Or.inr (Or.inr (ZnJ h))))
theorem Zes {s:Sta} {id:Str} (h:decide (Y1 s id < 0)=false):id∈Qp s:=by
 obtain ⟨j,x,_,h2,rfl⟩:=ZcU (f:=fun b:Building=>b.Id) h
 unfold Qp;simp only [Znz];exact Or.inr (Or.inr (Or.inl (ZnJ (Znb h2))))
theorem Zet {s:Sta} {id:Str} (h:decide (ZL s id < 0)=false):id∈Qp s:=by
 obtain ⟨j,x,_,h2,rfl⟩:=ZcU (f:=fun b:Street=>b.Id) h
 unfold Qp;simp only [Znz];exact Or.inr (Or.inl (ZnJ (Znb h2)))
theorem ZdS {s:Sta} {a:Int} {e:Event} (ha:QM a 0 0=true) (he:Q9 e=true) {d:Door} {k:Nat} (h:Vr s k d=true) (hl:d.Ended=-1) (hv:Z3 d.Veil emp=true)
 {id:Str} {n:HN} {p:Pt} (hid:Ha id=false) (hk:id ∉ Qp s) (hn:YO n=true) (hp:gOn p=true) (i:Nat):
 Vr s i (Xl (wk0 s a e) ⟨id,d.Building,d.Street,0,n,p,0,0,⟨false,[]⟩,0,0,emp⟩)=true:=by
 rw [Zd0] at h ⊢;obtain ⟨_,_,_,o4,_⟩:=h;obtain ⟨q1,q2⟩:=o4 hv;rw [Zdd] at q1;obtain ⟨_,g2,g3,g4⟩:=q1;rw [Zdm] at q2;rw [Zn5,Zdg] at q2;obtain ⟨⟨n1,n2⟩,_⟩:=q2;refine ⟨Zd4 ha Zd7 (Zd1 he),fun x hx=>(by cases hx),by rfl,fun _=>⟨?_,?_⟩,fun hv2=>?_⟩
 ·rw [Zdd];exact ⟨rfl,g2,g3,fun _=>g4 hl⟩
 ·rw [Zdm];show (Qv [id,d.Building,d.Street]&&(YO n&&gOn p))=true
  have hb:Qv [id,d.Building,d.Street]=true:=by
   rw [Zdg];rw [Znu] at n1;refine ⟨?_,fun x hx=>?_⟩
   ·rw [Znu];refine ⟨fun hm=>?_,n1.2⟩
    rcases Zo8.1 hm with rfl | hm
    ·exact hk (Zes g2)
    ·rw [Zno] at hm;subst hm;exact hk (Zet g3)
   ·rcases Zo8.1 hx with rfl | hx
    ·exact hid
    ·exact n2 x (ZnV _ hx)
  rw [hb,hn,hp];rfl
 ·rw [show Z3 (Xl (wk0 s a e) ⟨id,d.Building,d.Street,0,n,p,0,0,⟨false,[]⟩,0,0,emp⟩).Veil emp=true from rfl] at hv2;cases hv2
theorem ZdT {s:Sta} (h:Prop' s) {id:Str} (hk:id ∉ Qp s) (hb:Ha id=false):∀ u∈s.Units,Qv [u.Id,u.Door]=true→Qv [u.Id,id]=true:=by
 intro u hu hi;rw [Zdg] at hi ⊢;refine ⟨?_,fun x hx=>?_⟩
 ·rw [Znu];refine ⟨fun hm=>?_,by simp⟩
  rw [Zno] at hm;exact hk (hm▸Zer hu)
 ·rcases Zo8.1 hx with rfl | hx
  ·exact hi.2 _ (Znw ..)
  ·rw [Zno] at hx;subst hx;exact hb
theorem Zeu {s:Sta} {a:Int} {e:Event} (h:Prop' s) (ha:QM a 0 0=true) (he:Q9 e=true) (hk:e.Kind=9) (h0:Ka (wk0 s a e)=0):Prop' (Kb (wk0 s a e)).s:=by
 have hn:(ZD e.Lst.l.length 2 8&&(Xi e.Lst.l [e.Id]&&Vk e.Lst.l false))=true:=by have:=ZcV he;rw [ZcW hk] at this;exact this
 simp only [Zn5] at hn;obtain ⟨hn1,hn2,hn3⟩:=hn;unfold Xi at hn2;simp only [Zn5] at hn2;obtain ⟨hv,hi,_⟩:=hn2;rw [Zdg] at hi;have hid:(e.Lst.l.map (·.Id)).Nodup:=by
  have:=hi.1;rw [show [e.Id]++e.Lst.l.map Yd=e.Id::e.Lst.l.map (·.Id) from rfl,Znu] at this
  exact this.2
 have hbn:∀ x∈e.Lst.l,Ha x.Id=false:=fun x hx=>hi.2 x.Id (Zo3 _ (ZnJ (f:=Yd) hx))
 have hpt:∀ x∈e.Lst.l,gOn x.Point=true:=fun x hx=>by
  unfold Vk at hn3;rw [Znk,ZnI] at hn3;have:=hn3 x hx;unfold Ux at this;simpa using this
 have ws:(wk0 s a e).s=s:=rfl;have we:(wk0 s a e).e=e:=rfl;unfold Ka at h0;rw [ws,we] at h0;cases c1:WO (wk0 s a e) e.Lst.l with
 | false=>rw [c1] at h0;cases h0
 | true=>
 cases c2:decide (Zn s e.Id < 0) with
 | true=>rw [c1,c2] at h0;cases h0
 | false=>
 cases c3:QN s (Zn s e.Id) != -1 with
 | true=>rw [c1,c2,c3] at h0;cases h0
 | false=>
 cases c4:Z3 (Vu s (Zn s e.Id)) emp with
 | false=>rw [c1,c2,c3,c4] at h0;cases h0
 | true=>
 have hnew:∀ x∈e.Lst.l,x.Id ∉ Qp s:=fun x hx=>by
  unfold WO at c1;rw [QE] at c1;have:=Zn9.1 c1 x hx;exact Zd2 (by simpa using this)
 obtain ⟨k,d,hj,hd,_⟩:=ZcU (f:=fun d:Door=>d.Id) c2
 have hj':Zn s e.Id=(k:Int):=hj;have hl:d.Ended=-1:=by
  rw [hj'] at c3;have:QN s (k:Int)=d.Ended:=by simp [QN,hd]
  rw [this] at c3;exact Zah c3
 have hve:Z3 d.Veil emp=true:=by
  rw [hj'] at c4;have:Vu s (k:Int)=d.Veil:=by simp [Vu,hd]
  rw [this] at c4;exact c4
 have hkn:((k:Nat):Int).toNat=k:=by omega
 have ht:Kb (wk0 s a e)=Qf (Y5 (wk0 s a e) d e.Lst.l) k ⟨false,e.Lst.l.map (·.Id)⟩:=by
  unfold Kb;rw [ws,we,hj',hkn,hd]
 rw [ht];have h1:Prop' (Y5 (wk0 s a e) d e.Lst.l).s:=by
  refine ZdL h (fun y hy i=>?_) ?_ (fun y hy=>?_)
  ·obtain ⟨x,hx,rfl⟩:=Znl.1 hy;exact ZdS ha he (h.dr k d hd) hl hve (hbn x hx) (hnew x hx) (Zn9.1 hv x hx) (hpt x hx) i
  ·rw [ZnZ];exact hid
  ·obtain ⟨x,hx,rfl⟩:=Znl.1 hy;exact hnew x hx
 have hkl:=(ZnA.1 hd).1;have hlook:∀ id∈e.Lst.l.map (·.Id),∃ (j:Nat) (x:Door),Zn (Y5 (wk0 s a e) d e.Lst.l).s id=(j:Int)∧s.Doors.length≤j∧(e.Lst.l.map (fun x=>Xl (wk0 s a e) (Hr d x)))[j - s.Doors.length]? = some x:=by
  intro id hid2;obtain ⟨z,hz,rfl⟩:=Znl.1 hid2;refine ZdQ (f:=fun d:Door=>d.Id) (fun hm=>hnew z hz ?_) ?_
  ·obtain ⟨d2,hd2,e2⟩:=Znl.1 hm;rw [←e2];exact ZdR hd2
  ·rw [ZnZ];exact ZnJ (f:=fun x:Ent=>x.Id) hz
 have hday:=Zd1 he;refine Zdp (w:=Y5 (wk0 s a e) d e.Lst.l) (k:=k) (x:=d) h1 ?_ hday ?_ (fun id hid2=>?_) (fun hnil=>?_) (fun id r hc=>?_)
 ·show (s.Doors++_)[k]? = some d
  rw [ZnH hkl];exact hd
 ·show UC (UF e ⟨false,e.Lst.l.map (·.Id)⟩ d)=false
  have e1:exD (UF e ⟨false,e.Lst.l.map (·.Id)⟩ d)=false:=by
   show (e.Day==-1)=false
   exact beq_eq_false_iff_ne.2 (Zd5 hday)
  have e2:((UF e ⟨false,e.Lst.l.map (·.Id)⟩ d).Why==0)=false:=by show (e.Kind==0)=false;rw [hk];rfl
  have e3:He (UF e ⟨false,e.Lst.l.map (·.Id)⟩ d)=true:=by
   unfold He;show (bif e.Kind==12 then _ else bif e.Kind==11 then _ else bif e.Kind==9 then ZD (((e.Lst.l.map (·.Id)).length:Nat):Int) 2 8&&Z3 d.Veil emp else _)=true
   rw [hk,Zn7];show (ZD (e.Lst.l.length:Int) 2 8&&Z3 d.Veil emp)=true
   rw [hn1,hve];rfl
  have e4:Jq (UF e ⟨false,e.Lst.l.map (·.Id)⟩ d).After.l=true:=(Zdk _).2 hid;unfold UC;rw [e1,e2,e3,e4];rfl
 ·obtain ⟨j,x,g1,g2,_⟩:=hlook id hid2;rw [g1];exact decide_eq_false (by omega)
 ·have:e.Lst.l.length=0:=by
   have h5:(e.Lst.l.map (·.Id)).length=0:=by rw [show e.Lst.l.map (·.Id)=[] from hnil];rfl
   rwa [Zn7] at h5
  rw [this] at hn1;exact absurd hn1 (by decide)
 ·have hm:id∈e.Lst.l.map (·.Id):=by rw [show e.Lst.l.map (·.Id)=id::r from hc];exact Znw ..
  obtain ⟨j,x,g1,g2,g3⟩:=hlook id hm;obtain ⟨z,hz,hz2⟩:=Znl.1 hm;refine ⟨?_,?_⟩
  ·rw [g1];have hx:(Y5 (wk0 s a e) d e.Lst.l).s.Doors[((j:Nat):Int).toNat]? = some x:=by
    rw [show ((j:Nat):Int).toNat=j by omega]
    show (s.Doors++_)[j]? = some x
    rw [ZnL g2];exact g3
   unfold QN;rw [hx];obtain ⟨y,_,rfl⟩:=Znl.1 (Znb g3);rfl
  ·have hz3:z.Id=id:=hz2;exact ZdT h (by rw [←hz3];exact hnew z hz) (by rw [←hz3];exact hbn z hz)
end Go.AM
namespace Go.AM
open Go
theorem ZdU {w:Wk} {k:Nat} {x:Door} {a:NL Str} (hx:w.s.Doors[k]? = some x):Qf w k a={ w with s:={ w.s with Doors:=ZK w.s.Doors k (UF w.e a),Units:=UH w.e x.Id a w.s.Units } }:=by
 unfold Qf;rw [hx];rfl
theorem ZdA {e:Event} {a:NL Str} {d:Door} (hday:ZD e.Day 0 100000=true) (hk:e.Kind≠0) (ht:He (UF e a d)=true) (hs:a.l.Nodup):UC (UF e a d)=false:=by
 have e1:exD (UF e a d)=false:=by
  show (e.Day==-1)=false
  exact beq_eq_false_iff_ne.2 (Zd5 hday)
 have e2:((UF e a d).Why==0)=false:=by
  show (e.Kind==0)=false
  exact beq_eq_false_iff_ne.2 hk
 have e4:Jq (UF e a d).After.l=true:=(Zdk _).2 hs;unfold UC;rw [e1,e2,ht,e4];rfl
theorem ZdV {id:Str} {n0:Nat}:∀ (l:List Int) (w:Wk),Prop' w.s→w.e.Kind=10→ZD w.e.Day 0 100000=true→l.Nodup→
 (∀ k∈l,0≤k∧k < n0∧∃ x:Door,w.s.Doors[k.toNat]? = some x∧Z3 x.Veil emp=true)→(n0:Int)≤Zn w.s id→QN w.s (Zn w.s id)=-1→
 (∀ u∈w.s.Units,Qv [u.Id,u.Door]=true→Qv [u.Id,id]=true)→Prop' (Yg w l ⟨false,[id]⟩).s
 | [],w,h,_,_,_,_,_,_,_=>h
 | k::r,w,h,hk,hday,hn,hl,hf,hd,hu=>by
  obtain ⟨k0,k1,x,hx,hv⟩:=hl k (Znw ..);rw [Znu] at hn;have hA:(⟨false,[id]⟩:NL Str).l=[id]:=rfl;have hend:UC (UF w.e ⟨false,[id]⟩ x)=false:=by
   refine ZdA hday (by rw [hk];decide) ?_ (by simp)
   unfold He;show (bif w.e.Kind==12 then _ else bif w.e.Kind==11 then _ else bif w.e.Kind==9 then _ else bif w.e.Kind==10 then (1:Int)==1&&Z3 x.Veil emp else false)=true
   rw [hk];show ((1:Int)==1&&Z3 x.Veil emp)=true
   rw [hv];rfl
  have h1:=Zdp (w:=w) (k:=k.toNat) (x:=x) (a:=⟨false,[id]⟩) h hx hday hend
   (fun i hi=>by
    rw [hA,Zno] at hi;subst hi;exact decide_eq_false (by omega))
   (fun hc=>by cases hc)
   (fun i q hc=>by
    have hc':[id]=i::q:=hc;cases hc';exact ⟨hd,hu⟩)
  have hform:=ZdU (a:=⟨false,[id]⟩) hx;have hF:Zn (Qf w k.toNat ⟨false,[id]⟩).s id=Zn w.s id:=by
   rw [hform];exact Zdc (FK (fun d:Door=>d.Id) (UF w.e ⟨false,[id]⟩) (fun _=>rfl) _ _)
  refine ZdV r (Qf w k.toNat ⟨false,[id]⟩) h1 (by rw [hform];exact hk) (by rw [hform];exact hday) hn.2 (fun k' hk'=>?_) (by rw [hF];exact hf) ?_ ?_
  ·obtain ⟨a0,a1,y,hy,hvy⟩:=hl k' (ZnV _ hk');refine ⟨a0,a1,y,?_,hvy⟩;rw [hform];show (ZK w.s.Doors k.toNat _)[k'.toNat]? = some y
   have hne:k'.toNat≠k.toNat:=by
    intro e;have:k'=k:=by omega
    exact hn.1 (this▸hk')
   rw [Zbz,if_neg hne];exact hy
  ·rw [hF,hform];refine (ZdO ?_).trans hd;show (ZK w.s.Doors k.toNat _)[(Zn w.s id).toNat]? = _
   rw [Zbz,if_neg (by omega)]
  ·rw [hform];intro u hu2 hi;obtain ⟨v,hv2,rfl⟩:=Znl.1 hu2;revert hi;unfold XO;cases Z3P x.Id v with
   | false=>exact fun hi=>hu v hv2 hi
   | true=>exact fun hi=>hi
theorem Zev {s:Sta} {a:Int} {e:Event} (h:Prop' s) (ha:QM a 0 0=true) (he:Q9 e=true) (hk:e.Kind=10) (h0:Kc (wk0 s a e)=0):Prop' (Kd (wk0 s a e)).s:=by
 have hn:(ZD e.Ids.l.length 2 8&&(Qv (e.Id::e.Ids.l)&&(YO e.Number&&gOn e.Point)))=true:=by have:=ZcV he;rw [ZcW hk] at this;exact this
 simp only [Zn5] at hn;obtain ⟨hn1,hn2,hn3,hn4⟩:=hn;rw [Zdg,Znu] at hn2;have ws:(wk0 s a e).s=s:=rfl;have we:(wk0 s a e).e=e:=rfl;unfold Kc at h0;rw [ws,we] at h0;cases c1:twB (wk0 s a e) e.Id with
 | true=>rw [c1] at h0;cases h0
 | false=>
 cases c2:(Zf (wk0 s a e)).any (fun x=>-1==x) with
 | true=>rw [c1,c2] at h0;cases h0
 | false=>
 rw [c1,c2,cond_false,cond_false,QE] at h0;cases c3:(Zf (wk0 s a e)).all (fun k=>JG s (XP s ((Zf (wk0 s a e)).headD 0)) k) with
 | false=>rw [c3] at h0;cases h0
 | true=>
 have hnew:=Zd2 c1;have hat:∀ k∈Zf (wk0 s a e),∃ (j:Nat) (x:Door),k=(j:Int)∧s.Doors[j]? = some x∧x.Ended=-1∧Z3 x.Veil emp=true:=by
  intro k hkm;obtain ⟨id,hid,hkid⟩:=Znl.1 hkm;have hne:Zn s id≠-1:=by
   intro hc;have:=ZnI.1 c2 k hkm;rw [←hkid] at this;exact this (by rw [show Zn (wk0 s a e).s id=-1 from hc];rfl)
  have hf:decide (Zn s id < 0)=false:=by
   cases hc:decide (Zn s id < 0) with
   | false=>rfl
   | true=>exact absurd (Ze7 (f:=fun d:Door=>d.Id) hc) hne
  obtain ⟨j,x,h1,h2,_⟩:=ZcU (f:=fun d:Door=>d.Id) hf
  have h1':Zn s id=(j:Int):=h1;have hj:k=(j:Int):=hkid.symm.trans h1';have ho:=Zn9.1 c3 k hkm;rw [hj] at ho;unfold JG at ho;have d1:QN s (j:Int)=x.Ended:=by simp [QN,h2]
  have d2:Vu s (j:Int)=x.Veil:=by simp [Vu,h2]
  rw [d1,d2] at ho;simp at ho;exact ⟨j,x,hj,h2,ho.1.1,ho.1.2⟩
 have hnd:(Zf (wk0 s a e)).Nodup:=by
  have key:∀ l:List Str,(∀ id∈l,Zn s id∈Zf (wk0 s a e))→l.Nodup→(l.map (fun id=>Zn s id)).Nodup:=by
   intro l;induction l with
   | nil=>intro _ _;exact List.nodup_nil
   | cons id r ih=>
    intro hm hnn;rw [Znu] at hnn;rw [Zny,Znu];refine ⟨fun hc=>?_,ih (fun i hi=>hm i (ZnV _ hi)) hnn.2⟩
    obtain ⟨id2,hid2,hc2⟩:=Znl.1 hc;have f1:decide (Zn s id < 0)=false:=by
     obtain ⟨j,_,hj,_⟩:=hat _ (hm id (Znw ..));exact decide_eq_false (by omega)
    have f2:decide (Zn s id2 < 0)=false:=by
     obtain ⟨j,_,hj,_⟩:=hat _ (hm id2 (ZnV _ hid2));exact decide_eq_false (by omega)
    obtain ⟨j1,x1,g1,g2,g3⟩:=ZcU (f:=fun d:Door=>d.Id) f1
    obtain ⟨j2,x2,g4,g5,g6⟩:=ZcU (f:=fun d:Door=>d.Id) f2
    have g1':Zn s id=(j1:Int):=g1;have g4':Zn s id2=(j2:Int):=g4;have hj:j1=j2:=by omega
    subst hj;rw [g2] at g5;cases g5;exact hnn.1 ((g3.symm.trans g6)▸hid2)
  exact key e.Ids.l (fun id hid=>ZnJ (f:=fun id=>Zn s id) hid) hn2.1.2
 have hday:=Zd1 he;obtain ⟨k0,r,hats⟩:∃ k0 r,Zf (wk0 s a e)=k0::r:=by
  cases hA:Zf (wk0 s a e) with
  | cons k0 r=>exact ⟨k0,r,rfl⟩
  | nil=>
   exfalso;have h5:e.Ids.l.length=0:=by
    have:(Zf (wk0 s a e)).length=e.Ids.l.length:=Zn7 _;rw [←this,hA];rfl
   rw [h5] at hn1;exact absurd hn1 (by decide)
 obtain ⟨j0,d,hj0,hd,hl,hve⟩:=hat k0 (by rw [hats];exact Znw ..)
 have hhd:((Zf (wk0 s a e)).headD 0).toNat=j0:=by
  rw [hats];show k0.toNat=j0
  omega
 have ht:Kd (wk0 s a e)=Yg (Qw (wk0 s a e) (WP (wk0 s a e) d)) (Zf (wk0 s a e)) ⟨false,[e.Id]⟩:=by
  unfold Kd;rw [hhd,ws,hd];rfl
 rw [ht];have h1:Prop' (Qw (wk0 s a e) (WP (wk0 s a e) d)).s:=
  Zdx h (fun i=>ZdS ha he (h.dr j0 d hd) hl hve (hn2.2 _ (Znw ..)) hnew hn3 hn4 i) c1
 obtain ⟨j,x,g1,g2,g3⟩:=ZdQ (f:=fun d:Door=>d.Id) (l:=s.Doors) (m:=[Xl (wk0 s a e) (WP (wk0 s a e) d)]) (id:=e.Id)
  (fun hm=>hnew (by obtain ⟨d2,hd2,e2⟩:=Znl.1 hm;rw [←e2];exact ZdR hd2)) (Zno.2 rfl)
 have g1':Zn (Qw (wk0 s a e) (WP (wk0 s a e) d)).s e.Id=(j:Int):=g1;refine ZdV (n0:=s.Doors.length) (Zf (wk0 s a e)) (Qw (wk0 s a e) (WP (wk0 s a e) d)) h1 hk hday hnd (fun k hkm=>?_) (by rw [g1'];omega) ?_ (ZdT h hnew (hn2.2 _ (Znw ..)))
 ·obtain ⟨i,y,e1,e2,_,e4⟩:=hat k hkm;have hil:=(ZnA.1 e2).1;refine ⟨by omega,by omega,y,?_,e4⟩
  show (s.Doors++_)[k.toNat]? = some y
  rw [show k.toNat=i by omega,ZnH hil]
  exact e2
 ·rw [g1'];have hx:(Qw (wk0 s a e) (WP (wk0 s a e) d)).s.Doors[((j:Nat):Int).toNat]? = some x:=by
   rw [show ((j:Nat):Int).toNat=j by omega]
   show (s.Doors++_)[j]? = some x
   rw [ZnL g2];exact g3
  unfold QN;rw [hx];have:=Znb g3;rw [Zno] at this;subst this;rfl
end Go.AM
namespace Go.AM
open Go
theorem ZdW (w:Wk) (B:List Building) (l:List Door):∀ i,Y6 (JH w B) l i=JH (Y6 w l i) B
 | 0=>rfl
 | i+1=>by
  have ih:=ZdW w B l i;unfold Y6;split
  ·rename_i x hx;have e1:(JH w B).e.Id=w.e.Id:=rfl;rw [e1];cases NV w.e.Id x with
   | false=>exact ih
   | true=>
    rw [cond_true,cond_true,ih];unfold Qf;show (match (Y6 w l i).s.Doors[i]? with | some x=>_ | none=>_)=_
    cases (Y6 w l i).s.Doors[i]? with
    | none=>rfl
    | some y=>rfl
  ·exact ih
theorem ZdX {w:Wk} (h:Prop' w.s) (hk:w.e.Kind=11) (hday:ZD w.e.Day 0 100000=true) (hid:w.e.Id≠emp):∀ i,
 Prop' (Y6 w w.s.Doors i).s∧(Y6 w w.s.Doors i).e=w.e∧(Y6 w w.s.Doors i).s.Buildings=w.s.Buildings∧(∀ j,i≤j→(Y6 w w.s.Doors i).s.Doors[j]? = w.s.Doors[j]?)∧
 (∀ j x,j < i→(Y6 w w.s.Doors i).s.Doors[j]? = some x→x.Building=w.e.Id→x.Ended≠-1)
 | 0=>⟨h,rfl,rfl,fun _ _=>rfl,fun j x hj=>absurd hj (Zof _)⟩
 | i+1=>by
  obtain ⟨h1,h2,h3,h4,h5⟩:=ZdX h hk hday hid i;have hrec:∀ x,w.s.Doors[i]? = some x→Y6 w w.s.Doors (i+1)=bif NV w.e.Id x then Qf (Y6 w w.s.Doors i) i ⟨false,[]⟩ else Y6 w w.s.Doors i:=fun x hx=>by
   show (match w.s.Doors[i]? with | some x=>_ | none=>_)=_
   rw [hx]
  cases hx:w.s.Doors[i]? with
  | none=>
   have e1:Y6 w w.s.Doors (i+1)=Y6 w w.s.Doors i:=by
    show (match w.s.Doors[i]? with | some x=>_ | none=>_)=_
    rw [hx]
   rw [e1];refine ⟨h1,h2,h3,fun j hj=>h4 j (by omega),fun j x hj hjx=>?_⟩
   by_cases hji:j=i
   ·subst hji;rw [h4 j (Znr _),hx] at hjx;cases hjx
   ·exact h5 j x (by omega) hjx
  | some x=>
   rw [hrec x hx];cases hh:NV w.e.Id x with
   | false=>
    rw [cond_false];refine ⟨h1,h2,h3,fun j hj=>h4 j (by omega),fun j y hj hjy hb=>?_⟩
    by_cases hji:j=i
    ·subst hji;rw [h4 j (Znr _),hx] at hjy;cases hjy;intro he;unfold NV at hh;rw [hb,he,(Ky _ _).2 rfl] at hh;cases hh
    ·exact h5 j y (by omega) hjy hb
   | true=>
    rw [cond_true];have hxi:(Y6 w w.s.Doors i).s.Doors[i]? = some x:=by rw [h4 i (Znr _)];exact hx
    unfold NV at hh;rw [Zn5,Ky] at hh;have hve:Z3 x.Veil emp=true:=by
     cases hv:Z3 x.Veil emp with
     | true=>rfl
     | false=>
      exfalso;have q:=((Zd0 _ i x).1 (h1.dr i x hxi)).2.2.2.2 hv;unfold NN at q;simp only [Zn5] at q;exact hid (hh.1.symm.trans ((Ky _ _).1 q.1))
    have hend:UC (UF (Y6 w w.s.Doors i).e ⟨false,[]⟩ x)=false:=by
     rw [h2];refine ZdA hday (by rw [hk];decide) ?_ List.nodup_nil
     unfold He;show (bif w.e.Kind==12 then _ else bif w.e.Kind==11 then (0:Int)==0&&Z3 x.Veil emp else _)=true
     rw [hk];show ((0:Int)==0&&Z3 x.Veil emp)=true
     rw [hve];rfl
    have hform:=ZdU (a:=⟨false,[]⟩) hxi;refine ⟨Zdp h1 hxi (by rw [h2];exact hday) hend (fun id hc=>(by cases hc)) (fun _=>Or.inr (by rw [h2];exact hk)) (fun id r hc=>(by cases hc)),by rw [hform];exact h2,by rw [hform];exact h3,fun j hj=>?_,fun j y hj hjy hb=>?_⟩
    ·rw [hform];show (ZK (Y6 w w.s.Doors i).s.Doors i _)[j]? = _
     rw [Zbz,if_neg (by omega)]
     exact h4 j (by omega)
    ·rw [hform] at hjy;have hjy':(ZK (Y6 w w.s.Doors i).s.Doors i (UF (Y6 w w.s.Doors i).e ⟨false,[]⟩))[j]? = some y:=hjy;rw [Zbz] at hjy';by_cases hji:j=i
     ·rw [if_pos hji,hxi] at hjy';cases hjy';show (Y6 w w.s.Doors i).e.Day≠-1
      rw [h2];exact Zd5 hday
     ·rw [if_neg hji] at hjy';exact h5 j y (by omega) hjy' hb
theorem Zew {e:Event} (hday:ZD e.Day 0 100000=true) {x:Building} (h:Vq x=true):Vq (Ke e x)=true:=by
 unfold Vq at h ⊢;rw [ZdJ] at h ⊢;rw [Zn5] at h ⊢;refine ⟨?_,h.2⟩;have h1:=h.1;unfold QM at h1 ⊢;simp only [Zn5] at h1 ⊢;exact ⟨h1.1,Zde hday,h1.2.2⟩
theorem Zex {s:Sta} {a:Int} {e:Event} (h:Prop' s) (he:Q9 e=true) (hk:e.Kind=11) (h0:Hs (wk0 s a e)=0):Prop' (Ht (wk0 s a e)).s:=by
 have hn:ZZ e.Id=true:=by have:=ZcV he;rw [ZcW hk] at this;exact this
 have hid:e.Id≠emp:=by
  intro hc;rw [hc] at hn;exact absurd hn (by decide +kernel)
 have hday:=Zd1 he;have ws:(wk0 s a e).s=s:=rfl;have we:(wk0 s a e).e=e:=rfl;unfold Hs at h0;rw [ws,we] at h0;cases c1:decide (Y1 s e.Id < 0) with
 | true=>rw [c1] at h0;cases h0
 | false=>
 obtain ⟨k,b,hj,hb,hbid⟩:=ZcU (f:=fun b:Building=>b.Id) c1
 have hj':Y1 s e.Id=(k:Int):=hj;obtain ⟨h1,h2,h3,h4,h5⟩:=ZdX (w:=wk0 s a e) h hk hday hid s.Doors.length;have ht:Ht (wk0 s a e)=JH (Y6 (wk0 s a e) s.Doors s.Doors.length) (ZK s.Buildings k (Ke e)):=by
  unfold Ht;rw [ws,we,hj',show ((k:Nat):Int).toNat=k by omega]
  exact ZdW _ _ _ _
 rw [ht];have h3':(Y6 (wk0 s a e) s.Doors s.Doors.length).s.Buildings=s.Buildings:=h3;have h5':∀ (j:Nat) (x:Door),(Y6 (wk0 s a e) s.Doors s.Doors.length).s.Doors[j]? = some x→x.Building=e.Id→x.Ended≠-1:=by
  intro j x hjx hbx;by_cases hl:j < s.Doors.length
  ·exact h5 j x hl hjx hbx
  ·have:=h4 j (Nat.not_lt.1 hl);rw [show (Y6 (wk0 s a e) (wk0 s a e).s.Doors s.Doors.length)=Y6 (wk0 s a e) s.Doors s.Doors.length from rfl,hjx] at this
   have hnone:s.Doors[j]? = none:=List.getElem?_eq_none_iff.2 (Nat.not_lt.1 hl);rw [ws,hnone] at this;cases this
 have h1':Prop' (Y6 (wk0 s a e) s.Doors s.Doors.length).s:=h1;generalize Y6 (wk0 s a e) s.Doors s.Doors.length=w1 at *;have hI:(ZK s.Buildings k (Ke e)).map (·.Id)=w1.s.Buildings.map (·.Id):=by rw [h3'];exact FK (fun x:Building=>x.Id) (Ke e) (fun _=>rfl) _ _
 refine ⟨h1'.rg,h1'.st,fun x hx=>?_,fun i d hd=>?_,h1'.un,?_,ZcY h1' rfl rfl⟩
 ·have:=Zn9.1 (ZbB (P:=Vq) (k:=k) (f:=Ke e) (Zn9.2 h.bu) (fun x hx=>Zew hday hx)) x hx
  exact this
 ·have hd':w1.s.Doors[i]? = some d:=hd;refine Zd6 (h1'.dr i d hd') (fun _ _=>rfl) (fun id _=>Zdc hI) (fun _ _=>rfl) (fun hE _ hf hb2=>?_) (fun _ _ _ h=>h)
  obtain ⟨j,y,g1,g2,g3⟩:=ZcU (f:=fun b:Building=>b.Id) hf
  have g1':Y1 w1.s d.Building=(j:Int):=g1;rw [h3'] at g2;have hne:j≠k:=by
   intro hjk;subst hjk;rw [hb] at g2;cases g2;exact h5' i d hd' (g3.symm.trans hbid) hE
  rw [g1'] at hb2 ⊢;unfold WL at hb2 ⊢;rw [show ((j:Nat):Int).toNat=j by omega] at hb2 ⊢
  have e1:(JH w1 (ZK s.Buildings k (Ke e))).s.Buildings[j]? = w1.s.Buildings[j]?:=by
   show (ZK s.Buildings k (Ke e))[j]? = _
   rw [Zbz,if_neg hne,h3']
  rw [e1];exact hb2
 ·have e1:=Zd8 (s:=w1.s) (t:=(JH w1 (ZK s.Buildings k (Ke e))).s) rfl rfl hI rfl rfl;rw [e1];exact h1'.ids
end Go.AM
namespace Go.AM
open Go
theorem Zey {s:Sta} {a:Int} {e:Event} (h:Prop' s) (he:Q9 e=true) (hk:e.Kind=12) (h0:Hw (wk0 s a e)=0):Prop' (Hy (wk0 s a e)).s:=by
 have hday:=Zd1 he;have ws:(wk0 s a e).s=s:=rfl;have we:(wk0 s a e).e=e:=rfl;have hown:∀ {o c:Int},QM o c 0=true→QM o e.Day 0=true:=fun {o c} h1=>by
  unfold QM at h1 ⊢;simp only [Zn5] at h1 ⊢;exact ⟨h1.1,Zde hday,h1.2.2⟩
 unfold Hw at h0;unfold Hy;rw [ws,we] at h0 ⊢;cases c1:Kg s e.Id with
 | true=>
  have hI:(ZK s.Regions (Qo s e.Id).toNat (UL e)).map (·.Id)=s.Regions.map (·.Id):=FK (fun x:Region=>x.Id) (UL e) (fun _=>rfl) _ _
  rw [cond_true];refine ⟨fun x hx=>?_,h.st,h.bu,fun i d hd=>h.dr i d hd,h.un,?_,ZcY h rfl rfl⟩
  ·refine Zn9.1 (ZbB (P:=Vo) (Zn9.2 h.rg) (fun x hx=>?_)) x hx
   unfold Vo at hx ⊢;rw [Zdu] at hx ⊢;rw [Zn5] at hx ⊢;exact ⟨hown hx.1,hx.2⟩
  ·have e1:=Zd8 (s:=s) (t:=(Hu (wk0 s a e) (ZK s.Regions (Qo s e.Id).toNat (UL e))).s) hI rfl rfl rfl rfl;rw [e1];exact h.ids
 | false=>
 rw [c1,cond_false] at h0;rw [cond_false];cases c2:Kh s e.Id with
 | true=>
  rw [c2,cond_true] at h0;rw [cond_true];have hon:Kf s e.Id=false:=by
   cases hc:Kf s e.Id with
   | false=>rfl
   | true=>rw [hc] at h0;cases h0
  unfold Kh at c2;rw [Zn5,Znk] at c2;obtain ⟨k,z,g1,g2,g3⟩:=ZcU (f:=fun x:Street=>x.Id) c2.1
  have g1':ZL s e.Id=(k:Int):=g1;rw [g1',show ((k:Nat):Int).toNat=k by omega]
  have hI:(ZK s.Streets k (UM e)).map (·.Id)=s.Streets.map (·.Id):=FK (fun x:Street=>x.Id) (UM e) (fun _=>rfl) _ _
  refine ⟨h.rg,fun x hx=>?_,h.bu,fun i d hd=>?_,h.un,?_,ZcY h rfl rfl⟩
  ·refine Zn9.1 (ZbB (P:=Vp) (Zn9.2 h.st) (fun x hx=>?_)) x hx
   unfold Vp at hx ⊢;rw [ZdI] at hx ⊢;rw [Zn5] at hx ⊢;exact ⟨hown hx.1,hx.2⟩
  ·have hd':s.Doors[i]? = some d:=hd;refine Zd6 (h.dr i d hd') (fun _ _=>rfl) (fun _ _=>rfl) (fun id _=>Zdc hI) (fun _ _ _ h=>h) (fun hE _ hf hs2=>?_)
   obtain ⟨j,y,q1,q2,q3⟩:=ZcU (f:=fun x:Street=>x.Id) hf
   have q1':ZL s d.Street=(j:Int):=q1;have hne:j≠k:=by
    intro hjk;subst hjk;rw [g2] at q2;cases q2;have h9:=ZnI.1 hon d (Znb hd');exact h9 (by rw [show Z3 d.Street e.Id=true from (Ky _ _).2 (q3.symm.trans g3),hE];rfl)
   rw [q1'] at hs2 ⊢;unfold QF at hs2 ⊢;rw [show ((j:Nat):Int).toNat=j by omega] at hs2 ⊢
   have e1:(Hv (wk0 s a e) (ZK s.Streets k (UM e))).s.Streets[j]? = s.Streets[j]?:=by
    show (ZK s.Streets k (UM e))[j]? = _
    rw [Zbz,if_neg hne]
   rw [e1];exact hs2
  ·have e1:=Zd8 (s:=s) (t:=(Hv (wk0 s a e) (ZK s.Streets k (UM e))).s) rfl hI rfl rfl rfl;rw [e1];exact h.ids
 | false=>
 rw [c2,cond_false] at h0;rw [cond_false];cases c3:Ki s e.Id with
 | true=>
  rw [cond_true];unfold Ki at c3;rw [Zn5,Znk] at c3;obtain ⟨k,x,g1,g2,g3⟩:=ZcU (f:=fun x:Door=>x.Id) c3.1
  have g1':Zn s e.Id=(k:Int):=g1;rw [g1',show ((k:Nat):Int).toNat=k by omega]
  refine Zdp (w:=wk0 s a e) h g2 hday ?_ (fun id hc=>(by cases hc)) (fun _=>Or.inl hk) (fun id r hc=>(by cases hc))
  refine ZdA hday (by rw [we,hk];decide) ?_ List.nodup_nil
  unfold He;show (bif e.Kind==12 then (0:Int)==0 else _)=true
  rw [hk];rfl
 | false=>
 rw [c3,cond_false] at h0;rw [cond_false];cases c4:UO s e.Id with
 | false=>
  rw [c4,cond_false] at h0;cases hz:twB (wk0 s a e) e.Id&&decide (Y1 s e.Id < 0) with
  | true=>rw [hz] at h0;cases h0
  | false=>rw [hz] at h0;cases h0
 | true=>
  have hI:(ZK s.Units (Wf s e.Id).toNat (UN e)).map (·.Id)=s.Units.map (·.Id):=FK (fun x:Unit'=>x.Id) (UN e) (fun _=>rfl) _ _
  refine ⟨h.rg,h.st,h.bu,fun i d hd=>h.dr i d hd,fun u hu=>?_,?_,ZcY h rfl rfl⟩
  ·refine Zn9.1 (ZbB (P:=Vs s) (Zn9.2 h.un) (fun x hx=>?_)) u hu
   rw [Zdl] at hx ⊢;obtain ⟨o1,o2,o3,o4,o5⟩:=hx;refine ⟨o1,?_,o3,fun hE=>absurd hE (Zd5 hday),fun _=>Or.inl hk⟩
   show QM 0 e.Day x.From=true
   unfold QM at o2 ⊢;simp only [Zn5] at o2 ⊢;exact ⟨o2.1,Zde hday,o2.2.2⟩
  ·have e1:=Zd8 (s:=s) (t:=(Qx (wk0 s a e) (ZK s.Units (Wf s e.Id).toNat (UN e))).s) rfl rfl rfl rfl hI;rw [e1];exact h.ids
def itT (s:Sta):Nat→Int→Int
 | 0,x=>x
 | n+1,x=>itT s n (XJ s x)
theorem Zdq (s:Sta):∀ n x,itT s (n+1) x=XJ s (itT s n x)
 | 0,_=>rfl
 | n+1,x=>Zdq s n (XJ s x)
theorem Zdh (s:Sta) (m:Nat) (x:Int):∀ n,itT s (m+n) x=itT s n (itT s m x)
 | 0=>rfl
 | n+1=>by rw [show m+(n+1)=(m+n)+1 by omega,Zdq,Zdh s m x n,Zdq]
theorem ZdY (s:Sta):∀ n x,chN s n x=true↔∃ j,j≤n∧itT s j x < 0
 | 0,x=>by
  unfold chN;rw [Znk,decide_eq_false_iff_not];exact ⟨fun h=>⟨0,Znr _,by show x < 0;omega⟩,fun ⟨j,h1,h2⟩=>by
   have:j=0:=by omega
   subst this;have:x < 0:=h2;omega⟩
 | n+1,x=>by
  unfold chN;cases hx:decide (x ≥ 0) with
  | false=>
   rw [cond_false];exact ⟨fun _=>⟨0,Zn6 _,by have:=of_decide_eq_false hx;show x < 0;omega⟩,fun _=>rfl⟩
  | true=>
   rw [cond_true,ZdY s n];constructor
   ·rintro ⟨j,h1,h2⟩;exact ⟨j+1,by omega,h2⟩
   ·rintro ⟨j,h1,h2⟩;cases j with
    | zero=>
     have:x < 0:=h2;have:=of_decide_eq_true hx;omega
    | succ j=>exact ⟨j,by omega,h2⟩
theorem ZdZ:∀ (l m:List Int),l.Nodup→(∀ x∈l,x∈m)→l.length≤m.length
 | [],m,_,_=>Zn6 _
 | a::r,m,h,hs=>by
  rw [Znu] at h;have ha:=hs a (Znw ..);have:=ZdZ r (m.erase a) h.2 (fun x hx=>(List.mem_erase_of_ne (by rintro rfl;exact h.1 hx)).2 (hs x (ZnV _ hx)))
  rw [List.length_erase_of_mem ha] at this;have hl:0 < m.length:=List.length_pos_of_mem ha;rw [ZnK];omega
theorem least (P:Nat→Prop):∀ n,P n→∃ m,P m∧∀ k,k < m→¬ P k:=by
 intro n;induction n using Nat.strongRecOn with
 | _ n ih=>
  intro h;by_cases hc:∃ k,k < n∧P k
  ·obtain ⟨k,h1,h2⟩:=hc;exact ih k h1 h2
  ·exact ⟨n,h,fun k hk hp=>hc ⟨k,hk,hp⟩⟩
theorem Zez (s:Sta) {n:Nat} {x:Int} (h:chN s n x=true):chN s (s.Merged.length+1) x=true:=by
 rw [ZdY] at h ⊢;obtain ⟨j,_,hj⟩:=h;obtain ⟨m,hm,hmin⟩:=least (fun j=>itT s j x < 0) j hj
 refine ⟨m,?_,hm⟩;have hnd:((List.range (m - 1)).map (fun i=>itT s i x)).Nodup:=by
  rw [List.nodup_iff_pairwise_ne,List.pairwise_map];refine List.Pairwise.imp_of_mem ?_ (List.nodup_iff_pairwise_ne.1 List.nodup_range);intro i k hi hk hne heq;rw [List.mem_range] at hi hk;rcases Nat.lt_or_gt_of_ne hne with hlt | hlt
  ·have h1:itT s (k+(m - k)) x=itT s (i+(m - k)) x:=by rw [Zdh,Zdh,heq]
   rw [show k+(m - k)=m by omega] at h1
   exact hmin (i+(m - k)) (by omega) (by rw [←h1];exact hm)
  ·have h1:itT s (i+(m - i)) x=itT s (k+(m - i)) x:=by rw [Zdh,Zdh,heq]
   rw [show i+(m - i)=m by omega] at h1
   exact hmin (k+(m - i)) (by omega) (by rw [←h1];exact hm)
 have hsub:∀ y∈(List.range (m - 1)).map (fun i=>itT s i x),y∈s.Merged.map (·.b):=by
  intro y hy;obtain ⟨i,hi,rfl⟩:=Znl.1 hy;rw [List.mem_range] at hi;have h1:=hmin (i+1) (by omega)
  rw [Zdq] at h1;unfold XJ at h1;cases hf:s.Merged.find? (fun p=>p.b==itT s i x) with
  | none=>rw [hf] at h1;exact absurd (by decide) h1
  | some p=>
   have h2:=List.find?_some hf;have h3:=Zok hf;rw [←(by simpa using h2:p.b=itT s i x)]
   exact ZnJ h3
 have:=ZdZ _ _ hnd hsub;rw [Zn7,Zn7,List.length_range] at this;omega
end Go.AM
namespace Go.AM
open Go
theorem Ze0:∀ (l:List Pair) (K:List Int) (b:Int),(l.foldl (fun K p=>Qi Vm K p.b) K).any (Vm b)=true→K.any (Vm b)=true∨∃ p∈l,p.b=b
 | [],K,b,h=>Or.inl h
 | p::r,K,b,h=>by
  rw [List.foldl_cons] at h;rcases Ze0 r _ b h with h1 | ⟨q,hq,hb⟩
  ·unfold Qi at h1;cases hc:K.any (Vm p.b) with
   | true=>rw [hc,cond_true] at h1;exact Or.inl h1
   | false=>
    rw [hc,cond_false,List.any_append,Bool.or_eq_true] at h1;rcases h1 with h1 | h1
    ·exact Or.inl h1
    ·refine Or.inr ⟨p,Znw ..,?_⟩;unfold Vm at h1;simp at h1;exact h1.symm
  ·exact Or.inr ⟨q,ZnV _ hq,hb⟩
theorem ZeA {s:Sta} {a:Int} {e:Event} (h:Prop' s) (he:Q9 e=true) (hk:e.Kind=13) (h0:Hn (wk0 s a e)=0):Prop' (Ho (wk0 s a e)).s:=by
 have hn:K5 e.A e.B=true:=by have:=ZcV he;rw [ZcW hk] at this;exact this
 have ws:(wk0 s a e).s=s:=rfl;have we:(wk0 s a e).e=e:=rfl;unfold K5 at hn;simp only [Zn5] at hn;obtain ⟨n1,n2,n3⟩:=hn;have w0:ZD 0 (-1) 100000=true:=rfl;have hpo:Y2 ⟨e.A,e.B⟩=true:=by
  show (QM e.A 0 0&&(QM e.B 0 0&&!(e.A==e.B)))=true
  unfold QM;rw [n1,n2,w0,Zdf];simpa using n3
 have hA0:0≤e.A:=by
  unfold ZD at n1;simp only [Zn5,decide_eq_true_eq] at n1;exact n1.1
 unfold Hn at h0;rw [ws,we] at h0;cases c1:decide (XJ s e.B ≥ 0) with
 | true=>rw [c1] at h0;cases h0
 | false=>
 cases c2:WN s e.B (s.Merged.length+2) e.A with
 | true=>rw [c1,c2] at h0;cases h0
 | false=>
 have hp:=h.pa;unfold WK at hp;simp only [Zn5] at hp;obtain ⟨p1,p2,p3⟩:=hp;unfold UB at p1;rw [Zda] at p1;have hpk:∀ q∈s.Merged,Y2 q=true:=by
  intro q hq;obtain ⟨j,hj⟩:=List.mem_iff_getElem?.1 hq;have:=p1 j q hj;rw [Zn5] at this;exact this.1
 have hq0:∀ q∈s.Merged,0≤q.a:=by
  intro q hq;have:=hpk q hq;unfold Y2 QM ZD at this;simp only [Zn5,decide_eq_true_eq] at this;exact this.1.1.1
 have hno:∀ q∈s.Merged,q.b≠e.B:=by
  intro q hq hb;have:=of_decide_eq_false c1;unfold XJ at this;cases hf:s.Merged.find? (fun p=>p.b==e.B) with
  | none=>
   have h2:=Zo9.1 hf q hq;exact h2 (by rw [hb];exact beq_self_eq_true _)
  | some p=>
   rw [hf] at this;have h3:=hq0 p (Zok hf);exact this h3
 have ht:(Ho (wk0 s a e)).s={ s with Merged:=s.Merged++[⟨e.A,e.B⟩] }:=rfl
 rw [ht];refine ⟨h.rg,h.st,h.bu,fun i d hd=>h.dr i d hd,h.un,h.ids,?_⟩
 have tk:∀ x,XJ { s with Merged:=s.Merged++[⟨e.A,e.B⟩] } x=if x=e.B then e.A else XJ s x:=by
  intro x;show (match (s.Merged++[(⟨e.A,e.B⟩:Pair)]).find? (fun p:Pair=>p.b==x) with | some p=>p.a | none=>-1)=_
  rw [List.find?_append];by_cases hx:x=e.B
  ·rw [if_pos hx];have hf:s.Merged.find? (fun p=>p.b==x)=none:=by
    rw [Zo9];intro q hq hc;exact hno q hq (by rw [←hx];simpa using hc)
   rw [hf,Option.none_or];have:List.find? (fun p:Pair=>p.b==x) [⟨e.A,e.B⟩]=some (⟨e.A,e.B⟩:Pair):=by
    rw [hx];simp
   rw [this]
  ·rw [if_neg hx];have:List.find? (fun p:Pair=>p.b==x) [⟨e.A,e.B⟩]=none:=by
    rw [Zo9];intro q hq;rw [Zno] at hq;subst hq;intro hc;exact hx (show e.B=x by simpa using hc).symm
   rw [this,Option.or_none];rfl
 have hA:∀ n m x,m≤n→chN s m x=true→WN s e.B (n+1) x=false→∃ j,chN { s with Merged:=s.Merged++[⟨e.A,e.B⟩] } j x=true:=by
  intro n;induction n with
  | zero=>
   intro m x hm hc _;have:m=0:=by omega
   subst this;exact ⟨0,hc⟩
  | succ n ih=>
   intro m x hm hc hz;cases hx:decide (x ≥ 0) with
   | false=>exact ⟨0,by unfold chN;rw [hx];rfl⟩
   | true=>
    unfold WN at hz;rw [hx,cond_true] at hz;cases hb:x==e.B with
    | true=>rw [hb] at hz;cases hz
    | false=>
     rw [hb,cond_false] at hz;cases m with
     | zero=>
      unfold chN at hc;rw [hx] at hc;cases hc
     | succ m=>
      unfold chN at hc;rw [hx,cond_true] at hc;obtain ⟨j,hj⟩:=ih m (XJ s x) (by omega) hc hz
      refine ⟨j+1,?_⟩;unfold chN;rw [hx,cond_true,tk,if_neg (by simpa using hb)]
      exact hj
 have hchA:chN s (s.Merged.length+1) e.A=true:=by
  by_cases hin:∃ q∈s.Merged,q.b=e.A
  ·obtain ⟨q,hq,hb⟩:=hin;have:=Zn9.1 p3 q hq;rw [hb] at this;exact this
  ·have hf:XJ s e.A=-1:=by
    unfold XJ;have:s.Merged.find? (fun p=>p.b==e.A)=none:=by
     rw [Zo9];intro q hq hc;exact hin ⟨q,hq,by simpa using hc⟩
    rw [this]
   unfold chN;rw [hf];cases decide (e.A ≥ 0) with
   | false=>rfl
   | true=>
    rw [cond_true];cases s.Merged.length with
    | zero=>rfl
    | succ n=>rfl
 obtain ⟨jA,hjA⟩:=hA (s.Merged.length+1) (s.Merged.length+1) e.A (Znr _) hchA c2;have hX:∀ n x,chN s n x=true→∃ j,chN { s with Merged:=s.Merged++[⟨e.A,e.B⟩] } j x=true:=by
  intro n;induction n with
  | zero=>intro x hc;exact ⟨0,hc⟩
  | succ n ih=>
   intro x hc;cases hx:decide (x ≥ 0) with
   | false=>exact ⟨0,by unfold chN;rw [hx];rfl⟩
   | true=>
    by_cases hb:x=e.B
    ·refine ⟨jA+1,?_⟩;unfold chN;rw [hx,cond_true,tk,if_pos hb];exact hjA
    ·unfold chN at hc;rw [hx,cond_true] at hc;obtain ⟨j,hj⟩:=ih _ hc;refine ⟨j+1,?_⟩;unfold chN;rw [hx,cond_true,tk,if_neg hb];exact hj
 unfold WK;simp only [Zn5];refine ⟨?_,p2,?_⟩
 ·unfold UB;rw [Zda];intro j q hq;have hq':(s.Merged++[⟨e.A,e.B⟩])[j]? = some q:=hq;rw [Znm];by_cases hl:j < s.Merged.length
  ·rw [ZnH hl] at hq';have:=p1 j q hq';rw [Znm] at this;have e1:QV (s.Merged++[⟨e.A,e.B⟩]) j=QV s.Merged j:=by
    unfold QV;rw [List.take_append_of_le_length (by omega)]
   show (Y2 q&&!(QV (s.Merged++[⟨e.A,e.B⟩]) j).any (Vm q.b))=true
   rw [e1];exact this
  ·rw [ZnL (by omega)] at hq'
   have:=Znb hq';rw [Zno] at this;subst this;have hj:j=s.Merged.length:=by
    have:=(ZnA.1 hq').1;simp at this;omega
   show (Y2 ⟨e.A,e.B⟩&&!(QV (s.Merged++[⟨e.A,e.B⟩]) j).any (Vm e.B))=true
   rw [hpo,Znp,Znk];cases hc:(QV (s.Merged++[⟨e.A,e.B⟩]) j).any (Vm e.B) with
   | false=>rfl
   | true=>
    exfalso;unfold QV at hc;rw [hj,List.take_append_of_le_length (Znr _),Znt] at hc;rcases Ze0 _ _ _ hc with h1 | ⟨q,hq,hb⟩
    ·cases h1
    ·exact hno q hq hb
 ·rw [Zn9];intro q hq;have hex:∃ j,chN { s with Merged:=s.Merged++[⟨e.A,e.B⟩] } j q.b=true:=by
   rcases Znz.1 hq with h1 | h1
   ·exact hX _ _ (Zn9.1 p3 q h1)
   ·rw [Zno] at h1;subst h1;refine ⟨jA+1,?_⟩;show chN _ (jA+1) e.B=true
    unfold chN;cases decide (e.B ≥ 0) with
    | false=>rfl
    | true=>
     rw [cond_true,tk,if_pos rfl];exact hjA
  obtain ⟨j,hj⟩:=hex;exact Zez (s:={ s with Merged:=s.Merged++[⟨e.A,e.B⟩] }) hj
end Go.AM
namespace Go.AM
open Go
theorem ZeB {s:Sta} {a:Int} {e:Event} (hp:Jx s=true) (ha:QM a 0 0=true) (he:Q9 e=true) (h0:Q1 (wk0 s a e)=0):Prop' (stepW (wk0 s a e)).s:=by
 have h:=((Zdb s).1 hp).1;have hkind:e.Kind=1∨e.Kind=2∨e.Kind=3∨e.Kind=4∨e.Kind=5∨e.Kind=6∨e.Kind=7∨e.Kind=8∨e.Kind=9∨e.Kind=10∨e.Kind=11∨e.Kind=12∨e.Kind=13∨e.Kind=14∨e.Kind=15:=by
  unfold Q9 at he;simp only [Zn5] at he;have:=he.1;unfold ZD at this;simp only [Zn5,decide_eq_true_eq] at this;omega
 have we:(wk0 s a e).e=e:=rfl;unfold Q1 at h0;unfold stepW;rw [we] at h0 ⊢;rcases hkind with hk | hk | hk | hk | hk | hk | hk | hk | hk | hk | hk | hk | hk | hk | hk<;>rw [hk] at h0 ⊢
 ·exact Zek h hp ha he hk h0
 ·exact Zee h ha he hk (Zdo h0)
 ·exact Zen h hp he hk
 ·exact Zem h hp h0
 ·exact Zef h ha he hk (Zdo h0)
 ·exact Zeh h ha he hk h0
 ·exact Zej h he hk h0
 ·exact Zeq h he hk h0
 ·exact Zeu h ha he hk h0
 ·exact Zev h ha he hk h0
 ·exact Zex h he hk h0
 ·exact Zey h he hk h0
 ·exact ZeA h he hk h0
 ·exact Zel h he hk
 ·exact Zei h ha he hk (Zdo h0)
theorem ZeC {s:Sta} {a:Int} {e:Event} (h:Qk s a e=0):Jx (ZP s a e)=true:=by
 obtain ⟨h1,h2,h3,h4⟩:=ZbV h;obtain ⟨p1,p2,p3⟩:=ZbX h1;rw [h4,Zdb];exact ⟨ZeB p1 p2 p3 h2,h3⟩
end Go.AM
namespace Go.AM
open Go
theorem ZbD {α:Type} {Q:α→Prop} {f:α→α} {l:List α} {k:Nat} (h:∀ x∈l,Q x) (hf:∀ x,Q x→Q (f x)):∀ x∈ZK l k f,Q x:=by
 unfold ZK;split
 ·rename_i x hx;intro y hy;rcases List.mem_or_eq_of_mem_set hy with h1 | rfl
  ·exact h y h1
  ·exact hf x (h x (Znb hx))
 ·exact h
theorem Zd9 {α:Type} {Q:α→Prop} {l m:List α} (h:∀ x∈l,Q x) (hm:∀ x∈m,Q x):∀ x∈l++m,Q x:=fun x hx=>by
 rcases Znz.1 hx with h1 | h1
 ·exact h x h1
 ·exact hm x h1
theorem Zdi {α:Type} {Q:α→Prop} {y:α} (h:Q y):∀ x∈[y],Q x:=fun x hx=>by rw [Zno] at hx;subst hx;exact h
structure SizeOk (s:Sta):Prop where
 rg:∀ x∈s.Regions,x.Names.l.length≤100∧x.Ring.l.length≤100∧x.Id.size≤1000
 st:∀ x∈s.Streets,x.Names.l.length≤100∧x.Line.l.length≤100∧x.Id.size≤1000
 bu:∀ x∈s.Buildings,x.Ring.l.length≤100∧x.Id.size≤1000
 dr:∀ x∈s.Doors,DoS x
 un:∀ x∈s.Units,x.Id.size≤1000∧x.Door.size≤1000∧x.Text.size≤1000
theorem Zdr {w:Wk} {k:Nat} {a:NL Str} (h:SizeOk w.s) (ha:a.l.length≤100) (hi:∀ id∈a.l,id.size≤1000):SizeOk (Qf w k a).s:=by
 unfold Qf;split
 ·rename_i x hx;refine ⟨h.rg,h.st,h.bu,ZbD h.dr (fun d hd=>⟨ha,hd.id,hd.building,hd.street,hd.veil⟩),fun u hu=>?_⟩
  obtain ⟨v,hv,rfl⟩:=Znl.1 hu;have h0:=h.un v hv;unfold XO;cases Z3P x.Id v with
  | false=>exact h0
  | true=>
   rw [cond_true];unfold UG;split
   ·rename_i id r hc;exact ⟨h0.1,hi id (by rw [hc];exact Znw ..),h0.2.2⟩
   ·exact h0
 ·exact h
theorem ZdB {w:Wk} {d:Door} (h:SizeOk w.s) (hd:DoS d):SizeOk (Qw w d).s:=
 ⟨h.rg,h.st,h.bu,Zd9 h.dr (Zdi ⟨hd.after,hd.id,hd.building,hd.street,hd.veil⟩),h.un⟩
theorem Ze1 {a:NL Str} (ha:a.l.length≤100) (hi:∀ id∈a.l,id.size≤1000):∀ (l:List Int) (w:Wk),SizeOk w.s→SizeOk (Yg w l a).s
 | [],_,h=>h
 | k::r,w,h=>Ze1 ha hi r (Qf w k.toNat a) (Zdr h ha hi)
theorem Ze2 {w:Wk} {l:List Door} (h:SizeOk w.s):∀ i,SizeOk (Y6 w l i).s
 | 0=>h
 | i+1=>by
  have ih:=Ze2 (w:=w) (l:=l) h i;unfold Y6;split
  ·rename_i x hx;cases NV w.e.Id x with
   | false=>exact ih
   | true=>exact Zdr ih (Zn6 _) (fun id hc=>by cases hc)
  ·exact ih
theorem Ze3 {D:List Door} {l:List Ent} (h:∀ x∈D,DoS x):∀ i,∀ x∈Yn D l i,DoS x
 | 0=>h
 | i+1=>by
  have ih:=Ze3 (l:=l) h i;unfold Yn;split
  ·exact ZbD ih (fun d hd=>⟨hd.after,hd.id,hd.building,hd.street,hd.veil⟩)
  ·exact ih
theorem Ze4 {s:Sta} (h:SizeOk s) (k:Nat):(JF s k).l.length≤100:=by
 unfold JF;split
 ·rename_i x hx;exact (h.st x (Znb hx)).1
 ·exact Zn6 _
theorem Zdj:emp.size≤1000:=Zn6 _
theorem ZeG {w:Wk} (h:SizeOk w.s) (he:EvS w.e) (hL:∀ x∈w.e.Lst.l,x.Id.size≤1000):SizeOk (stepW w).s:=by
 unfold stepW;split
 ·refine ⟨?_,h.st,h.bu,h.dr,h.un⟩;unfold Hj;cases decide (Qo w.s w.e.Id < 0) with
  | true=>exact Zd9 h.rg (Zdi ⟨Zn6 _,he.path,he.id⟩)
  | false=>exact ZbD h.rg (fun x hx=>⟨hx.1,he.path,hx.2.2⟩)
 ·exact ⟨h.rg,Zd9 h.st (Zdi ⟨Zn6 _,he.path,he.id⟩),h.bu,h.dr,h.un⟩
 ·unfold Hl;cases decide (Qo w.s w.e.Id ≥ 0) with
  | true=>exact ⟨ZbD h.rg (fun x hx=>⟨he.names,hx.2⟩),h.st,h.bu,h.dr,h.un⟩
  | false=>exact ⟨h.rg,ZbD h.st (fun x hx=>⟨he.names,hx.2⟩),h.bu,h.dr,h.un⟩
 ·exact ⟨h.rg,ZbD (ZbD h.st (fun x hx=>⟨Ze4 h _,hx.2⟩)) (fun x hx=>⟨Ze4 h _,hx.2⟩),h.bu,h.dr,h.un⟩
 ·exact ⟨h.rg,h.st,Zd9 h.bu (Zdi ⟨he.path,he.id⟩),h.dr,h.un⟩
 ·exact ZdB h ⟨Zn6 _,he.id,he.other,he.text,Zdj⟩
 ·exact ⟨h.rg,h.st,h.bu,h.dr,Zd9 h.un (Zdi ⟨he.id,he.other,he.text⟩)⟩
 ·exact ⟨h.rg,h.st,h.bu,Ze3 h.dr _,h.un⟩
 ·unfold Kb;split
  ·rename_i d hd;have hd':=h.dr d (Znb hd);refine Zdr (w:=Y5 w d w.e.Lst.l) ⟨h.rg,h.st,h.bu,Zd9 h.dr (fun y hy=>?_),h.un⟩ ?_ (fun id hid=>?_)
   ·obtain ⟨x,hx,rfl⟩:=Znl.1 hy;exact ⟨Zn6 _,hL x hx,hd'.building,hd'.street,Zdj⟩
   ·rw [Zn7];exact he.lst
   ·obtain ⟨x,hx,rfl⟩:=Znl.1 hid;exact hL x hx
  ·exact h
 ·unfold Kd;split
  ·rename_i d hd;have hd':=h.dr d (Znb hd);exact Ze1 (a:=⟨false,[w.e.Id]⟩) (by simp) (fun id hid=>by rw [Zno] at hid;subst hid;exact he.id) _ _ (ZdB h ⟨Zn6 _,he.id,hd'.building,hd'.street,Zdj⟩)
  ·exact h
 ·unfold Ht;exact Ze2 (w:=JH w (ZK w.s.Buildings (Y1 w.s w.e.Id).toNat (Ke w.e))) ⟨h.rg,h.st,ZbD (f:=Ke w.e) h.bu (fun x hx=>hx),h.dr,h.un⟩ _
 ·unfold Hy;cases Kg w.s w.e.Id with
  | true=>exact ⟨ZbD h.rg (fun x hx=>hx),h.st,h.bu,h.dr,h.un⟩
  | false=>
  cases Kh w.s w.e.Id with
  | true=>exact ⟨h.rg,ZbD h.st (fun x hx=>hx),h.bu,h.dr,h.un⟩
  | false=>
  cases Ki w.s w.e.Id with
  | true=>exact Zdr h (Zn6 _) (fun id hc=>by cases hc)
  | false=>exact ⟨h.rg,h.st,h.bu,h.dr,ZbD h.un (fun x hx=>hx)⟩
 ·exact ⟨h.rg,h.st,h.bu,h.dr,h.un⟩
 ·exact ⟨h.rg,h.st,h.bu,h.dr,h.un⟩
 ·exact ZdB h ⟨Zn6 _,he.id,Zdj,Zdj,he.text⟩
theorem ZeH (s:Sta) (hs:StF s) (a:Int) (e:Event) (he:EvS e) (hL:∀ x∈e.Lst.l,x.Id.size≤1000):StE (ZP s a e):=by
 unfold ZP;cases okB s a e&&(Q1 (wk0 s a e)==0&&Wh (stepW (wk0 s a e)).s.Doors) with
 | true=>
  have h:=ZeG (w:=wk0 s a e) ⟨hs.e.regions,hs.e.streets,hs.e.buildings,hs.e.doors,hs.e.units⟩ he hL;exact ⟨FN s hs a e he,h.rg,h.st,h.bu,h.dr,h.un⟩
 | false=>
  refine ⟨⟨Zn6 _,Zn6 _,Zn6 _,Zn6 _,Zn6 _,Zn6 _,Zn6 _⟩,?_,?_,?_,?_,?_⟩
  all_goals (intro x hx;cases hx)
end Go.AM
namespace Go.AM
open Go
def enU (e:Event) (u:Unit'):Unit':={ u with Ended:=e.Day,Why:=e.Kind }
theorem Zj6 {e:Event} {id:Str} {l:List Unit'} {i:Nat} {u:Unit'} (h:l[i]? = some u):(UH e id ⟨false,[]⟩ l)[i]? = some (bif Z3P id u then enU e u else u):=by
 unfold UH;rw [ZnB,h];rfl
def Zj7 (e:Event) (H:Nat→Door→Bool) (D D':List Door):Prop:=∀ (j:Nat) (x:Door),D[j]? = some x→D'[j]? = some (bif H j x then UF e ⟨false,[]⟩ x else x)
def Zj8 (e:Event) (H:Nat→Door→Bool) (D:List Door) (U U':List Unit'):Prop:=∀ (i:Nat) (u:Unit'),U[i]? = some u→U'[i]? = some u∨(u.Ended=-1∧U'[i]? = some (enU e u)∧∃ (j:Nat) (x:Door),D[j]? = some x∧H j x=true∧x.Id=u.Door)
theorem Zjc (w:Wk):∀ i,(Y6 w w.s.Doors i).e=w.e∧(Y6 w w.s.Doors i).s={ w.s with Doors:=(Y6 w w.s.Doors i).s.Doors,Units:=(Y6 w w.s.Doors i).s.Units }∧
 Zj7 w.e (fun j x=>decide (j < i)&&NV w.e.Id x) w.s.Doors (Y6 w w.s.Doors i).s.Doors∧Zj8 w.e (fun j x=>decide (j < i)&&NV w.e.Id x) w.s.Doors w.s.Units (Y6 w w.s.Doors i).s.Units
 | 0=>⟨rfl,rfl,fun j x hx=>hx,fun i u hu=>Or.inl hu⟩
 | i+1=>by
  obtain ⟨h1,h2,h3,h4⟩:=Zjc w i;have hmono:∀ (j:Nat) (x:Door),(decide (j < i)&&NV w.e.Id x)=true→(decide (j < i+1)&&NV w.e.Id x)=true:=by
   intro j x h;rw [Zn5,decide_eq_true_eq] at h ⊢;exact ⟨by omega,h.2⟩
  have hsame:∀ (j:Nat) (x:Door),w.s.Doors[j]? = some x→(j=i→NV w.e.Id x=false)→(decide (j < i+1)&&NV w.e.Id x)=(decide (j < i)&&NV w.e.Id x):=by
   intro j x _ hn;by_cases hj:j=i
   ·rw [hn hj,Zo7,Zo7]
   ·congr 1;exact decide_eq_decide.2 (by omega)
  cases hx:w.s.Doors[i]? with
  | none=>
   have e1:Y6 w w.s.Doors (i+1)=Y6 w w.s.Doors i:=by
    show (match w.s.Doors[i]? with | some x=>_ | none=>_)=_
    rw [hx]
   rw [e1];refine ⟨h1,h2,fun j x hj=>?_,fun j u hu=>?_⟩
   ·have:=hsame j x hj (fun hc=>by subst hc;rw [hx] at hj;cases hj)
    show (Y6 w w.s.Doors i).s.Doors[j]? = some (bif (decide (j < i+1)&&NV w.e.Id x) then _ else _)
    rw [this];exact h3 j x hj
   ·rcases h4 j u hu with h | ⟨g1,g2,k,y,g3,g4,g5⟩
    ·exact Or.inl h
    ·exact Or.inr ⟨g1,g2,k,y,g3,hmono k y g4,g5⟩
  | some y=>
   have e1:Y6 w w.s.Doors (i+1)=bif NV w.e.Id y then Qf (Y6 w w.s.Doors i) i ⟨false,[]⟩ else Y6 w w.s.Doors i:=by
    show (match w.s.Doors[i]? with | some x=>_ | none=>_)=_
    rw [hx]
   rw [e1];cases hh:NV w.e.Id y with
   | false=>
    rw [cond_false];refine ⟨h1,h2,fun j x hj=>?_,fun j u hu=>?_⟩
    ·have:=hsame j x hj (fun hc=>by subst hc;rw [hx] at hj;cases hj;exact hh)
     show (Y6 w w.s.Doors i).s.Doors[j]? = some (bif (decide (j < i+1)&&NV w.e.Id x) then _ else _)
     rw [this];exact h3 j x hj
    ·rcases h4 j u hu with h | ⟨g1,g2,k,y,g3,g4,g5⟩
     ·exact Or.inl h
     ·exact Or.inr ⟨g1,g2,k,y,g3,hmono k y g4,g5⟩
   | true=>
    rw [cond_true];have hyi:(Y6 w w.s.Doors i).s.Doors[i]? = some y:=by
     have h:=h3 i y hx;have hz:decide (i < i)=false:=decide_eq_false (by omega)
     simp only [hz,Zo6,cond_false] at h;exact h
    rw [ZdU hyi];refine ⟨h1,?_,fun j x hj=>?_,fun j u hu=>?_⟩
    ·show ({ (Y6 w w.s.Doors i).s with Doors:=_,Units:=_ }:Sta)=_
     rw [h2]
    ·show (ZK (Y6 w w.s.Doors i).s.Doors i (UF (Y6 w w.s.Doors i).e ⟨false,[]⟩))[j]? = some (bif (decide (j < i+1)&&NV w.e.Id x) then _ else _)
     rw [Zbz,h1];by_cases hji:j=i
     ·subst hji;rw [hx] at hj;cases hj;rw [if_pos rfl,hyi,hh,decide_eq_true (by omega)]
      rfl
     ·rw [if_neg hji,hsame j x hj (fun hc=>absurd hc hji)]
      exact h3 j x hj
    ·show (UH (Y6 w w.s.Doors i).e y.Id ⟨false,[]⟩ (Y6 w w.s.Doors i).s.Units)[j]? = _∨(_∧(UH (Y6 w w.s.Doors i).e y.Id ⟨false,[]⟩ (Y6 w w.s.Doors i).s.Units)[j]? = _∧_)
     rw [h1];rcases h4 j u hu with h | ⟨g1,g2,k,z,g3,g4,g5⟩
     ·rw [Zj6 h];cases hq:Z3P y.Id u with
      | false=>exact Or.inl rfl
      | true=>
       obtain ⟨q1',q2⟩:=ZdN.1 hq;have q1:=q1'.symm;exact Or.inr ⟨q2,rfl,i,y,hx,by show (decide (i < i+1)&&NV w.e.Id y)=true;rw [decide_eq_true (by omega),hh];rfl,q1⟩
     ·rw [Zj6 g2];refine Or.inr ⟨g1,?_,k,z,g3,hmono k z g4,g5⟩;cases Z3P y.Id (enU w.e u)<;>rfl
def Zj3 (e:Event) (x:Door):Bool:=x.Ended==-1&&bif e.Kind==12 then Z3 x.Id e.Id else Z3 x.Building e.Id
structure EndsP (s t:Sta) (e:Event):Prop where
 eq:t={ s with Buildings:=t.Buildings,Doors:=t.Doors,Units:=t.Units }
 lb:t.Buildings.length=s.Buildings.length
 ld:t.Doors.length=s.Doors.length
 lu:t.Units.length=s.Units.length
 b:∀ (i:Nat) (x:Building),s.Buildings[i]? = some x→(Z3 x.Id e.Id=false∧t.Buildings[i]? = some x)∨(Z3 x.Id e.Id=true∧x.Ended=-1∧t.Buildings[i]? = some (Ke e x))
 d:∀ (i:Nat) (x:Door),s.Doors[i]? = some x→t.Doors[i]? = some (bif Zj3 e x then UF e ⟨false,[]⟩ x else x)∧(e.Kind=11→Z3 x.Id e.Id=false)∧(x.Ended=-1→x.Why=0∧x.After.l=[])
 u:∀ (i:Nat) (u:Unit'),s.Units[i]? = some u→∃ (k:Nat) (d:Door),Zn t u.Door=(k:Int)∧t.Doors[k]? = some d∧((t.Units[i]? = some u∧(u.Ended=-1→d.Ended=-1))∨(u.Ended=-1∧u.Why=0∧t.Units[i]? = some (enU e u)∧d.Ended≠-1))
theorem Zjd {s t:Sta} {e:Event} {H:Nat→Door→Bool} (hps:Prop' s) (hpt:Prop' t) (hday:e.Day≠-1) (hD:Zj7 e H s.Doors t.Doors) (hU:Zj8 e H s.Doors s.Units t.Units):
 ∀ (i:Nat) (u:Unit'),s.Units[i]? = some u→∃ (k:Nat) (d:Door),Zn t u.Door=(k:Int)∧t.Doors[k]? = some d∧((t.Units[i]? = some u∧(u.Ended=-1→d.Ended=-1))∨(u.Ended=-1∧u.Why=0∧t.Units[i]? = some (enU e u)∧d.Ended≠-1)):=by
 intro i u hu;have hq:=hU i u hu;have hex:∃ v:Unit',t.Units[i]? = some v∧v.Door=u.Door∧(v=u∨v=enU e u):=by
  rcases hq with h | ⟨_,h,_⟩
  ·exact ⟨u,h,rfl,Or.inl rfl⟩
  ·exact ⟨_,h,rfl,Or.inr rfl⟩
 obtain ⟨v,hv,hvd,_⟩:=hex;have hv1:=(Zdl t v).1 (hpt.un v (Znb hv));obtain ⟨k,d,k1,k2,k3⟩:=ZcU (f:=fun d:Door=>d.Id) hv1.1
 have k1':Zn t v.Door=(k:Int):=k1;refine ⟨k,d,by rw [←hvd];exact k1',k2,?_⟩
 rcases hq with h | ⟨g1,g2,j,x,g3,g4,g5⟩
 ·rw [h] at hv;cases hv;refine Or.inl ⟨h,fun hl=>?_⟩
  have:=(hv1.2.2.2.1 hl).2;rw [k1'] at this;simpa [QN,k2] using this
 ·refine Or.inr ⟨g1,(((Zdl s u).1 (hps.un u (Znb hu))).2.2.2.1 g1).1,g2,?_⟩;have hj:=hD j x g3;rw [g4,cond_true] at hj;have hnD:(t.Doors.map (·.Id)).Nodup:=by
   have:=hpt.ids;unfold Qp at this;simp only [Zol] at this;exact this.2.1.2.1.2.1.1
  have hl:=Zi1 (f:=fun d:Door=>d.Id) hnD hj
  have hl':Zn t x.Id=(j:Int):=hl;rw [g5,←hvd,k1'] at hl';have hkj:k=j:=by omega
  subst hkj;rw [hj] at k2;cases k2;exact hday
theorem Zje {s:Sta} {i:Nat} {x:Door} (h:Prop' s) (hx:s.Doors[i]? = some x) (hl:x.Ended=-1):x.Why=0∧x.After.l=[]:=by
 have h1:=((Zd0 s i x).1 (h.dr i x hx)).2.2.1;unfold UC at h1;have he:exD x=true:=by unfold exD;rw [hl];rfl
 rw [he] at h1;cases c1:x.Why==0 with
 | false=>rw [c1] at h1;cases h1
 | true=>
  rw [c1] at h1;cases c2:decide (Yf x > 0) with
  | true=>rw [c2] at h1;cases h1
  | false=>
   refine ⟨by simpa using c1,?_⟩
   have h2:=of_decide_eq_false c2;unfold Yf at h2;exact List.eq_nil_of_length_eq_zero (by omega)
theorem Zjf {s:Sta} {a:Int} {e:Event} (h:Qk s a e=0) (hk:e.Kind=11∨(e.Kind=12∧decide (Zn s e.Id < 0)=false)):EndsP s (ZP s a e) e∧e.Day≠-1:=by
 obtain ⟨h1,h2,h3,h4⟩:=ZbV h;obtain ⟨p1,_,p3⟩:=ZbX h1;have hp:=((Zdb s).1 p1).1;have hpt:=((Zdb _).1 (ZeC h)).1;have hday:e.Day≠-1:=Zd5 (Zd1 p3);have hids:=hp.ids;unfold Qp at hids;simp only [Zol] at hids;obtain ⟨_,⟨_,⟨nB,⟨nD,_,dDU⟩,dB⟩,dS⟩,dR⟩:=hids;refine ⟨?_,hday⟩;rcases hk with hk | ⟨hk,hf⟩
 ·have hw:stepW (wk0 s a e)=Ht (wk0 s a e):=by unfold stepW;rw [show (wk0 s a e).e.Kind=11 from hk];rfl
  have he:Q1 (wk0 s a e)=Hs (wk0 s a e):=by unfold Q1;rw [show (wk0 s a e).e.Kind=11 from hk];rfl
  rw [he] at h2;rw [hw] at h4;have ws:(wk0 s a e).s=s:=rfl;have we:(wk0 s a e).e=e:=rfl;unfold Hs at h2;rw [ws,we] at h2;cases c1:decide (Y1 s e.Id < 0) with
  | true=>rw [c1] at h2;cases h2
  | false=>
  obtain ⟨k,b,hj,hb,hbid⟩:=ZcU (f:=fun b:Building=>b.Id) c1
  have hj':Y1 s e.Id=(k:Int):=hj;rw [c1,hj'] at h2;have hbe:WL s (k:Int)=b.Ended:=by simp [WL,hb]
  rw [hbe] at h2;have hlive:b.Ended=-1:=by
   cases q1:b.Ended != -1 with
   | true=>rw [q1] at h2;cases h2
   | false=>exact Zah q1
  have ht:ZP s a e=(Y6 (JH (wk0 s a e) (ZK s.Buildings k (Ke e))) (JH (wk0 s a e) (ZK s.Buildings k (Ke e))).s.Doors s.Doors.length).s:=by
   rw [h4];unfold Ht;rw [ws,we,hj'];rfl
  obtain ⟨f1,f2,f3,f4⟩:=Zjc (JH (wk0 s a e) (ZK s.Buildings k (Ke e))) s.Doors.length;obtain ⟨g1,g2,g3⟩:=FF (JH (wk0 s a e) (ZK s.Buildings k (Ke e))) (JH (wk0 s a e) (ZK s.Buildings k (Ke e))).s.Doors s.Doors.length;rw [←ht] at f2 f3 f4 g2 g3;have hB:(ZP s a e).Buildings=ZK s.Buildings k (Ke e):=by rw [f2];rfl
  have hHit:∀ (i:Nat) (x:Door),s.Doors[i]? = some x→(decide (i < s.Doors.length)&&NV e.Id x)=Zj3 e x:=by
   intro i x hx;rw [decide_eq_true (Z7 hx),Znp];unfold NV Zj3;rw [hk];exact Bool.and_comm _ _
  have hnk:∀ (x:Door),x∈s.Doors→Z3 x.Id e.Id=false:=by
   intro x hx;cases hc:Z3 x.Id e.Id with
   | false=>rfl
   | true=>
    exfalso;refine dB e.Id (Znl.2 ⟨b,Znb hb,hbid⟩) e.Id (Zoa _ (Znl.2 ⟨x,hx,(Ky _ _).1 hc⟩)) rfl
  refine ⟨?_,by rw [hB];exact Xm _ _ _,g2,g3,fun i x hx=>?_,fun i x hx=>⟨?_,fun _=>hnk x (Znb hx),fun hl=>Zje hp hx hl⟩,Zjd hp hpt hday f3 f4⟩
  ·rw [hB];exact f2
  ·rw [hB,Zbz];by_cases hik:i=k
   ·subst hik;rw [hb] at hx;cases hx;rw [if_pos rfl,hb];exact Or.inr ⟨(Ky _ _).2 hbid,hlive,rfl⟩
   ·rw [if_neg hik];refine Or.inl ⟨?_,hx⟩;cases hc:Z3 x.Id e.Id with
    | false=>rfl
    | true=>
     exfalso;have q:=Zi1 (f:=fun b:Building=>b.Id) nB hx
     have q':Y1 s x.Id=(i:Int):=q;rw [(Ky _ _).1 hc,hj'] at q';omega
  ·have:=f3 i x hx;rw [←hHit i x hx];exact this
 ·have hw:stepW (wk0 s a e)=Hy (wk0 s a e):=by unfold stepW;rw [show (wk0 s a e).e.Kind=12 from hk];rfl
  have he:Q1 (wk0 s a e)=Hw (wk0 s a e):=by unfold Q1;rw [show (wk0 s a e).e.Kind=12 from hk];rfl
  rw [he] at h2;rw [hw] at h4;have ws:(wk0 s a e).s=s:=rfl;have we:(wk0 s a e).e=e:=rfl;obtain ⟨k,d,hj,hd,hdid⟩:=ZcU (f:=fun d:Door=>d.Id) hf
  have hj':Zn s e.Id=(k:Int):=hj;have hmD:e.Id∈s.Doors.map (·.Id):=Znl.2 ⟨d,Znb hd,hdid⟩;have hr:Kg s e.Id=false:=by
   unfold Kg;cases hc:decide (Qo s e.Id < 0) with
   | true=>rfl
   | false=>
    obtain ⟨j,y,_,q1,q2⟩:=ZcU (f:=fun x:Region=>x.Id) hc
    exact absurd rfl (dR e.Id (Znl.2 ⟨y,Znb q1,q2⟩) e.Id (Zo3 _ (Zo3 _ (Zoa _ hmD))))
  have hst:Kh s e.Id=false:=by
   unfold Kh;cases hc:decide (ZL s e.Id < 0) with
   | true=>rfl
   | false=>
    obtain ⟨j,y,_,q1,q2⟩:=ZcU (f:=fun x:Street=>x.Id) hc
    exact absurd rfl (dS e.Id (Znl.2 ⟨y,Znb q1,q2⟩) e.Id (Zo3 _ (Zoa _ hmD)))
  have hul:UO s e.Id=false:=by
   unfold UO;cases hc:decide (Wf s e.Id < 0) with
   | true=>rfl
   | false=>
    obtain ⟨j,y,_,q1,q2⟩:=ZcU (f:=fun x:Unit'=>x.Id) hc
    exact absurd rfl (dDU e.Id hmD e.Id (Znl.2 ⟨y,Znb q1,q2⟩))
  unfold Hw at h2;rw [ws,we,hr,hst,hul] at h2;cases hdl:Ki s e.Id with
  | false=>
   rw [hdl] at h2;simp only [cond_false] at h2;cases hx:twB (wk0 s a e) e.Id&&decide (Y1 s e.Id < 0)<;>rw [hx] at h2<;>cases h2
  | true=>
  have hlive:d.Ended=-1:=by
   unfold Ki at hdl;rw [hj',Zn5] at hdl;have:=hdl.2;simpa [QN,hd] using this
  have ht:ZP s a e=(Qf (wk0 s a e) k ⟨false,[]⟩).s:=by
   rw [h4];unfold Hy;rw [ws,we,hr,hst,hdl,hj'];rfl
  rw [ZdU (w:=wk0 s a e) hd] at ht;have tD:(ZP s a e).Doors=ZK s.Doors k (UF e ⟨false,[]⟩):=by rw [ht];rfl
  have tU:(ZP s a e).Units=UH e d.Id ⟨false,[]⟩ s.Units:=by rw [ht];rfl
  have tB:(ZP s a e).Buildings=s.Buildings:=by rw [ht];rfl
  have hHit:∀ (i:Nat) (x:Door),s.Doors[i]? = some x→Zj3 e x=decide (i=k):=by
   intro i x hx;unfold Zj3;rw [hk];by_cases hik:i=k
   ·subst hik;rw [hd] at hx;cases hx;rw [hlive,decide_eq_true rfl];exact (Ky _ _).2 hdid
   ·rw [decide_eq_false hik];have:Z3 x.Id e.Id=false:=by
     cases hc:Z3 x.Id e.Id with
     | false=>rfl
     | true=>
      exfalso;have q:=Zi1 (f:=fun d:Door=>d.Id) nD hx
      have q':Zn s x.Id=(i:Int):=q;rw [(Ky _ _).1 hc,hj'] at q';omega
    show (x.Ended==-1&&Z3 x.Id e.Id)=false
    rw [this,Zo7]
  have hD:Zj7 e (fun i x=>Zj3 e x) s.Doors (ZP s a e).Doors:=by
   intro i x hx;rw [tD,Zbz];show _=some (bif Zj3 e x then _ else _)
   rw [hHit i x hx];by_cases hik:i=k
   ·rw [if_pos hik,decide_eq_true hik,←hik,hx];rfl
   ·rw [if_neg hik,decide_eq_false hik];exact hx
  have hU:Zj8 e (fun i x=>Zj3 e x) s.Doors s.Units (ZP s a e).Units:=by
   intro i u hu;rw [tU,Zj6 hu];cases hq:Z3P d.Id u with
   | false=>exact Or.inl rfl
   | true=>
    obtain ⟨q1',q2⟩:=ZdN.1 hq;have q1:=q1'.symm;exact Or.inr ⟨q2,rfl,k,d,hd,(hHit k d hd).trans (decide_eq_true rfl),q1⟩
  refine ⟨?_,by rw [tB],by rw [tD];exact Xm _ _ _,by rw [tU];simp [UH],fun i x hx=>Or.inl ⟨?_,by rw [tB];exact hx⟩,fun i x hx=>⟨hD i x hx,fun hc=>absurd (hk.symm.trans hc) (by decide),fun hl=>Zje hp hx hl⟩,Zjd hp hpt hday hD hU⟩
  ·rw [tB,tD,tU,ht];rfl
  ·cases hc:Z3 x.Id e.Id with
   | false=>rfl
   | true=>exact absurd rfl (dB e.Id (Znl.2 ⟨x,Znb hx,(Ky _ _).1 hc⟩) e.Id (Zoa _ hmD))
end Go.AM
namespace Go.AM
open Go
theorem Zad (x:Str):Z3 x x=true:=by unfold Z3;exact beq_self_eq_true _
theorem Zat (ex:Bool) (l:List Pt) (hl:l.length≤1000):pfn rE 51 [.isl false ex 2 (l.map Pt.enc),.isl false ex 2 (l.map Pt.enc)]=some (.bool true):=by
 rw [Z5 (f:=51) rfl rfl];have L:=Y8 (E:=rE) (live:=[0,1,5]) (b:=c51L0b) l.length (fun i=>[(0,.isl false ex 2 (l.map Pt.enc)),(1,.isl false ex 2 (l.map Pt.enc)),(5,I i)]) (fun i=>[]) (fun i=>rfl)
  (fun i hi=>by
   obtain ⟨x,hx⟩:∃ x,l[i]? = some x:=⟨_,Znd hi⟩;have hg:=Z6 (f:=Pt.enc) hx;have hi':=Zh hi;have hwr:=Zx (n:=i) (by omega)
   refine ⟨[(0,.isl false ex 2 (l.map Pt.enc)),(1,.isl false ex 2 (l.map Pt.enc)),(4,.bot),(5,I (i+1:Nat))],?_,rfl⟩;simp only [go_sem,qy,qq,qv,qk,reduceIte,c51L0b,hg,hi',hwr,Pt.enc,beq_self_eq_true])
  (e:=.exit 0) (fr:=[(0,.isl false ex 2 (l.map Pt.enc)),(1,.isl false ex 2 (l.map Pt.enc)),(4,.bot),(5,I l.length)]) (h:=[]) (by simp only [go_sem,qy,qq,qv,qk,reduceIte,c51L0b,ZG]) (by simp)
 have hne:((l.length:Int) != (l.length:Int))=false:=by simp
 have L':Zg rE [0,1,5] c51L0b [(0,.isl false ex 2 (l.map Pt.enc)),(1,.isl false ex 2 (l.map Pt.enc)),(5,.int .i64 0)] []=_:=L;simp only [go_sem,qy,qq,qv,qk,reduceIte,c51,c51L0,L',hne]
theorem ZaD (ex:Bool) (l:List Nm) (hl:l.length≤1000):pfn rE 110 [.isl false ex 3 (l.map Nm.enc),.isl false ex 3 (l.map Nm.enc)]=some (.bool true):=by
 rw [Z5 (f:=110) rfl rfl];have L:=Y8 (E:=rE) (live:=[0,1,5]) (b:=c110L0b) l.length (fun i=>[(0,.isl false ex 3 (l.map Nm.enc)),(1,.isl false ex 3 (l.map Nm.enc)),(5,I i)]) (fun i=>[]) (fun i=>rfl)
  (fun i hi=>by
   obtain ⟨x,hx⟩:∃ x,l[i]? = some x:=⟨_,Znd hi⟩;have hg:=Z6 (f:=Nm.enc) hx;have hi':=Zh hi;have hwr:=Zx (n:=i) (by omega)
   refine ⟨[(0,.isl false ex 3 (l.map Nm.enc)),(1,.isl false ex 3 (l.map Nm.enc)),(4,.bot),(5,I (i+1:Nat))],?_,rfl⟩;simp only [go_sem,qy,qq,qv,qk,reduceIte,c110L0b,hg,hi',hwr,Nm.enc,Zad,beq_self_eq_true])
  (e:=.exit 0) (fr:=[(0,.isl false ex 3 (l.map Nm.enc)),(1,.isl false ex 3 (l.map Nm.enc)),(4,.bot),(5,I l.length)]) (h:=[]) (by simp only [go_sem,qy,qq,qv,qk,reduceIte,c110L0b,ZG]) (by simp)
 have hne:((l.length:Int) != (l.length:Int))=false:=by simp
 have L':Zg rE [0,1,5] c110L0b [(0,.isl false ex 3 (l.map Nm.enc)),(1,.isl false ex 3 (l.map Nm.enc)),(5,.int .i64 0)] []=_:=L;simp only [go_sem,qy,qq,qv,qk,reduceIte,c110,c110L0,L',hne]
theorem ZaU (x:Region) (h1:x.Ring.l.length≤1000) (h2:x.Names.l.length≤1000):pfn rE 36 [x.enc,x.enc]=some (.bool true):=by
 have hp:=Zat x.Ring.ex x.Ring.l h1;have hn:=ZaD x.Names.ex x.Names.l h2;rw [Z5 (f:=36) rfl rfl];simp only [go_sem,qy,qq,reduceIte,c36,Region.enc,NL.enc,Zad,beq_self_eq_true,hp,hn]
theorem ZaV (x:Street) (h1:x.Line.l.length≤1000) (h2:x.Names.l.length≤1000):pfn rE 37 [x.enc,x.enc]=some (.bool true):=by
 have hp:=Zat x.Line.ex x.Line.l h1;have hn:=ZaD x.Names.ex x.Names.l h2;rw [Z5 (f:=37) rfl rfl];simp only [go_sem,qy,qq,reduceIte,c37,Street.enc,NL.enc,Zad,beq_self_eq_true,hp,hn]
theorem ZaW (x:Building) (h1:x.Ring.l.length≤1000):pfn rE 38 [x.enc,x.enc]=some (.bool true):=by
 have hp:=Zat x.Ring.ex x.Ring.l h1;rw [Z5 (f:=38) rfl rfl];simp only [go_sem,qy,qq,reduceIte,c38,Building.enc,NL.enc,Zad,beq_self_eq_true,hp]
theorem ZaX (l:List Str):HK l l=true:=by
 unfold HK;rw [beq_self_eq_true,Znp];have:∀ (m:List Str) (i:Nat),(∀ j x,m[j]? = some x→l[i+j]? = some x)→Zu (fun i x=>match l[i]? with | some y=>Z3 x y | none=>false) i m=true:=by
  intro m;induction m with
  | nil=>intro i h;rfl
  | cons x r ih=>
   intro i h;have h0:=h 0 x rfl;rw [Nat.add_zero] at h0;unfold Zu;rw [h0];simp only [Zad,Znp];exact ih (i+1) (fun j y hy=>by rw [ZnT,Nat.add_comm 1 j];exact h (j+1) y hy)
 exact this l 0 (fun j x h=>by rw [Znm];exact h)
end Go.AM
namespace Go.AM
open Go
theorem ZbL (ex:Bool) (l:List Pair) (hl:l.length≤1000):pfn rE 109 [.isl false ex 2 (l.map Pair.enc),.isl false ex 2 (l.map Pair.enc)]=some (.bool true):=by
 rw [Z5 (f:=109) rfl rfl];have L:=Y8 (E:=rE) (live:=[0,1,5]) (b:=c109L0b) l.length (fun i=>[(0,.isl false ex 2 (l.map Pair.enc)),(1,.isl false ex 2 (l.map Pair.enc)),(5,I i)]) (fun i=>[]) (fun i=>rfl)
  (fun i hi=>by
   obtain ⟨x,hx⟩:∃ x,l[i]? = some x:=⟨_,Znd hi⟩;have hg:=Z6 (f:=Pair.enc) hx;have hi':=Zh hi;have hwr:=Zx (n:=i) (by omega)
   refine ⟨[(0,.isl false ex 2 (l.map Pair.enc)),(1,.isl false ex 2 (l.map Pair.enc)),(4,.bot),(5,I (i+1:Nat))],?_,rfl⟩;simp only [go_sem,qy,qq,qv,qk,reduceIte,c109L0b,hg,hi',hwr,Pair.enc,beq_self_eq_true])
  (e:=.exit 0) (fr:=[(0,.isl false ex 2 (l.map Pair.enc)),(1,.isl false ex 2 (l.map Pair.enc)),(4,.bot),(5,I l.length)]) (h:=[]) (by simp only [go_sem,qy,qq,qv,qk,reduceIte,c109L0b,ZG]) (by simp)
 have hne:((l.length:Int) != (l.length:Int))=false:=by simp
 have L':Zg rE [0,1,5] c109L0b [(0,.isl false ex 2 (l.map Pair.enc)),(1,.isl false ex 2 (l.map Pair.enc)),(5,.int .i64 0)] []=_:=L;simp only [go_sem,qy,qq,qv,qk,reduceIte,c109,c109L0,L',hne]
end Go.AM
namespace Go.AM
open Go
def Zj9 (D E:List Door):Prop:=D.length=E.length∧∀ (i:Nat) (x:Door),E[i]? = some x→∃ ex,D[i]? = some { x with After:=⟨ex,x.After.l⟩ }
theorem Zjg (x:Door) (ex:Bool) (h:x.After.l.length≤1000):pfn rE 39 [({ x with After:=⟨ex,x.After.l⟩ }:Door).enc,x.enc]=some (.bool true):=by
 rw [Z4M { x with After:=⟨ex,x.After.l⟩ } x h]
 unfold HL FU QL QK;simp only [Zad,ZaX,beq_self_eq_true,bne_self_eq_false,Bool.not_true,Bool.or_false,Bool.not_false,Znx]
abbrev stG (b0 b1 d0 d1 u0 u1:Bool) (D:List Door) (s:Sta):AV:=.agg [.isl false false 6 (s.Regions.map Region.enc),.isl false false 5 (s.Streets.map Street.enc),.isl b0 b1 4 (s.Buildings.map Building.enc),.isl d0 d1 16 (D.map Door.enc),.isl u0 u1 6 (s.Units.map Unit'.enc),.isl false false 2 (s.Merged.map Pair.enc),.isl false false 2 (s.Rulings.map Pair.enc)]
abbrev stK (w b0 b1 d0 d1 u0 u1:Bool) (D:List Door) (s:Sta):AV:=.iptr w [.isl false false 6 (s.Regions.map Region.enc),.isl false false 5 (s.Streets.map Street.enc),.isl b0 b1 4 (s.Buildings.map Building.enc),.isl d0 d1 16 (D.map Door.enc),.isl u0 u1 6 (s.Units.map Unit'.enc),.isl false false 2 (s.Merged.map Pair.enc),.isl false false 2 (s.Rulings.map Pair.enc)]
theorem Zjh (w b0 b1 d0 d1 u0 u1:Bool) (D:List Door) (s:Sta) (hE:StE s):Zg rE [2,3,5] c35L0b [(2,stK w b0 b1 d0 d1 u0 u1 D s),(3,stI s),(5,.int .i64 0)] []=some (.exit 0,[(2,stK w b0 b1 d0 d1 u0 u1 D s),(3,stI s),(4,.bot),(5,I s.Regions.length)],[]):=by
 have hn:=hE.sizes.regions;have L:=Y8 (E:=rE) (live:=[2,3,5]) (b:=c35L0b) s.Regions.length (fun i=>[(2,stK w b0 b1 d0 d1 u0 u1 D s),(3,stI s),(5,I i)]) (fun i=>[]) (fun i=>rfl)
  (fun i hi=>by
   obtain ⟨x,hx⟩:∃ x,s.Regions[i]? = some x:=⟨_,Znd hi⟩;have hg:=Z6 (f:=Region.enc) hx;have hi':=Zh hi;have hwr:=Zx (n:=i) (by omega)
   have hlt:((i:Int) < (s.Regions.length:Int)):=by omega
   have hm:=Znb hx;refine ⟨[(2,stK w b0 b1 d0 d1 u0 u1 D s),(3,stI s),(4,.bot),(5,I (i+1:Nat))],?_,rfl⟩;have hS:=ZaU x (Zob (hE.regions x hm).2.1 (by omega)) (Zob (hE.regions x hm).1 (by omega))
   simp only [Region.enc,NL.enc] at hS;simp only [go_sem,qy,qq,qv,qk,reduceIte,c35L0b,hg,hi',hwr,hlt,if_true,Region.enc,NL.enc,hS])
  (e:=.exit 0) (fr:=[(2,stK w b0 b1 d0 d1 u0 u1 D s),(3,stI s),(4,.bot),(5,I s.Regions.length)]) (h:=[]) (by simp only [go_sem,qy,qq,qv,qk,reduceIte,c35L0b,ZG]) (by simp)
 exact L
theorem Zji (w b0 b1 d0 d1 u0 u1:Bool) (D:List Door) (s:Sta) (hE:StE s):Zg rE [2,3,6] c35L1b [(2,stK w b0 b1 d0 d1 u0 u1 D s),(3,stI s),(6,.int .i64 0)] []=some (.exit 2,[(2,stK w b0 b1 d0 d1 u0 u1 D s),(3,stI s),(4,.bot),(6,I s.Streets.length)],[]):=by
 have hn:=hE.sizes.streets;have L:=Y8 (E:=rE) (live:=[2,3,6]) (b:=c35L1b) s.Streets.length (fun i=>[(2,stK w b0 b1 d0 d1 u0 u1 D s),(3,stI s),(6,I i)]) (fun i=>[]) (fun i=>rfl)
  (fun i hi=>by
   obtain ⟨x,hx⟩:∃ x,s.Streets[i]? = some x:=⟨_,Znd hi⟩;have hg:=Z6 (f:=Street.enc) hx;have hi':=Zh hi;have hwr:=Zx (n:=i) (by omega)
   have hlt:((i:Int) < (s.Streets.length:Int)):=by omega
   have hm:=Znb hx;refine ⟨[(2,stK w b0 b1 d0 d1 u0 u1 D s),(3,stI s),(4,.bot),(6,I (i+1:Nat))],?_,rfl⟩;have hS:=ZaV x (Zob (hE.streets x hm).2.1 (by omega)) (Zob (hE.streets x hm).1 (by omega))
   simp only [Street.enc,NL.enc] at hS;simp only [go_sem,qy,qq,qv,qk,reduceIte,c35L1b,hg,hi',hwr,hlt,if_true,Street.enc,NL.enc,hS])
  (e:=.exit 2) (fr:=[(2,stK w b0 b1 d0 d1 u0 u1 D s),(3,stI s),(4,.bot),(6,I s.Streets.length)]) (h:=[]) (by simp only [go_sem,qy,qq,qv,qk,reduceIte,c35L1b,ZG]) (by simp)
 exact L
theorem Zjj (w b0 b1 d0 d1 u0 u1:Bool) (D:List Door) (s:Sta) (hE:StE s):Zg rE [2,3,7] c35L2b [(2,stK w b0 b1 d0 d1 u0 u1 D s),(3,stI s),(7,.int .i64 0)] []=some (.exit 4,[(2,stK w b0 b1 d0 d1 u0 u1 D s),(3,stI s),(4,.bot),(7,I s.Buildings.length)],[]):=by
 have hn:=hE.sizes.buildings;have L:=Y8 (E:=rE) (live:=[2,3,7]) (b:=c35L2b) s.Buildings.length (fun i=>[(2,stK w b0 b1 d0 d1 u0 u1 D s),(3,stI s),(7,I i)]) (fun i=>[]) (fun i=>rfl)
  (fun i hi=>by
   obtain ⟨x,hx⟩:∃ x,s.Buildings[i]? = some x:=⟨_,Znd hi⟩;have hg:=Z6 (f:=Building.enc) hx;have hi':=Zh hi;have hwr:=Zx (n:=i) (by omega)
   have hlt:((i:Int) < (s.Buildings.length:Int)):=by omega
   have hm:=Znb hx;refine ⟨[(2,stK w b0 b1 d0 d1 u0 u1 D s),(3,stI s),(4,.bot),(7,I (i+1:Nat))],?_,rfl⟩;have hS:=ZaW x (Zob (hE.buildings x hm).1 (by omega))
   simp only [Building.enc,NL.enc] at hS;simp only [go_sem,qy,qq,qv,qk,reduceIte,c35L2b,hg,hi',hwr,hlt,if_true,Building.enc,NL.enc,hS])
  (e:=.exit 4) (fr:=[(2,stK w b0 b1 d0 d1 u0 u1 D s),(3,stI s),(4,.bot),(7,I s.Buildings.length)]) (h:=[]) (by simp only [go_sem,qy,qq,qv,qk,reduceIte,c35L2b,ZG]) (by simp)
 exact L
theorem Zjk (w b0 b1 d0 d1 u0 u1:Bool) (D:List Door) (s:Sta) (hE:StE s) (hD:Zj9 D s.Doors):Zg rE [2,3,8] c35L3b [(2,stK w b0 b1 d0 d1 u0 u1 D s),(3,stI s),(8,.int .i64 0)] []=some (.exit 6,[(2,stK w b0 b1 d0 d1 u0 u1 D s),(3,stI s),(4,.bot),(8,I s.Doors.length)],[]):=by
 have hn:=hE.sizes.doors;have L:=Y8 (E:=rE) (live:=[2,3,8]) (b:=c35L3b) s.Doors.length (fun i=>[(2,stK w b0 b1 d0 d1 u0 u1 D s),(3,stI s),(8,I i)]) (fun i=>[]) (fun i=>rfl)
  (fun i hi=>by
   obtain ⟨x,hx⟩:∃ x,s.Doors[i]? = some x:=⟨_,Znd hi⟩;have hg:=Z6 (f:=Door.enc) hx;obtain ⟨ex,hy⟩:=hD.2 i x hx;have hg2:=Z6 (f:=Door.enc) hy;have hi':=Zh hi;have hwr:=Zx (n:=i) (by omega)
   have hlt:((i:Int) < (s.Doors.length:Int)):=by omega
   have hm:=Znb hx;refine ⟨[(2,stK w b0 b1 d0 d1 u0 u1 D s),(3,stI s),(4,.bot),(8,I (i+1:Nat))],?_,rfl⟩;have hS:=Zjg x ex (by have:=(hE.doors x hm).after;omega)
   simp only [Door.enc,NL.enc] at hS;simp only [go_sem,qy,qq,qv,qk,reduceIte,c35L3b,hg,hg2,hD.1,hi',hwr,hlt,if_true,Door.enc,NL.enc,hS])
  (e:=.exit 6) (fr:=[(2,stK w b0 b1 d0 d1 u0 u1 D s),(3,stI s),(4,.bot),(8,I s.Doors.length)]) (h:=[]) (by simp only [go_sem,qy,qq,qv,qk,reduceIte,c35L3b,hD.1,ZG]) (by simp)
 exact L
theorem Zjl (w b0 b1 d0 d1 u0 u1:Bool) (D:List Door) (s:Sta) (hE:StE s):Zg rE [2,3,9] c35L4b [(2,stK w b0 b1 d0 d1 u0 u1 D s),(3,stI s),(9,.int .i64 0)] []=some (.exit 8,[(2,stK w b0 b1 d0 d1 u0 u1 D s),(3,stI s),(4,.bot),(9,I s.Units.length)],[]):=by
 have hn:=hE.sizes.units;have L:=Y8 (E:=rE) (live:=[2,3,9]) (b:=c35L4b) s.Units.length (fun i=>[(2,stK w b0 b1 d0 d1 u0 u1 D s),(3,stI s),(9,I i)]) (fun i=>[]) (fun i=>rfl)
  (fun i hi=>by
   obtain ⟨x,hx⟩:∃ x,s.Units[i]? = some x:=⟨_,Znd hi⟩;have hg:=Z6 (f:=Unit'.enc) hx;have hi':=Zh hi;have hwr:=Zx (n:=i) (by omega)
   have hlt:((i:Int) < (s.Units.length:Int)):=by omega
   have hm:=Znb hx;refine ⟨[(2,stK w b0 b1 d0 d1 u0 u1 D s),(3,stI s),(4,.bot),(9,I (i+1:Nat))],?_,rfl⟩;simp only [go_sem,qy,qq,qv,qk,reduceIte,c35L4b,hg,hi',hwr,hlt,if_true,Unit'.enc,NL.enc,Zad,beq_self_eq_true])
  (e:=.exit 8) (fr:=[(2,stK w b0 b1 d0 d1 u0 u1 D s),(3,stI s),(4,.bot),(9,I s.Units.length)]) (h:=[]) (by simp only [go_sem,qy,qq,qv,qk,reduceIte,c35L4b,ZG]) (by simp)
 exact L
theorem Zjm (b0 b1 d0 d1 u0 u1:Bool) (D:List Door) (s:Sta) (hE:StE s) (hD:Zj9 D s.Doors):pfn rE 35 [stG b0 b1 d0 d1 u0 u1 D s,stA s]=some (.bool true):=by
 have l0:=fun w=>Zjh w b0 b1 d0 d1 u0 u1 D s hE
 have l1:=fun w=>Zji w b0 b1 d0 d1 u0 u1 D s hE
 have l2:=fun w=>Zjj w b0 b1 d0 d1 u0 u1 D s hE
 have l3:=fun w=>Zjk w b0 b1 d0 d1 u0 u1 D s hE hD
 have l4:=fun w=>Zjl w b0 b1 d0 d1 u0 u1 D s hE
 have p1:=ZbL false s.Merged hE.sizes.merged;have p2:=ZbL false s.Rulings hE.sizes.rulings;have hne:∀ n:Nat,((n:Int) != (n:Int))=false:=fun n=>by simp
 simp only [stI,stK] at l0 l1 l2 l3 l4;rw [Z5 (f:=35) rfl rfl];cases b0<;>cases d0<;>cases u0<;>simp only [go_sem,qy,qq,reduceIte,c35,c35L0,c35L1,c35L2,c35L3,c35L4,hne,hD.1,l0,l1,l2,l3,l4,p1,p2]
end Go.AM
namespace Go.AM
open Go
def Zig {α:Type} (A B:List α) (i:Nat):List α:=A.take i++B.drop i
theorem Zir {α:Type} {A B:List α} (h:A.length=B.length) {i:Nat} (hi:i≤B.length):(Zig A B i).length=B.length:=by
 unfold Zig;rw [Znv,ZnP,List.length_drop];omega
theorem Zis {α:Type} {A B:List α} (h:A.length=B.length) {i:Nat} (hi:i < B.length):(Zig A B i)[i]? = B[i]?:=by
 unfold Zig;rw [ZnL (by rw [ZnP];omega),ZnP,Zo5]
 congr 1;omega
theorem Zit {α:Type} {A B:List α} (h:A.length=B.length) {i:Nat} {x:α} (hx:A[i]? = some x):Zig A B (i+1)=(Zig A B i).set i x:=by
 have hi:=Z7 hx;apply Zog;intro j;unfold Zig;rw [ZnW];have hl1:(A.take (i+1)).length=i+1:=by rw [ZnP];omega
 have hl0:(A.take i).length=i:=by rw [ZnP];omega
 by_cases hj:i=j
 ·subst hj;rw [if_pos rfl,if_pos (by rw [Znv,List.length_drop,hl0];omega),ZnH (by omega),Zod,if_pos (by omega),hx]
 ·rw [if_neg hj];by_cases hlt:j < i
  ·rw [ZnH (by omega),ZnH (by omega),Zod,Zod,if_pos (by omega),if_pos hlt]
  ·rw [ZnL (by omega),ZnL (by omega),hl1,hl0,Zo5,Zo5]
   congr 1;omega
theorem Ziu {α:Type} (A B:List α):Zig A B 0=B:=by unfold Zig;simp
theorem Ziv {α:Type} {A B:List α} (h:A.length=B.length):Zig A B B.length=A:=by unfold Zig;rw [←h,Znt,h,List.drop_length,Znc]
end Go.AM
namespace Go.AM
open Go
abbrev slH (c:Bool) (p sz n:Nat) (l:List AV):AV:=bif c then .sl p n 0 n false else .isl false true sz l
def Zj2 (c:Bool) (o:AObj):List AObj:=bif c then [o] else []
def unD (e:Event) (x:Door):Door:=bif Zj3 e x then { x with After:=⟨false,[]⟩ } else x
abbrev enA (s:Sta) (e:Event) (t:Sta) (cB cD cU:Bool):AV:=.agg [.isl false false 6 (t.Regions.map Region.enc),.isl false false 5 (t.Streets.map Street.enc),slH cB 2 4 t.Buildings.length (s.Buildings.map Building.enc),slH cD (2+cB.toNat) 16 t.Doors.length ((s.Doors.map (unD e)).map Door.enc),slH cU (2+cB.toNat+cD.toNat) 6 t.Units.length (s.Units.map Unit'.enc),.isl false false 2 (t.Merged.map Pair.enc),.isl false false 2 (t.Rulings.map Pair.enc)]
abbrev enH (s:Sta) (e:Event) (t:Sta) (cB cD cU:Bool) (B:List Building) (D:List Door) (U:List Unit'):Hp:=.row 7 [stA t]::.row 7 [enA s e t cB cD cU]::(Zj2 cB (.row 4 (B.map Building.enc))++(Zj2 cD (.row 16 (D.map Door.enc))++Zj2 cU (.row 6 (U.map Unit'.enc))))
abbrev enF (s:Sta) (e:Event) (k i:Nat):Fr:=[(3,stI s),(5,evI e),(7,.bool true),(8,.ptr 0 0 0 1),(10,.ptr 1 0 0 1),(k,I i)]
theorem Zjn (s t:Sta) (e:Event) (cB cD cU:Bool) (hl:s.Buildings.length≤1000) (hlen:t.Buildings.length=s.Buildings.length) (hc:cB=false→t.Buildings=[])
 (hB:∀ (i:Nat) (x:Building),s.Buildings[i]? = some x→(Z3 x.Id e.Id=false∧t.Buildings[i]? = some x)∨(Z3 x.Id e.Id=true∧x.Ended=-1∧t.Buildings[i]? = some (Ke e x))):
 Zg rE [3,5,7,8,10,11] c11L0b (enF s e 11 0) (enH s e t cB cD cU t.Buildings t.Doors t.Units)=some (.exit 0,enF s e 11 t.Buildings.length,enH s e t cB cD cU s.Buildings t.Doors t.Units):=by
 have hM:=Ziv hlen.symm;have hbB:∀ (D:List Building) n,Zd n (D.map Building.enc)=true:=fun D n=>ZN _ (Zw (fun t=>rfl) D)
 have hbD:∀ (D:List Door) n,Zd n (D.map Door.enc)=true:=fun D n=>ZN _ (Zw (fun t=>rfl) D)
 have hbU:∀ (D:List Unit') n,Zd n (D.map Unit'.enc)=true:=fun D n=>ZN _ (Zw (fun t=>rfl) D)
 have L:=Y8 (E:=rE) (live:=[3,5,7,8,10,11]) (b:=c11L0b) t.Buildings.length (fun i=>enF s e 11 i) (fun i=>enH s e t cB cD cU (Zig s.Buildings t.Buildings i) t.Doors t.Units) (fun i=>rfl)
  (fun i hi=>by
   have cB1:cB=true:=by
    cases cB with
    | true=>rfl
    | false=>rw [hc rfl] at hi;exact absurd hi (Zof _)
   subst cB1;obtain ⟨x,hx⟩:∃ x,s.Buildings[i]? = some x:=⟨_,Znd (by omega)⟩
   have hml:=Zir hlen.symm (i:=i) (by omega)
   have hma:=Zis hlen.symm hi;have hms:=Zit hlen.symm hx;have gs:=Z6 (f:=Building.enc) hx;have hi':=Zh hi;have hi2:=fun p es=>VT p t.Buildings.length 0 4 (i:Int) t.Buildings.length es ⟨by omega,by omega⟩
   have hin:((i:Int)).toNat=i:=rfl;have hwr:=Zx (n:=i) (by omega)
   refine ⟨enF s e 11 (i+1),?_,rfl⟩;rw [hms];rcases hB i x hx with ⟨d1,d2⟩ | ⟨d1,d2,d3⟩
   ·rw [d2] at hma;have gm:((Zig s.Buildings t.Buildings i).map Building.enc)[i]? = some x.enc:=Z6 (f:=Building.enc) hma;have hset:(Zig s.Buildings t.Buildings i).set i x=Zig s.Buildings t.Buildings i:=by
     apply Zog;intro j;rw [ZnW];by_cases hj:i=j
     ·subst hj;rw [if_pos rfl,if_pos (by omega),hma]
     ·rw [if_neg hj]
    rw [hset];generalize Zig s.Buildings t.Buildings i=D at *;cases cD<;>cases cU<;>simp only [go_sem,qy,qq,reduceIte,c11L0b,Zj2,cond_true,cond_false,Zna,Zn8,Bool.toNat,hml,gm,hi',hi2,hin,hwr,hbB,hbD,hbU,if_true,beq_self_eq_true,Znm,Building.enc,NL.enc,d1]<;>rfl
   ·rw [d3] at hma;have gm:((Zig s.Buildings t.Buildings i).map Building.enc)[i]? = some (Ke e x).enc:=Z6 (f:=Building.enc) hma;have hset:((Zig s.Buildings t.Buildings i).set i x).map Building.enc=((Zig s.Buildings t.Buildings i).map Building.enc).set i x.enc:=Zne;have hsl:((Zig s.Buildings t.Buildings i).set i x).length=t.Buildings.length:=by rw [ZnQ,hml]
    simp only [enH];rw [hset];generalize Zig s.Buildings t.Buildings i=D at *;have hbs:∀ n,Zd n ((D.map Building.enc).set i x.enc)=true:=fun n=>by rw [←Zne];exact hbB _ n
    simp only [Ke] at gm;simp only [Building.enc,NL.enc,d2] at hbs;cases cD<;>cases cU<;>simp only [go_sem,qy,qq,qv,qk,reduceIte,c11L0b,Zj2,cond_true,cond_false,Zna,Zn8,Bool.toNat,hml,gm,gs,hi',hi2,hin,hwr,hbB,hbD,hbU,hbs,if_true,beq_self_eq_true,Znm,Building.enc,NL.enc,d1,d2]<;>rfl)
  (e:=.exit 0) (fr:=enF s e 11 t.Buildings.length) (h:=enH s e t cB cD cU (Zig s.Buildings t.Buildings t.Buildings.length) t.Doors t.Units) (by
   rw [hM];cases cB with
   | false=>
    cases cD<;>cases cU<;>simp only [go_sem,qy,qq,reduceIte,c11L0b,Zj2,cond_true,cond_false,Zna,Zn8,Bool.toNat,ZG,hbB,hbD,hbU,hlen,beq_self_eq_true]<;>rfl
   | true=>cases cD<;>cases cU<;>simp only [go_sem,qy,qq,reduceIte,c11L0b,Zj2,cond_true,cond_false,Zna,Zn8,Bool.toNat,ZG,hbB,hbD,hbU,hlen,beq_self_eq_true]<;>rfl) (by simp)
 rw [hM] at L;simpa only [Ziu] using L
abbrev enG (s:Sta) (e:Event) (k i:Nat):Fr:=[(3,stI s),(5,evI e),(6,.bot),(7,.bool true),(8,.ptr 0 0 0 1),(10,.ptr 1 0 0 1),(k,I i)]
theorem neS (z:Int):(z != z)=false:=by simp
theorem Zj5:((11:Int)==12)=false:=rfl
theorem Zja (s t:Sta) (e:Event) (cB cU:Bool) (i:Nat) (x:Door) (D:List Door) (hl:t.Doors.length≤1000) (hi:i < t.Doors.length) (hx:s.Doors[i]? = some x) (hml:D.length=t.Doors.length) (gm:(D.map Door.enc)[i]? = some x.enc) (q:(x.Ended != -1)=true):Zb rE c11L1b (enF s e 12 i) (enH s e t cB true cU s.Buildings D t.Units)=some (.normal,enG s e 12 (i+1),enH s e t cB true cU s.Buildings D t.Units):=by
 have hbB:∀ (D:List Building) n,Zd n (D.map Building.enc)=true:=fun D n=>ZN _ (Zw (fun t=>rfl) D)
 have hbD:∀ (D:List Door) n,Zd n (D.map Door.enc)=true:=fun D n=>ZN _ (Zw (fun t=>rfl) D)
 have hbU:∀ (D:List Unit') n,Zd n (D.map Unit'.enc)=true:=fun D n=>ZN _ (Zw (fun t=>rfl) D)
 have gs:=Z6 (f:=Door.enc) hx;have hi':=Zh hi;have hi2:=fun p es=>VT p t.Doors.length 0 16 (i:Int) t.Doors.length es ⟨by omega,by omega⟩
 have hin:((i:Int)).toNat=i:=rfl;have hwr:=Zx (n:=i) (by omega)
 cases cB<;>cases cU<;>simp only [go_sem,qy,qq,qv,qk,reduceIte,c11L1b,Zj5,neS,Zj2,cond_true,cond_false,Zna,Zn8,Bool.toNat,hml,gm,gs,hi',hi2,hin,hwr,hbB,hbD,hbU,if_true,beq_self_eq_true,Znm,Door.enc,NL.enc,q]<;>rfl
theorem Zjo (s t:Sta) (e:Event) (cB cU:Bool) (i:Nat) (x:Door) (D:List Door) (hl:t.Doors.length≤1000) (hi:i < t.Doors.length) (hx:s.Doors[i]? = some x) (hml:D.length=t.Doors.length) (gm:(D.map Door.enc)[i]? = some x.enc) (q:(x.Ended != -1)=false) (q1:e.Kind=11) (q2:Z3 x.Id e.Id=false) (q3:Z3 x.Building e.Id=false):Zb rE c11L1b (enF s e 12 i) (enH s e t cB true cU s.Buildings D t.Units)=some (.normal,enG s e 12 (i+1),enH s e t cB true cU s.Buildings D t.Units):=by
 have hbB:∀ (D:List Building) n,Zd n (D.map Building.enc)=true:=fun D n=>ZN _ (Zw (fun t=>rfl) D)
 have hbD:∀ (D:List Door) n,Zd n (D.map Door.enc)=true:=fun D n=>ZN _ (Zw (fun t=>rfl) D)
 have hbU:∀ (D:List Unit') n,Zd n (D.map Unit'.enc)=true:=fun D n=>ZN _ (Zw (fun t=>rfl) D)
 have gs:=Z6 (f:=Door.enc) hx;have hi':=Zh hi;have hi2:=fun p es=>VT p t.Doors.length 0 16 (i:Int) t.Doors.length es ⟨by omega,by omega⟩
 have hin:((i:Int)).toNat=i:=rfl;have hwr:=Zx (n:=i) (by omega)
 cases cB<;>cases cU<;>simp only [go_sem,qy,qq,qv,qk,reduceIte,c11L1b,Zj5,neS,Zj2,cond_true,cond_false,Zna,Zn8,Bool.toNat,hml,gm,gs,hi',hi2,hin,hwr,hbB,hbD,hbU,if_true,beq_self_eq_true,Znm,Door.enc,NL.enc,q,q1,q2,q3]<;>rfl
theorem Zjp (s t:Sta) (e:Event) (cB cU:Bool) (i:Nat) (x:Door) (D:List Door) (hl:t.Doors.length≤1000) (hi:i < t.Doors.length) (hx:s.Doors[i]? = some x) (hml:D.length=t.Doors.length) (gm:(D.map Door.enc)[i]? = some x.enc) (q:(x.Ended != -1)=false) (q1:e.Kind=12) (q2:Z3 x.Id e.Id=false):Zb rE c11L1b (enF s e 12 i) (enH s e t cB true cU s.Buildings D t.Units)=some (.normal,enG s e 12 (i+1),enH s e t cB true cU s.Buildings D t.Units):=by
 have hbB:∀ (D:List Building) n,Zd n (D.map Building.enc)=true:=fun D n=>ZN _ (Zw (fun t=>rfl) D)
 have hbD:∀ (D:List Door) n,Zd n (D.map Door.enc)=true:=fun D n=>ZN _ (Zw (fun t=>rfl) D)
 have hbU:∀ (D:List Unit') n,Zd n (D.map Unit'.enc)=true:=fun D n=>ZN _ (Zw (fun t=>rfl) D)
 have gs:=Z6 (f:=Door.enc) hx;have hi':=Zh hi;have hi2:=fun p es=>VT p t.Doors.length 0 16 (i:Int) t.Doors.length es ⟨by omega,by omega⟩
 have hin:((i:Int)).toNat=i:=rfl;have hwr:=Zx (n:=i) (by omega)
 cases c2:Z3 x.Building e.Id<;>cases cB<;>cases cU<;>simp only [go_sem,qy,qq,qv,qk,reduceIte,c11L1b,Zj5,neS,Zj2,cond_true,cond_false,Zna,Zn8,Bool.toNat,hml,gm,gs,hi',hi2,hin,hwr,hbB,hbD,hbU,if_true,beq_self_eq_true,Znm,Door.enc,NL.enc,q,q1,q2,c2]<;>rfl
theorem Zjq (s t:Sta) (e:Event) (cB cU:Bool) (i:Nat) (x:Door) (D:List Door) (hl:t.Doors.length≤1000) (hi:i < t.Doors.length) (hx:s.Doors[i]? = some x) (hml:D.length=t.Doors.length) (gm:(D.map Door.enc)[i]? = some (UF e ⟨false,[]⟩ x).enc) (e1:x.Ended=-1) (w1:x.Why=0) (k:e.Kind=11) (q2:Z3 x.Id e.Id=false) (q:Z3 x.Building e.Id=true):Zb rE c11L1b (enF s e 12 i) (enH s e t cB true cU s.Buildings D t.Units)=some (.normal,enG s e 12 (i+1),enH s e t cB true cU s.Buildings (D.set i { x with After:=⟨false,[]⟩ }) t.Units):=by
 have hbB:∀ (D:List Building) n,Zd n (D.map Building.enc)=true:=fun D n=>ZN _ (Zw (fun t=>rfl) D)
 have hbD:∀ (D:List Door) n,Zd n (D.map Door.enc)=true:=fun D n=>ZN _ (Zw (fun t=>rfl) D)
 have hbU:∀ (D:List Unit') n,Zd n (D.map Unit'.enc)=true:=fun D n=>ZN _ (Zw (fun t=>rfl) D)
 have gs:=Z6 (f:=Door.enc) hx;have hi':=Zh hi;have hi2:=fun p es=>VT p t.Doors.length 0 16 (i:Int) t.Doors.length es ⟨by omega,by omega⟩
 have hin:((i:Int)).toNat=i:=rfl;have hwr:=Zx (n:=i) (by omega)
 have hset:(D.set i { x with After:=⟨false,[]⟩ }).map Door.enc=(D.map Door.enc).set i ({ x with After:=⟨false,[]⟩ }:Door).enc:=Zne
 simp only [enH];rw [hset];have hbs:∀ n y,Zd n ((D.map Door.enc).set i (Door.enc y))=true:=fun n y=>by rw [←Zne];exact hbD _ n
 have hbs1:∀ n,Zd n ((D.map Door.enc).set i (Door.enc { UF e ⟨false,[]⟩ x with Ended:=-1 }))=true:=fun n=>hbs n _
 have hbs2:∀ n,Zd n ((D.map Door.enc).set i (Door.enc { x with After:=⟨false,[]⟩ }))=true:=fun n=>hbs n _
 have gi1:∀ y,((D.map Door.enc).set i y)[i]? = some y:=fun y=>by rw [ZnW];simp [hml];omega
 have gi2:∀ y z,(((D.map Door.enc).set i y).set i z)=(D.map Door.enc).set i z:=fun y z=>ZnU ..
 simp only [UF] at gm;simp only [UF,Door.enc,NL.enc,e1,w1,k,Znf] at hbs1 hbs2;have hm1:((-1:Int) != -1)=false:=rfl;have h0:decide (((0:Nat):Int) > 0)=false:=rfl;cases cB<;>cases cU<;>simp only [go_sem,qy,qq,qv,qk,reduceIte,c11L1b,Zj5,neS,Zj2,cond_true,cond_false,Zna,Zn8,Bool.toNat,hml,gm,gs,hi',hi2,hin,hwr,hbB,hbD,hbU,if_true,beq_self_eq_true,Znm,Door.enc,NL.enc,gi1,gi2,ZnQ,Zn7,hbs1,hbs2,e1,w1,k,q2,q,hm1,h0,Znf,ZnD]<;>rfl
theorem Zjr (s t:Sta) (e:Event) (cB cU:Bool) (i:Nat) (x:Door) (D:List Door) (hl:t.Doors.length≤1000) (hi:i < t.Doors.length) (hx:s.Doors[i]? = some x) (hml:D.length=t.Doors.length) (gm:(D.map Door.enc)[i]? = some (UF e ⟨false,[]⟩ x).enc) (e1:x.Ended=-1) (w1:x.Why=0) (k:e.Kind=12) (q:Z3 x.Id e.Id=true):Zb rE c11L1b (enF s e 12 i) (enH s e t cB true cU s.Buildings D t.Units)=some (.normal,enG s e 12 (i+1),enH s e t cB true cU s.Buildings (D.set i { x with After:=⟨false,[]⟩ }) t.Units):=by
 have hbB:∀ (D:List Building) n,Zd n (D.map Building.enc)=true:=fun D n=>ZN _ (Zw (fun t=>rfl) D)
 have hbD:∀ (D:List Door) n,Zd n (D.map Door.enc)=true:=fun D n=>ZN _ (Zw (fun t=>rfl) D)
 have hbU:∀ (D:List Unit') n,Zd n (D.map Unit'.enc)=true:=fun D n=>ZN _ (Zw (fun t=>rfl) D)
 have gs:=Z6 (f:=Door.enc) hx;have hi':=Zh hi;have hi2:=fun p es=>VT p t.Doors.length 0 16 (i:Int) t.Doors.length es ⟨by omega,by omega⟩
 have hin:((i:Int)).toNat=i:=rfl;have hwr:=Zx (n:=i) (by omega)
 have hset:(D.set i { x with After:=⟨false,[]⟩ }).map Door.enc=(D.map Door.enc).set i ({ x with After:=⟨false,[]⟩ }:Door).enc:=Zne
 simp only [enH];rw [hset];have hbs:∀ n y,Zd n ((D.map Door.enc).set i (Door.enc y))=true:=fun n y=>by rw [←Zne];exact hbD _ n
 have hbs1:∀ n,Zd n ((D.map Door.enc).set i (Door.enc { UF e ⟨false,[]⟩ x with Ended:=-1 }))=true:=fun n=>hbs n _
 have hbs2:∀ n,Zd n ((D.map Door.enc).set i (Door.enc { x with After:=⟨false,[]⟩ }))=true:=fun n=>hbs n _
 have gi1:∀ y,((D.map Door.enc).set i y)[i]? = some y:=fun y=>by rw [ZnW];simp [hml];omega
 have gi2:∀ y z,(((D.map Door.enc).set i y).set i z)=(D.map Door.enc).set i z:=fun y z=>ZnU ..
 simp only [UF] at gm;simp only [UF,Door.enc,NL.enc,e1,w1,k,Znf] at hbs1 hbs2;have hm1:((-1:Int) != -1)=false:=rfl;have h0:decide (((0:Nat):Int) > 0)=false:=rfl;cases cB<;>cases cU<;>simp only [go_sem,qy,qq,qv,qk,reduceIte,c11L1b,Zj5,neS,Zj2,cond_true,cond_false,Zna,Zn8,Bool.toNat,hml,gm,gs,hi',hi2,hin,hwr,hbB,hbD,hbU,if_true,beq_self_eq_true,Znm,Door.enc,NL.enc,gi1,gi2,ZnQ,Zn7,hbs1,hbs2,e1,w1,k,q,hm1,h0,Znf,ZnD]<;>rfl
theorem Zjs (s t:Sta) (e:Event) (cB cD cU:Bool) (hk:e.Kind=11∨e.Kind=12) (hl:s.Doors.length≤1000) (hlen:t.Doors.length=s.Doors.length) (hc:cD=false→t.Doors=[])
 (hD:∀ (i:Nat) (x:Door),s.Doors[i]? = some x→t.Doors[i]? = some (bif Zj3 e x then UF e ⟨false,[]⟩ x else x)∧(e.Kind=11→Z3 x.Id e.Id=false)∧(x.Ended=-1→x.Why=0∧x.After.l=[])):
 Zg rE [3,5,7,8,10,12] c11L1b (enF s e 12 0) (enH s e t cB cD cU s.Buildings t.Doors t.Units)=some (.exit 2,enG s e 12 t.Doors.length,enH s e t cB cD cU s.Buildings (s.Doors.map (unD e)) t.Units):=by
 have hlen2:(s.Doors.map (unD e)).length=t.Doors.length:=by rw [Zn7,hlen]
 have hM:=Ziv hlen2;have hbB:∀ (D:List Building) n,Zd n (D.map Building.enc)=true:=fun D n=>ZN _ (Zw (fun t=>rfl) D)
 have hbD:∀ (D:List Door) n,Zd n (D.map Door.enc)=true:=fun D n=>ZN _ (Zw (fun t=>rfl) D)
 have hbU:∀ (D:List Unit') n,Zd n (D.map Unit'.enc)=true:=fun D n=>ZN _ (Zw (fun t=>rfl) D)
 have L:=Y8 (E:=rE) (live:=[3,5,7,8,10,12]) (b:=c11L1b) t.Doors.length (fun i=>enF s e 12 i) (fun i=>enH s e t cB cD cU s.Buildings (Zig (s.Doors.map (unD e)) t.Doors i) t.Units) (fun i=>rfl)
  (fun i hi=>by
   have cD1:cD=true:=by
    cases cD with
    | true=>rfl
    | false=>rw [hc rfl] at hi;exact absurd hi (Zof _)
   subst cD1;obtain ⟨x,hx⟩:∃ x,s.Doors[i]? = some x:=⟨_,Znd (by omega)⟩
   have hml:=Zir hlen2 (i:=i) (by omega)
   have hma:=Zis hlen2 hi;have hms:=Zit hlen2 (i:=i) (x:=unD e x) (by rw [ZnB,hx];rfl)
   have gs:=Z6 (f:=Door.enc) hx;have hi':=Zh hi;have hi2:=fun p es=>VT p t.Doors.length 0 16 (i:Int) t.Doors.length es ⟨by omega,by omega⟩
   have hin:((i:Int)).toNat=i:=rfl;have hwr:=Zx (n:=i) (by omega)
   obtain ⟨d1,d2,d3⟩:=hD i x hx;refine ⟨enG s e 12 (i+1),?_,rfl⟩;rw [hms];rw [d1] at hma;cases hh:Zj3 e x with
   | false=>
    rw [hh,cond_false] at hma;have gm:((Zig (s.Doors.map (unD e)) t.Doors i).map Door.enc)[i]? = some x.enc:=Z6 (f:=Door.enc) hma;have hu:unD e x=x:=by unfold unD;rw [hh];rfl
    have hset:(Zig (s.Doors.map (unD e)) t.Doors i).set i x=Zig (s.Doors.map (unD e)) t.Doors i:=by
     apply Zog;intro j;rw [ZnW];by_cases hj:i=j
     ·subst hj;rw [if_pos rfl,if_pos (by omega),hma]
     ·rw [if_neg hj]
    rw [hu,hset];generalize Zig (s.Doors.map (unD e)) t.Doors i=D at *;have hq:(x.Ended==-1)=false∨(e.Kind=11∧Z3 x.Id e.Id=false∧Z3 x.Building e.Id=false)∨(e.Kind=12∧Z3 x.Id e.Id=false):=by
     unfold Zj3 at hh;cases c1:x.Ended==-1 with
     | false=>exact Or.inl rfl
     | true=>
      rw [c1,Znp] at hh;rcases hk with k | k
      ·rw [k] at hh;exact Or.inr (Or.inl ⟨k,d2 k,hh⟩)
      ·rw [k] at hh;exact Or.inr (Or.inr ⟨k,hh⟩)
    rcases hq with q | ⟨q1,q2,q3⟩ | ⟨q1,q2⟩
    ·exact Zja s t e cB cU i x D (by omega) hi hx hml gm (by rw [bne,q];rfl)
    ·cases c1:x.Ended != -1 with
     | true=>exact Zja s t e cB cU i x D (by omega) hi hx hml gm c1
     | false=>exact Zjo s t e cB cU i x D (by omega) hi hx hml gm c1 q1 q2 q3
    ·cases c1:x.Ended != -1 with
     | true=>exact Zja s t e cB cU i x D (by omega) hi hx hml gm c1
     | false=>exact Zjp s t e cB cU i x D (by omega) hi hx hml gm c1 q1 q2
   | true=>
    rw [hh,cond_true] at hma;have gm:((Zig (s.Doors.map (unD e)) t.Doors i).map Door.enc)[i]? = some (UF e ⟨false,[]⟩ x).enc:=Z6 (f:=Door.enc) hma;have hu:unD e x={ x with After:=⟨false,[]⟩ }:=by unfold unD;rw [hh];rfl
    rw [hu];generalize Zig (s.Doors.map (unD e)) t.Doors i=D at *;have e1:x.Ended=-1:=by
     unfold Zj3 at hh;rw [Zn5] at hh;simpa using hh.1
    obtain ⟨w1,_⟩:=d3 e1;rcases hk with k | k
    ·exact Zjq s t e cB cU i x D (by omega) hi hx hml gm e1 w1 k (d2 k) (by
      unfold Zj3 at hh;rw [k,Zn5] at hh;exact hh.2)
    ·exact Zjr s t e cB cU i x D (by omega) hi hx hml gm e1 w1 k (by
      unfold Zj3 at hh;rw [k,Zn5] at hh;exact hh.2))
  (e:=.exit 2) (fr:=enG s e 12 t.Doors.length) (h:=enH s e t cB cD cU s.Buildings (Zig (s.Doors.map (unD e)) t.Doors t.Doors.length) t.Units) (by
   rw [hM];cases cD with
   | false=>
    cases cB<;>cases cU<;>simp only [go_sem,qy,qq,reduceIte,c11L1b,Zj5,neS,Zj2,cond_true,cond_false,Zna,Zn8,Bool.toNat,ZG,hbB,hbD,hbU,hlen,beq_self_eq_true]<;>rfl
   | true=>cases cB<;>cases cU<;>simp only [go_sem,qy,qq,reduceIte,c11L1b,Zj5,neS,Zj2,cond_true,cond_false,Zna,Zn8,Bool.toNat,ZG,hbB,hbD,hbU,hlen2,beq_self_eq_true]<;>rfl) (by simp)
 rw [hM] at L;simpa only [Ziu] using L
end Go.AM
namespace Go.AM
open Go
theorem Zjt (s t:Sta) (hE:StE t) (e:Event) (cB cD:Bool) (B:List Building) (D:List Door) (i:Nat) (x:Unit') (U:List Unit') (hl:t.Units.length≤1000) (hi:i < t.Units.length) (hx:s.Units[i]? = some x) (hml:U.length=t.Units.length) (k:Nat) (d:Door) (hf:Zn t x.Door=(k:Int)) (hd:t.Doors[k]? = some d) (gm:(U.map Unit'.enc)[i]? = some x.enc) (q:(x.Ended != -1)=true):Zb rE c11L2b (enF s e 14 i) (enH s e t cB cD true B D U)=some (.normal,enG s e 14 (i+1),enH s e t cB cD true B D U):=by
 have hbB:∀ (D:List Building) n,Zd n (D.map Building.enc)=true:=fun D n=>ZN _ (Zw (fun t=>rfl) D)
 have hbD:∀ (D:List Door) n,Zd n (D.map Door.enc)=true:=fun D n=>ZN _ (Zw (fun t=>rfl) D)
 have hbU:∀ (D:List Unit') n,Zd n (D.map Unit'.enc)=true:=fun D n=>ZN _ (Zw (fun t=>rfl) D)
 have gs:=Z6 (f:=Unit'.enc) hx;have gd:=Z6 (f:=Door.enc) hd;have hi':=Zh hi;have hi2:=fun p es=>VT p t.Units.length 0 6 (i:Int) t.Units.length es ⟨by omega,by omega⟩
 have hin:((i:Int)).toNat=i:=rfl;have hwr:=Zx (n:=i) (by omega)
 have hkn:decide ((k:Int) < 0)=false:=decide_eq_false (by omega)
 have hfd:=find_ok t hE.sizes x.Door;cases cB<;>cases cD<;>simp only [go_sem,qy,qq,qv,qk,reduceIte,c11L2b,neS,Zj2,cond_true,cond_false,Zna,Zn8,Bool.toNat,hml,gm,gs,gd,hf,hfd,hkn,hi',hi2,hin,hwr,hbB,hbD,hbU,if_true,beq_self_eq_true,Znm,Unit'.enc,NL.enc,q]<;>rfl
theorem Zju (s t:Sta) (hE:StE t) (e:Event) (cB cD:Bool) (B:List Building) (D:List Door) (i:Nat) (x:Unit') (U:List Unit') (hl:t.Units.length≤1000) (hi:i < t.Units.length) (hx:s.Units[i]? = some x) (hml:U.length=t.Units.length) (k:Nat) (d:Door) (hf:Zn t x.Door=(k:Int)) (hd:t.Doors[k]? = some d) (gm:(U.map Unit'.enc)[i]? = some x.enc) (q:x.Ended=-1) (q2:d.Ended=-1):Zb rE c11L2b (enF s e 14 i) (enH s e t cB cD true B D U)=some (.normal,enG s e 14 (i+1),enH s e t cB cD true B D U):=by
 have hbB:∀ (D:List Building) n,Zd n (D.map Building.enc)=true:=fun D n=>ZN _ (Zw (fun t=>rfl) D)
 have hbD:∀ (D:List Door) n,Zd n (D.map Door.enc)=true:=fun D n=>ZN _ (Zw (fun t=>rfl) D)
 have hbU:∀ (D:List Unit') n,Zd n (D.map Unit'.enc)=true:=fun D n=>ZN _ (Zw (fun t=>rfl) D)
 have gs:=Z6 (f:=Unit'.enc) hx;have gd:=Z6 (f:=Door.enc) hd;have hi':=Zh hi;have hi2:=fun p es=>VT p t.Units.length 0 6 (i:Int) t.Units.length es ⟨by omega,by omega⟩
 have hin:((i:Int)).toNat=i:=rfl;have hwr:=Zx (n:=i) (by omega)
 have hkn:decide ((k:Int) < 0)=false:=decide_eq_false (by omega)
 have hfd:=find_ok t hE.sizes x.Door;cases cB<;>cases cD<;>simp only [go_sem,qy,qq,qv,qk,reduceIte,c11L2b,neS,Zj2,cond_true,cond_false,Zna,Zn8,Bool.toNat,hml,gm,gs,gd,hf,hfd,hkn,hi',hi2,hin,hwr,hbB,hbD,hbU,if_true,beq_self_eq_true,Znm,Unit'.enc,NL.enc,q,q2,Door.enc]<;>rfl
theorem Zjv (s t:Sta) (hE:StE t) (e:Event) (cB cD:Bool) (B:List Building) (D:List Door) (i:Nat) (x:Unit') (U:List Unit') (hl:t.Units.length≤1000) (hi:i < t.Units.length) (hx:s.Units[i]? = some x) (hml:U.length=t.Units.length) (k:Nat) (d:Door) (hf:Zn t x.Door=(k:Int)) (hd:t.Doors[k]? = some d) (gm:(U.map Unit'.enc)[i]? = some (enU e x).enc) (e1:x.Ended=-1) (w1:x.Why=0) (q1:e.Day≠-1) (q2:d.Ended≠-1):Zb rE c11L2b (enF s e 14 i) (enH s e t cB cD true B D U)=some (.normal,enG s e 14 (i+1),enH s e t cB cD true B D (U.set i x)):=by
 have hbB:∀ (D:List Building) n,Zd n (D.map Building.enc)=true:=fun D n=>ZN _ (Zw (fun t=>rfl) D)
 have hbD:∀ (D:List Door) n,Zd n (D.map Door.enc)=true:=fun D n=>ZN _ (Zw (fun t=>rfl) D)
 have hbU:∀ (D:List Unit') n,Zd n (D.map Unit'.enc)=true:=fun D n=>ZN _ (Zw (fun t=>rfl) D)
 have gs:=Z6 (f:=Unit'.enc) hx;have gd:=Z6 (f:=Door.enc) hd;have hi':=Zh hi;have hi2:=fun p es=>VT p t.Units.length 0 6 (i:Int) t.Units.length es ⟨by omega,by omega⟩
 have hin:((i:Int)).toNat=i:=rfl;have hwr:=Zx (n:=i) (by omega)
 have hkn:decide ((k:Int) < 0)=false:=decide_eq_false (by omega)
 have hfd:=find_ok t hE.sizes x.Door;have hset:(U.set i x).map Unit'.enc=(U.map Unit'.enc).set i x.enc:=Zne;simp only [enH];rw [hset];have hbs:∀ n y,Zd n ((U.map Unit'.enc).set i (Unit'.enc y))=true:=fun n y=>by rw [←Zne];exact hbU _ n
 have hbs2:∀ n,Zd n ((U.map Unit'.enc).set i (Unit'.enc x))=true:=fun n=>hbs n _
 have gi1:∀ y,((U.map Unit'.enc).set i y)[i]? = some y:=fun y=>by rw [ZnW];simp [hml];omega
 have gi2:∀ y z,(((U.map Unit'.enc).set i y).set i z)=(U.map Unit'.enc).set i z:=fun y z=>ZnU ..
 simp only [enU] at gm;simp only [Unit'.enc,e1,w1] at hbs2;have p1:(e.Day==-1)=false:=by simpa using q1
 have p2:(d.Ended==-1)=false:=by simpa using q2
 have p3:(e.Day != -1)=true:=by simpa using q1
 have hm1:((-1:Int) != -1)=false:=rfl;cases cB<;>cases cD<;>simp only [go_sem,qy,qq,qv,qk,reduceIte,c11L2b,neS,Zj2,cond_true,cond_false,Zna,Zn8,Bool.toNat,hml,gm,gs,gd,hf,hfd,hkn,hi',hi2,hin,hwr,hbB,hbD,hbU,if_true,beq_self_eq_true,Znm,Unit'.enc,NL.enc,Door.enc,gi1,gi2,ZnQ,Zn7,hbs2,e1,w1,p1,p2,p3,hm1]<;>rfl
theorem Zjw (s t:Sta) (hE:StE t) (e:Event) (cB cD cU:Bool) (B:List Building) (D:List Door) (hday:e.Day≠-1) (hl:s.Units.length≤1000) (hlen:t.Units.length=s.Units.length) (hc:cU=false→t.Units=[])
 (hU:∀ (i:Nat) (u:Unit'),s.Units[i]? = some u→∃ (k:Nat) (d:Door),Zn t u.Door=(k:Int)∧t.Doors[k]? = some d∧((t.Units[i]? = some u∧(u.Ended=-1→d.Ended=-1))∨(u.Ended=-1∧u.Why=0∧t.Units[i]? = some (enU e u)∧d.Ended≠-1))):
 Zg rE [3,5,7,8,10,14] c11L2b (enF s e 14 0) (enH s e t cB cD cU B D t.Units)=some (.exit 4,enG s e 14 t.Units.length,enH s e t cB cD cU B D s.Units):=by
 have hM:=Ziv hlen.symm;have hbB:∀ (D:List Building) n,Zd n (D.map Building.enc)=true:=fun D n=>ZN _ (Zw (fun t=>rfl) D)
 have hbD:∀ (D:List Door) n,Zd n (D.map Door.enc)=true:=fun D n=>ZN _ (Zw (fun t=>rfl) D)
 have hbU:∀ (D:List Unit') n,Zd n (D.map Unit'.enc)=true:=fun D n=>ZN _ (Zw (fun t=>rfl) D)
 have L:=Y8 (E:=rE) (live:=[3,5,7,8,10,14]) (b:=c11L2b) t.Units.length (fun i=>enF s e 14 i) (fun i=>enH s e t cB cD cU B D (Zig s.Units t.Units i)) (fun i=>rfl)
  (fun i hi=>by
   have cU1:cU=true:=by
    cases cU with
    | true=>rfl
    | false=>rw [hc rfl] at hi;exact absurd hi (Zof _)
   subst cU1;obtain ⟨x,hx⟩:∃ x,s.Units[i]? = some x:=⟨_,Znd (by omega)⟩
   have hml:=Zir hlen.symm (i:=i) (by omega)
   have hma:=Zis hlen.symm hi;have hms:=Zit hlen.symm hx;refine ⟨enG s e 14 (i+1),?_,rfl⟩;rw [hms];obtain ⟨k,d,f1,f2,f3⟩:=hU i x hx;rcases f3 with ⟨g1,g2⟩ | ⟨g1,g2,g3,g4⟩
   ·rw [g1] at hma;have gm:((Zig s.Units t.Units i).map Unit'.enc)[i]? = some x.enc:=Z6 (f:=Unit'.enc) hma;have hset:(Zig s.Units t.Units i).set i x=Zig s.Units t.Units i:=by
     apply Zog;intro j;rw [ZnW];by_cases hj:i=j
     ·subst hj;rw [if_pos rfl,if_pos (by omega),hma]
     ·rw [if_neg hj]
    rw [hset];cases q:x.Ended != -1 with
    | true=>exact Zjt s t hE e cB cD B D i x _ (by omega) hi hx hml k d f1 f2 gm q
    | false=>
     have q':x.Ended=-1:=by simpa using q
     exact Zju s t hE e cB cD B D i x _ (by omega) hi hx hml k d f1 f2 gm q' (g2 q')
   ·rw [g3] at hma;have gm:((Zig s.Units t.Units i).map Unit'.enc)[i]? = some (enU e x).enc:=Z6 (f:=Unit'.enc) hma;exact Zjv s t hE e cB cD B D i x _ (by omega) hi hx hml k d f1 f2 gm g1 g2 hday g4)
  (e:=.exit 4) (fr:=enG s e 14 t.Units.length) (h:=enH s e t cB cD cU B D (Zig s.Units t.Units t.Units.length)) (by
   rw [hM];cases cU with
   | false=>
    cases cB<;>cases cD<;>simp only [go_sem,qy,qq,reduceIte,c11L2b,Zj2,cond_true,cond_false,Zna,Zn8,Bool.toNat,ZG,hbB,hbD,hbU,hlen,beq_self_eq_true]<;>rfl
   | true=>cases cB<;>cases cD<;>simp only [go_sem,qy,qq,reduceIte,c11L2b,Zj2,cond_true,cond_false,Zna,Zn8,Bool.toNat,ZG,hbB,hbD,hbU,hlen,beq_self_eq_true]<;>rfl) (by simp)
 rw [hM] at L;simpa only [Ziu] using L
end Go.AM
namespace Go.AM
open Go
theorem Zjb (h:Hp) (c:Bool) (sz bytes:Nat) (ys zs:List AV) (hc:c = !ys.isEmpty) (hz:c=false→zs=[]) (h0:0 < sz) (h1:0 < bytes) (h2:ys.length * bytes≤70368744177664):
 appW h false sz bytes (.isl false true sz []) (.isl false false sz ys)=some (slH c h.length sz ys.length zs,h++Zj2 c (.row sz ys)):=by
 cases ys with
 | nil=>
  have hc':c=false:=hc;subst hc';rw [hz rfl];rw [Z9Z (es:=[]) rfl (by simp [Qq]) h0 h1 (by simp)]
  simp [slH,Zj2]
 | cons y r=>
  have hc':c=true:=hc;subst hc';have:=Z2e (h:=h) (aid:=h.length) (sz:=sz) (bytes:=bytes) (es:=[]) (ys:=y::r) (bw:=false) (bw2:=false) (ex:=false) rfl h0 h1 (by simpa using h2)
  unfold appW;rw [this];simp [slH,Zj2,thn,ZH,J1]
theorem Zjx {s t:Sta} {e:Event} (hD:∀ (i:Nat) (x:Door),s.Doors[i]? = some x→t.Doors[i]? = some (bif Zj3 e x then UF e ⟨false,[]⟩ x else x)∧(e.Kind=11→Z3 x.Id e.Id=false)∧(x.Ended=-1→x.Why=0∧x.After.l=[])):
 Zj9 (s.Doors.map (unD e)) s.Doors:=by
 refine ⟨Zn7 ..,fun i x hx=>?_⟩
 obtain ⟨_,_,h3⟩:=hD i x hx;rw [ZnB,hx];cases hh:Zj3 e x with
 | false=>exact ⟨x.After.ex,by show some (unD e x)=_;unfold unD;rw [hh];rfl⟩
 | true=>
  have e1:x.Ended=-1:=by
   unfold Zj3 at hh;rw [Zn5] at hh;simpa using hh.1
  refine ⟨false,?_⟩;show some (unD e x)=_
  unfold unD;rw [hh,(h3 e1).2];rfl
theorem ZeI {e:Event} (h:Xn e=true):∀ x∈e.Lst.l,x.Id.size≤1000:=by
 simp only [Xn,Zn5] at h;obtain ⟨h1,_,_,_,_,_,h6⟩:=h;have k6:=of_decide_eq_true h6;unfold FT at h1;rw [Znn (by omega)] at h1
 intro x hx;have:=Zn9.1 h1 x hx;unfold M2 at this;simp [ZU] at this;omega
def t11:ACode:=.seq s11p3 (.seq s11p4 (.seq s11p5 (.seq s11p6 (.seq s11p7 (.seq s11p8 (.seq s11p9 (.seq s11p10 (.seq s11p11 (.seq s11p12 (.seq s11p13 .ret))))))))))
theorem c11_eq':c11=.seq s11p0 (.seq s11p1 (.seq s11p2 t11)):=rfl
theorem Zjy (s:Sta) (hs:StF s) (a:Int) (e:Event) (he:EvS e) (hT:StE (ZP s a e)) (hk:e.Kind=11∨(e.Kind=12∧decide (Zn s e.Id < 0)=false)):
 ∃ fr' h',Zb rE t11 [(1,I a),(3,stI s),(5,evI e),(7,.bool true),(38,.bool false)] []=some (.ret,fr',h')∧get fr' 6=.bool true:=by
 have hA:=JJ s hs a e he;cases c1:Qk s a e==0 with
 | false=>
  have n1:(Qk s a e != 0)=true:=by simpa using c1
  generalize Qk s a e=er at *;generalize ZP s a e=t at *;simp only [evA] at hA;refine ⟨_,_,by simp only [go_sem,qy,qq,qv,qk,reduceIte,t11,s11p3,s11p4,hA,n1];rfl,?_⟩
  simp only [go_sem,qy,qq,qv,qk,reduceIte]
 | true=>
 have e0:Qk s a e=0:=by simpa using c1
 have n1:((0:Int) != 0)=false:=rfl;obtain ⟨P,hday⟩:=Zjf e0 hk;rw [e0] at hA;generalize ZP s a e=t at *;have hk':e.Kind=11∨e.Kind=12:=hk.elim Or.inl (fun h=>Or.inr h.1)
 have tR:t.Regions=s.Regions:=by rw [P.eq]
 have tS:t.Streets=s.Streets:=by rw [P.eq]
 have tM:t.Merged=s.Merged:=by rw [P.eq]
 have tU:t.Rulings=s.Rulings:=by rw [P.eq]
 have hn:=Zjx P.d;have hB:=hs.e.sizes.buildings;have hD:=hs.e.sizes.doors;have hU:=hs.e.sizes.units;generalize gB:(!t.Buildings.isEmpty)=cB;generalize gD:(!t.Doors.isEmpty)=cD;generalize gU:(!t.Units.isEmpty)=cU;have zB:cB=false→t.Buildings=[]:=fun h=>by rw [h] at gB;simpa using gB
 have zD:cD=false→t.Doors=[]:=fun h=>by rw [h] at gD;simpa using gD
 have zU:cU=false→t.Units=[]:=fun h=>by rw [h] at gU;simpa using gU
 have lb:=P.lb;have ld:=P.ld;have lu:=P.lu;have l0:=Zjn s t e cB cD cU hB lb zB P.b;have l1:=Zjs s t e cB cD cU hk' hD ld zD P.d;have l2:=Zjw s t hT e cB cD cU s.Buildings (s.Doors.map (unD e)) hday hU lu zU P.u;have hS:=fun b0 b1 d0 d1 u0 u1=>Zjm b0 b1 d0 d1 u0 u1 _ s hs.e hn
 have nil0:∀ {α β:Type} {f:α→β} {A B:List α},B.length=A.length→B=[]→A.map f=[]:=fun {α β f A B} h1 h2=>by
  have:A=[]:=List.length_eq_zero_iff.1 (by rw [←h1,h2];rfl)
  rw [this];rfl
 have aB:=fun h=>Zjb h cB 4 56 (t.Buildings.map Building.enc) (s.Buildings.map Building.enc) (by rw [←gB];simp) (fun h=>nil0 lb (zB h)) (by decide) (by decide) (by rw [Zn7];omega)
 have aD:=fun h=>Zjb h cD 16 184 (t.Doors.map Door.enc) ((s.Doors.map (unD e)).map Door.enc) (by rw [←gD];simp) (fun h=>by rw [ZnZ];exact nil0 ld (zD h)) (by decide) (by decide) (by rw [Zn7];omega)
 have aU:=fun h=>Zjb h cU 6 72 (t.Units.map Unit'.enc) (s.Units.map Unit'.enc) (by rw [←gU];simp) (fun h=>nil0 lu (zU h)) (by decide) (by decide) (by rw [Zn7];omega)
 have hbB:∀ (D:List Building) n,Zd n (D.map Building.enc)=true:=fun D n=>ZN _ (Zw (fun t=>rfl) D)
 have hbD:∀ (D:List Door) n,Zd n (D.map Door.enc)=true:=fun D n=>ZN _ (Zw (fun t=>rfl) D)
 have hbU:∀ (D:List Unit') n,Zd n (D.map Unit'.enc)=true:=fun D n=>ZN _ (Zw (fun t=>rfl) D)
 have hcB:Z4 (s.Buildings.map Building.enc)=true:=Zw (fun t=>rfl) _
 have hcD:Z4 ((s.Doors.map (unD e)).map Door.enc)=true:=Zw (fun t=>rfl) _
 have hcU:Z4 (s.Units.map Unit'.enc)=true:=Zw (fun t=>rfl) _
 have kB:List.take s.Buildings.length (s.Buildings.map Building.enc)=s.Buildings.map Building.enc:=Znn (by simp)
 have kD:List.take s.Doors.length ((s.Doors.map (unD e)).map Door.enc)=(s.Doors.map (unD e)).map Door.enc:=Znn (by simp)
 have kU:List.take s.Units.length (s.Units.map Unit'.enc)=s.Units.map Unit'.enc:=Znn (by simp)
 have z0:((0:Nat):Int)=0:=rfl;have hne:∀ z:Int,(z != z)=false:=neS;simp only [evA] at hA;simp only [Zn7] at aB aD aU;clear gB gD gU zB zD zU nil0 P hT hn;have key:∃ v,Zb rE t11 [(1,I a),(3,stI s),(5,evI e),(7,.bool true),(38,.bool false)] []=some (.ret,[(6,.bool true)],v):=by
  cases cB<;>cases cD<;>cases cU<;>(
   simp only [enF,enG,enH,enA,stA,slH,Zj2,cond_true,cond_false,Bool.toNat,Zna,Zn8,Nat.add_zero,z0,qq,tR,tS,tM,tU,lb,ld,lu] at l0 l1 l2;exact ⟨_,by
    simp only [go_sem,qy,qq,qv,qk,reduceIte,t11,s11p3,s11p4,s11p5,s11p6,s11p7,s11p8,s11p9,s11p10,s11p11,s11p12,s11p13,c11L0,c11L1,c11L2,Zj2,cond_true,cond_false,Zna,Zn8,hA,n1,hne,lb,ld,lu,aB,aD,aU,ZM,l0,l1,l2,hbB,hbD,hbU,hcB,hcD,hcU,kB,kD,kU,tR,tS,tM,tU,hS,Zo4,beq_self_eq_true,Zn7];rfl⟩)
 obtain ⟨v,hv⟩:=key;exact ⟨_,v,hv,rfl⟩
theorem Zjz (s:Sta) (a:Int) (e:Event):pfn rE 11 [stA s,I a,evA e]=some (.bool true):=by
 have hH:=Z4U;have hF:=Z4G s e;rw [Z5 (f:=11) (c:=c11) rfl rfl,c11_eq'];simp only [evA] at hF;cases c:YQ s&&Xn e with
 | false=>
  rw [c] at hF;simp only [go_sem,qy,qq,qv,qk,reduceIte,s11p0,s11p1,s11p2,hH,hF]
 | true=>
 rw [c] at hF;rw [Zn5] at c;have hs:=Kl s c.1;have he:=JL _ c.2;have hT:=ZeH s hs a e he (ZeI c.2);have hf:=find_ok s hs.e.sizes e.Id;have hR:=Zjy s hs a e he hT;cases k1:e.Kind != 11 with
 | true=>
  cases k2:e.Kind != 12 with
  | true=>simp only [go_sem,qy,qq,qv,qk,reduceIte,s11p0,s11p1,s11p2,hH,hF,k1,k2]
  | false=>
  cases k3:decide (Zn s e.Id < 0) with
  | true=>simp only [go_sem,qy,qq,qv,qk,reduceIte,s11p0,s11p1,s11p2,hH,hF,k1,k2,hf,k3]
  | false=>
   obtain ⟨fr',h',r1,r2⟩:=hR (Or.inr ⟨by simpa using k2,k3⟩)
   simp only [go_sem,qy,qq,qv,qk,reduceIte,s11p0,s11p1,s11p2,hH,hF,k1,k2,hf,k3,r1,r2]
 | false=>
  obtain ⟨fr',h',r1,r2⟩:=hR (Or.inl (by simpa using k1))
  simp only [go_sem,qy,qq,qv,qk,reduceIte,s11p0,s11p1,s11p2,hH,hF,k1,r1,r2]
end Go.AM
