/- What the functions of the program compute, part 3, for HistoryGoesOn. No condition. -/
import Derived.Test.YtjhbjnlomnfceaaGreatDoorP3b
set_option linter.unusedVariables false
set_option linter.unusedSimpArgs false
set_option linter.unusedSectionVars false
open Nat renaming reduceAdd → qq, reduceSub → qx, reduceMul → qz, reduceLT → qv, reduceLeDiff → qk, reduceBEq → qy
namespace Go.AM
open Go
theorem ZdW (w:Wk) (B:List Building) (l:List Door):∀ i,Y6 (JH w B) l i=JH (Y6 w l i) B
 | 0=>rfl
 | i+1=>by
  have ih:=ZdW w B l i;unfold Y6;split
  ·rename_i x hx;have e1:(JH w B).e.Id=w.e.Id:=rfl;rw [e1];cases NV w.e.Id x with
   | false=>exact ih
   | true=>
    rw [cond_true,cond_true,ih];unfold Qf;show (match (Y6 w l i).s.Doors[i]? with | some x=>_ | none=>_)=_
    cases (Y6 w l i).s.Doors[i]? with
    | none=>rfl
    | some y=>rfl
  ·exact ih
theorem ZdX {w:Wk} (h:Prop' w.s) (hk:w.e.Kind=11) (hday:ZD w.e.Day 0 100000=true) (hid:w.e.Id≠emp):∀ i,
 Prop' (Y6 w w.s.Doors i).s∧(Y6 w w.s.Doors i).e=w.e∧(Y6 w w.s.Doors i).s.Buildings=w.s.Buildings∧(∀ j,i≤j→(Y6 w w.s.Doors i).s.Doors[j]? = w.s.Doors[j]?)∧
 (∀ j x,j < i→(Y6 w w.s.Doors i).s.Doors[j]? = some x→x.Building=w.e.Id→x.Ended≠-1)
 | 0=>⟨h,rfl,rfl,fun _ _=>rfl,fun j x hj=>absurd hj (Nat.not_lt_zero _)⟩
 | i+1=>by
  obtain ⟨h1,h2,h3,h4,h5⟩:=ZdX h hk hday hid i;have hrec:∀ x,w.s.Doors[i]? = some x→Y6 w w.s.Doors (i+1)=bif NV w.e.Id x then Qf (Y6 w w.s.Doors i) i ⟨false,[]⟩ else Y6 w w.s.Doors i:=fun x hx=>by
   show (match w.s.Doors[i]? with | some x=>_ | none=>_)=_
   rw [hx]
  cases hx:w.s.Doors[i]? with
  | none=>
   have e1:Y6 w w.s.Doors (i+1)=Y6 w w.s.Doors i:=by
    show (match w.s.Doors[i]? with | some x=>_ | none=>_)=_
    rw [hx]
   rw [e1];refine ⟨h1,h2,h3,fun j hj=>h4 j (by omega),fun j x hj hjx=>?_⟩
   by_cases hji:j=i
   ·subst hji;rw [h4 j (ZDZ _),hx] at hjx;cases hjx
   ·exact h5 j x (by omega) hjx
  | some x=>
   rw [hrec x hx];cases hh:NV w.e.Id x with
   | false=>
    rw [cond_false];refine ⟨h1,h2,h3,fun j hj=>h4 j (by omega),fun j y hj hjy hb=>?_⟩
    by_cases hji:j=i
    ·subst hji;rw [h4 j (ZDZ _),hx] at hjy;cases hjy;intro he;unfold NV at hh;rw [hb,he,(Ky _ _).2 rfl] at hh;cases hh
    ·exact h5 j y (by omega) hjy hb
   | true=>
    rw [cond_true];have hxi:(Y6 w w.s.Doors i).s.Doors[i]? = some x:=by rw [h4 i (ZDZ _)];exact hx
    unfold NV at hh;rw [ZDX,Ky] at hh;have hve:Z3 x.Veil emp=true:=by
     cases hv:Z3 x.Veil emp with
     | true=>rfl
     | false=>
      exfalso;have q:=((Zd0 _ i x).1 (h1.dr i x hxi)).2.2.2.2 hv;unfold NN at q;simp only [ZDX] at q;exact hid (hh.1.symm.trans ((Ky _ _).1 q.1))
    have hend:UC (UF (Y6 w w.s.Doors i).e ⟨false,[]⟩ x)=false:=by
     rw [h2];refine ZdA hday (by rw [hk];decide) ?_ ZFy
     unfold He;show (bif w.e.Kind==12 then _ else bif w.e.Kind==11 then (0:Int)==0&&Z3 x.Veil emp else _)=true
     rw [hk];show ((0:Int)==0&&Z3 x.Veil emp)=true
     rw [hve];rfl
    have hform:=ZdU (a:=⟨false,[]⟩) hxi;refine ⟨Zdp h1 hxi (by rw [h2];exact hday) hend (fun id hc=>(by cases hc)) (fun _=>Or.inr (by rw [h2];exact hk)) (fun id r hc=>(by cases hc)),by rw [hform];exact h2,by rw [hform];exact h3,fun j hj=>?_,fun j y hj hjy hb=>?_⟩
    ·rw [hform];show (ZK (Y6 w w.s.Doors i).s.Doors i _)[j]? = _
     rw [Zbz,if_neg (by omega)]
     exact h4 j (by omega)
    ·rw [hform] at hjy;have hjy':(ZK (Y6 w w.s.Doors i).s.Doors i (UF (Y6 w w.s.Doors i).e ⟨false,[]⟩))[j]? = some y:=hjy;rw [Zbz] at hjy';by_cases hji:j=i
     ·rw [if_pos hji,hxi] at hjy';cases hjy';show (Y6 w w.s.Doors i).e.Day≠-1
      rw [h2];exact Zd5 hday
     ·rw [if_neg hji] at hjy';exact h5 j y (by omega) hjy' hb
theorem Zew {e:Event} (hday:ZD e.Day 0 100000=true) {x:Building} (h:Vq x=true):Vq (Ke e x)=true:=by
 unfold Vq at h ⊢;rw [ZdJ] at h ⊢;rw [ZDX] at h ⊢;refine ⟨?_,h.2⟩;have h1:=h.1;unfold QM at h1 ⊢;simp only [ZDX] at h1 ⊢;exact ⟨h1.1,Zde hday,h1.2.2⟩
theorem Zex {s:Sta} {a:Int} {e:Event} (h:Prop' s) (he:Q9 e=true) (hk:e.Kind=11) (h0:Hs (wk0 s a e)=0):Prop' (Ht (wk0 s a e)).s:=by
 have hn:ZZ e.Id=true:=by have:=ZcV he;rw [ZcW hk] at this;exact this
 have hid:e.Id≠emp:=by
  intro hc;rw [hc] at hn;exact absurd hn (by decide +kernel)
 have hday:=Zd1 he;have ws:(wk0 s a e).s=s:=rfl;have we:(wk0 s a e).e=e:=rfl;unfold Hs at h0;rw [ws,we] at h0;cases c1:decide (Y1 s e.Id < 0) with
 | true=>rw [c1] at h0;cases h0
 | false=>
 obtain ⟨k,b,hj,hb,hbid⟩:=ZcU (f:=fun b:Building=>b.Id) c1
 have hj':Y1 s e.Id=(k:Int):=hj;obtain ⟨h1,h2,h3,h4,h5⟩:=ZdX (w:=wk0 s a e) h hk hday hid s.Doors.length;have ht:Ht (wk0 s a e)=JH (Y6 (wk0 s a e) s.Doors s.Doors.length) (ZK s.Buildings k (Ke e)):=by
  unfold Ht;rw [ws,we,hj',show ((k:Nat):Int).toNat=k by omega]
  exact ZdW _ _ _ _
 rw [ht];have h3':(Y6 (wk0 s a e) s.Doors s.Doors.length).s.Buildings=s.Buildings:=h3;have h5':∀ (j:Nat) (x:Door),(Y6 (wk0 s a e) s.Doors s.Doors.length).s.Doors[j]? = some x→x.Building=e.Id→x.Ended≠-1:=by
  intro j x hjx hbx;by_cases hl:j < s.Doors.length
  ·exact h5 j x hl hjx hbx
  ·have:=h4 j (Nat.not_lt.1 hl);rw [show (Y6 (wk0 s a e) (wk0 s a e).s.Doors s.Doors.length)=Y6 (wk0 s a e) s.Doors s.Doors.length from rfl,hjx] at this
   have hnone:s.Doors[j]? = none:=List.getElem?_eq_none_iff.2 (Nat.not_lt.1 hl);rw [ws,hnone] at this;cases this
 have h1':Prop' (Y6 (wk0 s a e) s.Doors s.Doors.length).s:=h1;generalize Y6 (wk0 s a e) s.Doors s.Doors.length=w1 at *;have hI:(ZK s.Buildings k (Ke e)).map (·.Id)=w1.s.Buildings.map (·.Id):=by rw [h3'];exact FK (fun x:Building=>x.Id) (Ke e) (fun _=>rfl) _ _
 refine ⟨h1'.rg,h1'.st,fun x hx=>?_,fun i d hd=>?_,h1'.un,?_,ZcY h1' rfl rfl⟩
 ·have:=ZE3.1 (ZbB (P:=Vq) (k:=k) (f:=Ke e) (ZE3.2 h.bu) (fun x hx=>Zew hday hx)) x hx
  exact this
 ·have hd':w1.s.Doors[i]? = some d:=hd;refine Zd6 (h1'.dr i d hd') (fun _ _=>rfl) (fun id _=>Zdc hI) (fun _ _=>rfl) (fun hE _ hf hb2=>?_) (fun _ _ _ h=>h)
  obtain ⟨j,y,g1,g2,g3⟩:=ZcU (f:=fun b:Building=>b.Id) hf
  have g1':Y1 w1.s d.Building=(j:Int):=g1;rw [h3'] at g2;have hne:j≠k:=by
   intro hjk;subst hjk;rw [hb] at g2;cases g2;exact h5' i d hd' (g3.symm.trans hbid) hE
  rw [g1'] at hb2 ⊢;unfold WL at hb2 ⊢;rw [show ((j:Nat):Int).toNat=j by omega] at hb2 ⊢
  have e1:(JH w1 (ZK s.Buildings k (Ke e))).s.Buildings[j]? = w1.s.Buildings[j]?:=by
   show (ZK s.Buildings k (Ke e))[j]? = _
   rw [Zbz,if_neg hne,h3']
  rw [e1];exact hb2
 ·have e1:=Zd8 (s:=w1.s) (t:=(JH w1 (ZK s.Buildings k (Ke e))).s) rfl rfl hI rfl rfl;rw [e1];exact h1'.ids
end Go.AM
namespace Go.AM
open Go
theorem Zey {s:Sta} {a:Int} {e:Event} (h:Prop' s) (he:Q9 e=true) (hk:e.Kind=12) (h0:Hw (wk0 s a e)=0):Prop' (Hy (wk0 s a e)).s:=by
 have hday:=Zd1 he;have ws:(wk0 s a e).s=s:=rfl;have we:(wk0 s a e).e=e:=rfl;have hown:∀ {o c:Int},QM o c 0=true→QM o e.Day 0=true:=fun {o c} h1=>by
  unfold QM at h1 ⊢;simp only [ZDX] at h1 ⊢;exact ⟨h1.1,Zde hday,h1.2.2⟩
 unfold Hw at h0;unfold Hy;rw [ws,we] at h0 ⊢;cases c1:Kg s e.Id with
 | true=>
  have hI:(ZK s.Regions (Qo s e.Id).toNat (UL e)).map (·.Id)=s.Regions.map (·.Id):=FK (fun x:Region=>x.Id) (UL e) (fun _=>rfl) _ _
  rw [cond_true];refine ⟨fun x hx=>?_,h.st,h.bu,fun i d hd=>h.dr i d hd,h.un,?_,ZcY h rfl rfl⟩
  ·refine ZE3.1 (ZbB (P:=Vo) (ZE3.2 h.rg) (fun x hx=>?_)) x hx
   unfold Vo at hx ⊢;rw [Zdu] at hx ⊢;rw [ZDX] at hx ⊢;exact ⟨hown hx.1,hx.2⟩
  ·have e1:=Zd8 (s:=s) (t:=(Hu (wk0 s a e) (ZK s.Regions (Qo s e.Id).toNat (UL e))).s) hI rfl rfl rfl rfl;rw [e1];exact h.ids
 | false=>
 rw [c1,cond_false] at h0;rw [cond_false];cases c2:Kh s e.Id with
 | true=>
  rw [c2,cond_true] at h0;rw [cond_true];have hon:Kf s e.Id=false:=by
   cases hc:Kf s e.Id with
   | false=>rfl
   | true=>rw [hc] at h0;cases h0
  unfold Kh at c2;rw [ZDX,ZEp] at c2;obtain ⟨k,z,g1,g2,g3⟩:=ZcU (f:=fun x:Street=>x.Id) c2.1
  have g1':ZL s e.Id=(k:Int):=g1;rw [g1',show ((k:Nat):Int).toNat=k by omega]
  have hI:(ZK s.Streets k (UM e)).map (·.Id)=s.Streets.map (·.Id):=FK (fun x:Street=>x.Id) (UM e) (fun _=>rfl) _ _
  refine ⟨h.rg,fun x hx=>?_,h.bu,fun i d hd=>?_,h.un,?_,ZcY h rfl rfl⟩
  ·refine ZE3.1 (ZbB (P:=Vp) (ZE3.2 h.st) (fun x hx=>?_)) x hx
   unfold Vp at hx ⊢;rw [ZdI] at hx ⊢;rw [ZDX] at hx ⊢;exact ⟨hown hx.1,hx.2⟩
  ·have hd':s.Doors[i]? = some d:=hd;refine Zd6 (h.dr i d hd') (fun _ _=>rfl) (fun _ _=>rfl) (fun id _=>Zdc hI) (fun _ _ _ h=>h) (fun hE _ hf hs2=>?_)
   obtain ⟨j,y,q1,q2,q3⟩:=ZcU (f:=fun x:Street=>x.Id) hf
   have q1':ZL s d.Street=(j:Int):=q1;have hne:j≠k:=by
    intro hjk;subst hjk;rw [g2] at q2;cases q2;have h9:=ZF5.1 hon d (ZE5 hd');exact h9 (by rw [show Z3 d.Street e.Id=true from (Ky _ _).2 (q3.symm.trans g3),hE];rfl)
   rw [q1'] at hs2 ⊢;unfold QF at hs2 ⊢;rw [show ((j:Nat):Int).toNat=j by omega] at hs2 ⊢
   have e1:(Hv (wk0 s a e) (ZK s.Streets k (UM e))).s.Streets[j]? = s.Streets[j]?:=by
    show (ZK s.Streets k (UM e))[j]? = _
    rw [Zbz,if_neg hne]
   rw [e1];exact hs2
  ·have e1:=Zd8 (s:=s) (t:=(Hv (wk0 s a e) (ZK s.Streets k (UM e))).s) rfl hI rfl rfl rfl;rw [e1];exact h.ids
 | false=>
 rw [c2,cond_false] at h0;rw [cond_false];cases c5003:Ki s e.Id with
 | true=>
  rw [cond_true];unfold Ki at c5003;rw [ZDX,ZEp] at c5003;obtain ⟨k,x,g1,g2,g3⟩:=ZcU (f:=fun x:Door=>x.Id) c5003.1
  have g1':Zn s e.Id=(k:Int):=g1;rw [g1',show ((k:Nat):Int).toNat=k by omega]
  refine Zdp (w:=wk0 s a e) h g2 hday ?_ (fun id hc=>(by cases hc)) (fun _=>Or.inl hk) (fun id r hc=>(by cases hc))
  refine ZdA hday (by rw [we,hk];decide) ?_ ZFy
  unfold He;show (bif e.Kind==12 then (0:Int)==0 else _)=true
  rw [hk];rfl
 | false=>
 rw [c5003,cond_false] at h0;rw [cond_false];cases c5004:UO s e.Id with
 | false=>
  rw [c5004,cond_false] at h0;cases hz:twB (wk0 s a e) e.Id&&decide (Y1 s e.Id < 0) with
  | true=>rw [hz] at h0;cases h0
  | false=>rw [hz] at h0;cases h0
 | true=>
  have hI:(ZK s.Units (Wf s e.Id).toNat (UN e)).map (·.Id)=s.Units.map (·.Id):=FK (fun x:Unit'=>x.Id) (UN e) (fun _=>rfl) _ _
  refine ⟨h.rg,h.st,h.bu,fun i d hd=>h.dr i d hd,fun u hu=>?_,?_,ZcY h rfl rfl⟩
  ·refine ZE3.1 (ZbB (P:=Vs s) (ZE3.2 h.un) (fun x hx=>?_)) u hu
   rw [Zdl] at hx ⊢;obtain ⟨o1,o2,o3,o4,o5⟩:=hx;refine ⟨o1,?_,o3,fun hE=>absurd hE (Zd5 hday),fun _=>Or.inl hk⟩
   show QM 0 e.Day x.From=true
   unfold QM at o2 ⊢;simp only [ZDX] at o2 ⊢;exact ⟨o2.1,Zde hday,o2.2.2⟩
  ·have e1:=Zd8 (s:=s) (t:=(Qx (wk0 s a e) (ZK s.Units (Wf s e.Id).toNat (UN e))).s) rfl rfl rfl rfl hI;rw [e1];exact h.ids
def itT (s:Sta):Nat→Int→Int
 | 0,x=>x
 | n+1,x=>itT s n (XJ s x)
theorem Zdq (s:Sta):∀ n x,itT s (n+1) x=XJ s (itT s n x)
 | 0,_=>rfl
 | n+1,x=>Zdq s n (XJ s x)
theorem Zdh (s:Sta) (m:Nat) (x:Int):∀ n,itT s (m+n) x=itT s n (itT s m x)
 | 0=>rfl
 | n+1=>by rw [show m+(n+1)=(m+n)+1 by omega,Zdq,Zdh s m x n,Zdq]
theorem ZdY (s:Sta):∀ n x,chN s n x=true↔∃ j,j≤n∧itT s j x < 0
 | 0,x=>by
  unfold chN;rw [ZEp,decide_eq_false_iff_not];exact ⟨fun h=>⟨0,ZDZ _,by show x < 0;omega⟩,fun ⟨j,h1,h2⟩=>by
   have:j=0:=by omega
   subst this;have:x < 0:=h2;omega⟩
 | n+1,x=>by
  unfold chN;cases hx:decide (x ≥ 0) with
  | false=>
   rw [cond_false];exact ⟨fun _=>⟨0,ZDY _,by have:=of_decide_eq_false hx;show x < 0;omega⟩,fun _=>rfl⟩
  | true=>
   rw [cond_true,ZdY s n];constructor
   ·rintro ⟨j,h1,h2⟩;exact ⟨j+1,by omega,h2⟩
   ·rintro ⟨j,h1,h2⟩;cases j with
    | zero=>
     have:x < 0:=h2;have:=of_decide_eq_true hx;omega
    | succ j=>exact ⟨j,by omega,h2⟩
theorem ZdZ:∀ (l m:List Int),l.Nodup→(∀ x∈l,x∈m)→l.length≤m.length
 | [],m,_,_=>ZDY _
 | a::r,m,h,hs=>by
  rw [ZEI] at h;have ha:=hs a (ZEv ..);have:=ZdZ r (m.erase a) h.2 (fun x hx=>(List.mem_erase_of_ne (by rintro rfl;exact h.1 hx)).2 (hs x (ZEN _ hx)))
  rw [List.length_erase_of_mem ha] at this;have hl:0 < m.length:=List.length_pos_of_mem ha;rw [ZEh];omega
theorem least (P:Nat→Prop):∀ n,P n→∃ m,P m∧∀ k,k < m→¬ P k:=by
 intro n;induction n using Nat.strongRecOn with
 | _ n ih=>
  intro h;by_cases hc:∃ k,k < n∧P k
  ·obtain ⟨k,h1,h2⟩:=hc;exact ih k h1 h2
  ·exact ⟨n,h,fun k hk hp=>hc ⟨k,hk,hp⟩⟩
theorem Zez (s:Sta) {n:Nat} {x:Int} (h:chN s n x=true):chN s (s.Merged.length+1) x=true:=by
 rw [ZdY] at h ⊢;obtain ⟨j,_,hj⟩:=h;obtain ⟨m,hm,hmin⟩:=least (fun j=>itT s j x < 0) j hj
 refine ⟨m,?_,hm⟩;have hnd:((List.range (m - 1)).map (fun i=>itT s i x)).Nodup:=by
  rw [ZGx,ZFC];refine List.Pairwise.imp_of_mem ?_ (ZGx.1 List.nodup_range);intro i k hi hk hne heq;rw [ZFX] at hi hk;rcases Nat.lt_or_gt_of_ne hne with hlt | hlt
  ·have h1:itT s (k+(m - k)) x=itT s (i+(m - k)) x:=by rw [Zdh,Zdh,heq]
   rw [show k+(m - k)=m by omega] at h1
   exact hmin (i+(m - k)) (by omega) (by rw [←h1];exact hm)
  ·have h1:itT s (i+(m - i)) x=itT s (k+(m - i)) x:=by rw [Zdh,Zdh,heq]
   rw [show i+(m - i)=m by omega] at h1
   exact hmin (k+(m - i)) (by omega) (by rw [←h1];exact hm)
 have hsub:∀ y∈(List.range (m - 1)).map (fun i=>itT s i x),y∈s.Merged.map (·.b):=by
  intro y hy;obtain ⟨i,hi,rfl⟩:=ZEn.1 hy;rw [ZFX] at hi;have h1:=hmin (i+1) (by omega)
  rw [Zdq] at h1;unfold XJ at h1;cases hf:s.Merged.find? (fun p=>p.b==itT s i x) with
  | none=>rw [hf] at h1;exact absurd (by decide) h1
  | some p=>
   have h2:=List.find?_some hf;have h3:=ZG0 hf;rw [←(by simpa using h2:p.b=itT s i x)]
   exact ZFb h3
 have:=ZdZ _ _ hnd hsub;rw [ZE1,ZE1,ZGw] at this;omega
end Go.AM
namespace Go.AM
open Go
theorem Ze0:∀ (l:List Pair) (K:List Int) (b:Int),(l.foldl (fun K p=>Qi Vm K p.b) K).any (Vm b)=true→K.any (Vm b)=true∨∃ p∈l,p.b=b
 | [],K,b,h=>Or.inl h
 | p::r,K,b,h=>by
  rw [ZEH] at h;rcases Ze0 r _ b h with h1 | ⟨q,hq,hb⟩
  ·unfold Qi at h1;cases hc:K.any (Vm p.b) with
   | true=>rw [hc,cond_true] at h1;exact Or.inl h1
   | false=>
    rw [hc,cond_false,ZGe,ZFm] at h1;rcases h1 with h1 | h1
    ·exact Or.inl h1
    ·refine Or.inr ⟨p,ZEv ..,?_⟩;unfold Vm at h1;simp at h1;exact h1.symm
  ·exact Or.inr ⟨q,ZEN _ hq,hb⟩
theorem ZeA {s:Sta} {a:Int} {e:Event} (h:Prop' s) (he:Q9 e=true) (hk:e.Kind=13) (h0:Hn (wk0 s a e)=0):Prop' (Ho (wk0 s a e)).s:=by
 have hn:K5 e.A e.B=true:=by have:=ZcV he;rw [ZcW hk] at this;exact this
 have ws:(wk0 s a e).s=s:=rfl;have we:(wk0 s a e).e=e:=rfl;unfold K5 at hn;simp only [ZDX] at hn;obtain ⟨n1,n2,n3⟩:=hn;have w0:ZD 0 (-1) 100000=true:=rfl;have hpo:Y2 ⟨e.A,e.B⟩=true:=by
  show (QM e.A 0 0&&(QM e.B 0 0&&!(e.A==e.B)))=true
  unfold QM;rw [n1,n2,w0,Zdf];simpa using n3
 have hA0:0≤e.A:=by
  unfold ZD at n1;simp only [ZDX,decide_eq_true_eq] at n1;exact n1.1
 unfold Hn at h0;rw [ws,we] at h0;cases c1:decide (XJ s e.B ≥ 0) with
 | true=>rw [c1] at h0;cases h0
 | false=>
 cases c2:WN s e.B (s.Merged.length+2) e.A with
 | true=>rw [c1,c2] at h0;cases h0
 | false=>
 have hp:=h.pa;unfold WK at hp;simp only [ZDX] at hp;obtain ⟨p1,p2,p3⟩:=hp;unfold UB at p1;rw [Zda] at p1;have hpk:∀ q∈s.Merged,Y2 q=true:=by
  intro q hq;obtain ⟨j,hj⟩:=ZFc.1 hq;have:=p1 j q hj;rw [ZDX] at this;exact this.1
 have hq0:∀ q∈s.Merged,0≤q.a:=by
  intro q hq;have:=hpk q hq;unfold Y2 QM ZD at this;simp only [ZDX,decide_eq_true_eq] at this;exact this.1.1.1
 have hno:∀ q∈s.Merged,q.b≠e.B:=by
  intro q hq hb;have:=of_decide_eq_false c1;unfold XJ at this;cases hf:s.Merged.find? (fun p=>p.b==e.B) with
  | none=>
   have h2:=ZFr.1 hf q hq;exact h2 (by rw [hb];exact beq_self_eq_true _)
  | some p=>
   rw [hf] at this;have h3:=hq0 p (ZG0 hf);exact this h3
 have ht:(Ho (wk0 s a e)).s={ s with Merged:=s.Merged++[⟨e.A,e.B⟩] }:=rfl
 rw [ht];refine ⟨h.rg,h.st,h.bu,fun i d hd=>h.dr i d hd,h.un,h.ids,?_⟩
 have tk:∀ x,XJ { s with Merged:=s.Merged++[⟨e.A,e.B⟩] } x=if x=e.B then e.A else XJ s x:=by
  intro x;show (match (s.Merged++[(⟨e.A,e.B⟩:Pair)]).find? (fun p:Pair=>p.b==x) with | some p=>p.a | none=>-1)=_
  rw [List.find?_append];by_cases hx:x=e.B
  ·rw [if_pos hx];have hf:s.Merged.find? (fun p=>p.b==x)=none:=by
    rw [ZFr];intro q hq hc;exact hno q hq (by rw [←hx];simpa using hc)
   rw [hf,Option.none_or];have:List.find? (fun p:Pair=>p.b==x) [⟨e.A,e.B⟩]=some (⟨e.A,e.B⟩:Pair):=by
    rw [hx];simp
   rw [this]
  ·rw [if_neg hx];have:List.find? (fun p:Pair=>p.b==x) [⟨e.A,e.B⟩]=none:=by
    rw [ZFr];intro q hq;rw [ZEg] at hq;subst hq;intro hc;exact hx (show e.B=x by simpa using hc).symm
   rw [this,Option.or_none];rfl
 have hA:∀ n m x,m≤n→chN s m x=true→WN s e.B (n+1) x=false→∃ j,chN { s with Merged:=s.Merged++[⟨e.A,e.B⟩] } j x=true:=by
  intro n;induction n with
  | zero=>
   intro m x hm hc _;have:m=0:=by omega
   subst this;exact ⟨0,hc⟩
  | succ n ih=>
   intro m x hm hc hz;cases hx:decide (x ≥ 0) with
   | false=>exact ⟨0,by unfold chN;rw [hx];rfl⟩
   | true=>
    unfold WN at hz;rw [hx,cond_true] at hz;cases hb:x==e.B with
    | true=>rw [hb] at hz;cases hz
    | false=>
     rw [hb,cond_false] at hz;cases m with
     | zero=>
      unfold chN at hc;rw [hx] at hc;cases hc
     | succ m=>
      unfold chN at hc;rw [hx,cond_true] at hc;obtain ⟨j,hj⟩:=ih m (XJ s x) (by omega) hc hz
      refine ⟨j+1,?_⟩;unfold chN;rw [hx,cond_true,tk,if_neg (by simpa using hb)]
      exact hj
 have hchA:chN s (s.Merged.length+1) e.A=true:=by
  by_cases hin:∃ q∈s.Merged,q.b=e.A
  ·obtain ⟨q,hq,hb⟩:=hin;have:=ZE3.1 p3 q hq;rw [hb] at this;exact this
  ·have hf:XJ s e.A=-1:=by
    unfold XJ;have:s.Merged.find? (fun p=>p.b==e.A)=none:=by
     rw [ZFr];intro q hq hc;exact hin ⟨q,hq,by simpa using hc⟩
    rw [this]
   unfold chN;rw [hf];cases decide (e.A ≥ 0) with
   | false=>rfl
   | true=>
    rw [cond_true];cases s.Merged.length with
    | zero=>rfl
    | succ n=>rfl
 obtain ⟨jA,hjA⟩:=hA (s.Merged.length+1) (s.Merged.length+1) e.A (ZDZ _) hchA c2;have hX:∀ n x,chN s n x=true→∃ j,chN { s with Merged:=s.Merged++[⟨e.A,e.B⟩] } j x=true:=by
  intro n;induction n with
  | zero=>intro x hc;exact ⟨0,hc⟩
  | succ n ih=>
   intro x hc;cases hx:decide (x ≥ 0) with
   | false=>exact ⟨0,by unfold chN;rw [hx];rfl⟩
   | true=>
    by_cases hb:x=e.B
    ·refine ⟨jA+1,?_⟩;unfold chN;rw [hx,cond_true,tk,if_pos hb];exact hjA
    ·unfold chN at hc;rw [hx,cond_true] at hc;obtain ⟨j,hj⟩:=ih _ hc;refine ⟨j+1,?_⟩;unfold chN;rw [hx,cond_true,tk,if_neg hb];exact hj
 unfold WK;simp only [ZDX];refine ⟨?_,p2,?_⟩
 ·unfold UB;rw [Zda];intro j q hq;have hq':(s.Merged++[⟨e.A,e.B⟩])[j]? = some q:=hq;rw [ZE9];by_cases hl:j < s.Merged.length
  ·rw [ZEC hl] at hq';have:=p1 j q hq';rw [ZE9] at this;have e1:QV (s.Merged++[⟨e.A,e.B⟩]) j=QV s.Merged j:=by
    unfold QV;rw [ZFQ (by omega)]
   show (Y2 q&&!(QV (s.Merged++[⟨e.A,e.B⟩]) j).any (Vm q.b))=true
   rw [e1];exact this
  ·rw [ZEY (by omega)] at hq'
   have:=ZE5 hq';rw [ZEg] at this;subst this;have hj:j=s.Merged.length:=by
    have:=(ZEa.1 hq').1;simp at this;omega
   show (Y2 ⟨e.A,e.B⟩&&!(QV (s.Merged++[⟨e.A,e.B⟩]) j).any (Vm e.B))=true
   rw [hpo,ZE7,ZEp];cases hc:(QV (s.Merged++[⟨e.A,e.B⟩]) j).any (Vm e.B) with
   | false=>rfl
   | true=>
    exfalso;unfold QV at hc;rw [hj,ZFQ (ZDZ _),ZEu] at hc;rcases Ze0 _ _ _ hc with h1 | ⟨q,hq,hb⟩
    ·cases h1
    ·exact hno q hq hb
 ·rw [ZE3];intro q hq;have hex:∃ j,chN { s with Merged:=s.Merged++[⟨e.A,e.B⟩] } j q.b=true:=by
   rcases ZEt.1 hq with h1 | h1
   ·exact hX _ _ (ZE3.1 p3 q h1)
   ·rw [ZEg] at h1;subst h1;refine ⟨jA+1,?_⟩;show chN _ (jA+1) e.B=true
    unfold chN;cases decide (e.B ≥ 0) with
    | false=>rfl
    | true=>
     rw [cond_true,tk,if_pos rfl];exact hjA
  obtain ⟨j,hj⟩:=hex;exact Zez (s:={ s with Merged:=s.Merged++[⟨e.A,e.B⟩] }) hj
end Go.AM
namespace Go.AM
open Go
theorem ZeB {s:Sta} {a:Int} {e:Event} (hp:Jx s=true) (ha:QM a 0 0=true) (he:Q9 e=true) (h0:Q1 (wk0 s a e)=0):Prop' (stepW (wk0 s a e)).s:=by
 have h:=((Zdb s).1 hp).1;have hkind:e.Kind=1∨e.Kind=2∨e.Kind=3∨e.Kind=4∨e.Kind=5∨e.Kind=6∨e.Kind=7∨e.Kind=8∨e.Kind=9∨e.Kind=10∨e.Kind=11∨e.Kind=12∨e.Kind=13∨e.Kind=14∨e.Kind=15:=by
  unfold Q9 at he;simp only [ZDX] at he;have:=he.1;unfold ZD at this;simp only [ZDX,decide_eq_true_eq] at this;omega
 have we:(wk0 s a e).e=e:=rfl;unfold Q1 at h0;unfold stepW;rw [we] at h0 ⊢;rcases hkind with hk | hk | hk | hk | hk | hk | hk | hk | hk | hk | hk | hk | hk | hk | hk<;>rw [hk] at h0 ⊢
 ·exact Zek h hp ha he hk h0
 ·exact Zee h ha he hk (Zdo h0)
 ·exact Zen h hp he hk
 ·exact Zem h hp h0
 ·exact Zef h ha he hk (Zdo h0)
 ·exact Zeh h ha he hk h0
 ·exact Zej h he hk h0
 ·exact Zeq h he hk h0
 ·exact Zeu h ha he hk h0
 ·exact Zev h ha he hk h0
 ·exact Zex h he hk h0
 ·exact Zey h he hk h0
 ·exact ZeA h he hk h0
 ·exact Zel h he hk
 ·exact Zei h ha he hk (Zdo h0)
theorem ZeC {s:Sta} {a:Int} {e:Event} (h:Qk s a e=0):Jx (ZP s a e)=true:=by
 obtain ⟨h1,h2,h3,h4⟩:=ZbV h;obtain ⟨p1,p2,p3⟩:=ZbX h1;rw [h4,Zdb];exact ⟨ZeB p1 p2 p3 h2,h3⟩
end Go.AM
namespace Go.AM
open Go
theorem ZbD {α:Type} {Q:α→Prop} {f:α→α} {l:List α} {k:Nat} (h:∀ x∈l,Q x) (hf:∀ x,Q x→Q (f x)):∀ x∈ZK l k f,Q x:=by
 unfold ZK;split
 ·rename_i x hx;intro y hy;rcases ZG7 hy with h1 | rfl
  ·exact h y h1
  ·exact hf x (h x (ZE5 hx))
 ·exact h
theorem Zd9 {α:Type} {Q:α→Prop} {l m:List α} (h:∀ x∈l,Q x) (hm:∀ x∈m,Q x):∀ x∈l++m,Q x:=fun x hx=>by
 rcases ZEt.1 hx with h1 | h1
 ·exact h x h1
 ·exact hm x h1
theorem Zdi {α:Type} {Q:α→Prop} {y:α} (h:Q y):∀ x∈[y],Q x:=fun x hx=>by rw [ZEg] at hx;subst hx;exact h
structure SizeOk (s:Sta):Prop where
 rg:∀ x∈s.Regions,x.Names.l.length≤100∧x.Ring.l.length≤100∧x.Id.size≤1000
 st:∀ x∈s.Streets,x.Names.l.length≤100∧x.Line.l.length≤100∧x.Id.size≤1000
 bu:∀ x∈s.Buildings,x.Ring.l.length≤100∧x.Id.size≤1000
 dr:∀ x∈s.Doors,DoS x
 un:∀ x∈s.Units,x.Id.size≤1000∧x.Door.size≤1000∧x.Text.size≤1000
theorem Zdr {w:Wk} {k:Nat} {a:NL Str} (h:SizeOk w.s) (ha:a.l.length≤100) (hi:∀ id∈a.l,id.size≤1000):SizeOk (Qf w k a).s:=by
 unfold Qf;split
 ·rename_i x hx;refine ⟨h.rg,h.st,h.bu,ZbD h.dr (fun d hd=>⟨ha,hd.id,hd.building,hd.street,hd.veil⟩),fun u hu=>?_⟩
  obtain ⟨v,hv,rfl⟩:=ZEn.1 hu;have h0:=h.un v hv;unfold XO;cases Z3P x.Id v with
  | false=>exact h0
  | true=>
   rw [cond_true];unfold UG;split
   ·rename_i id r hc;exact ⟨h0.1,hi id (by rw [hc];exact ZEv ..),h0.2.2⟩
   ·exact h0
 ·exact h
theorem ZdB {w:Wk} {d:Door} (h:SizeOk w.s) (hd:DoS d):SizeOk (Qw w d).s:=
 ⟨h.rg,h.st,h.bu,Zd9 h.dr (Zdi ⟨hd.after,hd.id,hd.building,hd.street,hd.veil⟩),h.un⟩
theorem Ze1 {a:NL Str} (ha:a.l.length≤100) (hi:∀ id∈a.l,id.size≤1000):∀ (l:List Int) (w:Wk),SizeOk w.s→SizeOk (Yg w l a).s
 | [],_,h=>h
 | k::r,w,h=>Ze1 ha hi r (Qf w k.toNat a) (Zdr h ha hi)
theorem Ze2 {w:Wk} {l:List Door} (h:SizeOk w.s):∀ i,SizeOk (Y6 w l i).s
 | 0=>h
 | i+1=>by
  have ih:=Ze2 (w:=w) (l:=l) h i;unfold Y6;split
  ·rename_i x hx;cases NV w.e.Id x with
   | false=>exact ih
   | true=>exact Zdr ih (ZDY _) (fun id hc=>by cases hc)
  ·exact ih
theorem Ze3 {D:List Door} {l:List Ent} (h:∀ x∈D,DoS x):∀ i,∀ x∈Yn D l i,DoS x
 | 0=>h
 | i+1=>by
  have ih:=Ze3 (l:=l) h i;unfold Yn;split
  ·exact ZbD ih (fun d hd=>⟨hd.after,hd.id,hd.building,hd.street,hd.veil⟩)
  ·exact ih
theorem Ze4 {s:Sta} (h:SizeOk s) (k:Nat):(JF s k).l.length≤100:=by
 unfold JF;split
 ·rename_i x hx;exact (h.st x (ZE5 hx)).1
 ·exact ZDY _
theorem Zdj:emp.size≤1000:=ZDY _
theorem ZeG {w:Wk} (h:SizeOk w.s) (he:EvS w.e) (hL:∀ x∈w.e.Lst.l,x.Id.size≤1000):SizeOk (stepW w).s:=by
 unfold stepW;split
 ·refine ⟨?_,h.st,h.bu,h.dr,h.un⟩;unfold Hj;cases decide (Qo w.s w.e.Id < 0) with
  | true=>exact Zd9 h.rg (Zdi ⟨ZDY _,he.path,he.id⟩)
  | false=>exact ZbD h.rg (fun x hx=>⟨hx.1,he.path,hx.2.2⟩)
 ·exact ⟨h.rg,Zd9 h.st (Zdi ⟨ZDY _,he.path,he.id⟩),h.bu,h.dr,h.un⟩
 ·unfold Hl;cases decide (Qo w.s w.e.Id ≥ 0) with
  | true=>exact ⟨ZbD h.rg (fun x hx=>⟨he.names,hx.2⟩),h.st,h.bu,h.dr,h.un⟩
  | false=>exact ⟨h.rg,ZbD h.st (fun x hx=>⟨he.names,hx.2⟩),h.bu,h.dr,h.un⟩
 ·exact ⟨h.rg,ZbD (ZbD h.st (fun x hx=>⟨Ze4 h _,hx.2⟩)) (fun x hx=>⟨Ze4 h _,hx.2⟩),h.bu,h.dr,h.un⟩
 ·exact ⟨h.rg,h.st,Zd9 h.bu (Zdi ⟨he.path,he.id⟩),h.dr,h.un⟩
 ·exact ZdB h ⟨ZDY _,he.id,he.other,he.text,Zdj⟩
 ·exact ⟨h.rg,h.st,h.bu,h.dr,Zd9 h.un (Zdi ⟨he.id,he.other,he.text⟩)⟩
 ·exact ⟨h.rg,h.st,h.bu,Ze3 h.dr _,h.un⟩
 ·unfold Kb;split
  ·rename_i d hd;have hd':=h.dr d (ZE5 hd);refine Zdr (w:=Y5 w d w.e.Lst.l) ⟨h.rg,h.st,h.bu,Zd9 h.dr (fun y hy=>?_),h.un⟩ ?_ (fun id hid=>?_)
   ·obtain ⟨x,hx,rfl⟩:=ZEn.1 hy;exact ⟨ZDY _,hL x hx,hd'.building,hd'.street,Zdj⟩
   ·rw [ZE1];exact ZEx he.lst (by decide)
   ·obtain ⟨x,hx,rfl⟩:=ZEn.1 hid;exact hL x hx
  ·exact h
 ·unfold Kd;split
  ·rename_i d hd;have hd':=h.dr d (ZE5 hd);exact Ze1 (a:=⟨false,[w.e.Id]⟩) (by simp) (fun id hid=>by rw [ZEg] at hid;subst hid;exact he.id) _ _ (ZdB h ⟨ZDY _,he.id,hd'.building,hd'.street,Zdj⟩)
  ·exact h
 ·unfold Ht;exact Ze2 (w:=JH w (ZK w.s.Buildings (Y1 w.s w.e.Id).toNat (Ke w.e))) ⟨h.rg,h.st,ZbD (f:=Ke w.e) h.bu (fun x hx=>hx),h.dr,h.un⟩ _
 ·unfold Hy;cases Kg w.s w.e.Id with
  | true=>exact ⟨ZbD h.rg (fun x hx=>hx),h.st,h.bu,h.dr,h.un⟩
  | false=>
  cases Kh w.s w.e.Id with
  | true=>exact ⟨h.rg,ZbD h.st (fun x hx=>hx),h.bu,h.dr,h.un⟩
  | false=>
  cases Ki w.s w.e.Id with
  | true=>exact Zdr h (ZDY _) (fun id hc=>by cases hc)
  | false=>exact ⟨h.rg,h.st,h.bu,h.dr,ZbD h.un (fun x hx=>hx)⟩
 ·exact ⟨h.rg,h.st,h.bu,h.dr,h.un⟩
 ·exact ⟨h.rg,h.st,h.bu,h.dr,h.un⟩
 ·exact ZdB h ⟨ZDY _,he.id,Zdj,Zdj,he.text⟩
theorem ZeH (s:Sta) (hs:StF s) (a:Int) (e:Event) (he:EvS e) (hL:∀ x∈e.Lst.l,x.Id.size≤1000):StE (ZP s a e):=by
 unfold ZP;cases okB s a e&&(Q1 (wk0 s a e)==0&&Wh (stepW (wk0 s a e)).s.Doors) with
 | true=>
  have h:=ZeG (w:=wk0 s a e) ⟨hs.e.regions,hs.e.streets,hs.e.buildings,hs.e.doors,hs.e.units⟩ he hL;exact ⟨FN s hs a e he,h.rg,h.st,h.bu,h.dr,h.un⟩
 | false=>
  refine ⟨⟨ZDY _,ZDY _,ZDY _,ZDY _,ZDY _,ZDY _,ZDY _⟩,?_,?_,?_,?_,?_⟩
  all_goals (intro x hx;cases hx)
end Go.AM
namespace Go.AM
open Go
def ZoO (m:List (Int×Int)) (k v:Int):List (Int×Int):=match m.findIdx? (fun p=>k==p.1) with | some i=>m.set i (k,v) | none=>m++[(k,v)]
def Zos (l:List Pair):List (Int×Int):=l.foldl (fun m p=>ZoO m p.b p.a) []
def ZoB (m:List (Int×Int)) (k:Int):Option Int:=(m.find? (fun p=>k==p.1)).map (·.2)
def ZoL (m:List (Int×Int)):Nat→Int→Option Int
 | 0,_=>none
 | n+1,a=>match ZoB m a with | some b=>ZoL m n b | none=>some a
theorem Zpn (k:Int):∀ (m:List (Int×Int)) (i:Nat),ZW false [1] (I k) (m.map (fun p=>I p.1)) i=some ((m.findIdx? (fun p=>k==p.1)).map (· + i))
 | [],i=>rfl
 | p::r,i=>by
  have ih:=Zpn k r (i+1);have he:Zz false [1] (I k) (I p.1)=some (k==p.1):=by simp only [go_sem,ZEA,if_true]
  rw [ZE2];unfold ZW;rw [he];dsimp only;rw [ih,List.findIdx?_cons];cases k==p.1 with
  | true=>simp
  | false=>
   simp only [cond_false,ZEc,if_false];congr 1;cases List.findIdx? (fun p=>k==p.1) r with
   | none=>rfl
   | some j=>simp;omega
theorem ZpA (k:Int):Zz false [1] (I k) (I k)=some true:=by simp only [go_sem,ZEA,beq_self_eq_true,if_true]
theorem Zq7 (m:List (Int×Int)) (k v:Int) {h:Hp} {b:Nat} (hb:h[b]? = some (.map (m.map (fun p=>I p.1)) (m.map (fun p=>I p.2)))):
 YK h false [1] (.mp b) (I k) (I v)=some (.bot,setH h b (.map ((ZoO m k v).map (fun p=>I p.1)) ((ZoO m k v).map (fun p=>I p.2)))):=by
 simp only [YK,hb,Yo,ZpA];rw [Zpn k m 0];unfold ZoO;cases hf:m.findIdx? (fun p=>k==p.1) with
 | none=>
  simp only [Option.map_none,ZM,ZH,ZEd,ZE2,ZEm]
 | some i=>
  simp only [ZEy,ZEU,ZM,ZH,ZEs];obtain ⟨hi,hp,_⟩:=ZGy.1 hf;have hk:(m.map (fun p=>I p.1)).set i (I k)=m.map (fun p=>I p.1):=by
   have hke:k=m[i].1:=by simpa using hp
   apply ZFj;intro j;rw [ZGg];by_cases hj:i=j
   ·subst hj;rw [if_pos rfl,if_pos (by rw [ZE1];exact hi),ZEz,ZE0 hi,hke]
    rfl
   ·rw [if_neg hj]
  rw [hk]
def lkV:Option Int→AV
 | some v=>I v
 | none=>I 0
theorem look_ok (m:List (Int×Int)) (k:Int) (bw:Bool) (h:Hp):
 W5 h false [1] true (I 0) (.imap bw (m.map (fun p=>I p.1)) (m.map (fun p=>I p.2))) (I k)=some (.tup [lkV (ZoB m k),.bool (ZoB m k).isSome]):=by
 simp only [W5,QW,ZpA];rw [Zpn k m 0];unfold ZoB;cases hf:m.findIdx? (fun p=>k==p.1) with
 | none=>
  have hn:m.find? (fun p=>k==p.1)=none:=by
   rw [ZFr];intro x hx;have:=List.findIdx?_eq_none_iff.1 hf x hx;simpa using this
  rw [hn];rfl
 | some i=>
  obtain ⟨hi,hp,hlt⟩:=ZGy.1 hf;have hs:m.find? (fun p=>k==p.1)=some m[i]:=by
   rw [List.find?_eq_some_iff_getElem];exact ⟨hp,i,hi,rfl,fun j hj=>by have:=hlt j hj;simpa using this⟩
  rw [hs];simp only [ZEy,ZEU,ZEz,ZE0 hi,ZGj];rfl
end Go.AM
namespace Go.AM
open Go
theorem Zq8 (m:List (Int×Int)) (k v x:Int):ZoB (ZoO m k v) x=if x=k then some v else ZoB m x:=by
 unfold ZoO;cases hf:m.findIdx? (fun p=>k==p.1) with
 | none=>
  have hn:∀ p∈m,p.1≠k:=by
   intro p hp hc;have:=List.findIdx?_eq_none_iff.1 hf p hp;rw [hc] at this;simp at this
  unfold ZoB;dsimp only;rw [List.find?_append];by_cases hx:x=k
  ·subst hx;have:m.find? (fun p=>x==p.1)=none:=by
    rw [ZFr];intro p hp hc;exact hn p hp (by simpa using hc:x=p.1).symm
   rw [this,if_pos rfl];simp
  ·rw [if_neg hx];cases m.find? (fun p=>x==p.1) with
   | some p=>rfl
   | none=>
    have:(x==k)=false:=by simpa using hx
    simp [this]
 | some i=>
  obtain ⟨hi,hp,hlt⟩:=ZGy.1 hf;have hp':k=m[i].1:=by simpa using hp
  dsimp only;clear hf;induction m generalizing i with
  | nil=>exact absurd hi (Nat.not_lt_zero _)
  | cons p r ih=>
   cases i with
   | zero=>
    have hpk:k=p.1:=hp';unfold ZoB;rw [List.set_cons_zero,ZG1,ZG1];by_cases hx:x=k
    ·subst hx;rw [if_pos rfl];simp
    ·rw [if_neg hx];have h1:(x==k)=false:=by simpa using hx
     have h2:(x==p.1)=false:=by rw [←hpk];exact h1
     simp only [h1,h2]
   | succ i=>
    have h0:=hlt 0 (Nat.succ_pos i);have h0':(k==p.1)=false:=by simpa using h0
    have ih':=ih i (by simpa using hi) (by simpa using hp) (fun j hj=>by have:=hlt (j+1) (by omega);simpa using this) (by simpa using hp')
    unfold ZoB at ih' ⊢;rw [List.set_cons_succ,ZG1,ZG1];cases hx:x==p.1 with
    | true=>
     have hxp:x=p.1:=by simpa using hx
     have hxk:x≠k:=by
      intro hc;rw [←hc,hx] at h0';cases h0'
     rw [if_neg hxk]
    | false=>exact ih'
theorem Zq9 (l:List Pair) (h:(l.map (·.b)).Nodup) (x:Int):ZoB (Zos l) x=(l.find? (fun p=>p.b==x)).map (·.a):=by
 have G:∀ (l:List Pair) (m:List (Int×Int)),(l.map (·.b)).Nodup→ZoB (l.foldl (fun m p=>ZoO m p.b p.a) m) x=match (l.find? (fun p=>p.b==x)).map (·.a) with | some v=>some v | none=>ZoB m x:=by
  intro l;induction l with
  | nil=>intro m _;rfl
  | cons p r ih=>
   intro m hn;rw [ZE2,ZEI] at hn;rw [ZEH,ih _ hn.2,Zq8,ZG1];cases hx:p.b==x with
   | true=>
    have hpx:p.b=x:=by simpa using hx
    have hr:r.find? (fun p=>p.b==x)=none:=by
     rw [ZFr];intro q hq hc;have:q.b=x:=by simpa using hc
     exact hn.1 (by rw [hpx,←this];exact ZFb (f:=(·.b)) hq)
    rw [hr,if_pos hpx.symm];rfl
   | false=>
    have hpx:¬ x=p.b:=fun hc=>by rw [hc] at hx;simp at hx
    rw [if_neg hpx]
 have:=G l [] h;unfold Zos;rw [this];cases (l.find? (fun p=>p.b==x)).map (·.a)<;>rfl
theorem ZpB:∀ (l:List Pair) (K:List Int) (b:Int),(K.any (Vm b)=true∨∃ p∈l,p.b=b)→(l.foldl (fun K p=>Qi Vm K p.b) K).any (Vm b)=true
 | [],K,b,h=>h.elim id (fun ⟨p,hp,_⟩=>by cases hp)
 | p::r,K,b,h=>by
  rw [ZEH];refine ZpB r _ b ?_;rcases h with h | ⟨q,hq,hb⟩
  ·left;unfold Qi;cases K.any (Vm p.b) with
   | true=>exact h
   | false=>rw [cond_false,ZGe,h,ZEb]
  ·rcases ZEq.1 hq with rfl | hq
   ·left;unfold Qi;cases hc:K.any (Vm q.b) with
    | true=>rw [cond_true,←hb];exact hc
    | false=>
     rw [cond_false,ZGe,hb];unfold Vm;simp
   ·exact Or.inr ⟨q,hq,hb⟩
theorem ZpC {s:Sta} (hp:WK s=true):(s.Merged.map (·.b)).Nodup∧∀ q∈s.Merged,Y2 q=true:=by
 unfold WK at hp;simp only [ZDX] at hp;obtain ⟨p1,_,_⟩:=hp;unfold UB at p1;rw [Zda] at p1;refine ⟨?_,fun q hq=>?_⟩
 ·rw [ZGx,ZFC,List.pairwise_iff_getElem];intro i j hi hj hij hc;have:=p1 j s.Merged[j] (ZE0 hj);rw [ZE9,ZDX,ZEp] at this;have h2:=this.2;unfold QV at h2;rw [ZpB (s.Merged.take j) [] s.Merged[j].b (Or.inr ⟨s.Merged[i],?_,hc⟩)] at h2
  ·cases h2
  ·rw [ZFc];exact ⟨i,by rw [List.getElem?_take,if_pos hij];exact ZE0 hi⟩
 ·obtain ⟨j,hj⟩:=ZFc.1 hq;have:=p1 j q hj;rw [ZDX] at this;exact this.1
def Zoz (a:Int):Bool:=decide (0≤a)&&decide (a≤63)
theorem Zpo {q:Pair} (h:Y2 q=true):(0≤q.a∧q.a≤63)∧(0≤q.b∧q.b≤63):=by
 unfold Y2 QM ZD at h;simp only [ZDX,decide_eq_true_eq] at h;exact ⟨⟨h.1.1.1,h.1.1.2⟩,⟨h.2.1.1.1,h.2.1.1.2⟩⟩
theorem ZpD {s:Sta} (hp:WK s=true) (x:Int):ZoB (Zos s.Merged) x=bif decide (XJ s x < 0) then none else some (XJ s x):=by
 obtain ⟨h1,h2⟩:=ZpC hp;rw [Zq9 _ h1];unfold XJ;cases hf:s.Merged.find? (fun p=>p.b==x) with
 | none=>rfl
 | some p=>
  have:=(Zpo (h2 p (ZG0 hf))).1;have hd:decide (p.a < 0)=false:=decide_eq_false (by omega)
  simp only [ZEy,hd,cond_false]
theorem ZpE {s:Sta} (hp:WK s=true):∀ (n:Nat) (x:Int),0≤x→chN s n x=true→∃ b,ZoL (Zos s.Merged) n x=some b
 | 0,x,hx,h=>by
  unfold chN at h;rw [show decide (x ≥ 0)=true from decide_eq_true hx] at h
  cases h
 | n+1,x,hx,h=>by
  unfold chN at h;rw [show decide (x ≥ 0)=true from decide_eq_true hx,cond_true] at h
  unfold ZoL;rw [ZpD hp];cases hd:decide (XJ s x < 0) with
  | true=>exact ⟨x,rfl⟩
  | false=>
   have:=of_decide_eq_false hd;exact ZpE hp n (XJ s x) (by omega) h
def Zoq (s:Sta) (a:Int):Int:=(ZoL (Zos s.Merged) (s.Merged.length+1) a).getD a
theorem ZpF {s:Sta} (hp:WK s=true) {a:Int} (ha:0≤a):ZoL (Zos s.Merged) (s.Merged.length+1) a=some (Zoq s a):=by
 obtain ⟨b,hb⟩:=ZpE hp _ a ha (Z3L s hp a);unfold Zoq;rw [hb];rfl
theorem ZpG {s:Sta} (hp:WK s=true):∀ (n:Nat) (a b:Int),0≤a∧a≤63→ZoL (Zos s.Merged) n a=some b→0≤b∧b≤63
 | 0,a,b,_,h=>by cases h
 | n+1,a,b,ha,h=>by
  unfold ZoL at h;rw [ZpD hp] at h;cases hd:decide (XJ s a < 0) with
  | true=>rw [hd] at h;cases h;exact ha
  | false=>
   rw [hd] at h;refine ZpG hp n (XJ s a) b ?_ h;have h0:=of_decide_eq_false hd;unfold XJ at h0 ⊢;cases hf:s.Merged.find? (fun p=>p.b==a) with
   | none=>rw [hf] at h0;exact absurd (by decide) h0
   | some p=>exact (Zpo ((ZpC hp).2 p (ZG0 hf))).1
theorem ZpH {s:Sta} (hp:WK s=true) {a:Int} (ha:0≤a∧a≤63):0≤Zoq s a∧Zoq s a≤63:=ZpG hp _ a _ ha (ZpF hp ha.1)
end Go.AM
namespace Go.AM
open Go
def ibr (h:Hp) (a b c:Bool):DRec:=bif a&&(!b&&!c) then ⟨false,[],some h.length,none⟩ else ⟨false,[],none,none⟩
theorem Zqa (h:Hp):ibr h true false false=⟨false,[],some h.length,none⟩:=rfl
theorem Zqb (h:Hp) (c:Bool):ibr h true true c=⟨false,[],none,none⟩:=rfl
theorem Zqc (h:Hp):ibr h true false true=⟨false,[],none,none⟩:=rfl
theorem Zqd {E:Env} {sz:Nat} {x:Arg} {fr:Fr} {h:Hp}:Za E (.ibox sz x) fr h=ibr h (fits sz (ev E (Z2 x.slots fr) x)) (Z4 (ev E (Z2 x.slots fr) x).cells) (Zi (ev E (Z2 x.slots fr) x).cells):=by
 simp only [Za,Z8,AOp.slots];cases fits sz (ev E (Z2 x.slots fr) x)<;>cases Z4 (ev E (Z2 x.slots fr) x).cells<;>cases Zi (ev E (Z2 x.slots fr) x).cells<;>rfl
attribute [go_sem] Zqd Zqa Zqb Zqc
theorem Zqe (bw:Bool) (h:Hp) (n:Nat) (l:List AV) (hc:Z4 l=true):ZC bw h (n+1) l=some l:=by
 unfold ZC;rw [hc];rfl
theorem Zqf (bw:Bool) (h:Hp) (n b:Nat) (ks vs:List AV) (hb:h[b]? = some (.map ks vs)) (hk:Z4 ks=true) (hv:Z4 vs=true):freeze bw h (n+2) (.mp b)=some (.imap bw ks vs):=by
 unfold freeze;rw [show clean (.mp b)=false from rfl,cond_false]
 dsimp only;rw [hb];dsimp only;rw [hk,cond_true,Zqe bw h n vs hv];rfl
abbrev tkV (s:Sta):AV:=.imap false ((Zos s.Merged).map (fun p=>I p.1)) ((Zos s.Merged).map (fun p=>I p.2))
abbrev ldA (s:Sta):List AV:=[.isl false false 6 (s.Regions.map Region.enc),.isl false false 5 (s.Streets.map Street.enc),.isl false false 4 (s.Buildings.map Building.enc),.isl false false 16 (s.Doors.map Door.enc),.isl false false 6 (s.Units.map Unit'.enc),.isl false false 2 (s.Merged.map Pair.enc),.isl false false 2 (s.Rulings.map Pair.enc),tkV s]
abbrev ldI (s:Sta):AV:=.iptr false (ldA s)
theorem Zqg (s:Sta) (hl:s.Merged.length≤1000):Zg rE [1,4,9,10,11] c50L0b [(1,stI s),(4,.mp 0),(9,.isl false false 2 (s.Merged.map Pair.enc)),(10,I s.Merged.length),(11,.int .i64 0)] [.map [] []] =
 some (.exit 0,[(1,stI s),(4,.mp 0),(9,.isl false false 2 (s.Merged.map Pair.enc)),(10,I s.Merged.length),(11,I s.Merged.length)],[.map ((Zos s.Merged).map (fun p=>I p.1)) ((Zos s.Merged).map (fun p=>I p.2))]):=by
 have hb:∀ (m:List (Int×Int)) n,Zd n (m.map (fun p=>I p.1))=true∧Zd n (m.map (fun p=>I p.2))=true:=fun m n=>⟨ZN _ (Zw (fun t=>rfl) m),ZN _ (Zw (fun t=>rfl) m)⟩
 have L:=Y8 (E:=rE) (live:=[1,4,9,10,11]) (b:=c50L0b) s.Merged.length (fun i=>[(1,stI s),(4,.mp 0),(9,.isl false false 2 (s.Merged.map Pair.enc)),(10,I s.Merged.length),(11,I i)])
  (fun i=>[.map ((Zos (s.Merged.take i)).map (fun p=>I p.1)) ((Zos (s.Merged.take i)).map (fun p=>I p.2))]) (fun i=>rfl)
  (fun i hi=>by
   obtain ⟨x,hx⟩:∃ x,s.Merged[i]? = some x:=⟨_,ZE0 hi⟩;have hg:=Z6 (f:=Pair.enc) hx;have hi':=Zh hi;have hwr:=Zx (n:=i) (by omega)
   have htk:Zos (s.Merged.take (i+1))=ZoO (Zos (s.Merged.take i)) x.b x.a:=Us _ _ hx;rw [htk];have hp:=fun (q:AObj)=>Zq7 (Zos (s.Merged.take i)) x.b x.a (h:=[.map ((Zos (s.Merged.take i)).map (fun p=>I p.1)) ((Zos (s.Merged.take i)).map (fun p=>I p.2)),q]) (b:=0) rfl
   generalize Zos (s.Merged.take i)=m at *;have n0:((0:Int)).toNat=0:=rfl;have n1:((1:Int)).toNat=1:=rfl;refine ⟨[(1,stI s),(4,.mp 0),(9,.isl false false 2 (s.Merged.map Pair.enc)),(10,I s.Merged.length),(11,I (i+1:Nat))],?_,rfl⟩;simp only [go_sem,qy,qq,qz,qv,qk,c50L0b,hg,hi',hwr,Pair.enc,WJ,XL,n0,n1,if_true,hp,hb])
  (e:=.exit 0) (fr:=[(1,stI s),(4,.mp 0),(9,.isl false false 2 (s.Merged.map Pair.enc)),(10,I s.Merged.length),(11,I s.Merged.length)]) (h:=[.map ((Zos s.Merged).map (fun p=>I p.1)) ((Zos s.Merged).map (fun p=>I p.2))]) (by
   rw [ZEu];simp only [go_sem,qy,qq,qv,reduceIte,c50L0b,ZG,hb]) (by simp)
 exact L
theorem Zp7 (s:Sta) (hE:StE s):pfn rE 50 [stA s]=some (.tup [ldI s,.bool (Jx s)]):=by
 have hP:=Z3i s hE;have L:=Zqg s hE.sizes.merged;have hb:∀ (m:List (Int×Int)) n,Zd n (m.map (fun p=>I p.1))=true∧Zd n (m.map (fun p=>I p.2))=true:=fun m n=>⟨ZN _ (Zw (fun t=>rfl) m),ZN _ (Zw (fun t=>rfl) m)⟩
 have hc:Z4 ((Zos s.Merged).map (fun p=>I p.1))=true∧Z4 ((Zos s.Merged).map (fun p=>I p.2))=true:=⟨Zw (fun t=>rfl) _,Zw (fun t=>rfl) _⟩
 have hz:=fun q=>Zqf false [.map ((Zos s.Merged).map (fun p=>I p.1)) ((Zos s.Merged).map (fun p=>I p.2)),q] 27 0 _ _ rfl hc.1 hc.2
 simp only [stI] at L;rw [Z5 (f:=50) rfl rfl];simp only [go_sem,qy,qq,qv,qk,c50,c50L0,L,hP,hb,hz]
theorem Zp8 (a:Int):pfn rE 51 [I a]=some (.bool (Zoz a)):=by
 rw [Z5 (f:=51) rfl rfl];unfold Zoz;have h:decide (a < 64)=decide (a≤63):=by
  by_cases c:a≤63
  ·rw [decide_eq_true c,decide_eq_true (by omega)]
  ·rw [decide_eq_false c,decide_eq_false (by omega)]
 have h0:decide (a ≥ 0)=decide (0≤a):=rfl;cases c:decide (0≤a)<;>simp only [go_sem,qy,qq,reduceIte,c51,h0,c,h]
theorem ZpI (s:Sta) (b:Int):∀ (n:Nat) (a:Int),ZoL (Zos s.Merged) n a=some b→
 ∃ fr',Zg rE [0,1,5,6] c53L0b [(0,ldI s),(1,I a),(5,lkV (ZoB (Zos s.Merged) a)),(6,.bool (ZoB (Zos s.Merged) a).isSome)] []=some (.exit 0,fr',[])∧get fr' 1=I b
 | 0,a,h=>by cases h
 | n+1,a,h=>by
  unfold ZoL at h;have hk:=fun x=>look_ok (Zos s.Merged) x false []
  cases hl:ZoB (Zos s.Merged) a with
  | none=>
   rw [hl] at h;cases h;refine ⟨_,Q7 rfl (e:=.exit 0) (fr':=[(0,ldI s),(1,I b),(5,I 0),(6,.bool false)]) (by simp only [go_sem,qy,c53L0b,ZGi,lkV]) (by simp),by simp only [go_sem,qy]⟩
  | some c=>
   rw [hl] at h;dsimp only at h;obtain ⟨fr',h1,h2⟩:=ZpI s b n c h;refine ⟨fr',?_,h2⟩;have hs:=hk c;rw [Yt rfl (fr':=[(0,ldI s),(1,I c),(5,lkV (ZoB (Zos s.Merged) c)),(6,.bool (ZoB (Zos s.Merged) c).isSome)]) (h':=[]) (by simp only [go_sem,qy,c53L0b,ZGj,lkV,hs])]
   exact h1
theorem ZpJ (s:Sta) (hp:WK s=true) (a:Int) (ha:0≤a):pfn rE 53 [ldI s,I a]=some (I (Zoq s a)):=by
 obtain ⟨fr',h1,h2⟩:=ZpI s _ _ a (ZpF hp ha);have hk:=look_ok (Zos s.Merged) a false [];rw [Z5 (f:=53) rfl rfl];simp only [go_sem,qy,qq,c53,c53L0,hk,h1,h2]
end Go.AM
namespace Go.AM
open Go
def ZoE (m:Int→Int) (a b:Int):List Pair→Option Bool
 | []=>none
 | p::r=>bif m p.a==a&&m p.b==b then some (a != b) else bif m p.a==b&&m p.b==a then some false else ZoE m a b r
def ZoW (s:Sta) (a b:Int):Bool:=(ZoE (Zoq s) a b s.Rulings.reverse).getD false
abbrev ruV (s:Sta):AV:=.isl false false 2 (s.Rulings.map Pair.enc)
def Zov (s:Sta) (a b:Int):Fr:=[(3,.iptr false [ldI s]),(4,.iptr false [I a]),(5,.iptr false [I b]),(6,.ptr 0 0 0 1),(16,.clo (.func 238) [] [.iptr false [ruV s]])]
def prH (s:Sta) (a b:Int):Hp:=[.row 1 [.bool false],.loop .ready .normal (Zov s a b) [17,18] c108R0a c108R0b]
def prD (s:Sta) (a b:Int) (r:Bool):Hp:=[.row 1 [.bool r],.loop .done .ret (Zov s a b) [17,18] c108R0a c108R0b]
theorem Zot (s:Sta) (n:Nat):bel n (ldI s)=true:=by
 have hc:Z4 [ldI s]=true:=by
  have hb:Z4 ((Zos s.Merged).map (fun p=>I p.1))=true∧Z4 ((Zos s.Merged).map (fun p=>I p.2))=true:=⟨Zw (fun t=>rfl) _,Zw (fun t=>rfl) _⟩
  simp only [go_sem]
 have:=ZN (n:=n) [ldI s] hc;unfold Zd at this;rw [ZDX] at this;exact this.1
theorem Zow (s:Sta):clean (ldI s)=true:=by
 have hb:Z4 ((Zos s.Merged).map (fun p=>I p.1))=true∧Z4 ((Zos s.Merged).map (fun p=>I p.2))=true:=⟨Zw (fun t=>rfl) _,Zw (fun t=>rfl) _⟩
 simp only [go_sem]
theorem Zqh (s:Sta) (a b:Int) (i:Nat) (p:Pair) (ha:pfn rE 53 [ldI s,I p.a]=some (I (Zoq s p.a))) (hb:pfn rE 53 [ldI s,I p.b]=some (I (Zoq s p.b))):
 U4 rE 1 [I i,.agg [I p.a,I p.b]] (prH s a b)=some (match ZoE (Zoq s) a b [p] with
  | none=>(.bool true,prH s a b++[.row 2 [.agg [I p.a,I p.b]]])
  | some r=>(.bool false,prD s a b r++[.row 2 [.agg [I p.a,I p.b]]])):=by
 have n0:((0:Int)).toNat=0:=rfl;have n1:((1:Int)).toNat=1:=rfl;have hl:=Zot s;have hc:=Zow s;unfold ZoE ZoE;generalize Zoq s p.a=x at *;generalize Zoq s p.b=y at *;cases c1:x==a&&y==b with
 | true=>
  have h:=Ss (E:=rE) (b:=1) (args:=[I i,.agg [I p.a,I p.b]]) (h:=prH s a b) (fr:=Zov s a b) (ps:=[17,18]) (assign:=c108R0a) (body:=c108R0b)
   (fr0:=(18,.agg [I p.a,I p.b])::(17,I i)::Zov s a b) rfl rfl (by simp only [go_sem,qy,qq,qk,c108R0a,prH,Zov]<;>rfl) (by rfl)
   (by
    cases d1:x==a with
    | false=>rw [d1] at c1;cases c1
    | true=>
    rw [d1,ZE7] at c1;simp only [go_sem,qy,qq,qz,qv,qk,reduceIte,c108R0b,ha,hb,WJ,XL,n0,n1,d1,c1]<;>rfl) (by rfl)
  exact h
 | false=>
  rw [cond_false];cases c2:x==b&&y==a with
  | true=>
   have h:=Ss (E:=rE) (b:=1) (args:=[I i,.agg [I p.a,I p.b]]) (h:=prH s a b) (fr:=Zov s a b) (ps:=[17,18]) (assign:=c108R0a) (body:=c108R0b)
    (fr0:=(18,.agg [I p.a,I p.b])::(17,I i)::Zov s a b) rfl rfl (by simp only [go_sem,qy,qq,qk,c108R0a,prH,Zov]<;>rfl) (by rfl)
    (by
     cases e1:x==b with
     | false=>rw [e1] at c2;cases c2
     | true=>
     rw [e1,ZE7] at c2;cases d1:x==a with
     | false=>simp only [go_sem,qy,qq,qz,qv,qk,reduceIte,c108R0b,ha,hb,WJ,XL,n0,n1,d1,e1,c2]<;>rfl
     | true=>
      rw [d1,ZE7] at c1;simp only [go_sem,qy,qq,qz,qv,qk,reduceIte,c108R0b,ha,hb,WJ,XL,n0,n1,d1,c1,e1,c2]<;>rfl) (by rfl)
   exact h
  | false=>
   have h:=Ss (E:=rE) (b:=1) (args:=[I i,.agg [I p.a,I p.b]]) (h:=prH s a b) (fr:=Zov s a b) (ps:=[17,18]) (assign:=c108R0a) (body:=c108R0b)
    (fr0:=(18,.agg [I p.a,I p.b])::(17,I i)::Zov s a b) rfl rfl (by simp only [go_sem,qy,qq,qk,c108R0a,prH,Zov]<;>rfl) (by rfl)
    (e:=.normal) (fr2:=[]) (h2:=[.row 1 [.bool false],.loop .busy .normal (Zov s a b) [17,18] c108R0a c108R0b,.row 2 [.agg [I p.a,I p.b]]])
    (by
     cases d1:x==a with
     | false=>
      cases e1:x==b with
      | false=>simp only [go_sem,qy,qq,qz,qv,qk,reduceIte,c108R0b,Zov,ha,hb,WJ,XL,n0,n1,d1,e1]<;>rfl
      | true=>
       rw [e1,ZE7] at c2;simp only [go_sem,qy,qq,qz,qv,qk,reduceIte,c108R0b,Zov,ha,hb,WJ,XL,n0,n1,d1,e1,c2]<;>rfl
     | true=>
      rw [d1,ZE7] at c1;cases e1:x==b with
      | false=>simp only [go_sem,qy,qq,qz,qv,qk,reduceIte,c108R0b,Zov,ha,hb,WJ,XL,n0,n1,d1,c1,e1]<;>rfl
      | true=>
       rw [e1,ZE7] at c2;simp only [go_sem,qy,qq,qz,qv,qk,reduceIte,c108R0b,Zov,ha,hb,WJ,XL,n0,n1,d1,c1,e1,c2]<;>rfl) (by rfl)
   exact h
theorem ZpK (s:Sta) (a b:Int) (hl:s.Rulings.length≤1000) (hM:∀ p∈s.Rulings,pfn rE 53 [ldI s,I p.a]=some (I (Zoq s p.a))∧pfn rE 53 [ldI s,I p.b]=some (I (Zoq s p.b))):
 ∀ (k:Nat),k≤s.Rulings.length→∃ fr',Zg rE [0,1,3] c238L0b [(0,.yld 1),(1,.iptr false [ruV s]),(3,I ((k:Int) - 1))] (prH s a b) =
  some (match ZoE (Zoq s) a b (s.Rulings.take k).reverse with | none=>(.exit 0,fr',prH s a b) | some r=>(.ret,fr',prD s a b r))
 | 0,_=>⟨_,Q7 rfl (e:=.exit 0) (fr':=[(0,.yld 1),(1,.iptr false [ruV s]),(3,I (-1))]) (by
  have h0:decide (((0:Nat):Int) - 1 ≥ 0)=false:=rfl;simp only [go_sem,qy,qq,qv,reduceIte,c238L0b,h0,prH];rfl) (by simp)⟩
 | k+1,hk=>by
  obtain ⟨x,hx⟩:∃ x,s.Rulings[k]? = some x:=⟨_,ZE0 (by omega)⟩
  obtain ⟨m1,m2⟩:=hM x (ZE5 hx);have hg:=Z6 (f:=Pair.enc) hx;have hy:=Zqh s a b k x m1 m2;have hk1:(((k+1:Nat):Int) - 1)=(k:Int):=by omega
  have hge:decide ((k:Int) ≥ 0)=true:=decide_eq_true (by omega)
  have hw:IntKind.i64.wrap ((k:Int) - 1)=(k:Int) - 1:=YM (by omega) (by omega)
  have htk:(s.Rulings.take (k+1)).reverse=x::(s.Rulings.take k).reverse:=by
   rw [ZFa,hx,List.reverse_append];rfl
  have hbl:=Zot s;have hbf:Zd 2 (frV (Zov s a b))=true:=by simp only [go_sem,qv,Zov]
  have hp1:ZoE (Zoq s) a b (x::(s.Rulings.take k).reverse)=match ZoE (Zoq s) a b [x] with | some r=>some r | none=>ZoE (Zoq s) a b (s.Rulings.take k).reverse:=by
   show (bif _ then _ else bif _ then _ else _)=_
   unfold ZoE;cases Zoq s x.a==a&&Zoq s x.b==b with
   | true=>rfl
   | false=>
    rw [cond_false,cond_false];cases Zoq s x.a==b&&Zoq s x.b==a with
    | true=>rfl
    | false=>rw [cond_false,cond_false];unfold ZoE;rfl
  rw [htk,hp1,hk1];cases hc:ZoE (Zoq s) a b [x] with
  | some r=>
   rw [hc] at hy;dsimp only at hy;refine ⟨_,Q7 rfl (e:=.ret) (fr':=[(0,.yld 1),(1,.iptr false [ruV s]),(3,I k)]) (by
    simp only [prH,prD,ZE4,ZE6] at hy ⊢;simp only [go_sem,qy,qq,qv,qk,reduceIte,c238L0b,S3,hg,hge,hy,Pair.enc,hbf]) (by simp)⟩
  | none=>
   rw [hc] at hy;dsimp only at hy;obtain ⟨fr',h1⟩:=ZpK s a b hl hM k (by omega)
   refine ⟨fr',?_⟩;rw [Yt rfl (fr':=[(0,.yld 1),(1,.iptr false [ruV s]),(3,I ((k:Int) - 1))]) (h':=prH s a b) (by
    simp only [prH,ZE4,ZE6] at hy ⊢;simp only [go_sem,qy,qq,qv,qk,reduceIte,c238L0b,S3,hg,hge,hw,hy,Pair.enc,hbf])]
   exact h1
theorem Zqi (ex:Bool) (es:List AV) (h:Hp) (hc:Z4 es=true):fnV rE 188 [.isl false ex 2 es] h=some (.clo (.func 238) [] [.iptr false [.isl false ex 2 es]],h):=by
 rw [Q6 (f:=188) rfl rfl];simp only [go_sem,qy,qq,c188]
theorem Zqj (s:Sta) (a b:Int) (hl:s.Rulings.length≤1000) (hM:∀ p∈s.Rulings,pfn rE 53 [ldI s,I p.a]=some (I (Zoq s p.a))∧pfn rE 53 [ldI s,I p.b]=some (I (Zoq s p.b))):
 rf rE (.clo (.func 238) [] [.iptr false [ruV s]]) [17,18] c108R0a c108R0b (Zov s a b) [.row 1 [.bool false]]=match ZoE (Zoq s) a b s.Rulings.reverse with
  | none=>some (.normal,Zov s a b,[.row 1 [.bool false],.loop .exhausted .normal (Zov s a b) [17,18] c108R0a c108R0b])
  | some r=>some (.ret,Zov s a b,[.row 1 [.bool r],.loop .exhausted .ret (Zov s a b) [17,18] c108R0a c108R0b]):=by
 obtain ⟨fr',L⟩:=ZpK s a b hl hM s.Rulings.length (ZDZ _);rw [ZEu] at L;have hw:IntKind.i64.wrap ((s.Rulings.length:Int) - 1)=(s.Rulings.length:Int) - 1:=YM (by omega) (by omega)
 have hbl:=Zot s;have hbf:Zd 2 (frV (Zov s a b))=true:=by simp only [go_sem,qv,Zov]
 rw [Z1k (c:=c238) rfl];simp only [prH,prD] at L;cases hc:ZoE (Zoq s) a b s.Rulings.reverse with
 | none=>
  rw [hc] at L;dsimp only at L;simp only [go_sem,qy,qq,reduceIte,c238,c238L0,hw,L,hbf];rfl
 | some r=>
  rw [hc] at L;dsimp only at L;simp only [go_sem,qy,qq,reduceIte,c238,c238L0,hw,L,hbf];rfl
theorem ZpL (s:Sta) (a b:Int) (hl:s.Rulings.length≤1000) (hM:∀ p∈s.Rulings,pfn rE 53 [ldI s,I p.a]=some (I (Zoq s p.a))∧pfn rE 53 [ldI s,I p.b]=some (I (Zoq s p.b))):
 pfn rE 108 [ldI s,I a,I b]=some (.bool (ZoW s a b)):=by
 have hrf:=Zqj s a b hl hM;have hB:=fun h=>Zqi false (s.Rulings.map Pair.enc) h (Zw (fun t=>rfl) _)
 have hc:=Zow s;have hbl:=Zot s;unfold ZoW;rw [Z5 (f:=108) rfl rfl];cases hp:ZoE (Zoq s) a b s.Rulings.reverse with
 | none=>
  rw [hp] at hrf;dsimp only at hrf;simp only [Zov] at hrf;simp only [go_sem,qy,qq,qv,c108,hB,Sr,hrf,hc];rfl
 | some r=>
  rw [hp] at hrf;dsimp only at hrf;simp only [Zov] at hrf;simp only [go_sem,qy,qq,qv,c108,hB,Sr,hrf,hc];rfl
end Go.AM
namespace Go.AM
open Go
def hfX (q:Int) (p:Int):Int:=W (W (2 * q) - p)
def ZoX (p a b:Pt):Int:=W (W (hfX a.X p.X * hfX b.Y p.Y) - W (hfX a.Y p.Y * hfX b.X p.X))
def Zp9 (p a b:Pt):Bool:=ZoX p a b==0&&decide (W (W (hfX a.X p.X * hfX b.X p.X)+W (hfX a.Y p.Y * hfX b.Y p.Y))≤0)
def Zp4 (p a b:Pt) (w:Int):Int:=
 bif decide (hfX a.Y p.Y≤0)&&(decide (hfX b.Y p.Y > 0)&&decide (ZoX p a b > 0)) then W (w+1)
 else bif decide (hfX a.Y p.Y > 0)&&(decide (hfX b.Y p.Y≤0)&&decide (ZoX p a b < 0)) then W (w - 1) else w
def ZoP (p:Pt) (l:List Pt) (st:Int×Bool) (i:Nat):Int×Bool:=
 (Zp4 p (pAt l i) (pAt l ((i+1) % l.length)) st.1,st.2||Zp9 p (pAt l i) (pAt l ((i+1) % l.length)))
def ZoC (l:List Pt) (p:Pt):Int×Bool:=(List.range l.length).foldl (ZoP p l) (0,false)
def ZoD (v:AV) (p:Pt):Fr:=[(14,.clo (.func 267) [] [.iptr false [v]]),(13,v),(0,v),(3,.iptr false [I p.X,I p.Y]),(4,.ptr 0 0 0 1),(5,.ptr 1 0 0 1)]
def hfH (v:AV) (p:Pt) (st:Int×Bool):Hp:=[.row 1 [I st.1],.row 1 [.bool st.2],.loop .ready .normal (ZoD v p) [15,16] c256R0a c256R0b]
def hfD:ACode:=
 .keep []<|.block 2<|
  .seq (.keep [4,9,11,12,63]<|.region [o 64 (.mv (.t 9)),
   o 65 (.bin .leq (.t 64) (.c (.int .i64 0))),
   o 66 (.mv (.t 65)),
   og 67 (.mv (.t 11)) 66 true,
   og 68 (.bin .gtr (.t 67) (.c (.int .i64 0))) 66 true,
   o 69 (.pick (.t 66) (.t 68) (.c (.bool false))),
   o 70 (.mv (.t 69)),
   og 71 (.mv (.t 12)) 70 true,
   og 72 (.bin .gtr (.t 71) (.c (.int .i64 0))) 70 true,
   o 73 (.pick (.t 70) (.t 72) (.c (.bool false))),
   o 63 (.mv (.t 73))])<|
  .cond (.t 63)
   (.keep []<|.region [o 74 (.load none (.t 4)),
    o 75 (.bin .add (.t 74) (.c (.int .i64 1))),
    ⟨none,.store 1 (.t 4) (.t 75),none⟩])
   (.seq (.keep [4,76]<|.region [o 77 (.mv (.t 9)),
     o 78 (.bin .gtr (.t 77) (.c (.int .i64 0))),
     o 79 (.mv (.t 78)),
     og 80 (.mv (.t 11)) 79 true,
     og 81 (.bin .leq (.t 80) (.c (.int .i64 0))) 79 true,
     o 82 (.pick (.t 79) (.t 81) (.c (.bool false))),
     o 83 (.mv (.t 82)),
     og 84 (.mv (.t 12)) 83 true,
     og 85 (.bin .lss (.t 84) (.c (.int .i64 0))) 83 true,
     o 86 (.pick (.t 83) (.t 85) (.c (.bool false))),
     o 76 (.mv (.t 86))])<|
    .cond (.t 76)
     (.keep []<|.region [o 87 (.load none (.t 4)),
      o 88 (.bin .sub (.t 87) (.c (.int .i64 1))),
      ⟨none,.store 1 (.t 4) (.t 88),none⟩])
     (.skip))
def hfB:ACode:=
 .keep []<|.block 1<|
  .seq (.keep [4,5,8,9,10,11]<|.draw [[],[],[],[],[],[],[],[],[],[],[],[],[],[],[],[],[],[],[],[],[],[],[],[],[],[],[]]
   [o 17 (.fadr 0 (.t 6)),
   o 18 (.load none (.t 17)),
   o 19 (.bin .mul (.c (.int .i64 2)) (.t 18)),
   o 20 (.fadr 0 (.t 3)),
   o 21 (.load none (.t 20)),
   o 22 (.bin .sub (.t 19) (.t 21)),
   o 23 (.fadr 1 (.t 6)),
   o 24 (.load none (.t 23)),
   o 25 (.bin .mul (.c (.int .i64 2)) (.t 24)),
   o 26 (.fadr 1 (.t 3)),
   o 27 (.load none (.t 26)),
   o 28 (.bin .sub (.t 25) (.t 27)),
   o 29 (.fadr 0 (.t 7)),
   o 30 (.load none (.t 29)),
   o 31 (.bin .mul (.c (.int .i64 2)) (.t 30)),
   o 32 (.fadr 0 (.t 3)),
   o 33 (.load none (.t 32)),
   o 34 (.bin .sub (.t 31) (.t 33)),
   o 35 (.fadr 1 (.t 7)),
   o 36 (.load none (.t 35)),
   o 37 (.bin .mul (.c (.int .i64 2)) (.t 36)),
   o 38 (.fadr 1 (.t 3)),
   o 39 (.load none (.t 38)),
   o 40 (.bin .sub (.t 37) (.t 39)),
   o 8 (.mv (.t 22)),
   o 9 (.mv (.t 28)),
   o 10 (.mv (.t 34))]
   [o 11 (.mv (.t 40))])<|
  .seq (.keep [4,5,8,9,10,11,12]<|.region [o 41 (.mv (.t 8)),
   o 42 (.mv (.t 11)),
   o 43 (.bin .mul (.t 41) (.t 42)),
   o 44 (.mv (.t 9)),
   o 45 (.mv (.t 10)),
   o 46 (.bin .mul (.t 44) (.t 45)),
   o 47 (.bin .sub (.t 43) (.t 46)),
   o 12 (.mv (.t 47))])<|
  .seq (.keep [4,9,11,12]<|.region [o 48 (.load none (.t 5)),
   o 49 (.mv (.t 48)),
   og 50 (.mv (.t 12)) 49 false,
   og 51 (.bin .eql (.t 50) (.c (.int .i64 0))) 49 false,
   og 52 (.mv (.t 51)) 49 false,
   og 53 (.mv (.t 8)) 52 true,
   og 54 (.mv (.t 10)) 52 true,
   og 55 (.bin .mul (.t 53) (.t 54)) 52 true,
   og 56 (.mv (.t 9)) 52 true,
   og 57 (.mv (.t 11)) 52 true,
   og 58 (.bin .mul (.t 56) (.t 57)) 52 true,
   og 59 (.bin .add (.t 55) (.t 58)) 52 true,
   og 60 (.bin .leq (.t 59) (.c (.int .i64 0))) 52 true,
   og 61 (.pick (.t 52) (.t 60) (.c (.bool false))) 49 false,
   o 62 (.pick (.t 49) (.c (.bool true)) (.t 61)),
   ⟨none,.store 1 (.t 5) (.t 62),none⟩])<|
  hfD
theorem Zqk (p a b:Pt) (w:Int) (F:Fr) (hb6:Zd 6 (frV F)=true) (x:Bool) (r3 r4 r5:AObj) (h3:∀ n,2≤n→Zj n r3=true) (h4:∀ n,2≤n→Zj n r4=true) (h5:∀ n,2≤n→Zj n r5=true):
 Zb rE hfD [(4,.ptr 0 0 0 1),(9,I (hfX a.Y p.Y)),(11,I (hfX b.Y p.Y)),(12,I (ZoX p a b))] [.row 1 [I w],.row 1 [.bool x],.loop .busy .normal F [15,16] c256R0a c256R0b,r3,r4,r5] =
  some (.normal,[],[.row 1 [I (Zp4 p a b w)],.row 1 [.bool x],.loop .busy .normal F [15,16] c256R0a c256R0b,r3,r4,r5]):=by
 have t6:decide (hfX a.Y p.Y > 0) = !decide (hfX a.Y p.Y≤0):=by by_cases c:hfX a.Y p.Y≤0<;>simp [c]<;>omega
 have t7:decide (hfX b.Y p.Y≤0) = !decide (hfX b.Y p.Y > 0):=by by_cases c:hfX b.Y p.Y > 0<;>simp [c]<;>omega
 have q3:=h3 6 (by decide)
 have q4:=h4 6 (by decide)
 have q5:=h5 6 (by decide)
 unfold Zp4;rw [t6,t7];generalize hfX a.Y p.Y=ay at *;generalize hfX b.Y p.Y=by' at *
 generalize ZoX p a b=tn at *;cases d3:decide (ay≤0) with
 | true=>
  cases d4:decide (by' > 0) with
  | true=>
   rw [d3] at t6;cases d5:decide (tn > 0) with
   | true=>simp only [go_sem,qy,qq,reduceIte,hfD,d3,d4,d5,hb6,q3,q4,q5]
   | false=>simp only [go_sem,qy,qq,reduceIte,hfD,d3,d4,d5,t6,hb6,q3,q4,q5,ZEl,ZFO,ZEj,cond_false]
  | false=>
   rw [d3] at t6;simp only [go_sem,qy,qq,reduceIte,hfD,d3,d4,t6,hb6,q3,q4,q5,ZEl,ZFO,ZEj,cond_false]
 | false=>
  rw [d3] at t6;cases d4:decide (by' > 0) with
  | true=>
   rw [d4] at t7;simp only [go_sem,qy,qq,reduceIte,hfD,d3,t6,t7,hb6,q3,q4,q5,ZEl,ZEr,ZFO,ZEj,cond_false]
  | false=>
   rw [d4] at t7;cases d8:decide (tn < 0) with
   | true=>simp only [go_sem,qy,qq,reduceIte,hfD,d3,t6,t7,d8,hb6,q3,q4,q5,ZEr,ZEj,cond_false,ZEA,cond_true]
   | false=>simp only [go_sem,qy,qq,reduceIte,hfD,d3,t6,t7,d8,hb6,q3,q4,q5,ZEr,ZEj,cond_false,ZFO]
theorem Zql (v:AV) (hv:∀ n,bel n v=true) (p:Pt) (st:Int×Bool) (q a b:Pt):
 U4 rE 2 [.agg [I a.X,I a.Y],.agg [I b.X,I b.Y]] (hfH v p st++[.row 2 [.agg [I q.X,I q.Y]]]) =
  some (.bool true,hfH v p (Zp4 p a b st.1,st.2||Zp9 p a b)++[.row 2 [.agg [I q.X,I q.Y]],.row 2 [.agg [I a.X,I a.Y]],.row 2 [.agg [I b.X,I b.Y]]]):=by
 have h:=Ss (E:=rE) (b:=2) (args:=[.agg [I a.X,I a.Y],.agg [I b.X,I b.Y]]) (h:=hfH v p st++[.row 2 [.agg [I q.X,I q.Y]]]) (fr:=ZoD v p) (ps:=[15,16]) (assign:=c256R0a) (body:=c256R0b)
  (fr0:=(16,.agg [I b.X,I b.Y])::(15,.agg [I a.X,I a.Y])::ZoD v p) rfl rfl (by simp only [go_sem,qy,qq,qk,c256R0a,hfH,ZoD]<;>rfl) (by rfl)
  (e:=.normal) (fr2:=[]) (h2:=[.row 1 [I (Zp4 p a b st.1)],.row 1 [.bool (st.2||Zp9 p a b)],.loop .busy .normal (ZoD v p) [15,16] c256R0a c256R0b,.row 2 [.agg [I q.X,I q.Y]],.row 2 [.agg [I a.X,I a.Y]],.row 2 [.agg [I b.X,I b.Y]]])
  (by
   show Zb rE hfB [(7,.ptr 5 0 0 1),(6,.ptr 4 0 0 1),(16,.agg [I b.X,I b.Y]),(15,.agg [I a.X,I a.Y]),(14,.clo (.func 267) [] [.iptr false [v]]),(13,v),(0,v),(3,.iptr false [I p.X,I p.Y]),(4,.ptr 0 0 0 1),(5,.ptr 1 0 0 1)]
    [.row 1 [I st.1],.row 1 [.bool st.2],.loop .busy .normal (ZoD v p) [15,16] c256R0a c256R0b,.row 2 [.agg [I q.X,I q.Y]],.row 2 [.agg [I a.X,I a.Y]],.row 2 [.agg [I b.X,I b.Y]]]=_
   have hb6:Zd 6 (frV (ZoD v p))=true:=by simp only [go_sem,qv,ZoD,hv]
   have hr:∀ (z:Pt) n,2≤n→Zj n (.row 2 [.agg [I z.X,I z.Y]])=true:=fun z n _=>rfl
   have hL:=fun x=>Zqk p a b st.1 (ZoD v p) hb6 x (.row 2 [.agg [I q.X,I q.Y]]) (.row 2 [.agg [I a.X,I a.Y]]) (.row 2 [.agg [I b.X,I b.Y]]) (hr q) (hr a) (hr b)
   simp only [hfX,ZoX] at hL;unfold Zp9 ZoX hfX;cases c1:st.2 with
   | true=>
    rw [ZEb];simp only [go_sem,qy,qq,qv,reduceIte,hfB,hb6,hL]
   | false=>
    rw [ZEi];cases d1:W (W (W (W (2 * a.X) - p.X) * W (W (2 * b.Y) - p.Y)) - W (W (W (2 * a.Y) - p.Y) * W (W (2 * b.X) - p.X)))==0 with
    | true=>simp only [go_sem,qy,qq,qv,reduceIte,hfB,hb6,hL,d1,ZE7]
    | false=>simp only [go_sem,qy,qq,qv,reduceIte,hfB,hb6,hL,d1,ZEj]) (by rfl)
 exact h
theorem Zqm (l:List Pt) (ex:Bool) (hl:l.length≤1000000) (p:Pt):pfn rE 256 [.isl false ex 2 (l.map Pt.enc),.agg [I p.X,I p.Y]]=some (.tup [I (ZoC l p).1,.bool (ZoC l p).2]):=by
 have hv:∀ n,bel n (.isl false ex 2 (l.map Pt.enc))=true:=fun n=>by
  have:=ZN (n:=n) [.isl false ex 2 (l.map Pt.enc)] (by have:=Zw (f:=Pt.enc) (fun t=>rfl) l;simp only [go_sem])
  unfold Zd at this;rw [ZDX] at this;exact this.1
 have hb3:Zd 3 (frV (ZoD (.isl false ex 2 (l.map Pt.enc)) p))=true:=by simp only [go_sem,qv,ZoD,hv]
 have L:=Y8 (E:=rE) (live:=[0,1,5,6,7]) (b:=c267L0b) l.length (fun i=>[(0,.yld 2),(1,.iptr false [.isl false ex 2 (l.map Pt.enc)]),(5,.isl false ex 2 (l.map Pt.enc)),(6,I l.length),(7,I i)])
  (fun i=>hfH (.isl false ex 2 (l.map Pt.enc)) p ((List.range i).foldl (ZoP p l) (0,false))) (fun i=>rfl)
  (fun i hi=>by
   have h0:0 < l.length:=by omega
   have hg:=YN hi;have hg2:=YN (l:=l) (ZF9 (i+1) h0);have hi':=Zh hi;have hw:=Zx (n:=i) (by omega)
   have hn:=nat_ne h0;have hy:=Zql (.isl false ex 2 (l.map Pt.enc)) hv p ((List.range i).foldl (ZoP p l) (0,false)) (pAt l i) (pAt l i) (pAt l ((i+1) % l.length));have hs:(List.range (i+1)).foldl (ZoP p l) (0,false)=ZoP p l ((List.range i).foldl (ZoP p l) (0,false)) i:=by
    rw [List.range_succ,ZGd];rfl
   rw [hs];generalize (List.range i).foldl (ZoP p l) (0,false)=n at *;unfold ZoP;simp only [hfH,ZE4,ZE6] at hy ⊢;refine ⟨_,by simp only [go_sem,qy,qq,qv,qk,reduceIte,c267L0b,S3,hg,hg2,hi',hw,hn,Jc,hy,Pt.enc,hb3];rfl,?_⟩
   simp only [go_sem,qy])
  (e:=.exit 0) (by simp only [go_sem,qy,qq,qv,reduceIte,hfH,c267L0b,ZG];rfl) (by simp)
 have L':Zg rE [0,1,5,6,7] c267L0b [(0,.yld 2),(1,.iptr false [.isl false ex 2 (l.map Pt.enc)]),(5,.isl false ex 2 (l.map Pt.enc)),(6,I l.length),(7,.int .i64 0)] [.row 1 [.int .i64 0],.row 1 [.bool false],.loop .ready .normal (ZoD (.isl false ex 2 (l.map Pt.enc)) p) [15,16] c256R0a c256R0b]=_:=L;rw [Z5 (f:=256) rfl rfl];have hrf:rf rE (.clo (.func 267) [] [.iptr false [.isl false ex 2 (l.map Pt.enc)]]) [15,16] c256R0a c256R0b (ZoD (.isl false ex 2 (l.map Pt.enc)) p) [.row 1 [.int .i64 0],.row 1 [.bool false]] =
  some (.normal,ZoD (.isl false ex 2 (l.map Pt.enc)) p,[.row 1 [I (ZoC l p).1],.row 1 [.bool (ZoC l p).2],.loop .exhausted .normal (ZoD (.isl false ex 2 (l.map Pt.enc)) p) [15,16] c256R0a c256R0b]):=by
  rw [Z1k (c:=c267) rfl];simp only [go_sem,qy,qq,qv,c267,c267L0,L',hb3];rfl
 simp only [ZoD] at hrf;simp only [go_sem,qy,qq,qv,c256,Z1l,Sr,hrf,hv]
def ZoY (l:List Pt) (p:Pt):Int:=
 bif (!Vh l||Jf p)||((ZoC l ⟨W (2 * p.X),W (2 * p.Y)⟩).1==0&&!(ZoC l ⟨W (2 * p.X),W (2 * p.Y)⟩).2) then -1
 else bif (ZoC l ⟨W (2 * p.X),W (2 * p.Y)⟩).1 != 0&&!(ZoC l ⟨W (2 * p.X),W (2 * p.Y)⟩).2 then 1 else 0
theorem Zqn (l:List Pt) (ex:Bool) (hl:l.length≤1000000) (p:Pt):pfn rE 183 [.isl false ex 2 (l.map Pt.enc),.agg [I p.X,I p.Y]]=some (I (ZoY l p)):=by
 have hV:=Dz l ex hl;have hO:=Z1h p;have hH:=Zqm l ex hl ⟨W (2 * p.X),W (2 * p.Y)⟩;have hO2:pfn rE 233 [.isl false ex 2 (l.map Pt.enc),.agg [I (W (2 * p.X)),I (W (2 * p.Y))]]=some (.bool ((ZoC l ⟨W (2 * p.X),W (2 * p.Y)⟩).1==0&&!(ZoC l ⟨W (2 * p.X),W (2 * p.Y)⟩).2)):=by
  rw [Z5 (f:=233) rfl rfl];cases c:(ZoC l ⟨W (2 * p.X),W (2 * p.Y)⟩).1==0<;>simp only [go_sem,qy,qq,qk,reduceIte,c233,hH,c,ZE7,ZEj]
 have hI:pfn rE 234 [.isl false ex 2 (l.map Pt.enc),.agg [I (W (2 * p.X)),I (W (2 * p.Y))]]=some (.bool ((ZoC l ⟨W (2 * p.X),W (2 * p.Y)⟩).1 != 0&&!(ZoC l ⟨W (2 * p.X),W (2 * p.Y)⟩).2)):=by
  rw [Z5 (f:=234) rfl rfl];cases c:(ZoC l ⟨W (2 * p.X),W (2 * p.Y)⟩).1 != 0<;>simp only [go_sem,qy,qq,qk,reduceIte,c234,hH,c,ZE7,ZEj]
 rw [Z5 (f:=183) rfl rfl];unfold ZoY;generalize ((ZoC l ⟨W (2 * p.X),W (2 * p.Y)⟩).1==0&&!(ZoC l ⟨W (2 * p.X),W (2 * p.Y)⟩).2)=b1 at *;generalize ((ZoC l ⟨W (2 * p.X),W (2 * p.Y)⟩).1 != 0&&!(ZoC l ⟨W (2 * p.X),W (2 * p.Y)⟩).2)=b2 at *;cases c1:Vh l with
 | false=>simp only [go_sem,qy,qq,qv,qk,reduceIte,c183,hV,c1,ZEr,ZEb,cond_true]
 | true=>
 cases c2:Jf p with
 | true=>simp only [go_sem,qy,qq,qv,qk,reduceIte,c183,hV,hO,c1,c2,ZEl,ZEi,ZEb,cond_true]
 | false=>
 cases b1 with
 | true=>simp only [go_sem,qy,qq,qv,qk,reduceIte,c183,hV,hO,hO2,c1,c2,ZEl,ZEi,cond_true]
 | false=>
 cases b2<;>simp only [go_sem,qy,qq,qv,qk,reduceIte,c183,hV,hO,hO2,hI,c1,c2,ZEl,ZEi,cond_true,cond_false]
end Go.AM
namespace Go.AM
open Go
def ZoG (x:Region):Bool:=x.Kind==1&&x.Ended==-1
theorem ZpM (x:Region):pfn rE 100 [x.enc]=some (.bool (ZoG x)):=by
 rw [Z5 (f:=100) rfl rfl];unfold ZoG;cases c:x.Kind==1<;>simp only [go_sem,qy,qq,reduceIte,c100,Region.enc,NL.enc,c,ZE7,ZEj]
def ZoF (s:Sta) (p:Pt) (K:List Int) (x:Region):List Int:=bif ZoG x&&decide (ZoY x.Ring.l p ≥ 0) then Qi Vm K (Zoq s x.Owner) else K
def Zoy (s:Sta) (p:Pt):List Int:=s.Regions.foldl (ZoF s p) []
def ZoH (s:Sta) (p:Pt):List Int:=Zox (Zoy s p)
structure ClS (s:Sta):Prop where
 E:StE s
 pr:Jx s=true
theorem ClS.prop {s:Sta} (h:ClS s):Prop' s:=((Zdb s).1 h.pr).1
theorem Zpa {a b c:Int} (h:QM a b c=true):0≤a∧a≤63:=by
 unfold QM ZD at h;simp only [ZDX,decide_eq_true_eq] at h;exact h.1
theorem ClS.reg {s:Sta} (h:ClS s) {x:Region} (hx:x∈s.Regions):0≤x.Owner∧x.Owner≤63:=by
 have:=h.prop.rg x hx;unfold Vo at this;simp only [ZDX] at this;exact Zpa this.1
theorem ClS.mst {s:Sta} (h:ClS s) {a:Int} (ha:0≤a):pfn rE 53 [ldI s,I a]=some (I (Zoq s a)):=ZpJ s h.prop.pa a ha
theorem ZpN {s:Sta} (h:ClS s) (p:Pt):∀ (l:List Region) (K:List Int),(∀ x∈l,x∈s.Regions)→(∀ z∈K,0≤z∧z≤63)→∀ z∈l.foldl (ZoF s p) K,0≤z∧z≤63
 | [],K,_,hK=>hK
 | x::r,K,hl,hK=>by
  rw [ZEH];refine ZpN h p r _ (fun y hy=>hl y (ZEN _ hy)) (fun z hz=>?_)
  unfold ZoF at hz;cases c:ZoG x&&decide (ZoY x.Ring.l p ≥ 0) with
  | false=>rw [c] at hz;exact hK z hz
  | true=>
   rw [c,cond_true] at hz;unfold Qi at hz;cases d:K.any (Vm (Zoq s x.Owner)) with
   | true=>rw [d] at hz;exact hK z hz
   | false=>
    rw [d,cond_false,ZEt,ZEg] at hz;rcases hz with hz | rfl
    ·exact hK z hz
    ·exact ZpH h.prop.pa (h.reg (hl x (ZEv ..)))
theorem Zqo (s:Sta) (h:ClS s) (p:Pt):Zg rE [0,3,5,13,14,15] c104L0b [(0,ldI s),(3,.iptr false [I p.X,I p.Y]),(5,.mp 0),(13,.isl false false 6 (s.Regions.map Region.enc)),(14,I s.Regions.length),(15,.int .i64 0)] [.map [] []] =
 some (.exit 0,[(0,ldI s),(3,.iptr false [I p.X,I p.Y]),(5,.mp 0),(13,.isl false false 6 (s.Regions.map Region.enc)),(14,I s.Regions.length),(15,I s.Regions.length)],[.map ((Zoy s p).map I) (ZO (Zoy s p).length)]):=by
 have hl:=h.E.sizes.regions;have hbl:=Zot s;have hb:∀ (K:List Int) n,Zd n (K.map I)=true∧Zd n (ZO K.length)=true:=fun K n=>⟨ZN _ (Zw (fun t=>rfl) K),ZN _ (Ut _)⟩
 have L:=Y8 (E:=rE) (live:=[0,3,5,13,14,15]) (b:=c104L0b) s.Regions.length (fun i=>[(0,ldI s),(3,.iptr false [I p.X,I p.Y]),(5,.mp 0),(13,.isl false false 6 (s.Regions.map Region.enc)),(14,I s.Regions.length),(15,I i)])
  (fun i=>[.map (((s.Regions.take i).foldl (ZoF s p) []).map I) (ZO ((s.Regions.take i).foldl (ZoF s p) []).length)]) (fun i=>rfl)
  (fun i hi=>by
   obtain ⟨x,hx⟩:∃ x,s.Regions[i]? = some x:=⟨_,ZE0 hi⟩;have hm:=ZE5 hx;have hg:=Z6 (f:=Region.enc) hx;have hi':=Zh hi;have hwr:=Zx (n:=i) (by omega)
   have hT:=ZpM x;have hW:=Zqn x.Ring.l x.Ring.ex (ZEx (h.E.regions x hm).2.1 (by omega)) p
   have hM:=h.mst (h.reg hm).1;rw [Us _ _ hx];generalize List.foldl (ZoF s p) [] (s.Regions.take i)=K at *;unfold ZoF;have hp:=fun (q:AObj)=>Ur (eq:=Vm) Wi K (Zoq s x.Owner) (h:=[.map (K.map I) (ZO K.length),q]) (b:=0) rfl
   refine ⟨[(0,ldI s),(3,.iptr false [I p.X,I p.Y]),(5,.mp 0),(13,.isl false false 6 (s.Regions.map Region.enc)),(14,I s.Regions.length),(15,I (i+1:Nat))],?_,rfl⟩;simp only [Region.enc,NL.enc] at hT;cases c1:ZoG x with
   | false=>
    rw [c1] at hT;simp only [go_sem,qy,qq,qv,qk,reduceIte,c104L0b,hg,hi',hwr,hT,Region.enc,NL.enc,hb,hbl,ZEj,cond_false]
   | true=>
   rw [c1] at hT;cases c2:decide (ZoY x.Ring.l p ≥ 0) with
   | false=>simp only [go_sem,qy,qq,qv,qk,reduceIte,c104L0b,hg,hi',hwr,hT,hW,c2,Region.enc,NL.enc,hb,hbl,ZE7,cond_false]
   | true=>simp only [go_sem,qy,qq,qv,qk,reduceIte,c104L0b,hg,hi',hwr,hT,hW,hM,hp,c2,Region.enc,NL.enc,hb,hbl,ZE7,cond_true])
  (e:=.exit 0) (fr:=[(0,ldI s),(3,.iptr false [I p.X,I p.Y]),(5,.mp 0),(13,.isl false false 6 (s.Regions.map Region.enc)),(14,I s.Regions.length),(15,I s.Regions.length)]) (h:=[.map ((Zoy s p).map I) (ZO (Zoy s p).length)]) (by
   rw [ZEu];show Zb rE _ _ [.map ((Zoy s p).map I) (ZO (Zoy s p).length)]=_
   simp only [go_sem,qy,qq,qv,reduceIte,c104L0b,ZG,hb,hbl]) (by simp)
 exact L
theorem Zqp (b:Nat) (h:Hp):fnV rE 185 [.mp b] h=some (.clo (.func 237) [] [.ptr h.length 0 0 1],h++[.row 1 [.mp b]]):=by
 rw [Q6 (f:=185) rfl rfl];simp only [go_sem,qy,qq,c185]
theorem Zqq (K:List Int) (vs:List AV) (hK:∀ z∈K,0≤z∧z≤63) (hl:K.length≤1000000):fnV rE 184 [.clo (.func 237) [] [.ptr 1 0 0 1]] [.map (K.map I) vs,.row 1 [.mp 0]] =
 some (.sl 2 K.length 0 K.length false,[.map (K.map I) vs,.row 1 [.mp 0],.row 1 ((Zox K).map I)]):=by
 have hi:(K.map I).all Zp2=true:=by
  rw [ZFn,ZE3];intro z hz;obtain ⟨h1,h2⟩:=hK z hz;show (decide (-9223372036854775808≤z)&&decide (z≤9223372036854775807))=true
  rw [decide_eq_true (by omega),decide_eq_true (by omega)]
  rfl
 have hb:Nat.ble K.length 1000000=true:=ZEZ hl;have hs:Yk (K.map I)=(Zox K).map I:=Zpl K;rw [V8 (s:=ZoZ 237) rfl];unfold ZoZ;simp only [ZES,ZEw,hi,hb,ZEA,hs,ZE1];rfl
theorem ZpO (s:Sta) (h:ClS s) (p:Pt):pfn rE 104 [ldI s,.agg [I p.X,I p.Y]]=some (.isl false false 1 ((ZoH s p).map I)):=by
 have L:=Zqo s h p;have hR:∀ z∈Zoy s p,0≤z∧z≤63:=ZpN h p s.Regions [] (fun x hx=>hx) (fun z hz=>by cases hz)
 have hlen:(Zoy s p).length≤1000000:=by
  have G:∀ (l:List Region) (K:List Int),(l.foldl (ZoF s p) K).length≤K.length+l.length:=by
   intro l;induction l with
   | nil=>intro K;exact ZDZ _
   | cons x r ih=>
    intro K;rw [ZEH,ZEh];refine ZEx (ih _) ?_;have:(ZoF s p K x).length≤K.length+1:=by
     unfold ZoF Qi;cases ZoG x&&decide (ZoY x.Ring.l p ≥ 0) with
     | false=>exact ZEV _
     | true=>
      rw [cond_true];cases K.any (Vm (Zoq s x.Owner)) with
      | true=>exact ZEV _
      | false=>rw [cond_false,ZEk];exact ZDZ _
    omega
  have:=G s.Regions [];have hl:=h.E.sizes.regions;unfold Zoy;simp only [ZEJ] at this;omega
 have hk:=Zqp 0 [.map ((Zoy s p).map I) (ZO (Zoy s p).length)];have hs:=Zqq (Zoy s p) (ZO (Zoy s p).length) hR hlen;have hsl:(Zox (Zoy s p)).length=(Zoy s p).length:=(Zp3 _).length_eq;have hc:Z4 ((Zox (Zoy s p)).map I)=true:=Zw (fun t=>rfl) _
 have htk:List.take (Zoy s p).length ((Zox (Zoy s p)).map I)=(Zox (Zoy s p)).map I:=ZEo (by simp [hsl])
 have hb:∀ (K:List Int) n,Zd n (K.map I)=true∧Zd n (ZO K.length)=true:=fun K n=>⟨ZN _ (Zw (fun t=>rfl) K),ZN _ (Ut _)⟩
 have hbl:=Zot s;have hcl:=Zow s;unfold ZoH;rw [Z5 (f:=104) rfl rfl];simp only [ZEh,ZEJ,ZE4,ZE6,ZE9] at hk;simp only [go_sem,qy,qq,qv,c104,c104L0,L,hk,hs,hb,hbl,hc,hsl,ZE1,htk,ZEM,beq_self_eq_true]
end Go.AM
namespace Go.AM
open Go
theorem Zqr (l:List Str) (hl:l.length≤100000) (id:Str) (bw ex:Bool):pfn rE 180 [.isl bw ex 1 (l.map encS),.str id]=some (.bool (l.any (fun x=>Z3 id x))):=by
 have h:=Nz (f:=232) (enc:=encS) (p:=fun x=>Z3 id x) (v:=.str id) rfl rfl l (by omega) (fun x _=>rfl) rfl (fun x _=>rfl) bw ex
 rw [Z5 (f:=180) rfl rfl,←Vg];unfold WG;cases bw<;>simp only [go_sem,qy,qq,qk,reduceIte,c180,h]
def ZoM (e:Event):List Pt:=
 bif !Q9 e then [] else
 bif e.Kind==1||(e.Kind==2||e.Kind==5) then e.Path.l.take 1 else
 bif e.Kind==6||e.Kind==10 then [e.Point] else
 bif e.Kind==9 then e.Lst.l.map (·.Point) else []
theorem Zqs {e:Event} (h:Q9 e=true) (hk:(e.Kind==1||(e.Kind==2||e.Kind==5))=true):0 < e.Path.l.length:=by
 have hn:=ZcV h;have hp:Vh e.Path.l=true∨Ul e.Path.l=true:=by
  rcases (by simpa using hk:e.Kind=1∨e.Kind=2∨e.Kind=5) with k | k | k
  ·rw [ZcW k] at hn;have hn':(ZZ e.Id&&(ZD e.A 1 3&&Vh e.Path.l))=true:=hn;simp only [ZDX] at hn';exact Or.inl hn'.2.2
  ·rw [ZcW k] at hn;have hn':(ZZ e.Id&&Ul e.Path.l)=true:=hn;simp only [ZDX] at hn';exact Or.inr hn'.2
  ·rw [ZcW k] at hn;have hn':(ZZ e.Id&&Vh e.Path.l)=true:=hn;simp only [ZDX] at hn';exact Or.inl hn'.2
 rcases hp with hp | hp
 ·unfold Vh at hp;rw [ZDX] at hp;have:=of_decide_eq_true hp.1;omega
 ·unfold Ul at hp;simp only [ZDX] at hp;have:=of_decide_eq_true hp.2.1;omega
theorem Zqt (e:Event) (hl:e.Lst.l.length≤1000):Zg rE [3,28,29,30] c103L0b [(3,.sl 0 0 0 0 false),(28,.isl false e.Lst.ex 7 (e.Lst.l.map Ent.enc)),(29,I e.Lst.l.length),(30,.int .i64 0)] [.row 2 []] =
 some (.exit 1,[(3,.sl 0 e.Lst.l.length 0 e.Lst.l.length false),(28,.isl false e.Lst.ex 7 (e.Lst.l.map Ent.enc)),(29,I e.Lst.l.length),(30,I e.Lst.l.length)],[.row 2 ((e.Lst.l.map (·.Point)).map Pt.enc)]):=by
 have hbP:∀ (D:List Pt) n,Zd n (D.map Pt.enc)=true:=fun D n=>ZN _ (Zw (fun t=>rfl) D)
 have L:=Y8 (E:=rE) (live:=[3,28,29,30]) (b:=c103L0b) e.Lst.l.length (fun i=>[(3,.sl 0 i 0 i false),(28,.isl false e.Lst.ex 7 (e.Lst.l.map Ent.enc)),(29,I e.Lst.l.length),(30,I i)])
  (fun i=>[.row 2 (((e.Lst.l.take i).map (·.Point)).map Pt.enc)]) (fun i=>rfl)
  (fun i hi=>by
   obtain ⟨x,hx⟩:∃ x,e.Lst.l[i]? = some x:=⟨_,ZE0 hi⟩;have hlen:(e.Lst.l.take i).length=i:=by rw [ZEF];omega
   have hg:=Z6 (f:=Ent.enc) hx;have hi':=Zh hi;have hwr:=Zx (n:=i) (by omega)
   have htk:(e.Lst.l.take (i+1)).map (·.Point)=(e.Lst.l.take i).map (·.Point)++[x.Point]:=by
    rw [ZFa,hx,ZEd];rfl
   have ha:=fun (q:AObj)=>XC (h:=[.row 2 (((e.Lst.l.take i).map (·.Point)).map Pt.enc),q]) (fz:=false) (b:=0) (g:=i) (sz:=2) (bytes:=16) (es:=((e.Lst.l.take i).map (·.Point)).map Pt.enc) (bw:=false) (ex:=false) (ys:=[.agg [I x.Point.X,I x.Point.Y]]) (by show (bif (((e.Lst.l.take i).map (·.Point)).map Pt.enc).length==i then _ else none)=_;rw [ZE1,ZE1,hlen,beq_self_eq_true];rfl) rfl rfl (by decide) (by decide) (by simp;omega)
   have hma:((e.Lst.l.take i).map (·.Point)++[x.Point]).map Pt.enc=((e.Lst.l.take i).map (·.Point)).map Pt.enc++[.agg [I x.Point.X,I x.Point.Y]]:=by rw [ZEd];rfl
   rw [htk,hma];have hb2:∀ n,Zd n (((e.Lst.l.take i).map (·.Point)).map Pt.enc++[.agg [I x.Point.X,I x.Point.Y]])=true:=fun n=>by rw [←hma];exact hbP _ n
   generalize ((e.Lst.l.take i).map (·.Point)).map Pt.enc=es at *;refine ⟨[(3,.sl 0 (i+1) 0 (i+1) false),(28,.isl false e.Lst.ex 7 (e.Lst.l.map Ent.enc)),(29,I e.Lst.l.length),(30,I (i+1:Nat))],?_,rfl⟩;simp only [go_sem,qy,qq,qv,qk,reduceIte,c103L0b,hg,hi',hwr,ha,hb2,Ent.enc])
  (e:=.exit 1) (fr:=[(3,.sl 0 e.Lst.l.length 0 e.Lst.l.length false),(28,.isl false e.Lst.ex 7 (e.Lst.l.map Ent.enc)),(29,I e.Lst.l.length),(30,I e.Lst.l.length)]) (h:=[.row 2 ((e.Lst.l.map (·.Point)).map Pt.enc)]) (by
   rw [ZEu];simp only [go_sem,qy,qq,qv,reduceIte,c103L0b,ZG,hbP]) (by simp)
 exact L
theorem Zqu (l:List Pt) (ex:Bool) (h0:0 < l.length) (hl:l.length≤1000000):pfn rE 182 [.isl false ex 2 (l.map Pt.enc)]=some (.isl false false 2 (l.map Pt.enc)):=by
 have hfit:(l.map Pt.enc).all (fits 2)=true:=by
  rw [ZFn,ZE3];intro x _;rfl
 have hne:(l.map Pt.enc).isEmpty=false:=by
  cases l with
  | nil=>exact absurd h0 (Nat.not_lt_zero _)
  | cons x r=>rfl
 have hble:Nat.ble l.length 1000000=true:=ZEZ hl;have hc:Z4 (l.map Pt.enc)=true:=Zw (fun t=>rfl) _
 have htk:List.take l.length (l.map Pt.enc)=l.map Pt.enc:=ZEo (by simp)
 have h1:fnV rE 182 [.isl false ex 2 (l.map Pt.enc)] []=some (.sl 0 l.length 0 l.length false,[.row 2 (l.map Pt.enc)]):=by
  rw [V8 (s:=YL 2) rfl];simp only [YL,Q2,Qq,hfit,hne,ZE1,hble,beq_self_eq_true,ZEb,ZEA,ZEr,cond_true,ZE6,ZEJ]
 unfold pfn;rw [h1,ZM];simp only [go_sem,hc,htk,ZE1,ZEM,beq_self_eq_true]
theorem Zqv (e:Event) (he:EvS e):pfn rE 103 [evA e]=some (.isl false false 2 ((ZoM e).map Pt.enc)):=by
 have hF:=NH e he;have hL:=Zqt e (by have:=he.lst;omega)
 have hcP:∀ D:List Pt,Z4 (D.map Pt.enc)=true:=fun D=>Zw (fun t=>rfl) _
 have htk:List.take e.Lst.l.length ((e.Lst.l.map (·.Point)).map Pt.enc)=(e.Lst.l.map (·.Point)).map Pt.enc:=ZEo (by simp)
 have hpos:=Zqs (e:=e);rw [Z5 (f:=103) rfl rfl];unfold ZoM;simp only [evA] at hF;cases c0:Q9 e with
 | false=>
  rw [c0] at hF;simp only [go_sem,qy,qq,qk,c103,hF,ZEr,cond_true,ZEm]
 | true=>
 rw [c0] at hF;have hcl:(e.Kind==1||(e.Kind==2||e.Kind==5))=true→∀ x,pfn rE 182 [.isl false x 2 ((e.Path.l.take 1).map Pt.enc)]=some (.isl false false 2 ((e.Path.l.take 1).map Pt.enc)):=fun hk x=>Zqu _ _ (by have:=hpos c0 hk;rw [ZEF];omega) (by rw [ZEF];omega)
 have hp1:(e.Kind==1||(e.Kind==2||e.Kind==5))=true→bounds none (some (I 1)) none e.Path.l.length=some (0,1,none):=fun hk=>by
  have h1:=hpos c0 hk;have h2:Nat.ble 1 e.Path.l.length=true:=ZEZ h1;simp [bounds,Vz,Wl,VA,numOf,VB,h2];rfl
 have hm:List.take 1 (e.Path.l.map Pt.enc)=(e.Path.l.take 1).map Pt.enc:=List.map_take.symm;cases k1:e.Kind==1 with
 | true=>
  rw [k1] at hcl hp1;have hcl:=hcl rfl;have hp1:=hp1 rfl;simp only [go_sem,qy,qq,qk,c103,c103L0,hF,k1,hp1,hm,hcl,ZEl,cond_false,cond_true,ZEb,if_true]
 | false=>
 cases k2:e.Kind==2 with
 | true=>
  rw [k1,k2] at hcl hp1;have hcl:=hcl rfl;have hp1:=hp1 rfl;simp only [go_sem,qy,qq,qk,c103,c103L0,hF,k1,k2,hp1,hm,hcl,ZEl,cond_false,cond_true,ZEb,ZEB,if_true]
 | false=>
 cases k5:e.Kind==5 with
 | true=>
  rw [k1,k2,k5] at hcl hp1;have hcl:=hcl rfl;have hp1:=hp1 rfl;simp only [go_sem,qy,qq,qk,c103,c103L0,hF,k1,k2,k5,hp1,hm,hcl,ZEl,cond_false,cond_true,ZEB,if_true]
 | false=>
 cases k6:e.Kind==6 with
 | true=>simp only [go_sem,qy,qq,qv,qk,reduceIte,c103,c103L0,hF,k1,k2,k5,k6,ZEl,cond_false,cond_true,ZEb,ZEi,ZE2,ZEm,Pt.enc]
 | false=>
 cases k10:e.Kind==10 with
 | true=>simp only [go_sem,qy,qq,qv,qk,reduceIte,c103,c103L0,hF,k1,k2,k5,k6,k10,ZEl,cond_false,cond_true,ZEB,ZEi,ZE2,ZEm,Pt.enc]
 | false=>
 cases k9:e.Kind==9 with
 | true=>simp only [go_sem,qy,qq,qv,qk,reduceIte,c103,c103L0,hF,hL,k1,k2,k5,k6,k10,k9,ZEl,cond_false,cond_true,ZEi,hcP,htk,ZE1,ZEM,beq_self_eq_true]
 | false=>simp only [go_sem,qy,qq,qk,reduceIte,c103,c103L0,hF,k1,k2,k5,k6,k10,k9,ZEl,cond_false,cond_true,ZEi,ZEm]
end Go.AM
namespace Go.AM
open Go
abbrev rqL (s:Sta) (e:Event) (a m:Int):List AV:=[ldI s,I e.Kind,I e.Day,I e.A,I e.B,I e.Office,.str e.Id,.str e.Other,.str e.Text,.isl false e.Ids.ex 1 (e.Ids.l.map encS),.isl false e.Names.ex 3 (e.Names.l.map Nm.enc),
 I e.Number.N,.str e.Number.Letter,I e.Number.Num,I e.Number.Den,I e.Point.X,I e.Point.Y,.isl false e.Path.ex 2 (e.Path.l.map Pt.enc),.isl false e.Lst.ex 7 (e.Lst.l.map Ent.enc),I a,I m]
abbrev rqI (s:Sta) (e:Event) (a m:Int):AV:=.iptr false (rqL s e a m)
structure RqS (s:Sta) (e:Event) (m:Int):Prop where
 c:ClS s
 ev:EvS e
 f:Q9 e=true
 m:0≤m∧m≤63
def Zp0 (s:Sta) (e:Event) (a m:Int):Int:=bif (e.Kind==14&&a != 0)||(e.Kind==13&&Zoq s e.B != m) then 18 else 0
theorem Zqw (s:Sta) (e:Event) (a m:Int) (h:RqS s e m):pfn rE 54 [rqI s e a m]=some (I (Zp0 s e a m)):=by
 have hM:(e.Kind==13)=true→pfn rE 53 [ldI s,I e.B]=some (I (Zoq s e.B)):=fun hk=>by
  have hn:=ZcV h.f;rw [ZcW (k:=13) (by simpa using hk)] at hn
  have hn':K5 e.A e.B=true:=hn;unfold K5 ZD at hn';simp only [ZDX,decide_eq_true_eq] at hn';exact h.c.mst (by omega)
 have hcl:=Zow s;have hbl:=Zot s;rw [Z5 (f:=54) rfl rfl];unfold Zp0;cases c1:e.Kind==14 with
 | true=>
  have c5003:(e.Kind==13)=false:=by
   rw [(by simpa using c1:e.Kind=14)]
   rfl
  cases c2:a != 0 with
  | true=>simp only [go_sem,qy,qq,reduceIte,c54,c1,c2,c5003,ZE7,ZEb,cond_true]
  | false=>simp only [go_sem,qy,qq,reduceIte,c54,c1,c2,c5003,ZE7,ZEj,ZEi,cond_false]
 | false=>
  cases c5003:e.Kind==13 with
  | false=>simp only [go_sem,qy,qq,reduceIte,c54,c1,c5003,ZEj,ZEi,cond_false]
  | true=>
   have hM:=hM c5003;cases c5004:Zoq s e.B != m<;>simp only [go_sem,qy,qq,reduceIte,c54,c1,c5003,c5004,hM,hcl,ZE7,ZEj,ZEi,cond_true,cond_false]
def Zp5 (s:Sta) (e:Event) (m:Int):Int:=bif e.Kind==15&&!s.Regions.any (fun x=>ZoG x&&Zoq s x.Owner==m) then 18 else 0
theorem Zqx (s:Sta) (e:Event) (a m:Int) (h:RqS s e m) (x:Region) (hx:x∈s.Regions):pfn rE 99 [x.enc,.iptr false [rqI s e a m]]=some (.bool (ZoG x&&Zoq s x.Owner==m)):=by
 have hT:=ZpM x;have hM:=h.c.mst (h.c.reg hx).1;have hcl:=Zow s;have hbl:=Zot s;simp only [Region.enc,NL.enc] at hT;rw [Z5 (f:=99) rfl rfl];cases c:ZoG x with
 | false=>
  rw [c] at hT;simp only [go_sem,qy,qq,qk,c99,Region.enc,NL.enc,hT,ZEj]
 | true=>
  rw [c] at hT;simp only [go_sem,qy,qq,qk,reduceIte,c99,Region.enc,NL.enc,hT,hM,ZE7]
theorem ZpP (l:List Region) (hl:l.length≤1000000) (p:Region→Bool) (g:Nat) (cap:List AV) (hc:Z4 cap=true) (hp:∀ x∈l,pfn rE g (x.enc::cap)=some (.bool (p x))):pfn rE 101 [.isl false false 6 (l.map Region.enc),.clo (.func g) [] cap]=some (.bool (l.any p)):=by
 have h:=WF (E:=rE) (f:=181) (sz:=6) (n:=some 6) (enc:=Region.enc) (p:=p) (g:=g) (cap:=cap) rfl rfl hc l (by omega) (fun x _=>x.el) hp false false
 rw [Z5 (f:=101) rfl rfl,←Vg];unfold WG;simp only [go_sem,qy,qq,reduceIte,c101,h,hc]
theorem Zqy (s:Sta) (e:Event) (a m:Int) (h:RqS s e m):pfn rE 56 [rqI s e a m]=some (I (Zp5 s e m)):=by
 have hcl:=Zow s;have hbl:=Zot s;have hc:Z4 [.iptr false [rqI s e a m]]=true:=by simp only [go_sem]
 have hA:=ZpP s.Regions (by have:=h.c.E.sizes.regions;omega) (fun x=>ZoG x&&Zoq s x.Owner==m) 99 [.iptr false [rqI s e a m]] hc (Zqx s e a m h)
 rw [Z5 (f:=56) rfl rfl];unfold Zp5;cases c1:e.Kind==15 with
 | false=>simp only [go_sem,qy,qq,reduceIte,c56,c1,ZEj,cond_false]
 | true=>
  generalize s.Regions.any (fun x=>ZoG x&&Zoq s x.Owner==m)=b at *
  cases b<;>simp only [go_sem,qy,qq,reduceIte,c56,c1,hA,ZE7,ZEl,ZEr,cond_true,cond_false]
end Go.AM
namespace Go.AM
open Go
def plE (s:Sta) (m:Int):List Pt→Int
 | []=>0
 | p::r=>bif !(ZoH s p).any (fun x=>m==x) then 18 else bif (ZoH s p).any (fun c=>c != m&&!ZoW s m c) then 19 else plE s m r
def Zp1 (s:Sta) (e:Event) (a m:Int):Int:=
 bif e.Kind==1 then bif s.Regions.any (fun x=>Z3 x.Id e.Id) then 0 else bif e.A==1&&a==0 then 18 else bif e.A==1 then 0 else plE s m (ZoM e)
 else plE s m (ZoM e)
theorem ZpQ {s:Sta} (h:ClS s):∀ p∈s.Rulings,pfn rE 53 [ldI s,I p.a]=some (I (Zoq s p.a))∧pfn rE 53 [ldI s,I p.b]=some (I (Zoq s p.b)):=by
 intro p hp;have hpa:=h.prop.pa;unfold WK at hpa;simp only [ZDX] at hpa;have:=Zpo (ZE3.1 hpa.2.1 p hp);exact ⟨h.mst this.1.1,h.mst this.2.1⟩
theorem Zqz (l:List Int) (hl:l.length≤1000000) (p:Int→Bool) (g:Nat) (cap:List AV) (hc:Z4 cap=true) (hp:∀ x∈l,pfn rE g (I x::cap)=some (.bool (p x))):pfn rE 106 [.isl false false 1 (l.map I),.clo (.func g) [] cap]=some (.bool (l.any p)):=by
 have h:=WF (E:=rE) (f:=187) (sz:=1) (n:=none) (enc:=I) (p:=p) (g:=g) (cap:=cap) rfl rfl hc l (by omega) (fun x _=>⟨rfl,rfl⟩) hp false false
 rw [Z5 (f:=106) rfl rfl,←Vg];unfold WG;simp only [go_sem,qy,qq,reduceIte,c106,h,hc]
theorem ZqA (s:Sta) (e:Event) (a m:Int) (x:Region):pfn rE 102 [x.enc,.iptr false [rqI s e a m]]=some (.bool (Z3 x.Id e.Id)):=by
 have hcl:=Zow s;have hbl:=Zot s;rw [Z5 (f:=102) rfl rfl];simp only [go_sem,qy,qq,c102,Region.enc,NL.enc]
theorem ZqB (s:Sta) (e:Event) (a m:Int) (h:RqS s e m) (c:Int):pfn rE 107 [I c,.iptr false [rqI s e a m]]=some (.bool (c != m&&!ZoW s m c)):=by
 have hP:=ZpL s m c h.c.E.sizes.rulings (ZpQ h.c);have hcl:=Zow s;have hbl:=Zot s;rw [Z5 (f:=107) rfl rfl];cases c1:c != m with
 | false=>simp only [go_sem,qy,qq,reduceIte,c107,c1,ZEj]
 | true=>simp only [go_sem,qy,qq,reduceIte,c107,c1,hP,hcl,ZE7]
theorem ZqC (s:Sta) (h:ClS s) (p:Pt):(ZoH s p).length≤100000:=by
 unfold ZoH;rw [(Zp3 _).length_eq];have G:∀ (l:List Region) (K:List Int),(l.foldl (ZoF s p) K).length≤K.length+l.length:=by
  intro l;induction l with
  | nil=>intro K;exact ZDZ _
  | cons x r ih=>
   intro K;rw [ZEH,ZEh];refine ZEx (ih _) ?_;have:(ZoF s p K x).length≤K.length+1:=by
    unfold ZoF Qi;cases ZoG x&&decide (ZoY x.Ring.l p ≥ 0) with
    | false=>exact ZEV _
    | true=>
     rw [cond_true];cases K.any (Vm (Zoq s x.Owner)) with
     | true=>exact ZEV _
     | false=>rw [cond_false,ZEk];exact ZDZ _
   omega
 have:=G s.Regions [];have hl:=h.E.sizes.regions;unfold Zoy;simp only [ZEJ] at this;omega
theorem ZpR (s:Sta) (e:Event) (a m:Int) (h:RqS s e m) (l:List Pt) (hl:l.length≤1000):∀ (k i:Nat),i+k=l.length→
 ∃ fr',(plE s m (l.drop i)=0→Zg rE [1,50,51,52] c57L0b [(1,.iptr false [rqI s e a m]),(50,.isl false false 2 (l.map Pt.enc)),(51,I l.length),(52,I i)] []=some (.exit 1,fr',[]))∧
  (plE s m (l.drop i)≠0→Zg rE [1,50,51,52] c57L0b [(1,.iptr false [rqI s e a m]),(50,.isl false false 2 (l.map Pt.enc)),(51,I l.length),(52,I i)] []=some (.ret,fr',[])∧get fr' 2=I (plE s m (l.drop i)))
 | 0,i,hi=>by
  have hd:l.drop i=[]:=ZGq (by omega)
  have hi':i=l.length:=by omega
  refine ⟨[(1,.iptr false [rqI s e a m]),(2,.bot),(50,.isl false false 2 (l.map Pt.enc)),(51,I l.length),(52,I i)],fun _=>?_,fun hc=>?_⟩
  ·rw [hi'];refine Q7 rfl ?_ (by simp)
   simp only [go_sem,qy,reduceIte,c57L0b,ZG]
  ·rw [hd] at hc;exact absurd rfl hc
 | k+1,i,hi=>by
  obtain ⟨x,hx⟩:∃ x,l[i]? = some x:=⟨_,ZE0 (by omega)⟩
  have hg:=Z6 (f:=Pt.enc) hx;have hi':=Zh (Z7 hx);have hwr:=Zx (n:=i) (by omega)
  have hd:l.drop i=x::l.drop (i+1):=by
   rw [ZF1 (Z7 hx)];congr 1;have:=ZE0 (Z7 hx);rw [hx] at this;exact (Option.some.inj this).symm
  have hcl:=Zow s;have hbl:=Zot s;have hc:Z4 [.iptr false [rqI s e a m]]=true:=by simp only [go_sem]
  have hC:=ZpO s h.c x;have hlen:=ZqC s h.c x;have hI:=DR (ZoH s x) false m (by omega)
  have hA:=Zqz (ZoH s x) (by omega) (fun c=>c != m&&!ZoW s m c) 107 [.iptr false [rqI s e a m]] hc (fun c _=>ZqB s e a m h c)
  rw [hd];unfold plE;cases c1:(ZoH s x).any (fun y=>m==y) with
  | false=>
   rw [c1] at hI;refine ⟨[(1,.iptr false [rqI s e a m]),(2,I 18),(50,.isl false false 2 (l.map Pt.enc)),(51,I l.length),(52,I i)],fun hq=>?_,fun _=>⟨?_,by simp only [go_sem,qy,ZEr,cond_true]⟩⟩
   ·exact absurd (show (18:Int)=0 from hq) (by decide)
   ·refine Q7 rfl ?_ (by simp)
    simp only [go_sem,qy,qq,qv,qk,reduceIte,c57L0b,hg,hi',Pt.enc,hC,hI]
  | true=>
  rw [c1] at hI;cases c2:(ZoH s x).any (fun c=>c != m&&!ZoW s m c) with
  | true=>
   rw [c2] at hA;refine ⟨[(1,.iptr false [rqI s e a m]),(2,I 19),(50,.isl false false 2 (l.map Pt.enc)),(51,I l.length),(52,I i)],fun hq=>?_,fun _=>⟨?_,by simp only [go_sem,qy,ZEl,cond_false,cond_true]⟩⟩
   ·exact absurd (show (19:Int)=0 from hq) (by decide)
   ·refine Q7 rfl ?_ (by simp)
    simp only [go_sem,qy,qq,qv,qk,reduceIte,c57L0b,hg,hi',Pt.enc,hC,hI,hA]
  | false=>
  rw [c2] at hA;obtain ⟨fr',h1,h2⟩:=ZpR s e a m h l hl k (i+1) (by omega)
  have hstep:Zb rE c57L0b [(1,.iptr false [rqI s e a m]),(50,.isl false false 2 (l.map Pt.enc)),(51,I l.length),(52,I i)] []=some (.normal,[(1,.iptr false [rqI s e a m]),(2,.bot),(50,.isl false false 2 (l.map Pt.enc)),(51,I l.length),(52,I (i+1:Nat))],[]):=by
   simp only [go_sem,qy,qq,qv,qk,reduceIte,c57L0b,hg,hi',hwr,Pt.enc,hC,hI,hA]
  rw [Yt rfl hstep];exact ⟨fr',h1,h2⟩
theorem ZqD (s:Sta) (e:Event) (a m:Int) (h:RqS s e m):pfn rE 57 [rqI s e a m]=some (I (Zp1 s e a m)):=by
 have hcl:=Zow s;have hbl:=Zot s;have hc:Z4 [.iptr false [rqI s e a m]]=true:=by simp only [go_sem]
 have hA:=ZpP s.Regions (by have:=h.c.E.sizes.regions;omega) (fun x=>Z3 x.Id e.Id) 102 [.iptr false [rqI s e a m]] hc (fun x _=>ZqA s e a m x)
 have hP:=Zqv e h.ev;have hlen:(ZoM e).length≤1000:=by
  unfold ZoM;have h1:=h.ev.lst;cases Q9 e with
  | false=>exact ZDY _
  | true=>
  cases e.Kind==1||(e.Kind==2||e.Kind==5) with
  | true=>show (e.Path.l.take 1).length≤1000;rw [ZEF];omega
  | false=>
  cases e.Kind==6||e.Kind==10 with
  | true=>show 1≤1000;omega
  | false=>
  cases e.Kind==9 with
  | true=>show (e.Lst.l.map (·.Point)).length≤1000;rw [ZE1];omega
  | false=>exact ZDY _
 have L:=ZpR s e a m h (ZoM e) hlen (ZoM e).length 0 (by omega)
 rw [ZEM] at L;obtain ⟨fr',l1,l2⟩:=L;simp only [evA] at hP;rw [Z5 (f:=57) rfl rfl];unfold Zp1;have z0:((0:Nat):Int)=0:=rfl;rw [z0] at l1 l2;by_cases hz:plE s m (ZoM e)=0
 ·have l1:=l1 hz;rw [hz];cases k1:e.Kind==1 with
  | false=>simp only [go_sem,qy,qq,qk,reduceIte,c57,c57L0,k1,hP,l1,cond_false,ZE1]
  | true=>
   cases k2:s.Regions.any (fun x=>Z3 x.Id e.Id) with
   | true=>
    rw [k2] at hA;simp only [go_sem,qy,qq,reduceIte,c57,c57L0,k1,hA,cond_true]
   | false=>
   rw [k2] at hA;cases k3:e.A==1 with
   | false=>simp only [go_sem,qy,qq,qk,reduceIte,c57,c57L0,k1,k3,hA,hP,l1,cond_true,cond_false,ZEj,ZE1]
   | true=>cases k4:a==0<;>simp only [go_sem,qy,qq,reduceIte,c57,c57L0,k1,k3,k4,hA,cond_true,cond_false,ZE7]
 ·obtain ⟨l2,l3⟩:=l2 hz;cases k1:e.Kind==1 with
  | false=>simp only [go_sem,qy,qq,qk,reduceIte,c57,c57L0,k1,hP,l2,l3,cond_false,ZE1]
  | true=>
   cases k2:s.Regions.any (fun x=>Z3 x.Id e.Id) with
   | true=>
    rw [k2] at hA;simp only [go_sem,qy,qq,reduceIte,c57,c57L0,k1,hA,cond_true]
   | false=>
   rw [k2] at hA;cases k3:e.A==1 with
   | false=>simp only [go_sem,qy,qq,qk,reduceIte,c57,c57L0,k1,k3,hA,hP,l2,l3,cond_true,cond_false,ZEj,ZE1]
   | true=>cases k4:a==0<;>simp only [go_sem,qy,qq,reduceIte,c57,c57L0,k1,k3,k4,hA,cond_true,cond_false,ZE7]
end Go.AM
namespace Go.AM
open Go
def ZU (s:Str):Bool:=!decide ((s.size:Int) > 100)
theorem Vv (bw ex:Bool) (l:List Str) (hl:l.length < 9223372036854775807):pfn rE 44 [.isl bw ex 1 (l.map encS)]=some (.bool (l.all ZU)):=by
 have L:=Uf (E:=rE) (live:=[0,3]) (b:=c44L0b) (h:=[]) l (fun _ x=>ZU x) (fun i=>[(0,.isl bw ex 1 (l.map encS)),(3,I i)]) 0 (fun fr=>get fr 2=.bool false) (fun i=>rfl)
  (fun i x hx hP=>by
   have hg:=Z6 (f:=encS) hx;have hi:=Zh (Z7 hx);have hw:=Zx (n:=i) (by have:=Z7 hx;omega)
   have hP':decide ((x.size:Int) > 100)=false:=by simpa [ZU] using hP
   refine ⟨_,by simp only [go_sem,qy,reduceIte,c44L0b,hg,hi,hw,hP',encS];rfl,?_⟩
   simp only [go_sem,qy])
  (fun i x hx hP=>by
   have hg:=Z6 (f:=encS) hx;have hi:=Zh (Z7 hx);have hP':decide ((x.size:Int) > 100)=true:=by simpa [ZU] using hP
   refine ⟨_,by simp only [go_sem,qy,reduceIte,c44L0b,hg,hi,hP',encS];rfl,?_⟩
   simp only [go_sem,qy])
  (⟨_,by simp only [go_sem,qy,reduceIte,c44L0b,ZG];rfl⟩)
 rw [Z5 (f:=44) rfl rfl];rw [QE] at L;obtain ⟨fr',h1,h2⟩:=L;have h1':Zg rE [0,3] c44L0b [(0,.isl bw ex 1 (l.map encS)),(3,.int .i64 0)] []=_:=h1;cases hc:l.all ZU with
 | true=>rw [hc] at h1';simp only [go_sem,qy,qq,reduceIte,c44,c44L0,h1']
 | false=>
  rw [hc] at h1';have h2':=h2 hc;simp only [go_sem,qy,qq,reduceIte,c44,c44L0,h1',h2',ZEc]
theorem HG (a b:Str):pfn rE 44 [.isl false false 1 [.str a,.str b]]=some (.bool ([a,b].all ZU)):=Vv false false [a,b] (by simp)
theorem Z4y (a b c d:Str):pfn rE 44 [.isl false false 1 [.str a,.str b,.str c,.str d]]=some (.bool ([a,b,c,d].all ZU)):=Vv false false [a,b,c,d] (by simp)
theorem HH {α:Type} {l:List α} {n i:Nat} {x:α} (h:(l.take n)[i]? = some x):l[i]? = some x∧i < n:=by
 have hi:=Z7 h;rw [ZEF] at hi;rw [ZFd (by omega)] at h
 exact ⟨h,by omega⟩
theorem FR {α:Type} (l:List α):(decide ((((l.take 10).length:Nat):Int) < (l.length:Int))=true→decide ((((l.take 10).length:Nat):Int) < 10)=false):=by
 intro h;have:=of_decide_eq_true h;rw [ZEF] at *;exact decide_eq_false (by omega)
def M1 (x:Nm):Bool:=[x.Lang,x.Text].all ZU
def XQ (l:List Nm):Bool:=(l.take 10).all M1&&decide ((l.length:Int)≤10)
theorem UQ (ex:Bool) (l:List Nm):pfn rE 45 [.isl false ex 3 (l.map Nm.enc)]=some (.bool (XQ l)):=by
 have L:=QT (E:=rE) (live:=[0,3]) (b:=c45L0b) (h:=[]) (l.take 10) (fun _ x=>M1 x) (fun i=>[(0,.isl false ex 3 (l.map Nm.enc)),(3,I i)]) 0 (fun fr=>get fr 0=.isl false ex 3 (l.map Nm.enc)∧get fr 2=.bot) (fun fr=>get fr 2=.bool false) (fun i=>rfl)
  (fun i x hx hP=>by
   obtain ⟨hx',hi10⟩:=HH hx;have hg:=Z6 (f:=Nm.enc) hx';have hi:=Zh (Z7 hx');have hw:=Zx (n:=i) (by omega)
   have h10:decide ((i:Int) < 10)=true:=decide_eq_true (by omega)
   have hS:=HG x.Lang x.Text;have hP':[x.Lang,x.Text].all ZU=true:=hP;rw [hP'] at hS;refine ⟨_,by simp only [go_sem,qy,qq,qv,qk,reduceIte,c45L0b,hg,hi,hw,h10,Nm.enc,hS];rfl,?_⟩
   simp only [go_sem,qy])
  (fun i x hx hP=>by
   obtain ⟨hx',hi10⟩:=HH hx;have hg:=Z6 (f:=Nm.enc) hx';have hi:=Zh (Z7 hx');have h10:decide ((i:Int) < 10)=true:=decide_eq_true (by omega)
   have hS:=HG x.Lang x.Text;have hP':[x.Lang,x.Text].all ZU=false:=hP;rw [hP'] at hS;refine ⟨_,by simp only [go_sem,qy,qq,qv,qk,reduceIte,c45L0b,hg,hi,h10,Nm.enc,hS];rfl,?_⟩
   simp only [go_sem,qy])
  (by
   cases c:decide ((((l.take 10).length:Nat):Int) < (l.length:Int)) with
   | true=>
    have h10:=FR l c;exact ⟨_,by simp only [go_sem,qy,reduceIte,c45L0b,c,h10];rfl,by simp only [go_sem,qy],by simp only [go_sem,qy]⟩
   | false=>exact ⟨_,by simp only [go_sem,qy,reduceIte,c45L0b,c];rfl,by simp only [go_sem,qy],by simp only [go_sem,qy]⟩)
 rw [Z5 (f:=45) rfl rfl];rw [QE] at L;obtain ⟨fr',h1,h3,h2⟩:=L;have h1':Zg rE [0,3] c45L0b [(0,.isl false ex 3 (l.map Nm.enc)),(3,.int .i64 0)] []=_:=h1;unfold XQ;cases hc:(l.take 10).all M1 with
 | true=>
  rw [hc] at h1';obtain ⟨q0,q2⟩:=h3 hc;simp only [go_sem,qy,qq,reduceIte,c45,c45L0,h1',q0,q2]
 | false=>
  rw [hc] at h1';have h2':=h2 hc;simp only [go_sem,qy,qq,reduceIte,c45,c45L0,h1',h2',ZEc]
def M2 (x:Ent):Bool:=[x.Id,x.Number.Letter].all ZU
def FT (l:List Ent):Bool:=(l.take 10).all M2
abbrev evI (e:Event):AV:=.iptr false [I e.Kind,I e.Day,I e.A,I e.B,I e.Office,.str e.Id,.str e.Other,.str e.Text,.isl false e.Ids.ex 1 (e.Ids.l.map encS),.isl false e.Names.ex 3 (e.Names.l.map Nm.enc),
 I e.Number.N,.str e.Number.Letter,I e.Number.Num,I e.Number.Den,I e.Point.X,I e.Point.Y,.isl false e.Path.ex 2 (e.Path.l.map Pt.enc),.isl false e.Lst.ex 7 (e.Lst.l.map Ent.enc)]
def Xn (e:Event):Bool:=
 FT e.Lst.l&&([e.Id,e.Other,e.Text,e.Number.Letter].all ZU&&(decide ((e.Ids.l.length:Int)≤10)&&(e.Ids.l.all ZU&&(XQ e.Names.l&&(decide ((e.Path.l.length:Int)≤12)&&decide ((e.Lst.l.length:Int)≤10))))))
theorem Z4z (e:Event):pfn rE 20 [evA e]=some (.bool (Xn e)):=by
 have L:=QT (E:=rE) (live:=[1,3]) (b:=c20L0b) (h:=[]) (e.Lst.l.take 10) (fun _ x=>M2 x) (fun i=>[(1,evI e),(3,I i)]) 0 (fun fr=>get fr 1=evI e∧get fr 2=.bot) (fun fr=>get fr 2=.bool false) (fun i=>rfl)
  (fun i x hx hP=>by
   obtain ⟨hx',hi10⟩:=HH hx;have hg:=Z6 (f:=Ent.enc) hx';have hi:=Zh (Z7 hx');have hw:=Zx (n:=i) (by omega)
   have h10:decide ((i:Int) < 10)=true:=decide_eq_true (by omega)
   have hS:=HG x.Id x.Number.Letter;have hP':[x.Id,x.Number.Letter].all ZU=true:=hP;rw [hP'] at hS;refine ⟨_,by simp only [go_sem,qy,qq,qv,qk,reduceIte,c20L0b,hg,hi,hw,h10,Ent.enc,hS];rfl,?_⟩
   simp only [go_sem,qy])
  (fun i x hx hP=>by
   obtain ⟨hx',hi10⟩:=HH hx;have hg:=Z6 (f:=Ent.enc) hx';have hi:=Zh (Z7 hx');have h10:decide ((i:Int) < 10)=true:=decide_eq_true (by omega)
   have hS:=HG x.Id x.Number.Letter;have hP':[x.Id,x.Number.Letter].all ZU=false:=hP;rw [hP'] at hS;refine ⟨_,by simp only [go_sem,qy,qq,qv,qk,reduceIte,c20L0b,hg,hi,h10,Ent.enc,hS];rfl,?_⟩
   simp only [go_sem,qy])
  (by
   cases c:decide ((((e.Lst.l.take 10).length:Nat):Int) < (e.Lst.l.length:Int)) with
   | true=>
    have h10:=FR e.Lst.l c;exact ⟨_,by simp only [go_sem,qy,reduceIte,c20L0b,c,h10];rfl,by simp only [go_sem,qy],by simp only [go_sem,qy]⟩
   | false=>exact ⟨_,by simp only [go_sem,qy,reduceIte,c20L0b,c];rfl,by simp only [go_sem,qy],by simp only [go_sem,qy]⟩)
 rw [Z5 (f:=20) rfl rfl];rw [QE] at L;obtain ⟨fr',h1,h3,h2⟩:=L;have h1':Zg rE [1,3] c20L0b [(1,evI e),(3,.int .i64 0)] []=_:=h1;have hS:=Z4y e.Id e.Other e.Text e.Number.Letter;have hN:=UQ e.Names.ex e.Names.l;unfold Xn FT;cases hc:(e.Lst.l.take 10).all M2 with
 | false=>
  rw [hc] at h1';have h2':=h2 hc;simp only [evI] at h1';simp only [go_sem,qy,qq,reduceIte,c20,c20L0,h1',h2',ZEc]
 | true=>
  rw [hc] at h1';obtain ⟨q1,q2⟩:=h3 hc;simp only [evI] at h1' q1;cases c1:[e.Id,e.Other,e.Text,e.Number.Letter].all ZU with
  | false=>rw [c1] at hS;simp only [go_sem,qy,qq,qv,qk,reduceIte,c20,c20L0,h1',q1,q2,hS]
  | true=>
  rw [c1] at hS;cases c2:decide ((e.Ids.l.length:Int)≤10) with
  | false=>simp only [go_sem,qy,qq,qv,qk,reduceIte,c20,c20L0,h1',q1,q2,hS,c2]
  | true=>
  have hI:=Vv false e.Ids.ex e.Ids.l (by have:=of_decide_eq_true c2;omega)
  cases c5003:e.Ids.l.all ZU with
  | false=>rw [c5003] at hI;simp only [go_sem,qy,qq,qv,qk,reduceIte,c20,c20L0,h1',q1,q2,hS,c2,hI]
  | true=>
  rw [c5003] at hI;cases c5004:XQ e.Names.l with
  | false=>rw [c5004] at hN;simp only [go_sem,qy,qq,qv,qk,reduceIte,c20,c20L0,h1',q1,q2,hS,c2,hI,hN]
  | true=>
  rw [c5004] at hN;cases c5005:decide ((e.Path.l.length:Int)≤12) with
  | false=>simp only [go_sem,qy,qq,qv,qk,reduceIte,c20,c20L0,h1',q1,q2,hS,c2,hI,hN,c5005]
  | true=>simp only [go_sem,qy,qq,qv,qk,reduceIte,c20,c20L0,h1',q1,q2,hS,c2,hI,hN,c5005]
theorem JL (e:Event) (h:Xn e=true):EvS e:=by
 simp only [Xn,ZDX] at h;obtain ⟨_,h1,h2,h3,h4,h5,h6⟩:=h;have k2:=of_decide_eq_true h2;have k5:=of_decide_eq_true h5;have k6:=of_decide_eq_true h6;have k4:(e.Names.l.length:Int)≤10:=by
  simp only [XQ,ZDX] at h4;exact of_decide_eq_true h4.2
 simp [ZU] at h1;exact ⟨by omega,by omega,by omega,by omega,by omega,by omega,by omega⟩
end Go.AM
namespace Go.AM
open Go
def kOf (ks:List Int) (e:Event):Bool:=ks.any (fun x=>e.Kind==x)
theorem ZoJ (e:Event) (ks:List Int) (ex:Bool) (hl:ks.length≤1000):pfn rE 178 [.isl false ex 1 (ks.map I),evI e]=some (.bool (kOf ks e)):=by
 have h:=DR ks ex e.Kind (by omega)
 rw [Z5 (f:=178) rfl rfl];unfold kOf;simp only [go_sem,qy,qq,qx,qz,qv,qk,reduceIte,c178,h]
def Zor (s:Sta) (e:Event):List Str:=
 (((e.Ids.l++bif kOf [9,12] e then [e.Id] else [])++bif kOf [7] e then [e.Other] else [])++bif kOf [8] e then e.Lst.l.map (·.Id) else [])++bif kOf [12] e then (s.Units.filter (fun u=>Z3 u.Id e.Id)).map (·.Door) else []
def ZoQ (e:Event) (x:Region):Bool:=kOf [1,3,12] e&&Z3 x.Id e.Id
def ZoR (e:Event) (x:Street):Bool:=(kOf [3,4,8,12] e&&Z3 x.Id e.Id)||((kOf [4] e&&Z3 x.Id e.Other)||(kOf [6] e&&Z3 x.Id e.Text))
def ZoS (e:Event) (x:Building):Bool:=(kOf [11] e&&Z3 x.Id e.Id)||(kOf [6] e&&Z3 x.Id e.Other)
def ZoT (l:List Str) (x:Door):Bool:=l.any (fun y=>Z3 x.Id y)
def Zou (s:Sta) (m o:Int):Bool:=Zoq s o==m
def Zpb (s:Sta) (e:Event) (m:Int):Bool:=
 s.Regions.all (fun x=>!ZoQ e x||Zou s m x.Owner)&&(s.Streets.all (fun x=>!ZoR e x||Zou s m x.Owner)&&(s.Buildings.all (fun x=>!ZoS e x||Zou s m x.Owner)&&s.Doors.all (fun x=>!ZoT (Zor s e) x||Zou s m x.Owner)))
def Zp6 (s:Sta) (e:Event) (m:Int):Int:=bif Zpb s e m then 0 else 18
def ZoA (s:Sta) (e:Event) (a m:Int):Fr:=[(1,.iptr false [rqI s e a m]),(2,.ptr 0 0 0 1),(12,.clo (.func 179) [] [.iptr false [ldI s],.ptr 1 0 0 1,evI e,.ptr 3 0 0 1])]
def thX (s:Sta) (e:Event) (a m:Int) (n:Int) (st:LoopState) (ex:AExit) (l:List Str):Hp:=[.row 1 [I n],.row 1 [.clo (.func 178) [] [evI e]],.row 1 (l.map encS),.row 1 [.sl 2 l.length 0 l.length false],.loop st ex (ZoA s e a m) [13] c55R0a c55R0b]
abbrev thH (s:Sta) (e:Event) (a m:Int):Hp:=thX s e a m 0 .ready .normal (Zor s e)
abbrev thD (s:Sta) (e:Event) (a m:Int):Hp:=thX s e a m 18 .done .ret (Zor s e)
theorem ZoI (s:Sta) (e:Event) (a m:Int):Zd 5 (frV (ZoA s e a m))=true∧Zd 6 (frV (ZoA s e a m))=true:=by
 have hbl:=Zot s;have hcl:=Zow s;have hc:Z4 [rqI s e a m,ldI s,evI e]=true:=by simp only [go_sem,qy,qq,qx,qz,qv,qk,reduceIte,hcl]
 have hb:=fun n=>ZN (n:=n) _ hc
 simp only [Zd,ZDX] at hb;constructor
 ·obtain ⟨h1,h2,h3,_⟩:=hb 5;simp only [go_sem,qy,qq,qx,qz,qv,qk,reduceIte,ZoA,h1,h2,h3,hbl]
 ·obtain ⟨h1,h2,h3,_⟩:=hb 6;simp only [go_sem,qy,qq,qx,qz,qv,qk,reduceIte,ZoA,h1,h2,h3,hbl]
theorem Zpc (s:Sta) (e:Event) (a m:Int) (o:Int) (q:AObj) (hq:∀ n,Zj n q=true) (hM:pfn rE 53 [ldI s,I o]=some (I (Zoq s o))):
 U4 rE 4 [I o] (thH s e a m++[q])=some (bif Zou s m o then (.bool true,thH s e a m++[q]) else (.bool false,thD s e a m++[q])):=by
 have hcl:=Zow s;have hbl:=Zot s;obtain ⟨hf4,hf5⟩:=ZoI s e a m;unfold Zou;have hS:∀ n,Zd n ((Zor s e).map encS)=true:=fun n=>ZN _ (Zw (fun t=>rfl) _)
 cases c:Zoq s o==m with
 | true=>
  have h:=Ss (E:=rE) (b:=4) (args:=[I o]) (h:=thH s e a m++[q]) (fr:=ZoA s e a m) (ps:=[13]) (assign:=c55R0a) (body:=c55R0b)
   (fr0:=(13,I o)::ZoA s e a m) rfl rfl (by simp only [go_sem,qy,qq,qx,qz,qv,qk,reduceIte,c55R0a,thX,ZoA,ZE4,ZE6]<;>rfl) (by rfl)
   (e:=.normal) (fr2:=[]) (h2:=thX s e a m 0 .busy .normal (Zor s e)++[q])
   (by
    have hne:(Zoq s o != m)=false:=by rw [bne,c];rfl
    simp only [go_sem,qy,qq,qx,qz,qv,qk,reduceIte,c55R0b,thX,ZoA,ZE4,ZE6,hM,hne,hcl,hbl,hq,hS]<;>rfl) (by rfl)
  exact h
 | false=>
  have h:=Ss (E:=rE) (b:=4) (args:=[I o]) (h:=thH s e a m++[q]) (fr:=ZoA s e a m) (ps:=[13]) (assign:=c55R0a) (body:=c55R0b)
   (fr0:=(13,I o)::ZoA s e a m) rfl rfl (by simp only [go_sem,qy,qq,qx,qz,qv,qk,reduceIte,c55R0a,thX,ZoA,ZE4,ZE6]<;>rfl) (by rfl)
   (e:=.ret) (fr2:=[]) (h2:=thX s e a m 18 .busy .normal (Zor s e)++[q])
   (by
    have hne:(Zoq s o != m)=true:=by rw [bne,c];rfl
    simp only [go_sem,qy,qq,qx,qz,qv,qk,reduceIte,c55R0b,thX,ZoA,ZE4,ZE6,hM,hne,hcl,hbl,hq,hS]<;>rfl) (by rfl)
  exact h
theorem ZpS (s:Sta) (e:Event) (a m:Int) (h:RqS s e m) (i:Nat) (x:Region) (hx:s.Regions[i]? = some x) (hl:s.Regions.length≤1000) (ho:0≤x.Owner):
 Zb rE c179L0b [(0,.yld 4),(1,.iptr false [ldI s]),(2,.ptr 1 0 0 1),(3,evI e),(4,.ptr 3 0 0 1),(20,.isl false false 6 (s.Regions.map Region.enc)),(21,I s.Regions.length),(22,I i)] (thH s e a m)=bif !ZoQ e x||Zou s m x.Owner then some (.normal,[(0,.yld 4),(1,.iptr false [ldI s]),(2,.ptr 1 0 0 1),(3,evI e),(4,.ptr 3 0 0 1),(20,.isl false false 6 (s.Regions.map Region.enc)),(21,I s.Regions.length),(22,I (i+1:Nat))],thH s e a m) else some (.ret,[(0,.yld 4),(1,.iptr false [ldI s]),(2,.ptr 1 0 0 1),(3,evI e),(4,.ptr 3 0 0 1),(20,.isl false false 6 (s.Regions.map Region.enc)),(21,I s.Regions.length),(22,I i)],thD s e a m):=by
 have hg:=Z6 (f:=Region.enc) hx;have hi':=Zh (Z7 hx);have hwr:=Zx (n:=i) (by have:=Z7 hx;omega)
 have hcl:=Zow s;have hbl:=Zot s;obtain ⟨hf4,hf5⟩:=ZoI s e a m;have hS:∀ n,Zd n ((Zor s e).map encS)=true:=fun n=>ZN _ (Zw (fun t=>rfl) _)
 have hq:∀ n,Zj n (.row 6 [x.enc])=true:=fun n=>ZN (n:=n) [x.enc] (Zw (f:=Region.enc) (fun t=>rfl) [x])
 have hy:=Zpc s e a m x.Owner (.row 6 [x.enc]) hq (h.c.mst ho);simp only [thX,ZE4,ZE6,Region.enc,NL.enc] at hy;simp only [Region.enc,NL.enc] at hq;have hk0:=ZoJ e [1,3,12] false (by decide)
 simp only [ZE2,ZEm] at hk0;unfold ZoQ;cases c1:kOf [1,3,12] e with
 | false=>
  rw [c1] at hk0;simp only [go_sem,qy,qq,qx,qz,qv,qk,reduceIte,c179L0b,thX,S3,hg,hi',hwr,hcl,hbl,hf4,hf5,hq,hS,hy,Region.enc,NL.enc,ZEl,ZEr,ZEi,ZEb,ZF4,ZEB,ZE7,ZEj,cond_true,cond_false,hk0]
 | true=>
 rw [c1] at hk0;cases c2:Z3 x.Id e.Id with
 | false=>simp only [go_sem,qy,qq,qx,qz,qv,qk,reduceIte,c179L0b,thX,S3,hg,hi',hwr,hcl,hbl,hf4,hf5,hq,hS,hy,Region.enc,NL.enc,ZEl,ZEr,ZEi,ZEb,ZF4,ZEB,ZE7,ZEj,cond_true,cond_false,hk0,c2]
 | true=>cases c5009:Zou s m x.Owner<;>rw [c5009] at hy<;>simp only [cond_true,cond_false] at hy<;>simp only [go_sem,qy,qq,qx,qz,qv,qk,reduceIte,c179L0b,thX,S3,hg,hi',hwr,hcl,hbl,hf4,hf5,hq,hS,hy,Region.enc,NL.enc,ZEl,ZEr,ZEi,ZEb,ZF4,ZEB,ZE7,ZEj,cond_true,cond_false,hk0,c2]
set_option maxHeartbeats 4000000 in
theorem ZpT (s:Sta) (e:Event) (a m:Int) (h:RqS s e m) (i:Nat) (x:Street) (hx:s.Streets[i]? = some x) (hl:s.Streets.length≤1000) (ho:0≤x.Owner):
 Zb rE c179L1b [(0,.yld 4),(1,.iptr false [ldI s]),(2,.ptr 1 0 0 1),(3,evI e),(4,.ptr 3 0 0 1),(48,.isl false false 5 (s.Streets.map Street.enc)),(49,I s.Streets.length),(50,I i)] (thH s e a m)=bif !ZoR e x||Zou s m x.Owner then some (.normal,[(0,.yld 4),(1,.iptr false [ldI s]),(2,.ptr 1 0 0 1),(3,evI e),(4,.ptr 3 0 0 1),(48,.isl false false 5 (s.Streets.map Street.enc)),(49,I s.Streets.length),(50,I (i+1:Nat))],thH s e a m) else some (.ret,[(0,.yld 4),(1,.iptr false [ldI s]),(2,.ptr 1 0 0 1),(3,evI e),(4,.ptr 3 0 0 1),(48,.isl false false 5 (s.Streets.map Street.enc)),(49,I s.Streets.length),(50,I i)],thD s e a m):=by
 have hg:=Z6 (f:=Street.enc) hx;have hi':=Zh (Z7 hx);have hwr:=Zx (n:=i) (by have:=Z7 hx;omega)
 have hcl:=Zow s;have hbl:=Zot s;obtain ⟨hf4,hf5⟩:=ZoI s e a m;have hS:∀ n,Zd n ((Zor s e).map encS)=true:=fun n=>ZN _ (Zw (fun t=>rfl) _)
 have hq:∀ n,Zj n (.row 5 [x.enc])=true:=fun n=>ZN (n:=n) [x.enc] (Zw (f:=Street.enc) (fun t=>rfl) [x])
 have hy:=Zpc s e a m x.Owner (.row 5 [x.enc]) hq (h.c.mst ho);simp only [thX,ZE4,ZE6,Street.enc,NL.enc] at hy;simp only [Street.enc,NL.enc] at hq;have hk0:=ZoJ e [3,4,8,12] false (by decide)
 simp only [ZE2,ZEm] at hk0;have hk1:=ZoJ e [4] false (by decide)
 simp only [ZE2,ZEm] at hk1;have hk2:=ZoJ e [6] false (by decide)
 simp only [ZE2,ZEm] at hk2;unfold ZoR;cases c1:kOf [3,4,8,12] e<;>cases c5004:kOf [4] e<;>cases c5006:kOf [6] e<;>rw [c1] at hk0<;>rw [c5004] at hk1<;>rw [c5006] at hk2<;>cases d1:Z3 x.Id e.Id<;>cases d2:Z3 x.Id e.Other<;>cases d3:Z3 x.Id e.Text<;>
  (first | (simp only [go_sem,qy,qq,qx,qz,qv,qk,reduceIte,c179L1b,thX,S3,hg,hi',hwr,hcl,hbl,hf4,hf5,hq,hS,hy,Street.enc,NL.enc,ZEl,ZEr,ZEi,ZEb,ZF4,ZEB,ZE7,ZEj,cond_true,cond_false,hk0,hk1,hk2,d1,d2,d3];done) | (cases c5009:Zou s m x.Owner<;>rw [c5009] at hy<;>simp only [cond_true,cond_false] at hy<;>simp only [go_sem,qy,qq,qx,qz,qv,qk,reduceIte,c179L1b,thX,S3,hg,hi',hwr,hcl,hbl,hf4,hf5,hq,hS,hy,Street.enc,NL.enc,ZEl,ZEr,ZEi,ZEb,ZF4,ZEB,ZE7,ZEj,cond_true,cond_false,hk0,hk1,hk2,d1,d2,d3]))
set_option maxHeartbeats 1000000 in
theorem ZpU (s:Sta) (e:Event) (a m:Int) (h:RqS s e m) (i:Nat) (x:Building) (hx:s.Buildings[i]? = some x) (hl:s.Buildings.length≤1000) (ho:0≤x.Owner):
 Zb rE c179L2b [(0,.yld 4),(1,.iptr false [ldI s]),(2,.ptr 1 0 0 1),(3,evI e),(4,.ptr 3 0 0 1),(102,.isl false false 4 (s.Buildings.map Building.enc)),(103,I s.Buildings.length),(104,I i)] (thH s e a m)=bif !ZoS e x||Zou s m x.Owner then some (.normal,[(0,.yld 4),(1,.iptr false [ldI s]),(2,.ptr 1 0 0 1),(3,evI e),(4,.ptr 3 0 0 1),(102,.isl false false 4 (s.Buildings.map Building.enc)),(103,I s.Buildings.length),(104,I (i+1:Nat))],thH s e a m) else some (.ret,[(0,.yld 4),(1,.iptr false [ldI s]),(2,.ptr 1 0 0 1),(3,evI e),(4,.ptr 3 0 0 1),(102,.isl false false 4 (s.Buildings.map Building.enc)),(103,I s.Buildings.length),(104,I i)],thD s e a m):=by
 have hg:=Z6 (f:=Building.enc) hx;have hi':=Zh (Z7 hx);have hwr:=Zx (n:=i) (by have:=Z7 hx;omega)
 have hcl:=Zow s;have hbl:=Zot s;obtain ⟨hf4,hf5⟩:=ZoI s e a m;have hS:∀ n,Zd n ((Zor s e).map encS)=true:=fun n=>ZN _ (Zw (fun t=>rfl) _)
 have hq:∀ n,Zj n (.row 4 [x.enc])=true:=fun n=>ZN (n:=n) [x.enc] (Zw (f:=Building.enc) (fun t=>rfl) [x])
 have hy:=Zpc s e a m x.Owner (.row 4 [x.enc]) hq (h.c.mst ho);simp only [thX,ZE4,ZE6,Building.enc,NL.enc] at hy;simp only [Building.enc,NL.enc] at hq;have hk0:=ZoJ e [11] false (by decide)
 simp only [ZE2,ZEm] at hk0;have hk1:=ZoJ e [6] false (by decide)
 simp only [ZE2,ZEm] at hk1;unfold ZoS;cases c1:kOf [11] e<;>cases c5006:kOf [6] e<;>rw [c1] at hk0<;>rw [c5006] at hk1<;>cases d1:Z3 x.Id e.Id<;>cases d2:Z3 x.Id e.Other<;>
  (first | (simp only [go_sem,qy,qq,qx,qz,qv,qk,reduceIte,c179L2b,thX,S3,hg,hi',hwr,hcl,hbl,hf4,hf5,hq,hS,hy,Building.enc,NL.enc,ZEl,ZEr,ZEi,ZEb,ZF4,ZEB,ZE7,ZEj,cond_true,cond_false,hk0,hk1,d1,d2];done) | (cases c5009:Zou s m x.Owner<;>rw [c5009] at hy<;>simp only [cond_true,cond_false] at hy<;>simp only [go_sem,qy,qq,qx,qz,qv,qk,reduceIte,c179L2b,thX,S3,hg,hi',hwr,hcl,hbl,hf4,hf5,hq,hS,hy,Building.enc,NL.enc,ZEl,ZEr,ZEi,ZEb,ZF4,ZEB,ZE7,ZEj,cond_true,cond_false,hk0,hk1,d1,d2]))
theorem ZpV (s:Sta) (e:Event) (a m:Int) (h:RqS s e m) (i:Nat) (x:Door) (hx:s.Doors[i]? = some x) (hl:s.Doors.length≤1000) (ho:0≤x.Owner) (hd:(Zor s e).length≤100000):
 Zb rE c179L3b [(0,.yld 4),(4,.ptr 3 0 0 1),(142,.isl false false 16 (s.Doors.map Door.enc)),(143,I s.Doors.length),(144,I i)] (thH s e a m)=bif !ZoT (Zor s e) x||Zou s m x.Owner then some (.normal,[(0,.yld 4),(4,.ptr 3 0 0 1),(142,.isl false false 16 (s.Doors.map Door.enc)),(143,I s.Doors.length),(144,I (i+1:Nat))],thH s e a m) else some (.ret,[(0,.yld 4),(4,.ptr 3 0 0 1),(142,.isl false false 16 (s.Doors.map Door.enc)),(143,I s.Doors.length),(144,I i)],thD s e a m):=by
 have hg:=Z6 (f:=Door.enc) hx;have hi':=Zh (Z7 hx);have hwr:=Zx (n:=i) (by have:=Z7 hx;omega)
 have hcl:=Zow s;have hbl:=Zot s;obtain ⟨hf4,hf5⟩:=ZoI s e a m;have hS:∀ n,Zd n ((Zor s e).map encS)=true:=fun n=>ZN _ (Zw (fun t=>rfl) _)
 have hq:∀ n,Zj n (.row 16 [x.enc])=true:=fun n=>ZN (n:=n) [x.enc] (Zw (f:=Door.enc) (fun t=>rfl) [x])
 have hy:=Zpc s e a m x.Owner (.row 16 [x.enc]) hq (h.c.mst ho);simp only [thX,ZE4,ZE6,Door.enc,NL.enc] at hy;simp only [Door.enc,NL.enc] at hq;unfold ZoT;have hD:=Zqr (Zor s e) hd x.Id true false;have hcS:Z4 ((Zor s e).map encS)=true:=Zw (fun t=>rfl) _
 have htk:List.take (Zor s e).length ((Zor s e).map encS)=(Zor s e).map encS:=ZEo (by simp)
 cases c1:(Zor s e).any (fun y=>Z3 x.Id y) with
 | false=>
  rw [c1] at hD;simp only [go_sem,qy,qq,qx,qz,qv,qk,reduceIte,c179L3b,thX,S3,hg,hi',hwr,hcl,hbl,hf4,hf5,hq,hS,hy,Door.enc,NL.enc,ZEl,ZEr,ZEi,ZEb,ZF4,ZEB,ZE7,ZEj,cond_true,cond_false,hD,hcS,htk,ZE1,ZEM,beq_self_eq_true]
 | true=>
  rw [c1] at hD;cases c5009:Zou s m x.Owner<;>rw [c5009] at hy<;>simp only [cond_true,cond_false] at hy<;>simp only [go_sem,qy,qq,qx,qz,qv,qk,reduceIte,c179L3b,thX,S3,hg,hi',hwr,hcl,hbl,hf4,hf5,hq,hS,hy,Door.enc,NL.enc,ZEl,ZEr,ZEi,ZEb,ZF4,ZEB,ZE7,ZEj,cond_true,cond_false,hD,hcS,htk,ZE1,ZEM,beq_self_eq_true]
end Go.AM
namespace Go.AM
open Go
theorem ZqE (s:Sta) (e:Event) (a m:Int) (h:RqS s e m) (hl:s.Regions.length≤1000) (ho:∀ x∈s.Regions,0≤x.Owner):
 ∃ fr' h',Zg rE [0,1,2,3,4,20,21,22] c179L0b [(0,.yld 4),(1,.iptr false [ldI s]),(2,.ptr 1 0 0 1),(3,evI e),(4,.ptr 3 0 0 1),(20,.isl false false 6 (s.Regions.map Region.enc)),(21,I s.Regions.length),(22,.int .i64 0)] (thH s e a m)=some (if s.Regions.all (fun x=>!ZoQ e x||Zou s m x.Owner)=true then .exit 0 else .ret,fr',h')∧
  (s.Regions.all (fun x=>!ZoQ e x||Zou s m x.Owner)=true→fr'=[(0,.yld 4),(1,.iptr false [ldI s]),(2,.ptr 1 0 0 1),(3,evI e),(4,.ptr 3 0 0 1),(20,.isl false false 6 (s.Regions.map Region.enc)),(21,I s.Regions.length),(22,I s.Regions.length)]∧h'=thH s e a m)∧(s.Regions.all (fun x=>!ZoQ e x||Zou s m x.Owner)=false→h'=thD s e a m):=by
 have hbl:=Zot s;have hcl:=Zow s;obtain ⟨hf4,hf5⟩:=ZoI s e a m;have hS:∀ n,Zd n ((Zor s e).map encS)=true:=fun n=>ZN _ (Zw (fun t=>rfl) _)
 have L:=Jk (E:=rE) (live:=[0,1,2,3,4,20,21,22]) (b:=c179L0b) s.Regions (fun _ x=>!ZoQ e x||Zou s m x.Owner) (fun i=>[(0,.yld 4),(1,.iptr false [ldI s]),(2,.ptr 1 0 0 1),(3,evI e),(4,.ptr 3 0 0 1),(20,.isl false false 6 (s.Regions.map Region.enc)),(21,I s.Regions.length),(22,I i)]) (fun _=>thH s e a m) 0
  (fun fr h'=>fr=[(0,.yld 4),(1,.iptr false [ldI s]),(2,.ptr 1 0 0 1),(3,evI e),(4,.ptr 3 0 0 1),(20,.isl false false 6 (s.Regions.map Region.enc)),(21,I s.Regions.length),(22,I s.Regions.length)]∧h'=thH s e a m) (fun _ h'=>h'=thD s e a m) (fun i=>rfl)
  (fun i x hx hP=>by
   have:=ZpS s e a m h i x hx hl (ho x (ZE5 hx));rw [hP,cond_true] at this;exact ⟨_,this,rfl⟩)
  (fun i x hx hP=>by
   have:=ZpS s e a m h i x hx hl (ho x (ZE5 hx));rw [hP,cond_false] at this;exact ⟨_,_,this,rfl⟩)
  ⟨[(0,.yld 4),(1,.iptr false [ldI s]),(2,.ptr 1 0 0 1),(3,evI e),(4,.ptr 3 0 0 1),(20,.isl false false 6 (s.Regions.map Region.enc)),(21,I s.Regions.length),(22,I s.Regions.length)],thH s e a m,by simp only [go_sem,qy,qq,reduceIte,c179L0b,thX,ZG,hf4,hS],rfl,rfl⟩
 rw [QE] at L;exact L
theorem ZqF (s:Sta) (e:Event) (a m:Int) (h:RqS s e m) (hl:s.Streets.length≤1000) (ho:∀ x∈s.Streets,0≤x.Owner):
 ∃ fr' h',Zg rE [0,1,2,3,4,48,49,50] c179L1b [(0,.yld 4),(1,.iptr false [ldI s]),(2,.ptr 1 0 0 1),(3,evI e),(4,.ptr 3 0 0 1),(48,.isl false false 5 (s.Streets.map Street.enc)),(49,I s.Streets.length),(50,.int .i64 0)] (thH s e a m)=some (if s.Streets.all (fun x=>!ZoR e x||Zou s m x.Owner)=true then .exit 2 else .ret,fr',h')∧
  (s.Streets.all (fun x=>!ZoR e x||Zou s m x.Owner)=true→fr'=[(0,.yld 4),(1,.iptr false [ldI s]),(2,.ptr 1 0 0 1),(3,evI e),(4,.ptr 3 0 0 1),(48,.isl false false 5 (s.Streets.map Street.enc)),(49,I s.Streets.length),(50,I s.Streets.length)]∧h'=thH s e a m)∧(s.Streets.all (fun x=>!ZoR e x||Zou s m x.Owner)=false→h'=thD s e a m):=by
 have hbl:=Zot s;have hcl:=Zow s;obtain ⟨hf4,hf5⟩:=ZoI s e a m;have hS:∀ n,Zd n ((Zor s e).map encS)=true:=fun n=>ZN _ (Zw (fun t=>rfl) _)
 have L:=Jk (E:=rE) (live:=[0,1,2,3,4,48,49,50]) (b:=c179L1b) s.Streets (fun _ x=>!ZoR e x||Zou s m x.Owner) (fun i=>[(0,.yld 4),(1,.iptr false [ldI s]),(2,.ptr 1 0 0 1),(3,evI e),(4,.ptr 3 0 0 1),(48,.isl false false 5 (s.Streets.map Street.enc)),(49,I s.Streets.length),(50,I i)]) (fun _=>thH s e a m) 2
  (fun fr h'=>fr=[(0,.yld 4),(1,.iptr false [ldI s]),(2,.ptr 1 0 0 1),(3,evI e),(4,.ptr 3 0 0 1),(48,.isl false false 5 (s.Streets.map Street.enc)),(49,I s.Streets.length),(50,I s.Streets.length)]∧h'=thH s e a m) (fun _ h'=>h'=thD s e a m) (fun i=>rfl)
  (fun i x hx hP=>by
   have:=ZpT s e a m h i x hx hl (ho x (ZE5 hx));rw [hP,cond_true] at this;exact ⟨_,this,rfl⟩)
  (fun i x hx hP=>by
   have:=ZpT s e a m h i x hx hl (ho x (ZE5 hx));rw [hP,cond_false] at this;exact ⟨_,_,this,rfl⟩)
  ⟨[(0,.yld 4),(1,.iptr false [ldI s]),(2,.ptr 1 0 0 1),(3,evI e),(4,.ptr 3 0 0 1),(48,.isl false false 5 (s.Streets.map Street.enc)),(49,I s.Streets.length),(50,I s.Streets.length)],thH s e a m,by simp only [go_sem,qy,qq,reduceIte,c179L1b,thX,ZG,hf4,hS],rfl,rfl⟩
 rw [QE] at L;exact L
theorem ZqG (s:Sta) (e:Event) (a m:Int) (h:RqS s e m) (hl:s.Buildings.length≤1000) (ho:∀ x∈s.Buildings,0≤x.Owner):
 ∃ fr' h',Zg rE [0,1,2,3,4,102,103,104] c179L2b [(0,.yld 4),(1,.iptr false [ldI s]),(2,.ptr 1 0 0 1),(3,evI e),(4,.ptr 3 0 0 1),(102,.isl false false 4 (s.Buildings.map Building.enc)),(103,I s.Buildings.length),(104,.int .i64 0)] (thH s e a m)=some (if s.Buildings.all (fun x=>!ZoS e x||Zou s m x.Owner)=true then .exit 4 else .ret,fr',h')∧
  (s.Buildings.all (fun x=>!ZoS e x||Zou s m x.Owner)=true→fr'=[(0,.yld 4),(1,.iptr false [ldI s]),(2,.ptr 1 0 0 1),(3,evI e),(4,.ptr 3 0 0 1),(102,.isl false false 4 (s.Buildings.map Building.enc)),(103,I s.Buildings.length),(104,I s.Buildings.length)]∧h'=thH s e a m)∧(s.Buildings.all (fun x=>!ZoS e x||Zou s m x.Owner)=false→h'=thD s e a m):=by
 have hbl:=Zot s;have hcl:=Zow s;obtain ⟨hf4,hf5⟩:=ZoI s e a m;have hS:∀ n,Zd n ((Zor s e).map encS)=true:=fun n=>ZN _ (Zw (fun t=>rfl) _)
 have L:=Jk (E:=rE) (live:=[0,1,2,3,4,102,103,104]) (b:=c179L2b) s.Buildings (fun _ x=>!ZoS e x||Zou s m x.Owner) (fun i=>[(0,.yld 4),(1,.iptr false [ldI s]),(2,.ptr 1 0 0 1),(3,evI e),(4,.ptr 3 0 0 1),(102,.isl false false 4 (s.Buildings.map Building.enc)),(103,I s.Buildings.length),(104,I i)]) (fun _=>thH s e a m) 4
  (fun fr h'=>fr=[(0,.yld 4),(1,.iptr false [ldI s]),(2,.ptr 1 0 0 1),(3,evI e),(4,.ptr 3 0 0 1),(102,.isl false false 4 (s.Buildings.map Building.enc)),(103,I s.Buildings.length),(104,I s.Buildings.length)]∧h'=thH s e a m) (fun _ h'=>h'=thD s e a m) (fun i=>rfl)
  (fun i x hx hP=>by
   have:=ZpU s e a m h i x hx hl (ho x (ZE5 hx));rw [hP,cond_true] at this;exact ⟨_,this,rfl⟩)
  (fun i x hx hP=>by
   have:=ZpU s e a m h i x hx hl (ho x (ZE5 hx));rw [hP,cond_false] at this;exact ⟨_,_,this,rfl⟩)
  ⟨[(0,.yld 4),(1,.iptr false [ldI s]),(2,.ptr 1 0 0 1),(3,evI e),(4,.ptr 3 0 0 1),(102,.isl false false 4 (s.Buildings.map Building.enc)),(103,I s.Buildings.length),(104,I s.Buildings.length)],thH s e a m,by simp only [go_sem,qy,qq,reduceIte,c179L2b,thX,ZG,hf4,hS],rfl,rfl⟩
 rw [QE] at L;exact L
theorem ZqH (s:Sta) (e:Event) (a m:Int) (h:RqS s e m) (hl:s.Doors.length≤1000) (ho:∀ x∈s.Doors,0≤x.Owner) (hd:(Zor s e).length≤100000):
 ∃ fr' h',Zg rE [0,4,142,143,144] c179L3b [(0,.yld 4),(4,.ptr 3 0 0 1),(142,.isl false false 16 (s.Doors.map Door.enc)),(143,I s.Doors.length),(144,.int .i64 0)] (thH s e a m)=some (if s.Doors.all (fun x=>!ZoT (Zor s e) x||Zou s m x.Owner)=true then .exit 6 else .ret,fr',h')∧
  (s.Doors.all (fun x=>!ZoT (Zor s e) x||Zou s m x.Owner)=true→fr'=[(0,.yld 4),(4,.ptr 3 0 0 1),(142,.isl false false 16 (s.Doors.map Door.enc)),(143,I s.Doors.length),(144,I s.Doors.length)]∧h'=thH s e a m)∧(s.Doors.all (fun x=>!ZoT (Zor s e) x||Zou s m x.Owner)=false→h'=thD s e a m):=by
 have hbl:=Zot s;have hcl:=Zow s;obtain ⟨hf4,hf5⟩:=ZoI s e a m;have hS:∀ n,Zd n ((Zor s e).map encS)=true:=fun n=>ZN _ (Zw (fun t=>rfl) _)
 have L:=Jk (E:=rE) (live:=[0,4,142,143,144]) (b:=c179L3b) s.Doors (fun _ x=>!ZoT (Zor s e) x||Zou s m x.Owner) (fun i=>[(0,.yld 4),(4,.ptr 3 0 0 1),(142,.isl false false 16 (s.Doors.map Door.enc)),(143,I s.Doors.length),(144,I i)]) (fun _=>thH s e a m) 6
  (fun fr h'=>fr=[(0,.yld 4),(4,.ptr 3 0 0 1),(142,.isl false false 16 (s.Doors.map Door.enc)),(143,I s.Doors.length),(144,I s.Doors.length)]∧h'=thH s e a m) (fun _ h'=>h'=thD s e a m) (fun i=>rfl)
  (fun i x hx hP=>by
   have:=ZpV s e a m h i x hx hl (ho x (ZE5 hx)) hd;rw [hP,cond_true] at this;exact ⟨_,this,rfl⟩)
  (fun i x hx hP=>by
   have:=ZpV s e a m h i x hx hl (ho x (ZE5 hx)) hd;rw [hP,cond_false] at this;exact ⟨_,_,this,rfl⟩)
  ⟨[(0,.yld 4),(4,.ptr 3 0 0 1),(142,.isl false false 16 (s.Doors.map Door.enc)),(143,I s.Doors.length),(144,I s.Doors.length)],thH s e a m,by simp only [go_sem,qy,qq,reduceIte,c179L3b,thX,ZG,hf4,hS],rfl,rfl⟩
 rw [QE] at L;exact L
def owH (e:Event) (l:List Str):Hp:=[.row 1 [I 0],.row 1 [.clo (.func 178) [] [evI e]],.row 1 (l.map encS),.row 1 [.sl 2 l.length 0 l.length false]]
theorem Zpd (e:Event) (l:List Str) (x:Str) (hl:l.length≤1000000) (r:List AObj):appW (owH e l++r) true 1 16 (.sl 2 l.length 0 l.length false) (.isl false false 1 [.str x]) =
 some (.sl 2 (l.length+1) 0 (l.length+1) false,[.row 1 [I 0],.row 1 [.clo (.func 178) [] [evI e]],.row 1 ((l++[x]).map encS),.row 1 [.sl 2 l.length 0 l.length false]]++r):=by
 have:=XC (h:=owH e l++r) (fz:=true) (b:=2) (g:=l.length) (sz:=1) (bytes:=16) (es:=l.map encS) (bw:=false) (ex:=false) (ys:=[.str x]) (by
  show (bif (l.map encS).length==l.length then some (1,l.map encS) else none)=_
  rw [ZE1,beq_self_eq_true];rfl) rfl rfl (by decide) (by decide) (by simp;omega)
 rw [this,ZEd];rfl
theorem ZoU (e:Event) (n:Nat):bel n (evI e)=true:=by
 have hc:Z4 [evI e]=true:=by simp only [go_sem]
 have:=ZN (n:=n) [evI e] hc;unfold Zd at this;rw [ZDX] at this;exact this.1
theorem ZqI (s:Sta) (e:Event) (l:List Str) (hl:l.length+e.Lst.l.length≤100000):Zg rE [2,3,5,6,35,36,37] c98L0b [(2,.iptr false [ldI s]),(3,evI e),(5,.ptr 1 0 0 1),(6,.ptr 3 0 0 1),(35,.isl false e.Lst.ex 7 (e.Lst.l.map Ent.enc)),(36,I e.Lst.l.length),(37,.int .i64 0)] (owH e l) =
 some (.exit 0,[(2,.iptr false [ldI s]),(3,evI e),(5,.ptr 1 0 0 1),(6,.ptr 3 0 0 1),(35,.isl false e.Lst.ex 7 (e.Lst.l.map Ent.enc)),(36,I e.Lst.l.length),(37,I e.Lst.l.length)],owH e (l++e.Lst.l.map (·.Id))):=by
 have hbl:=Zot s;have hbe:=ZoU e;have hS:∀ (D:List Str) n,Zd n (D.map encS)=true:=fun D n=>ZN _ (Zw (fun t=>rfl) _)
 have L:=Y8 (E:=rE) (live:=[2,3,5,6,35,36,37]) (b:=c98L0b) e.Lst.l.length (fun i=>[(2,.iptr false [ldI s]),(3,evI e),(5,.ptr 1 0 0 1),(6,.ptr 3 0 0 1),(35,.isl false e.Lst.ex 7 (e.Lst.l.map Ent.enc)),(36,I e.Lst.l.length),(37,I i)])
  (fun i=>owH e (l++(e.Lst.l.take i).map (·.Id))) (fun i=>rfl)
  (fun i hi=>by
   obtain ⟨x,hx⟩:∃ x,e.Lst.l[i]? = some x:=⟨_,ZE0 hi⟩;have hg:=Z6 (f:=Ent.enc) hx;have hi':=Zh hi;have hwr:=Zx (n:=i) (by omega)
   have htk:l++(e.Lst.l.take (i+1)).map (·.Id)=(l++(e.Lst.l.take i).map (·.Id))++[x.Id]:=by
    rw [ZFa,hx,ZEd,ZEf];rfl
   have hlen:(l++(e.Lst.l.take i).map (·.Id)).length≤1000000:=by rw [ZEk,ZE1,ZEF];omega
   rw [htk];generalize l++(e.Lst.l.take i).map (·.Id)=D at *;have ha:=fun q=>Zpd e D x.Id hlen [q]
   simp only [owH,ZE4,ZE6] at ha;have hl1:(D++[x.Id]).length=D.length+1:=by simp
   refine ⟨[(2,.iptr false [ldI s]),(3,evI e),(5,.ptr 1 0 0 1),(6,.ptr 3 0 0 1),(35,.isl false e.Lst.ex 7 (e.Lst.l.map Ent.enc)),(36,I e.Lst.l.length),(37,I (i+1:Nat))],?_,rfl⟩;unfold owH;rw [hl1];simp only [go_sem,qy,qq,qv,qk,reduceIte,c98L0b,hg,hi',hwr,ha,Ent.enc,hbe,hS])
  (e:=.exit 0) (fr:=[(2,.iptr false [ldI s]),(3,evI e),(5,.ptr 1 0 0 1),(6,.ptr 3 0 0 1),(35,.isl false e.Lst.ex 7 (e.Lst.l.map Ent.enc)),(36,I e.Lst.l.length),(37,I e.Lst.l.length)]) (h:=owH e (l++e.Lst.l.map (·.Id))) (by
   rw [ZEu];simp only [go_sem,qy,qq,qv,reduceIte,c98L0b,owH,ZG,hbe,hS]) (by simp)
 have e0:l++(e.Lst.l.take 0).map (·.Id)=l:=by simp
 rw [e0] at L;exact L
theorem ZqJ (s:Sta) (e:Event) (l:List Str) (hl:l.length+s.Units.length≤100000):Zg rE [2,3,5,6,54,55,56] c98L1b [(2,.iptr false [ldI s]),(3,evI e),(5,.ptr 1 0 0 1),(6,.ptr 3 0 0 1),(54,.isl false false 6 (s.Units.map Unit'.enc)),(55,I s.Units.length),(56,.int .i64 0)] (owH e l) =
 some (.exit 2,[(2,.iptr false [ldI s]),(3,evI e),(5,.ptr 1 0 0 1),(6,.ptr 3 0 0 1),(54,.isl false false 6 (s.Units.map Unit'.enc)),(55,I s.Units.length),(56,I s.Units.length)],owH e (l++(s.Units.filter (fun u=>Z3 u.Id e.Id)).map (·.Door))):=by
 have hbl:=Zot s;have hbe:=ZoU e;have hS:∀ (D:List Str) n,Zd n (D.map encS)=true:=fun D n=>ZN _ (Zw (fun t=>rfl) _)
 have L:=Y8 (E:=rE) (live:=[2,3,5,6,54,55,56]) (b:=c98L1b) s.Units.length (fun i=>[(2,.iptr false [ldI s]),(3,evI e),(5,.ptr 1 0 0 1),(6,.ptr 3 0 0 1),(54,.isl false false 6 (s.Units.map Unit'.enc)),(55,I s.Units.length),(56,I i)])
  (fun i=>owH e (l++((s.Units.take i).filter (fun u=>Z3 u.Id e.Id)).map (·.Door))) (fun i=>rfl)
  (fun i hi=>by
   obtain ⟨x,hx⟩:∃ x,s.Units[i]? = some x:=⟨_,ZE0 hi⟩;have hg:=Z6 (f:=Unit'.enc) hx;have hi':=Zh hi;have hwr:=Zx (n:=i) (by omega)
   have htk:l++((s.Units.take (i+1)).filter (fun u=>Z3 u.Id e.Id)).map (·.Door)=(l++((s.Units.take i).filter (fun u=>Z3 u.Id e.Id)).map (·.Door))++bif Z3 x.Id e.Id then [x.Door] else []:=by
    rw [ZFa,hx,List.filter_append,ZEd,ZEf];congr 2;show ([x].filter _).map _=_
    cases hc:Z3 x.Id e.Id<;>simp [hc]
   have hlen:(l++((s.Units.take i).filter (fun u=>Z3 u.Id e.Id)).map (·.Door)).length≤1000000:=by
    rw [ZEk,ZE1];have:=ZFq (fun u:Unit'=>Z3 u.Id e.Id) (s.Units.take i)
    rw [ZEF] at this;omega
   rw [htk];generalize l++((s.Units.take i).filter (fun u=>Z3 u.Id e.Id)).map (·.Door)=D at *
   refine ⟨[(2,.iptr false [ldI s]),(3,evI e),(5,.ptr 1 0 0 1),(6,.ptr 3 0 0 1),(54,.isl false false 6 (s.Units.map Unit'.enc)),(55,I s.Units.length),(56,I (i+1:Nat))],?_,rfl⟩;cases c:Z3 x.Id e.Id with
   | false=>
    rw [cond_false,ZE8];simp only [go_sem,qy,qq,qv,qk,reduceIte,c98L1b,owH,hg,hi',hwr,Unit'.enc,c,hbe,hS]
   | true=>
    rw [cond_true];have ha:=fun q=>Zpd e D x.Door hlen [q]
    simp only [owH,ZE4,ZE6] at ha;have hl1:(D++[x.Door]).length=D.length+1:=by simp
    unfold owH;rw [hl1];simp only [go_sem,qy,qq,qv,qk,reduceIte,c98L1b,hg,hi',hwr,ha,Unit'.enc,c,hbe,hS])
  (e:=.exit 2) (fr:=[(2,.iptr false [ldI s]),(3,evI e),(5,.ptr 1 0 0 1),(6,.ptr 3 0 0 1),(54,.isl false false 6 (s.Units.map Unit'.enc)),(55,I s.Units.length),(56,I s.Units.length)]) (h:=owH e (l++(s.Units.filter (fun u=>Z3 u.Id e.Id)).map (·.Door))) (by
   rw [ZEu];simp only [go_sem,qy,qq,qv,reduceIte,c98L1b,owH,ZG,hbe,hS]) (by simp)
 have e0:l++((s.Units.take 0).filter (fun u=>Z3 u.Id e.Id)).map (·.Door)=l:=by simp
 rw [e0] at L;exact L
theorem ZqK (l:List Str) (ex:Bool) (hl:l.length≤1000000) (h:Hp):fnV rE 78 [.isl false ex 1 (l.map encS)] h=some (.sl h.length l.length 0 l.length false,h++[.row 1 (l.map encS)]):=by
 have hble:Nat.ble l.length 1000000=true:=ZEZ hl;have hfit:(l.map encS).all (fits 1)=true:=by rw [ZFn,ZE3];intro x _;rfl
 rw [V8 (s:=J9) rfl];simp only [J9,Q2,Qq,hfit,ZE1,hble,beq_self_eq_true,ZEb,ZEA,cond_true]
end Go.AM
namespace Go.AM
open Go
theorem c98_eq:c98=.seq s98p0 (.seq s98p1 (.seq s98p2 (.seq s98p3 (.seq s98p4 (.seq s98p5 (.seq s98p6 (.seq s98p7 .ret))))))):=rfl
def owG (s:Sta) (e:Event) (k:Nat) (b:Bool):Fr:=bif b then [(2,.iptr false [ldI s]),(3,evI e),(5,.ptr 1 0 0 1),(6,.ptr 3 0 0 1)] else [(2,.iptr false [ldI s]),(3,evI e),(5,.ptr 1 0 0 1),(6,.ptr 3 0 0 1),(k,.bool false)]
def ow1 (e:Event) (l:List Str):List Str:=l++bif kOf [9,12] e then [e.Id] else []
def ow2 (e:Event) (l:List Str):List Str:=l++bif kOf [7] e then [e.Other] else []
def ow3 (e:Event) (l:List Str):List Str:=l++bif kOf [8] e then e.Lst.l.map (·.Id) else []
def ow4 (s:Sta) (e:Event) (l:List Str):List Str:=l++bif kOf [12] e then (s.Units.filter (fun u=>Z3 u.Id e.Id)).map (·.Door) else []
theorem ZpW (s:Sta) (e:Event):Zor s e=ow4 s e (ow3 e (ow2 e (ow1 e e.Ids.l))):=rfl
theorem ZqL (s:Sta) (e:Event) (l:List Str) (b:Bool) (hl:l.length≤100000):Zb rE s98p3 (owG s e 0 b) (owH e l)=some (.normal,owG s e 17 (kOf [9,12] e),owH e (ow1 e l)):=by
 have hbl:=Zot s;have hbe:=ZoU e;have hS:∀ (D:List Str) n,Zd n (D.map encS)=true:=fun D n=>ZN _ (Zw (fun t=>rfl) _)
 have hk:=ZoJ e [9,12] false (by decide)
 simp only [ZE2,ZEm] at hk;unfold ow1;cases c:kOf [9,12] e with
 | false=>
  rw [c] at hk;rw [cond_false,ZE8];cases b<;>simp only [go_sem,qy,qq,qv,qk,s98p3,owG,cond_true,cond_false,owH,hk,hbe,hS]
 | true=>
  rw [c] at hk;rw [cond_true];have ha:=Zpd e l e.Id (by omega) []
  have hl1:(l++[e.Id]).length=l.length+1:=by simp
  unfold owH at ha ⊢;rw [hl1];simp only [ZE8] at ha;cases b<;>simp only [go_sem,qy,qq,qv,qk,s98p3,owG,cond_true,cond_false,hk,ha,hbe,hS]
theorem ZqM (s:Sta) (e:Event) (l:List Str) (b:Bool) (hl:l.length≤100000):Zb rE s98p4 (owG s e 17 b) (owH e l)=some (.normal,owG s e 25 (kOf [7] e),owH e (ow2 e l)):=by
 have hbl:=Zot s;have hbe:=ZoU e;have hS:∀ (D:List Str) n,Zd n (D.map encS)=true:=fun D n=>ZN _ (Zw (fun t=>rfl) _)
 have hk:=ZoJ e [7] false (by decide)
 simp only [ZE2,ZEm] at hk;unfold ow2;cases c:kOf [7] e with
 | false=>
  rw [c] at hk;rw [cond_false,ZE8];cases b<;>simp only [go_sem,qy,qq,qv,qk,s98p4,owG,cond_true,cond_false,owH,hk,hbe,hS]
 | true=>
  rw [c] at hk;rw [cond_true];have ha:=Zpd e l e.Other (by omega) []
  have hl1:(l++[e.Other]).length=l.length+1:=by simp
  unfold owH at ha ⊢;rw [hl1];simp only [ZE8] at ha;cases b<;>simp only [go_sem,qy,qq,qv,qk,s98p4,owG,cond_true,cond_false,hk,ha,hbe,hS]
theorem ZqN (s:Sta) (e:Event) (l:List Str) (b:Bool) (hl:l.length+e.Lst.l.length≤100000):Zb rE s98p5 (owG s e 25 b) (owH e l)=some (.normal,owG s e 33 (kOf [8] e),owH e (ow3 e l)):=by
 have hbl:=Zot s;have hbe:=ZoU e;have hS:∀ (D:List Str) n,Zd n (D.map encS)=true:=fun D n=>ZN _ (Zw (fun t=>rfl) _)
 have hE:∀ n,Zd n (e.Lst.l.map Ent.enc)=true:=fun n=>ZN _ (Zw (fun t=>rfl) _)
 have hk:=ZoJ e [8] false (by decide)
 simp only [ZE2,ZEm] at hk;unfold ow3;cases c:kOf [8] e with
 | false=>
  rw [c] at hk;rw [cond_false,ZE8];cases b<;>simp only [go_sem,qy,qq,qv,qk,s98p5,owG,cond_true,cond_false,owH,hk,hbe,hS]
 | true=>
  rw [c] at hk;rw [cond_true];have hL:=ZqI s e l hl;generalize l++e.Lst.l.map (·.Id)=D at *;unfold owH at hL ⊢;cases b<;>simp only [go_sem,qy,qq,qv,qk,s98p5,c98L0,owG,cond_true,cond_false,hk,hL,hbe,hS]
theorem ZqO (s:Sta) (e:Event) (l:List Str) (b:Bool) (hl:l.length+s.Units.length≤100000):Zb rE s98p6 (owG s e 33 b) (owH e l)=some (.normal,owG s e 49 (kOf [12] e),owH e (ow4 s e l)):=by
 have hbl:=Zot s;have hbe:=ZoU e;have hS:∀ (D:List Str) n,Zd n (D.map encS)=true:=fun D n=>ZN _ (Zw (fun t=>rfl) _)
 have hE:∀ n,Zd n (s.Units.map Unit'.enc)=true:=fun n=>ZN _ (Zw (fun t=>rfl) _)
 have hk:=ZoJ e [12] false (by decide)
 simp only [ZE2,ZEm] at hk;unfold ow4;cases c:kOf [12] e with
 | false=>
  rw [c] at hk;rw [cond_false,ZE8];cases b<;>simp only [go_sem,qy,qq,qv,qk,s98p6,owG,cond_true,cond_false,owH,hk,hbe,hS]
 | true=>
  rw [c] at hk;rw [cond_true];have hL:=ZqJ s e l hl;generalize l++(s.Units.filter (fun u=>Z3 u.Id e.Id)).map (·.Door)=D at *
  unfold owH at hL ⊢;cases b<;>simp only [go_sem,qy,qq,qv,qk,s98p6,c98L1,owG,cond_true,cond_false,hk,hL,hbe,hS]
theorem ZqP (s:Sta) (e:Event) (hl:e.Ids.l.length≤1000000):Zb rE s98p2 [(2,.iptr false [ldI s]),(3,evI e),(5,.ptr 1 0 0 1)] [.row 1 [I 0],.row 1 [.clo (.func 178) [] [evI e]]]=some (.normal,owG s e 0 true,owH e e.Ids.l):=by
 have hC:=ZqK e.Ids.l e.Ids.ex hl [.row 1 [I 0],.row 1 [.clo (.func 178) [] [evI e]]];have hbl:=Zot s;have hbe:=ZoU e;have hS:∀ (D:List Str) n,Zd n (D.map encS)=true:=fun D n=>ZN _ (Zw (fun t=>rfl) _)
 unfold owH owG;simp only [go_sem,qy,qq,qv,s98p2,cond_true,hC,hbe]
theorem ZpX (s:Sta) (e:Event) (h1:e.Ids.l.length≤1000) (h2:e.Lst.l.length≤1000) (h3:s.Units.length≤1000):(ow1 e e.Ids.l).length≤1001∧(ow2 e (ow1 e e.Ids.l)).length≤1002∧(ow3 e (ow2 e (ow1 e e.Ids.l))).length≤2002∧(Zor s e).length≤3002:=by
 have a1:(ow1 e e.Ids.l).length≤1001:=by
  unfold ow1;cases kOf [9,12] e<;>simp<;>omega
 have a2:(ow2 e (ow1 e e.Ids.l)).length≤1002:=by
  unfold ow2;cases kOf [7] e<;>simp<;>omega
 have a3:(ow3 e (ow2 e (ow1 e e.Ids.l))).length≤2002:=by
  rw [ow3];cases kOf [8] e<;>simp<;>omega
 refine ⟨a1,a2,a3,?_⟩;rw [ZpW,ow4];have:=ZFq (fun u:Unit'=>Z3 u.Id e.Id) s.Units
 cases kOf [12] e<;>simp<;>omega
theorem ZqQ (s:Sta) (e:Event) (h1:e.Ids.l.length≤1000) (h2:e.Lst.l.length≤1000) (h3:s.Units.length≤1000):fnV rE 98 [ldI s,evA e] [.row 1 [I 0]]=some (.clo (.func 179) [] [.iptr false [ldI s],.ptr 1 0 0 1,evI e,.ptr 3 0 0 1],owH e (Zor s e)):=by
 obtain ⟨a1,a2,a3,a4⟩:=ZpX s e h1 h2 h3;have q2:=ZqP s e (by omega)
 have q3:=ZqL s e e.Ids.l true (by omega)
 have q4:=ZqM s e (ow1 e e.Ids.l) (kOf [9,12] e) (by omega)
 have q5:=ZqN s e (ow2 e (ow1 e e.Ids.l)) (kOf [7] e) (by omega)
 have q6:=ZqO s e (ow3 e (ow2 e (ow1 e e.Ids.l))) (kOf [8] e) (by omega)
 rw [←ZpW] at q6;have hbl:=Zot s;have hcl:=Zow s;have hbe:=ZoU e;have hS:∀ (D:List Str) n,Zd n (D.map encS)=true:=fun D n=>ZN _ (Zw (fun t=>rfl) _)
 have q0:Zb rE s98p0 [(0,ldI s),(1,evA e)] [.row 1 [I 0]]=some (.normal,[(2,.iptr false [ldI s]),(3,evI e)],[.row 1 [I 0]]):=by
  simp only [go_sem,qy,qq,s98p0,hcl,hbe]
 have q1:Zb rE s98p1 [(2,.iptr false [ldI s]),(3,evI e)] [.row 1 [I 0]]=some (.normal,[(2,.iptr false [ldI s]),(3,evI e),(5,.ptr 1 0 0 1)],[.row 1 [I 0],.row 1 [.clo (.func 178) [] [evI e]]]):=by
  simp only [go_sem,qy,qq,qv,s98p1,hbe]
 generalize Zor s e=D at *;have q7:∀ b,∃ fr,Zb rE s98p7 (owG s e 49 b) (owH e D)=some (.normal,fr,owH e D)∧get fr 4=.clo (.func 179) [] [.iptr false [ldI s],.ptr 1 0 0 1,evI e,.ptr 3 0 0 1]:=by
  intro b;cases b
  ·exact ⟨_,by simp only [go_sem,qy,s98p7,owG,owH,cond_true,cond_false]<;>rfl,rfl⟩
  ·exact ⟨_,by simp only [go_sem,qy,s98p7,owG,owH,cond_true,cond_false]<;>rfl,rfl⟩
 obtain ⟨fr,q7,g7⟩:=q7 (kOf [12] e);rw [Q6 (f:=98) rfl rfl,c98_eq];simp only [go_sem,qq,q0,q1,q2,q3,q4,q5,q6,q7,g7]
end Go.AM
namespace Go.AM
open Go
theorem ClS.str {s:Sta} (h:ClS s) {x:Street} (hx:x∈s.Streets):0≤x.Owner∧x.Owner≤63:=by
 have:=h.prop.st x hx;unfold Vp at this;simp only [ZDX] at this;exact Zpa this.1
theorem ClS.bld {s:Sta} (h:ClS s) {x:Building} (hx:x∈s.Buildings):0≤x.Owner∧x.Owner≤63:=by
 have:=h.prop.bu x hx;unfold Vq at this;simp only [ZDX] at this;exact Zpa this.1
theorem ClS.dor {s:Sta} (h:ClS s) {x:Door} (hx:x∈s.Doors):0≤x.Owner∧x.Owner≤63:=by
 obtain ⟨i,hi⟩:=ZGr hx;have:=h.prop.dr i x hi;unfold Vr at this;simp only [ZDX] at this;exact Zpa this.1
theorem ZqR (s:Sta) (e:Event) (a m:Int) (h:RqS s e m):
 rf rE (.clo (.func 179) [] [.iptr false [ldI s],.ptr 1 0 0 1,evI e,.ptr 3 0 0 1]) [13] c55R0a c55R0b (ZoA s e a m) (owH e (Zor s e))=bif Zpb s e m
  then some (.normal,ZoA s e a m,thX s e a m 0 .exhausted .normal (Zor s e)) else some (.ret,ZoA s e a m,thX s e a m 18 .exhausted .ret (Zor s e)):=by
 have hz:=h.c.E.sizes;have hd:=(ZpX s e (by have:=h.ev.ids;omega) (by have:=h.ev.lst;omega) hz.units).2.2.2
 obtain ⟨f1,h1,L1,A1,B1⟩:=ZqE s e a m h hz.regions (fun x hx=>(h.c.reg hx).1)
 obtain ⟨f2,h2,L2,A2,B2⟩:=ZqF s e a m h hz.streets (fun x hx=>(h.c.str hx).1)
 obtain ⟨f3,h3,L3,A3,B3⟩:=ZqG s e a m h hz.buildings (fun x hx=>(h.c.bld hx).1)
 obtain ⟨f4,h4,L4,A4,B4⟩:=ZqH s e a m h hz.doors (fun x hx=>(h.c.dor hx).1) (by omega)
 have hbl:=Zot s;have hcl:=Zow s;obtain ⟨hf4,hf5⟩:=ZoI s e a m;have hS:∀ n,Zd n ((Zor s e).map encS)=true:=fun n=>ZN _ (Zw (fun t=>rfl) _)
 unfold Zpb;rw [Z1k (c:=c179) rfl];cases c1:s.Regions.all (fun x=>!ZoQ e x||Zou s m x.Owner) with
 | false=>
  have e1:=B1 c1;subst e1;rw [c1] at L1;simp only [thX,ZEc,if_false] at L1;rw [ZEj,cond_false];simp only [go_sem,qy,qq,c179,c179L0,owH,thX,ZE4,ZE6,L1,hf4,hS];rfl
 | true=>
 obtain ⟨e1,e1'⟩:=A1 c1;subst e1;subst e1';rw [c1] at L1;simp only [thX,if_true] at L1;cases c2:s.Streets.all (fun x=>!ZoR e x||Zou s m x.Owner) with
 | false=>
  have e1:=B2 c2;subst e1;rw [c2] at L2;simp only [thX,ZEc,if_false] at L2;rw [ZE7,ZEj,cond_false];simp only [go_sem,qy,qq,c179,c179L0,c179L1,owH,thX,ZE4,ZE6,L1,L2,hf4,hS];rfl
 | true=>
 obtain ⟨e1,e1'⟩:=A2 c2;subst e1;subst e1';rw [c2] at L2;simp only [thX,if_true] at L2;cases c5003:s.Buildings.all (fun x=>!ZoS e x||Zou s m x.Owner) with
 | false=>
  have e1:=B3 c5003;subst e1;rw [c5003] at L3;simp only [thX,ZEc,if_false] at L3;rw [ZE7,ZE7,ZEj,cond_false];simp only [go_sem,qy,qq,c179,c179L0,c179L1,c179L2,owH,thX,ZE4,ZE6,L1,L2,L3,hf4,hS];rfl
 | true=>
 obtain ⟨e1,e1'⟩:=A3 c5003;subst e1;subst e1';rw [c5003] at L3;simp only [thX,if_true] at L3;cases c5004:s.Doors.all (fun x=>!ZoT (Zor s e) x||Zou s m x.Owner) with
 | false=>
  have e1:=B4 c5004;subst e1;rw [c5004] at L4;simp only [thX,ZEc,if_false] at L4;rw [ZE7,ZE7,ZE7,cond_false];simp only [go_sem,qy,qq,c179,c179L0,c179L1,c179L2,c179L3,owH,thX,ZE4,ZE6,L1,L2,L3,L4,hf4,hS];rfl
 | true=>
 obtain ⟨e1,e1'⟩:=A4 c5004;subst e1;subst e1';rw [c5004] at L4;simp only [thX,if_true] at L4;rw [ZE7,ZE7,ZE7,cond_true];simp only [go_sem,qy,qq,c179,c179L0,c179L1,c179L2,c179L3,owH,thX,ZE4,ZE6,L1,L2,L3,L4,hf4,hS];rfl
theorem ZqS (s:Sta) (e:Event) (a m:Int) (h:RqS s e m):pfn rE 55 [rqI s e a m]=some (I (Zp6 s e m)):=by
 have hrf:=ZqR s e a m h;have hO:=ZqQ s e (by have:=h.ev.ids;omega) (by have:=h.ev.lst;omega) h.c.E.sizes.units
 have hcl:=Zow s;have hbl:=Zot s;have hS:∀ n,Zd n ((Zor s e).map encS)=true:=fun n=>ZN _ (Zw (fun t=>rfl) _)
 obtain ⟨hf4,hf5⟩:=ZoI s e a m;generalize Zor s e=D at *;unfold Zp6;rw [Z5 (f:=55) rfl rfl];unfold owH at hrf hO;cases c:Zpb s e m with
 | true=>
  rw [c,cond_true] at hrf;simp only [ZoA] at hrf;simp only [go_sem,qy,qq,qv,qk,c55,hO,Sr,hrf,hS,thX,ZoA]
 | false=>
  rw [c,cond_false] at hrf;simp only [ZoA] at hrf;simp only [go_sem,qy,qq,qv,qk,c55,hO,Sr,hrf,hS,thX,ZoA]
end Go.AM
namespace Go.AM
open Go
theorem Zpf {a:Int} (h:Zoz a=true):0≤a∧a≤63:=by
 unfold Zoz at h;simpa using h
def cvV:List (Nat×Int)→Int
 | []=>0
 | x::l=>bif x.2==0 then cvV l else x.2
abbrev cvF (R:AV) (L:List (Nat×Int)) (i:Nat):Fr:=[(46,.isl false false 1 (L.map fun x=>.clo (.func x.1) [R] [])),(47,I L.length),(48,I i)]
theorem ZpY (R:AV) (hc:clean R=true) (L:List (Nat×Int)) (hl:L.length≤1000) (hp:∀ x∈L,pfn rE x.1 [R]=some (I x.2)):∀ (k i:Nat),i+k=L.length→
 ∃ fr',Zg rE [46,47,48] c26L0b (cvF R L i) []=some (bif cvV (L.drop i)==0 then .exit 0 else .ret,fr',[])∧(cvV (L.drop i)≠0→get fr' 6=I (cvV (L.drop i)))
 | 0,i,hk=>by
  have hi:i=L.length:=by omega
  subst hi;refine ⟨_,Q7 rfl (e:=.exit 0) (by simp only [go_sem,qy,reduceIte,c26L0b,ZG]<;>rfl) (by simp) |>.trans (by rw [List.drop_length];rfl),?_⟩
  rw [List.drop_length];exact fun h=>absurd rfl h
 | k+1,i,hk=>by
  obtain ⟨x,hx⟩:∃ x,L[i]? = some x:=⟨_,ZE0 (by omega)⟩
  have hg:=Z6 (f:=fun x:Nat×Int=>AV.clo (.func x.1) [R] []) hx
  have hi':=Zh (Z7 hx);have hwr:=Zx (n:=i) (by have:=Z7 hx;omega)
  have hy:=hp x (ZE5 hx);have hd:L.drop i=x::L.drop (i+1):=by
   have h1:=ZF1 (Z7 hx);rw [h1];congr 1;have:=ZE0 (Z7 hx);rw [this] at hx;exact Option.some.inj hx
  rw [hd,cvV];cases c:x.2==0 with
  | true=>
   have hn:(x.2 != 0)=false:=by rw [bne,c];rfl
   obtain ⟨fr',h1,h2⟩:=ZpY R hc L hl hp k (i+1) (by omega)
   refine ⟨fr',?_,h2⟩;rw [cond_true,Yt rfl (fr':=(6,.bot)::cvF R L (i+1)) (h':=[]) (by
    simp only [go_sem,qy,reduceIte,c26L0b,hg,hi',hwr,hy,hn,hc])]
   exact h1
  | false=>
   have hn:(x.2 != 0)=true:=by rw [bne,c];rfl
   rw [cond_false,c,cond_false];refine ⟨_,Q7 rfl (e:=.ret) (fr':=[(6,I x.2),(46,.isl false false 1 (L.map fun x=>.clo (.func x.1) [R] [])),(47,I L.length),(48,I i)]) (by
    simp only [go_sem,qy,reduceIte,c26L0b,hg,hi',hy,hn,hc]) (by simp),fun _=>rfl⟩
def ZoN (s:Sta) (a:Int) (e:Event):Int:=bif !Jx s||(!Zoz a||!Q9 e) then 1 else
 cvV [(54,Zp0 s e a (Zoq s a)),(55,Zp6 s e (Zoq s a)),(56,Zp5 s e (Zoq s a)),(57,Zp1 s e a (Zoq s a))]
theorem Zpq (s:Sta) (hE:StE s) (a:Int) (e:Event) (hv:EvS e):pfn rE 26 [stA s,I a,evA e]=some (I (ZoN s a e)):=by
 have hO:=Zp7 s hE;have hA:=Zp8 a;have hF:=NH e hv;have hcl:=Zow s;have hbl:=Zot s;unfold ZoN;rw [Z5 (f:=26) rfl rfl];cases c:Jx s with
 | false=>
  rw [c] at hO;simp only [go_sem,qy,qq,qk,c26,hO,ZEr,ZEb]
 | true=>
 rw [c] at hO;cases c1:Zoz a with
 | false=>
  rw [c1] at hA;simp only [go_sem,qy,qq,qk,c26,hO,hA,ZEr,ZEb,ZEl,ZEi]
 | true=>
 rw [c1] at hA;cases c2:Q9 e with
 | false=>
  rw [c2] at hF;simp only [go_sem,qy,qq,qk,c26,hO,hA,hF,ZEr,ZEl,ZEi]
 | true=>
 rw [c2] at hF;have h:ClS s:=⟨hE,c⟩;have m1:=h.mst (Zpf c1).1;have hr:0≤Zoq s a∧Zoq s a≤63:=ZpH h.prop.pa (Zpf c1);have hq:RqS s e (Zoq s a):=⟨h,hv,c2,hr⟩;generalize Zoq s a=m at *;have hR:clean (rqI s e a m)=true:=by simp only [go_sem]
 obtain ⟨fr',L1,L2⟩:=ZpY (rqI s e a m) hR [(54,Zp0 s e a m),(55,Zp6 s e m),(56,Zp5 s e m),(57,Zp1 s e a m)] (by simp) (by
  intro x hx;simp only [ZEq,List.not_mem_nil,or_false] at hx;rcases hx with rfl | rfl | rfl | rfl
  ·exact Zqw s e a m hq
  ·exact ZqS s e a m hq
  ·exact Zqy s e a m hq
  ·exact ZqD s e a m hq) 4 0 rfl
 rw [ZEM] at L1 L2;generalize cvV [(54,Zp0 s e a m),(55,Zp6 s e m),(56,Zp5 s e m),(57,Zp1 s e a m)]=v at *;have hbR:∀ n,bel n (rqI s e a m)=true:=fun n=>by
  have:=ZN (n:=n) [rqI s e a m] (by simp only [Z4,hR,ZEA])
  simpa only [Zd,ZEA] using this
 replace L1:Zg rE [46,47,48] c26L0b [(46,.isl false false 1 [.clo (.func 54) [rqI s e a m] [],.clo (.func 55) [rqI s e a m] [],.clo (.func 56) [rqI s e a m] [],.clo (.func 57) [rqI s e a m] []]),(47,.int .i64 ((4:Nat):Int)),(48,.int .i64 0)] []=some (bif v==0 then .exit 0 else .ret,fr',[]):=L1
 cases c5003:v==0 with
 | true=>
  have hv0:v=0:=by simpa using c5003
  subst hv0;rw [c5003,cond_true] at L1;simp only [go_sem,qy,qq,qv,qk,c26,c26L0,hO,hA,hF,m1,hcl,L1,ZEl,ZEi]
 | false=>
  have hv0:v≠0:=by simpa using c5003
  have g:=L2 hv0;rw [c5003,cond_false] at L1;simp only [go_sem,qy,qq,qv,qk,c26,c26L0,hO,hA,hF,m1,hcl,L1,g,ZEl,ZEi]
end Go.AM
namespace Go.AM
open Go
def Zvw (s:Sta) (a:Int) (e:Event):Int:=bif ZoN s a e==0 then Qk s a e else ZoN s a e
def Zvx (s:Sta) (a:Int) (e:Event):Sta:=bif ZoN s a e==0&&Qk s a e==0 then ZP s a e else s
def Zvi (l:List Ver) (st:Sta×List Int) (p:Nat×Nat):Sta×List Int:=match l[p.1]? with
 | some v=>(match v.Events.l[p.2]? with
  | some e=>(Zvx st.1 v.Authority e,st.2++[Zvw st.1 v.Authority e])
  | none=>st)
 | none=>st
def Zr5 (l:List Ver) (valid known:Int):Sta×List Int:=(Zr3 l valid known).foldl (Zvi l) (Yh,[])
theorem ZyC {l:List Ver} {p:Nat×Nat} {v:Ver} {e:Event} (h1:l[p.1]? = some v) (h2:v.Events.l[p.2]? = some e) (st:Sta×List Int):Zvi l st p=(Zvx st.1 v.Authority e,st.2++[Zvw st.1 v.Authority e]):=by
 unfold Zvi;rw [h1];simp only [h2]
theorem ZeI {e:Event} (h:Xn e=true):∀ x∈e.Lst.l,x.Id.size≤1000:=by
 simp only [Xn,ZDX] at h;obtain ⟨h1,_,_,_,_,_,h6⟩:=h;have k6:=of_decide_eq_true h6;unfold FT at h1;rw [ZEo (by omega)] at h1
 intro x hx;have:=ZE3.1 h1 x hx;unfold M2 at this;simp [ZU] at this;omega
structure VsF (V:NL Ver):Prop where
 s:VsS V
 few:∀ v∈V.l,∀ e∈v.Events.l,Xn e=true
structure StN (n:Nat) (s:Sta):Prop where
 e:StE s
 regions:s.Regions.length≤10 * n
 streets:s.Streets.length≤10 * n
 buildings:s.Buildings.length≤10 * n
 doors:s.Doors.length≤10 * n
 units:s.Units.length≤10 * n
 merged:s.Merged.length≤10 * n
 rulings:s.Rulings.length≤10 * n
theorem StN.f {n:Nat} {s:Sta} (h:StN n s) (hn:n≤50):StF s:=by
 obtain ⟨a,b1,b2,b3,b4,b5,b6,b7⟩:=h;exact ⟨a,by omega,by omega,by omega,by omega,by omega,by omega,by omega⟩
theorem Zx2:StE Yh:=by
 refine ⟨⟨ZDY _,ZDY _,ZDY _,ZDY _,ZDY _,ZDY _,ZDY _⟩,?_,?_,?_,?_,?_⟩
 all_goals (intro x hx;cases hx)
theorem StN.zero (n:Nat):StN n Yh:=⟨Zx2,ZDY _,ZDY _,ZDY _,ZDY _,ZDY _,ZDY _,ZDY _⟩
theorem StN.mono {n m:Nat} {s:Sta} (h:StN n s) (hm:n≤m):StN m s:=by
 obtain ⟨a,b1,b2,b3,b4,b5,b6,b7⟩:=h;exact ⟨a,by omega,by omega,by omega,by omega,by omega,by omega,by omega⟩
theorem StN.apply {n:Nat} {s:Sta} (h:StN n s) (hn:n≤50) (a:Int) {e:Event} (he:Xn e=true):StN (n+1) (ZP s a e):=by
 have hE:=ZeH s (h.f hn) a e (JL e he) (ZeI he);have key:∀ t:Sta,t=ZP s a e→(t.Regions.length≤10 * (n+1)∧t.Streets.length≤10 * (n+1)∧t.Buildings.length≤10 * (n+1)∧t.Doors.length≤10 * (n+1)∧t.Units.length≤10 * (n+1)∧t.Merged.length≤10 * (n+1)∧t.Rulings.length≤10 * (n+1)):=by
  intro t ht;unfold ZP at ht;cases c:okB s a e&&(Q1 (wk0 s a e)==0&&Wh (stepW (wk0 s a e)).s.Doors) with
  | true=>
   rw [c,cond_true] at ht;subst ht;obtain ⟨h1,h2,h3,h4,h5,h6,h7⟩:=Z4u (wk0 s a e) (JL e he).lst;have e0:(wk0 s a e).s=s:=rfl;rw [e0] at h1 h2 h3 h4 h5 h6 h7;obtain ⟨_,b1,b2,b3,b4,b5,b6,b7⟩:=h;exact ⟨by omega,by omega,by omega,by omega,by omega,by omega,by omega⟩
  | false=>
   rw [c,cond_false] at ht;subst ht;exact ⟨ZDY _,ZDY _,ZDY _,ZDY _,ZDY _,ZDY _,ZDY _⟩
 obtain ⟨k1,k2,k3,k4,k5,k6,k7⟩:=key _ rfl;exact ⟨hE,k1,k2,k3,k4,k5,k6,k7⟩
theorem StN.sta {n:Nat} {s:Sta} (h:StN n s) (hn:n≤50) (a:Int) {e:Event} (he:Xn e=true):StN (n+1) (Zvx s a e):=by
 unfold Zvx;cases ZoN s a e==0&&Qk s a e==0 with
 | true=>exact h.apply hn a he
 | false=>exact h.mono (ZEV _)
theorem ZyD {V:NL Ver} (hV:VsF V) {p:Nat×Nat} {v:Ver} {e:Event} (h1:V.l[p.1]? = some v) (h2:v.Events.l[p.2]? = some e):Xn e=true:=hV.few v (ZE5 h1) e (ZE5 h2)
theorem Zx3 {V:NL Ver} (hV:VsF V):∀ (O:List (Nat×Nat)) (n:Nat) (st:Sta×List Int),StN n st.1→n+O.length≤50→StN (n+O.length) (O.foldl (Zvi V.l) st).1∧(O.foldl (Zvi V.l) st).2.length≤st.2.length+O.length
 | [],n,st,h,_=>⟨h,ZDZ _⟩
 | p::r,n,st,h,hl=>by
  rw [ZEh] at hl ⊢;rw [ZEH];have h1:StN (n+1) (Zvi V.l st p).1∧(Zvi V.l st p).2.length≤st.2.length+1:=by
   unfold Zvi;cases hv:V.l[p.1]? with
   | none=>exact ⟨h.mono (ZEV _),ZEV _⟩
   | some v=>
    dsimp only;cases he:v.Events.l[p.2]? with
    | none=>exact ⟨h.mono (ZEV _),ZEV _⟩
    | some e=>exact ⟨h.sta (by omega) _ (ZyD hV hv he),by simp⟩
  obtain ⟨h2,h3⟩:=Zx3 hV r (n+1) _ h1.1 (by omega)
  rw [show n+(r.length+1)=n+1+r.length by omega]
  exact ⟨h2,by omega⟩
theorem ZsZ (s:Sta):Z4 [stA s]=true:=by
 have h1:Z4 (s.Regions.map Region.enc)=true:=Zw (fun t=>rfl) _
 have h2:Z4 (s.Streets.map Street.enc)=true:=Zw (fun t=>rfl) _
 have h3:Z4 (s.Buildings.map Building.enc)=true:=Zw (fun t=>rfl) _
 have h4:Z4 (s.Doors.map Door.enc)=true:=Zw (fun t=>rfl) _
 have h5:Z4 (s.Units.map Unit'.enc)=true:=Zw (fun t=>rfl) _
 have h6:Z4 (s.Merged.map Pair.enc)=true:=Zw (fun t=>rfl) _
 have h7:Z4 (s.Rulings.map Pair.enc)=true:=Zw (fun t=>rfl) _
 simp only [go_sem,qy,qq,qx,qz,qv,qk,reduceIte,h1,h2,h3,h4,h5,h6,h7]
abbrev asF (V:NL Ver) (O:List (Nat×Nat)) (n i:Nat):Fr:=[(0,vsA V),(6,.ptr 0 0 0 1),(8,.ptr 1 0 0 1),(9,.sl 2 n 0 n false),(19,.isl false false 2 (O.map prA)),(20,I O.length),(21,I i)]
abbrev asH (s:Sta) (errs:List Int):Hp:=[.row 7 [stA Yh],.row 7 [stA s],.row 1 (errs.map I)]
theorem ZyE (s:Sta) (errs:List Int) (x:Int) (hl:errs.length≤100000) (r:List AObj):appW (.row 7 [stA Yh]::.row 7 [stA s]::.row 1 (errs.map I)::r) false 1 8 (.sl 2 errs.length 0 errs.length false) (.isl false false 1 [I x])=some (.sl 2 (errs.length+1) 0 (errs.length+1) false,.row 7 [stA Yh]::.row 7 [stA s]::.row 1 ((errs++[x]).map I)::r):=by
 have:=XC (h:=.row 7 [stA Yh]::.row 7 [stA s]::.row 1 (errs.map I)::r) (fz:=false) (b:=2) (g:=errs.length) (sz:=1) (bytes:=8) (es:=errs.map I) (bw:=false) (ex:=false) (ys:=[I x]) (by simp [rowAt]) rfl rfl (by decide) (by decide) (by simp;omega)
 rw [this,ZEd];rfl
theorem ZAh (V:NL Ver) (hV:VsF V) (O:List (Nat×Nat)) (hO:∀ p∈O,InL V.l p) (hl:O.length≤40):
 Zg rE [0,6,8,9,19,20,21] c11L0b (asF V O 0 0) (asH Yh []) =
  some (.exit 0,asF V O (O.foldl (Zvi V.l) (Yh,[])).2.length O.length,asH (O.foldl (Zvi V.l) (Yh,[])).1 (O.foldl (Zvi V.l) (Yh,[])).2):=by
 have hq:∀ (t:Sta) n,Zj n (.row 7 [stA t])=true:=fun t n=>ZN (n:=n) [stA t] (ZsZ t)
 have hqe:∀ (e:Event) n,Zj n (.row 18 [evA e])=true:=fun e n=>ZN (n:=n) [evA e] (ZwW e)
 have hqp:∀ (a b:Nat) n,Zj n (.row 2 [.agg [I a,I b]])=true:=fun a b n=>rfl
 have hqi:∀ (l:List Int) n,Zd n (l.map I)=true:=fun l n=>ZN _ (Zw (fun t=>rfl) l)
 have z0:((0:Int)≤0∧(0:Int) < ((2:Nat):Int))=True:=by simp
 have z1:((0:Int)≤1∧(1:Int) < ((2:Nat):Int))=True:=by simp
 have t0:Int.toNat 0 * 1=0:=rfl;have t1:Int.toNat 1 * 1=1:=rfl;have L:=Y8 (E:=rE) (live:=[0,6,8,9,19,20,21]) (b:=c11L0b) O.length (fun i=>asF V O ((O.take i).foldl (Zvi V.l) (Yh,[])).2.length i) (fun i=>asH ((O.take i).foldl (Zvi V.l) (Yh,[])).1 ((O.take i).foldl (Zvi V.l) (Yh,[])).2) (fun i=>rfl)
  (fun i hi=>by
   obtain ⟨p,hp⟩:∃ p,O[i]? = some p:=⟨_,ZE0 hi⟩;obtain ⟨v,e,h1,h2⟩:=hO p (ZE5 hp);have hg:=Z6 (f:=prA) hp;have hg1:=Z6 (f:=Ver.enc) h1;have hg2:=Z6 (f:=fun e=>evA e) h2
   have hi':=Zh hi;have hwr:=Zx (n:=i) (by omega)
   have hfe:=ZyD hV h1 h2;have hz:=Zx3 hV (O.take i) 0 (Yh,[]) (StN.zero 0) (by simp;omega)
   rw [Us _ _ hp,ZyC h1 h2];have hle:(O.take i).length≤i:=by simp;omega
   generalize hst:(O.take i).foldl (Zvi V.l) (Yh,[])=st at *;obtain ⟨s,errs⟩:=st;have hs:StF s:=hz.1.f (by omega)
   have he2:errs.length≤100:=by have:errs.length≤0+(O.take i).length:=hz.2;omega
   have hC:=Zpq s hs.e v.Authority e (JL e hfe);have hY:=JJ s hs v.Authority e (JL e hfe);refine ⟨asF V O (errs++[Zvw s v.Authority e]).length (i+1),?_,rfl⟩;show Zb rE c11L0b (asF V O errs.length i) (asH s errs)=some (.normal,asF V O (errs++[Zvw s v.Authority e]).length (i+1),asH (Zvx s v.Authority e) (errs++[Zvw s v.Authority e]))
   have hA:=fun x r=>ZyE s errs x (by omega) r
   have hA2:=fun x r=>ZyE (ZP s v.Authority e) errs x (by omega) r
   unfold Zvx Zvw;have hqs:=hq s;have hqz:=hq Yh;have hqa:=hq (ZP s v.Authority e);have hqe':=hqe e;have hE:=hqi errs;have hE2:=fun x=>hqi (errs++[x])
   generalize ZP s v.Authority e=t at *;generalize Qk s v.Authority e=f at *;generalize ZoN s v.Authority e=c at *;have hv:v.enc=.agg [I v.Authority,I v.Number,I v.At,.str v.Prev,.isl false v.Events.ex 18 (v.Events.l.map fun e=>evA e),I v.Index,.isl false v.Sig.ex 1 (v.Sig.l.map encS),.isl false v.Path.ex 1 (v.Path.l.map encS)]:=rfl
   rw [hv] at hg1;cases c1:c==0 with
   | false=>
    rw [ZEj,cond_false,cond_false];simp only [go_sem,qy,qq,qx,qz,qv,qk,reduceIte,c11L0b,asF,asH,prA,hg,hg1,hg2,hi',hwr,hC,c1,hA,hqs,hqz,hqe',hqp,hE,hE2,z0,z1,t0,t1,if_true,ZEk,ZFi]
   | true=>
    rw [ZE7,cond_true];cases c2:f==0 with
    | false=>
     rw [cond_false];simp only [go_sem,qy,qq,qx,qz,qv,qk,reduceIte,c11L0b,asF,asH,prA,hg,hg1,hg2,hi',hwr,hC,hY,c1,c2,hA,hqs,hqz,hqa,hqe',hqp,hE,hE2,z0,z1,t0,t1,if_true,ZEk,ZFi]
    | true=>
     rw [cond_true];simp only [go_sem,qy,qq,qx,qz,qv,qk,reduceIte,c11L0b,asF,asH,prA,hg,hg1,hg2,hi',hwr,hC,hY,c1,c2,hA2,hqs,hqz,hqa,hqe',hqp,hE,hE2,z0,z1,t0,t1,if_true,ZEk,ZFi])
  (e:=.exit 0) (fr:=asF V O (O.foldl (Zvi V.l) (Yh,[])).2.length O.length) (h:=asH (O.foldl (Zvi V.l) (Yh,[])).1 (O.foldl (Zvi V.l) (Yh,[])).2) (by
   rw [ZEu];generalize O.foldl (Zvi V.l) (Yh,[])=st;obtain ⟨s,errs⟩:=st;have hqs:=hq s;have hqz:=hq Yh;have hE:=hqi errs;simp only [go_sem,qy,qq,qx,qz,qv,qk,reduceIte,c11L0b,asF,asH,ZG,hqs,hqz,hE]) (by simp)
 exact L
theorem Zwd (l:List Ver) (valid known:Int):∀ p∈Zr3 l valid known,InL l p:=fun p hp=>ZyB l valid known _ p ((Zwc l _).mem_iff.1 hp)
theorem ZyF (V:NL Ver) (hV:VsF V) (valid known:Int) (hl:(Zr3 V.l valid known).length≤40):pfn rE 11 [vsA V,I valid,I known]=some (.tup [stA (Zr5 V.l valid known).1,.isl false false 1 ((Zr5 V.l valid known).2.map I)]):=by
 have hO:=Zx1 V hV.s valid known;have L:=ZAh V hV (Zr3 V.l valid known) (Zwd V.l valid known) hl;unfold Zr5;have hq:∀ (t:Sta) n,Zj n (.row 7 [stA t])=true:=fun t n=>ZN (n:=n) [stA t] (ZsZ t)
 have hqi:∀ (l:List Int) n,Zd n (l.map I)=true:=fun l n=>ZN _ (Zw (fun t=>rfl) l)
 have hci:∀ (l:List Int),Z4 (l.map I)=true:=fun l=>Zw (fun t=>rfl) l
 generalize Zr3 V.l valid known=O at *;generalize O.foldl (Zvi V.l) (Yh,[])=st at *;obtain ⟨s,errs⟩:=st;have L':Zg rE [0,6,8,9,19,20,21] c11L0b [(0,vsA V),(6,.ptr 0 0 0 1),(8,.ptr 1 0 0 1),(9,.sl 2 0 0 0 false),(19,.isl false false 2 (O.map prA)),(20,I O.length),(21,.int .i64 0)] [.row 7 [.agg HE],.row 7 [.agg HE],.row 1 []]=_:=L;have hz:∀ n,Zj n (.row 7 [.agg HE])=true:=fun n=>rfl
 have hqs:=hq s;have hc:=ZsZ s;have hE:=hqi errs;have hcE:=hci errs;have htk:List.take errs.length (errs.map I)=errs.map I:=ZEo (by simp)
 simp only [HE] at hz L';rw [Z5 (f:=11) rfl rfl];simp only [stA] at hc;simp only [go_sem,qy,qq,qx,qz,qv,qk,reduceIte,c11,c11L0,hO,L',hz,hqs,hE,hc,hcE,htk,ZEM,ZE1,beq_self_eq_true]
end Go.AM
namespace Go.AM
open Go
def HK (a b:List Str):Bool:=a.length==b.length&&Zu (fun i x=>match b[i]? with | some y=>Z3 x y | none=>false) 0 a
theorem Z4L (ea eb:Bool) (a b:List Str) (ha:a.length≤1000):pfn rE 84 [.isl false ea 1 (a.map encS),.isl false eb 1 (b.map encS)]=some (.bool (HK a b)):=by
 rw [Z5 (f:=84) rfl rfl];unfold HK;have hne:((a.length:Int) != (b.length:Int)) = !(a.length==b.length):=by
  cases h:a.length==b.length with
  | true=>have:a.length=b.length:=by simpa using h
          rw [this];simp
  | false=>have:a.length≠b.length:=by simpa using h
           simp;omega
 cases c:a.length==b.length with
 | false=>
  rw [c] at hne;simp only [go_sem,qy,qq,reduceIte,c84,hne]
 | true=>
 rw [c] at hne;have hlen:a.length=b.length:=by simpa using c
 have L:=QT (E:=rE) (live:=[0,1,5]) (b:=c84L0b) (h:=[]) a (fun i x=>match b[i]? with | some y=>Z3 x y | none=>false) (fun i=>[(0,.isl false ea 1 (a.map encS)),(1,.isl false eb 1 (b.map encS)),(5,I i)]) 0 (fun fr=>get fr 4=.bot) (fun fr=>get fr 4=.bool false) (fun i=>rfl)
  (fun i x hx hP=>by
   have hg:=Z6 (f:=encS) hx;have hi:=Zh (Z7 hx);have hw:=Zx (n:=i) (by have:=Z7 hx;omega)
   obtain ⟨y,hy⟩:∃ y,b[i]? = some y:=⟨_,ZE0 (by rw [←hlen];exact Z7 hx)⟩
   have hgy:=Z6 (f:=encS) hy;rw [hy] at hP;dsimp only at hP;refine ⟨_,by simp only [go_sem,qy,qq,reduceIte,c84L0b,hg,hgy,hi,hw,encS,hP];rfl,?_⟩
   simp only [go_sem,qy,qq,reduceIte])
  (fun i x hx hP=>by
   have hg:=Z6 (f:=encS) hx;have hi:=Zh (Z7 hx);obtain ⟨y,hy⟩:∃ y,b[i]? = some y:=⟨_,ZE0 (by rw [←hlen];exact Z7 hx)⟩
   have hgy:=Z6 (f:=encS) hy;rw [hy] at hP;dsimp only at hP;refine ⟨_,by simp only [go_sem,qy,qq,reduceIte,c84L0b,hg,hgy,hi,encS,hP];rfl,?_⟩
   simp only [go_sem,qy,qq,reduceIte])
  (⟨_,by simp only [go_sem,qy,qq,reduceIte,c84L0b,ZG];rfl,by simp only [go_sem,qy,qq,reduceIte]⟩)
 obtain ⟨fr',h1,h2,h3⟩:=L;have h1':Zg rE [0,1,5] c84L0b [(0,.isl false ea 1 (a.map encS)),(1,.isl false eb 1 (b.map encS)),(5,.int .i64 0)] []=_:=h1;cases e:Zu (fun i x=>match b[i]? with | some y=>Z3 x y | none=>false) 0 a with
 | true=>
  rw [e] at h1';simp only [go_sem,qy,qq,reduceIte,c84,c84L0,hne,h1',h2 e,if_true]
 | false=>
  rw [e] at h1';simp only [go_sem,qy,qq,reduceIte,c84,c84L0,hne,h1',h3 e,ZEc]
end Go.AM
namespace Go.AM
open Go
def FU (a b:Door):Bool:=((((!Z3 a.Id b.Id||!Z3 a.Building b.Building)||!Z3 a.Street b.Street)||a.Owner != b.Owner)||!QL a.Number b.Number)||!QK a.Point b.Point
def HL (a b:Door):Bool:=!FU a b&&(((((a.From==b.From&&a.Ended==b.Ended)&&HK a.After.l b.After.l)&&a.Why==b.Why)&&a.Office==b.Office)&&Z3 a.Veil b.Veil)
theorem Z4M (a b:Door) (ha:a.After.l.length≤1000):pfn rE 41 [a.enc,b.enc]=some (.bool (HL a b)):=by
 have hT:=Z4L a.After.ex b.After.ex a.After.l b.After.l ha;have hn:(a.Number.N==b.Number.N&&(Z3 a.Number.Letter b.Number.Letter&&(a.Number.Num==b.Number.Num&&a.Number.Den==b.Number.Den)))=QL a.Number b.Number:=rfl;have hp:(a.Point.X==b.Point.X&&a.Point.Y==b.Point.Y)=QK a.Point b.Point:=rfl;rw [Z5 (f:=41) rfl rfl];unfold HL FU;cases c0:Z3 a.Id b.Id with
 | false=>simp only [go_sem,qy,qq,reduceIte,c41,Door.enc,NL.enc,c0,ZEb]
 | true=>
 cases c1:Z3 a.Building b.Building with
 | false=>simp only [go_sem,qy,qq,reduceIte,c41,Door.enc,NL.enc,c0,c1,ZEb,ZEi]
 | true=>
 cases c2:Z3 a.Street b.Street with
 | false=>simp only [go_sem,qy,qq,reduceIte,c41,Door.enc,NL.enc,c0,c1,c2,ZEb,ZEi]
 | true=>
 cases c5003:a.Owner != b.Owner with
 | true=>simp only [go_sem,qy,qq,reduceIte,c41,Door.enc,NL.enc,c0,c1,c2,c5003,ZEb,ZEi]
 | false=>
 cases c5004:QL a.Number b.Number with
 | false=>simp only [go_sem,qy,qq,qv,qk,reduceIte,c41,Door.enc,NL.enc,c0,c1,c2,c5003,hn,c5004,ZEb,ZEi]
 | true=>
 cases c5005:QK a.Point b.Point with
 | false=>simp only [go_sem,qy,qq,qv,qk,reduceIte,c41,Door.enc,NL.enc,c0,c1,c2,c5003,hn,c5004,hp,c5005,ZEb,ZEi]
 | true=>
 cases c5006:a.From==b.From with
 | false=>simp only [go_sem,qy,qq,qv,qk,reduceIte,c41,Door.enc,NL.enc,c0,c1,c2,c5003,hn,c5004,hp,c5005,c5006,ZEb,ZEi]
 | true=>
 cases c5007:a.Ended==b.Ended with
 | false=>simp only [go_sem,qy,qq,qv,qk,reduceIte,c41,Door.enc,NL.enc,c0,c1,c2,c5003,hn,c5004,hp,c5005,c5006,c5007,ZEb,ZEi]
 | true=>
 cases c5008:HK a.After.l b.After.l with
 | false=>rw [c5008] at hT;simp only [go_sem,qy,qq,qv,qk,reduceIte,c41,Door.enc,NL.enc,c0,c1,c2,c5003,hn,c5004,hp,c5005,c5006,c5007,hT,ZEb,ZEi]
 | true=>
 rw [c5008] at hT;cases c5009:a.Why==b.Why with
 | false=>simp only [go_sem,qy,qq,qv,qk,reduceIte,c41,Door.enc,NL.enc,c0,c1,c2,c5003,hn,c5004,hp,c5005,c5006,c5007,hT,c5009,ZEb,ZEi]
 | true=>
 cases c5010:a.Office==b.Office with
 | false=>simp only [go_sem,qy,qq,qv,qk,reduceIte,c41,Door.enc,NL.enc,c0,c1,c2,c5003,hn,c5004,hp,c5005,c5006,c5007,hT,c5009,c5010,ZEb,ZEi]
 | true=>simp only [go_sem,qy,qq,qv,qk,reduceIte,c41,Door.enc,NL.enc,c0,c1,c2,c5003,hn,c5004,hp,c5005,c5006,c5007,hT,c5009,c5010,ZEb,ZEi]
def zEv:Event:=⟨0,0,0,0,0,emp,emp,emp,⟨false,[]⟩,⟨false,[]⟩,⟨0,emp,0,0⟩,⟨0,0⟩,⟨false,[]⟩,⟨false,[]⟩⟩
end Go.AM
namespace Go.AM
open Go
theorem Zad (x:Str):Z3 x x=true:=by unfold Z3;exact beq_self_eq_true _
theorem Zat (ex:Bool) (l:List Pt) (hl:l.length≤1000):pfn rE 82 [.isl false ex 2 (l.map Pt.enc),.isl false ex 2 (l.map Pt.enc)]=some (.bool true):=by
 rw [Z5 (f:=82) rfl rfl];have L:=Y8 (E:=rE) (live:=[0,1,5]) (b:=c82L0b) l.length (fun i=>[(0,.isl false ex 2 (l.map Pt.enc)),(1,.isl false ex 2 (l.map Pt.enc)),(5,I i)]) (fun i=>[]) (fun i=>rfl)
  (fun i hi=>by
   obtain ⟨x,hx⟩:∃ x,l[i]? = some x:=⟨_,ZE0 hi⟩;have hg:=Z6 (f:=Pt.enc) hx;have hi':=Zh hi;have hwr:=Zx (n:=i) (by omega)
   refine ⟨[(0,.isl false ex 2 (l.map Pt.enc)),(1,.isl false ex 2 (l.map Pt.enc)),(4,.bot),(5,I (i+1:Nat))],?_,rfl⟩;simp only [go_sem,qy,qq,qv,qk,reduceIte,c82L0b,hg,hi',hwr,Pt.enc,beq_self_eq_true])
  (e:=.exit 0) (fr:=[(0,.isl false ex 2 (l.map Pt.enc)),(1,.isl false ex 2 (l.map Pt.enc)),(4,.bot),(5,I l.length)]) (h:=[]) (by simp only [go_sem,qy,qq,qv,qk,reduceIte,c82L0b,ZG]) (by simp)
 have hne:((l.length:Int) != (l.length:Int))=false:=by simp
 have L':Zg rE [0,1,5] c82L0b [(0,.isl false ex 2 (l.map Pt.enc)),(1,.isl false ex 2 (l.map Pt.enc)),(5,.int .i64 0)] []=_:=L;simp only [go_sem,qy,qq,qv,qk,reduceIte,c82,c82L0,L',hne]
theorem ZaD (ex:Bool) (l:List Nm) (hl:l.length≤1000):pfn rE 83 [.isl false ex 3 (l.map Nm.enc),.isl false ex 3 (l.map Nm.enc)]=some (.bool true):=by
 rw [Z5 (f:=83) rfl rfl];have L:=Y8 (E:=rE) (live:=[0,1,5]) (b:=c83L0b) l.length (fun i=>[(0,.isl false ex 3 (l.map Nm.enc)),(1,.isl false ex 3 (l.map Nm.enc)),(5,I i)]) (fun i=>[]) (fun i=>rfl)
  (fun i hi=>by
   obtain ⟨x,hx⟩:∃ x,l[i]? = some x:=⟨_,ZE0 hi⟩;have hg:=Z6 (f:=Nm.enc) hx;have hi':=Zh hi;have hwr:=Zx (n:=i) (by omega)
   refine ⟨[(0,.isl false ex 3 (l.map Nm.enc)),(1,.isl false ex 3 (l.map Nm.enc)),(4,.bot),(5,I (i+1:Nat))],?_,rfl⟩;simp only [go_sem,qy,qq,qv,qk,reduceIte,c83L0b,hg,hi',hwr,Nm.enc,Zad,beq_self_eq_true])
  (e:=.exit 0) (fr:=[(0,.isl false ex 3 (l.map Nm.enc)),(1,.isl false ex 3 (l.map Nm.enc)),(4,.bot),(5,I l.length)]) (h:=[]) (by simp only [go_sem,qy,qq,qv,qk,reduceIte,c83L0b,ZG]) (by simp)
 have hne:((l.length:Int) != (l.length:Int))=false:=by simp
 have L':Zg rE [0,1,5] c83L0b [(0,.isl false ex 3 (l.map Nm.enc)),(1,.isl false ex 3 (l.map Nm.enc)),(5,.int .i64 0)] []=_:=L;simp only [go_sem,qy,qq,qv,qk,reduceIte,c83,c83L0,L',hne]
theorem ZaU (x:Region) (h1:x.Ring.l.length≤1000) (h2:x.Names.l.length≤1000):pfn rE 38 [x.enc,x.enc]=some (.bool true):=by
 have hp:=Zat x.Ring.ex x.Ring.l h1;have hn:=ZaD x.Names.ex x.Names.l h2;rw [Z5 (f:=38) rfl rfl];simp only [go_sem,qy,qq,reduceIte,c38,Region.enc,NL.enc,Zad,beq_self_eq_true,hp,hn]
theorem ZaV (x:Street) (h1:x.Line.l.length≤1000) (h2:x.Names.l.length≤1000):pfn rE 39 [x.enc,x.enc]=some (.bool true):=by
 have hp:=Zat x.Line.ex x.Line.l h1;have hn:=ZaD x.Names.ex x.Names.l h2;rw [Z5 (f:=39) rfl rfl];simp only [go_sem,qy,qq,reduceIte,c39,Street.enc,NL.enc,Zad,beq_self_eq_true,hp,hn]
theorem ZaW (x:Building) (h1:x.Ring.l.length≤1000):pfn rE 40 [x.enc,x.enc]=some (.bool true):=by
 have hp:=Zat x.Ring.ex x.Ring.l h1;rw [Z5 (f:=40) rfl rfl];simp only [go_sem,qy,qq,reduceIte,c40,Building.enc,NL.enc,Zad,beq_self_eq_true,hp]
theorem ZaX (l:List Str):HK l l=true:=by
 unfold HK;rw [beq_self_eq_true,ZE7];have:∀ (m:List Str) (i:Nat),(∀ j x,m[j]? = some x→l[i+j]? = some x)→Zu (fun i x=>match l[i]? with | some y=>Z3 x y | none=>false) i m=true:=by
  intro m;induction m with
  | nil=>intro i h;rfl
  | cons x r ih=>
   intro i h;have h0:=h 0 x rfl;rw [ZEU] at h0;unfold Zu;rw [h0];simp only [Zad,ZE7];exact ih (i+1) (fun j y hy=>by rw [ZFl,Nat.add_comm 1 j];exact h (j+1) y hy)
 exact this l 0 (fun j x h=>by rw [ZE9];exact h)
theorem ZaY (x:Door) (h:x.After.l.length≤1000):pfn rE 41 [x.enc,x.enc]=some (.bool true):=by
 rw [Z4M x x h];unfold HL FU QL QK;simp only [Zad,ZaX,beq_self_eq_true,bne_self_eq_false,ZEl,ZF4,ZEr,ZEA]
end Go.AM
namespace Go.AM
open Go
theorem ZbL (ex:Bool) (l:List Pair) (hl:l.length≤1000):pfn rE 42 [.isl false ex 2 (l.map Pair.enc),.isl false ex 2 (l.map Pair.enc)]=some (.bool true):=by
 rw [Z5 (f:=42) rfl rfl];have L:=Y8 (E:=rE) (live:=[0,1,5]) (b:=c42L0b) l.length (fun i=>[(0,.isl false ex 2 (l.map Pair.enc)),(1,.isl false ex 2 (l.map Pair.enc)),(5,I i)]) (fun i=>[]) (fun i=>rfl)
  (fun i hi=>by
   obtain ⟨x,hx⟩:∃ x,l[i]? = some x:=⟨_,ZE0 hi⟩;have hg:=Z6 (f:=Pair.enc) hx;have hi':=Zh hi;have hwr:=Zx (n:=i) (by omega)
   refine ⟨[(0,.isl false ex 2 (l.map Pair.enc)),(1,.isl false ex 2 (l.map Pair.enc)),(4,.bot),(5,I (i+1:Nat))],?_,rfl⟩;simp only [go_sem,qy,qq,qv,qk,reduceIte,c42L0b,hg,hi',hwr,Pair.enc,beq_self_eq_true])
  (e:=.exit 0) (fr:=[(0,.isl false ex 2 (l.map Pair.enc)),(1,.isl false ex 2 (l.map Pair.enc)),(4,.bot),(5,I l.length)]) (h:=[]) (by simp only [go_sem,qy,qq,qv,qk,reduceIte,c42L0b,ZG]) (by simp)
 have hne:((l.length:Int) != (l.length:Int))=false:=by simp
 have L':Zg rE [0,1,5] c42L0b [(0,.isl false ex 2 (l.map Pair.enc)),(1,.isl false ex 2 (l.map Pair.enc)),(5,.int .i64 0)] []=_:=L;simp only [go_sem,qy,qq,qv,qk,reduceIte,c42,c42L0,L',hne]
theorem Zc3 (s:Sta) (hE:StE s):Zg rE [2,3,5] c16L0b [(2,stI s),(3,stI s),(5,.int .i64 0)] []=some (.exit 0,[(2,stI s),(3,stI s),(4,.bot),(5,I s.Regions.length)],[]):=by
 have hn:=hE.sizes.regions;have L:=Y8 (E:=rE) (live:=[2,3,5]) (b:=c16L0b) s.Regions.length (fun i=>[(2,stI s),(3,stI s),(5,I i)]) (fun i=>[]) (fun i=>rfl)
  (fun i hi=>by
   obtain ⟨x,hx⟩:∃ x,s.Regions[i]? = some x:=⟨_,ZE0 hi⟩;have hg:=Z6 (f:=Region.enc) hx;have hi':=Zh hi;have hwr:=Zx (n:=i) (by omega)
   have hlt:((i:Int) < (s.Regions.length:Int)):=by omega
   have hm:=ZE5 hx;refine ⟨[(2,stI s),(3,stI s),(4,.bot),(5,I (i+1:Nat))],?_,rfl⟩;have hS:=ZaU x (ZEx (hE.regions x hm).2.1 (by omega)) (ZEx (hE.regions x hm).1 (by omega))
   simp only [Region.enc,NL.enc] at hS;simp only [go_sem,qy,qq,qv,qk,reduceIte,c16L0b,hg,hi',hwr,hlt,if_true,Region.enc,NL.enc,hS])
  (e:=.exit 0) (fr:=[(2,stI s),(3,stI s),(4,.bot),(5,I s.Regions.length)]) (h:=[]) (by simp only [go_sem,qy,qq,qv,qk,reduceIte,c16L0b,ZG]) (by simp)
 exact L
theorem Zc4 (s:Sta) (hE:StE s):Zg rE [2,3,6] c16L1b [(2,stI s),(3,stI s),(6,.int .i64 0)] []=some (.exit 2,[(2,stI s),(3,stI s),(4,.bot),(6,I s.Streets.length)],[]):=by
 have hn:=hE.sizes.streets;have L:=Y8 (E:=rE) (live:=[2,3,6]) (b:=c16L1b) s.Streets.length (fun i=>[(2,stI s),(3,stI s),(6,I i)]) (fun i=>[]) (fun i=>rfl)
  (fun i hi=>by
   obtain ⟨x,hx⟩:∃ x,s.Streets[i]? = some x:=⟨_,ZE0 hi⟩;have hg:=Z6 (f:=Street.enc) hx;have hi':=Zh hi;have hwr:=Zx (n:=i) (by omega)
   have hlt:((i:Int) < (s.Streets.length:Int)):=by omega
   have hm:=ZE5 hx;refine ⟨[(2,stI s),(3,stI s),(4,.bot),(6,I (i+1:Nat))],?_,rfl⟩;have hS:=ZaV x (ZEx (hE.streets x hm).2.1 (by omega)) (ZEx (hE.streets x hm).1 (by omega))
   simp only [Street.enc,NL.enc] at hS;simp only [go_sem,qy,qq,qv,qk,reduceIte,c16L1b,hg,hi',hwr,hlt,if_true,Street.enc,NL.enc,hS])
  (e:=.exit 2) (fr:=[(2,stI s),(3,stI s),(4,.bot),(6,I s.Streets.length)]) (h:=[]) (by simp only [go_sem,qy,qq,qv,qk,reduceIte,c16L1b,ZG]) (by simp)
 exact L
theorem Zc5 (s:Sta) (hE:StE s):Zg rE [2,3,7] c16L2b [(2,stI s),(3,stI s),(7,.int .i64 0)] []=some (.exit 4,[(2,stI s),(3,stI s),(4,.bot),(7,I s.Buildings.length)],[]):=by
 have hn:=hE.sizes.buildings;have L:=Y8 (E:=rE) (live:=[2,3,7]) (b:=c16L2b) s.Buildings.length (fun i=>[(2,stI s),(3,stI s),(7,I i)]) (fun i=>[]) (fun i=>rfl)
  (fun i hi=>by
   obtain ⟨x,hx⟩:∃ x,s.Buildings[i]? = some x:=⟨_,ZE0 hi⟩;have hg:=Z6 (f:=Building.enc) hx;have hi':=Zh hi;have hwr:=Zx (n:=i) (by omega)
   have hlt:((i:Int) < (s.Buildings.length:Int)):=by omega
   have hm:=ZE5 hx;refine ⟨[(2,stI s),(3,stI s),(4,.bot),(7,I (i+1:Nat))],?_,rfl⟩;have hS:=ZaW x (ZEx (hE.buildings x hm).1 (by omega))
   simp only [Building.enc,NL.enc] at hS;simp only [go_sem,qy,qq,qv,qk,reduceIte,c16L2b,hg,hi',hwr,hlt,if_true,Building.enc,NL.enc,hS])
  (e:=.exit 4) (fr:=[(2,stI s),(3,stI s),(4,.bot),(7,I s.Buildings.length)]) (h:=[]) (by simp only [go_sem,qy,qq,qv,qk,reduceIte,c16L2b,ZG]) (by simp)
 exact L
theorem Zc6 (s:Sta) (hE:StE s):Zg rE [2,3,8] c16L3b [(2,stI s),(3,stI s),(8,.int .i64 0)] []=some (.exit 6,[(2,stI s),(3,stI s),(4,.bot),(8,I s.Doors.length)],[]):=by
 have hn:=hE.sizes.doors;have L:=Y8 (E:=rE) (live:=[2,3,8]) (b:=c16L3b) s.Doors.length (fun i=>[(2,stI s),(3,stI s),(8,I i)]) (fun i=>[]) (fun i=>rfl)
  (fun i hi=>by
   obtain ⟨x,hx⟩:∃ x,s.Doors[i]? = some x:=⟨_,ZE0 hi⟩;have hg:=Z6 (f:=Door.enc) hx;have hi':=Zh hi;have hwr:=Zx (n:=i) (by omega)
   have hlt:((i:Int) < (s.Doors.length:Int)):=by omega
   have hm:=ZE5 hx;refine ⟨[(2,stI s),(3,stI s),(4,.bot),(8,I (i+1:Nat))],?_,rfl⟩;have hS:=ZaY x (by have:=(hE.doors x hm).after;omega)
   simp only [Door.enc,NL.enc] at hS;simp only [go_sem,qy,qq,qv,qk,reduceIte,c16L3b,hg,hi',hwr,hlt,if_true,Door.enc,NL.enc,hS])
  (e:=.exit 6) (fr:=[(2,stI s),(3,stI s),(4,.bot),(8,I s.Doors.length)]) (h:=[]) (by simp only [go_sem,qy,qq,qv,qk,reduceIte,c16L3b,ZG]) (by simp)
 exact L
theorem Zc7 (s:Sta) (hE:StE s):Zg rE [2,3,9] c16L4b [(2,stI s),(3,stI s),(9,.int .i64 0)] []=some (.exit 8,[(2,stI s),(3,stI s),(4,.bot),(9,I s.Units.length)],[]):=by
 have hn:=hE.sizes.units;have L:=Y8 (E:=rE) (live:=[2,3,9]) (b:=c16L4b) s.Units.length (fun i=>[(2,stI s),(3,stI s),(9,I i)]) (fun i=>[]) (fun i=>rfl)
  (fun i hi=>by
   obtain ⟨x,hx⟩:∃ x,s.Units[i]? = some x:=⟨_,ZE0 hi⟩;have hg:=Z6 (f:=Unit'.enc) hx;have hi':=Zh hi;have hwr:=Zx (n:=i) (by omega)
   have hlt:((i:Int) < (s.Units.length:Int)):=by omega
   have hm:=ZE5 hx;refine ⟨[(2,stI s),(3,stI s),(4,.bot),(9,I (i+1:Nat))],?_,rfl⟩;simp only [go_sem,qy,qq,qv,qk,reduceIte,c16L4b,hg,hi',hwr,hlt,if_true,Unit'.enc,NL.enc,Zad,beq_self_eq_true])
  (e:=.exit 8) (fr:=[(2,stI s),(3,stI s),(4,.bot),(9,I s.Units.length)]) (h:=[]) (by simp only [go_sem,qy,qq,qv,qk,reduceIte,c16L4b,ZG]) (by simp)
 exact L
theorem ZbM (s:Sta) (hE:StE s):pfn rE 16 [stA s,stA s]=some (.bool true):=by
 have l0:=Zc3 s hE;have l1:=Zc4 s hE;have l2:=Zc5 s hE;have l3:=Zc6 s hE;have l4:=Zc7 s hE;have p1:=ZbL false s.Merged hE.sizes.merged;have p2:=ZbL false s.Rulings hE.sizes.rulings;have hne:∀ n:Nat,((n:Int) != (n:Int))=false:=fun n=>by simp
 simp only [stI] at l0 l1 l2 l3 l4;rw [Z5 (f:=16) rfl rfl];simp only [go_sem,qy,qq,reduceIte,c16,c16L0,c16L1,c16L2,c16L3,c16L4,hne,l0,l1,l2,l3,l4,p1,p2]
end Go.AM
namespace Go.AM
open Go
theorem ZAi (L:List (Nat×Nat)) (hl:L.length≤100000):pfn rE 13 [.isl false false 2 (L.map prA),.isl false false 2 (L.map prA)]=some (.bool true):=by
 have L0:=Y8 (E:=rE) (live:=[0,1,5]) (b:=c13L0b) L.length (fun i=>[(0,.isl false false 2 (L.map prA)),(1,.isl false false 2 (L.map prA)),(5,I i)]) (fun _=>[]) (fun i=>rfl)
  (fun i hi=>by
   obtain ⟨x,hx⟩:∃ x,L[i]? = some x:=⟨_,ZE0 hi⟩;have hg:=Z6 (f:=prA) hx;have hi':=Zh hi;have hwr:=Zx (n:=i) (by omega)
   have e1:(((x.1:Nat):Int)==((x.1:Nat):Int))=true:=by simp
   have e2:(((x.2:Nat):Int)==((x.2:Nat):Int))=true:=by simp
   refine ⟨_,by simp only [go_sem,qy,qq,qx,qz,qv,qk,reduceIte,c13L0b,prA,hg,hi',hwr,e1,e2];rfl,?_⟩
   simp only [go_sem,qy,qq,qx,qz,qv,qk,reduceIte])
  (e:=.exit 0) (by simp only [go_sem,qy,qq,qx,qz,qv,qk,reduceIte,c13L0b,ZG];rfl) (by simp)
 have L':Zg rE [0,1,5] c13L0b [(0,.isl false false 2 (L.map prA)),(1,.isl false false 2 (L.map prA)),(5,.int .i64 0)] []=_:=L0;have hn:((L.length:Int) != (L.length:Int))=false:=by simp
 rw [Z5 (f:=13) rfl rfl];simp only [go_sem,qy,qq,qx,qz,qv,qk,reduceIte,c13,c13L0,hn,L']
theorem ZAj (ex:Bool) (l:List Int) (hl:l.length≤100000):pfn rE 14 [.isl false ex 1 (l.map I),.isl false false 1 (l.map I)]=some (.bool true):=by
 have L:=Y8 (E:=rE) (live:=[0,1,5]) (b:=c14L0b) l.length (fun i=>[(0,.isl false ex 1 (l.map I)),(1,.isl false false 1 (l.map I)),(5,I i)]) (fun _=>[]) (fun i=>rfl)
  (fun i hi=>by
   obtain ⟨x,hx⟩:∃ x,l[i]? = some x:=⟨_,ZE0 hi⟩;have hg:=Z6 (f:=I) hx;have hi':=Zh hi;have hwr:=Zx (n:=i) (by omega)
   have hn:(x != x)=false:=by simp
   refine ⟨_,by simp only [go_sem,qy,qq,qx,qz,qv,qk,reduceIte,c14L0b,hg,hi',hwr,hn];rfl,?_⟩
   simp only [go_sem,qy,qq,qx,qz,qv,qk,reduceIte])
  (e:=.exit 0) (by simp only [go_sem,qy,qq,qx,qz,qv,qk,reduceIte,c14L0b,ZG];rfl) (by simp)
 have L':Zg rE [0,1,5] c14L0b [(0,.isl false ex 1 (l.map I)),(1,.isl false false 1 (l.map I)),(5,.int .i64 0)] []=_:=L;have hn:((l.length:Int) != (l.length:Int))=false:=by simp
 rw [Z5 (f:=14) rfl rfl];simp only [go_sem,qy,qq,qx,qz,qv,qk,reduceIte,c14,c14L0,hn,L']
theorem ZAk (l:List Int) (hl:l.length≤100000):pfn rE 14 [.isl false false 1 (l.map I),.isl false false 1 (l.map I)]=some (.bool true):=ZAj false l hl
theorem ZAl (l:List Int) (hl:l.length≤100000):pfn rE 17 [.isl false false 1 (l.map I),.isl false false 1 (l.map I)]=some (.bool true):=by
 have L:=Y8 (E:=rE) (live:=[0,1,5]) (b:=c17L0b) l.length (fun i=>[(0,.isl false false 1 (l.map I)),(1,.isl false false 1 (l.map I)),(5,I i)]) (fun _=>[]) (fun i=>rfl)
  (fun i hi=>by
   obtain ⟨x,hx⟩:∃ x,l[i]? = some x:=⟨_,ZE0 hi⟩;have hg:=Z6 (f:=I) hx;have hi':=Zh hi;have hwr:=Zx (n:=i) (by omega)
   have hn:(x != x)=false:=by simp
   refine ⟨_,by simp only [go_sem,qy,qq,qx,qz,qv,qk,reduceIte,c17L0b,hg,hi',hwr,hn];rfl,?_⟩
   simp only [go_sem,qy,qq,qx,qz,qv,qk,reduceIte])
  (e:=.exit 0) (by simp only [go_sem,qy,qq,qx,qz,qv,qk,reduceIte,c17L0b,ZG];rfl) (by simp)
 have L':Zg rE [0,1,5] c17L0b [(0,.isl false false 1 (l.map I)),(1,.isl false false 1 (l.map I)),(5,.int .i64 0)] []=_:=L;have hn:((l.length:Int) != (l.length:Int))=false:=by simp
 rw [Z5 (f:=17) rfl rfl];simp only [go_sem,qy,qq,qx,qz,qv,qk,reduceIte,c17,c17L0,hn,L']
end Go.AM
namespace Go.AM
open Go
def Zr8 (l:List Ver) (i:Nat):Nat:=((l.take i).map (fun v=>v.Events.l.length)).sum
theorem Zwe {l:List Ver} {i:Nat} {v:Ver} (h:l[i]? = some v):Zr8 l (i+1)=Zr8 l i+v.Events.l.length:=by
 unfold Zr8;rw [ZFa,h];simp
theorem Zx4 {l:List Ver} (h:∀ v∈l,v.Events.l.length≤140737488355328):∀ i,Zr8 l i≤i * 140737488355328
 | 0=>by simp [Zr8]
 | i+1=>by
  have ih:=Zx4 h i;rw [ZEP];cases hv:l[i]? with
  | none=>
   have:Zr8 l (i+1)=Zr8 l i:=by unfold Zr8;rw [ZFa,hv];simp
   omega
  | some v=>
   have h1:=Zwe hv;have h2:=h v (ZE5 hv);omega
def ZvP (l:List Ver) (most:Int) (i:Nat) (v:Ver):Bool:=!decide (((Zr8 l (i+1):Nat):Int) > most)&&v.Events.l.all Xn
def ZvT (l:List Ver) (most:Int):Bool:=Zu (ZvP l most) 0 (l.take 20)&&decide ((l.length:Int)≤20)
theorem ZyG (V:NL Ver) (most:Int) (n:Nat) (v:Ver) (i:Nat) (hv:V.l[i]? = some v) (hl:v.Events.l.length≤140737488355328):
 ∃ fr',Zg rE [0,1,5,6,7] c9L0b [(0,vsA V),(1,I most),(5,I n),(6,I i),(7,.int .i64 0)] []=some (if v.Events.l.all Xn=true then .exit 2 else .ret,fr',[])∧(v.Events.l.all Xn=true→Z2 [0,1,4,5,6] fr'=[(0,vsA V),(1,I most),(4,.bot),(5,I n),(6,I i)])∧(v.Events.l.all Xn=false→get fr' 4=.bool false):=by
 have hg1:=Z6 (f:=Ver.enc) hv;have hev:v.enc=.agg [I v.Authority,I v.Number,I v.At,.str v.Prev,.isl false v.Events.ex 18 (v.Events.l.map fun e=>evA e),I v.Index,.isl false v.Sig.ex 1 (v.Sig.l.map encS),.isl false v.Path.ex 1 (v.Path.l.map encS)]:=rfl
 rw [hev] at hg1;have L:=QT (E:=rE) (live:=[0,1,5,6,7]) (b:=c9L0b) (h:=[]) v.Events.l (fun _ e=>Xn e) (fun k=>[(0,vsA V),(1,I most),(5,I n),(6,I i),(7,I k)]) 2 (fun fr=>Z2 [0,1,4,5,6] fr=[(0,vsA V),(1,I most),(4,.bot),(5,I n),(6,I i)]) (fun fr=>get fr 4=.bool false) (fun k=>rfl)
  (fun k e he hP=>by
   have hg2:=Z6 (f:=fun e=>evA e) he
   have hi':=Zh (Z7 he);have hwr:=Zx (n:=k) (by have:=Z7 he;omega)
   have hF:=Z4z e;rw [hP] at hF;refine ⟨_,by simp only [go_sem,qy,qq,qx,qz,qv,qk,reduceIte,c9L0b,hg1,hg2,hi',hwr,hF];rfl,?_⟩
   simp only [go_sem,qy,qq,qx,qz,qv,qk,reduceIte])
  (fun k e he hP=>by
   have hg2:=Z6 (f:=fun e=>evA e) he
   have hi':=Zh (Z7 he);have hF:=Z4z e;rw [hP] at hF;refine ⟨_,by simp only [go_sem,qy,qq,qx,qz,qv,qk,reduceIte,c9L0b,hg1,hg2,hi',hF];rfl,?_⟩
   simp only [go_sem,qy,qq,qx,qz,qv,qk,reduceIte])
  ⟨_,by simp only [go_sem,qy,qq,qx,qz,qv,qk,reduceIte,c9L0b,hg1,ZG];rfl,by simp only [go_sem,qy,qq,qx,qz,qv,qk,reduceIte]⟩
 rw [QE] at L;exact L
theorem ZAm (V:NL Ver) (most:Int) (hm:∀ v∈V.l,v.Events.l.length≤140737488355328):pfn rE 9 [vsA V,I most]=some (.bool (ZvT V.l most)):=by
 have L:=QT (E:=rE) (live:=[0,1,5,6]) (b:=c9L1b) (h:=[]) (V.l.take 20) (ZvP V.l most) (fun i=>[(0,vsA V),(1,I most),(5,I (Zr8 V.l i)),(6,I i)]) 0 (fun fr=>get fr 0=vsA V) (fun fr=>get fr 4=.bool false) (fun i=>rfl)
  (fun i v hx hP=>by
   obtain ⟨hv,hi20⟩:V.l[i]? = some v∧i < 20:=by
    have h1:=Z7 hx;rw [ZEF] at h1;rw [ZFd (by omega)] at hx
    exact ⟨hx,by omega⟩
   have hlt:=Z7 hv;have hi':=Zh hlt;have h20:decide ((i:Int) < 20)=true:=decide_eq_true (by omega)
   have hwr:=Zx (n:=i) (by omega)
   have hs:=Zwe hv;have hle:=Zx4 hm (i+1);have hm1:=hm v (ZE5 hv);have hw2:IntKind.i64.wrap (((Zr8 V.l i:Nat):Int)+((v.Events.l.length:Nat):Int))=((Zr8 V.l (i+1):Nat):Int):=by
    rw [YM (by omega) (by omega)];omega
   have hg1:=Z6 (f:=Ver.enc) hv;have hev:v.enc=.agg [I v.Authority,I v.Number,I v.At,.str v.Prev,.isl false v.Events.ex 18 (v.Events.l.map fun e=>evA e),I v.Index,.isl false v.Sig.ex 1 (v.Sig.l.map encS),.isl false v.Path.ex 1 (v.Path.l.map encS)]:=rfl
   rw [hev] at hg1;unfold ZvP at hP;rw [ZDX] at hP;have hd:decide (((Zr8 V.l (i+1):Nat):Int) > most)=false:=by simpa using hP.1
   obtain ⟨fr',L0,h1,_⟩:=ZyG V most (Zr8 V.l (i+1)) v i hv hm1;rw [if_pos hP.2] at L0;have h1':=h1 hP.2;have L0':Zg rE [0,1,5,6,7] c9L0b [(0,vsA V),(1,I most),(5,I (Zr8 V.l (i+1))),(6,I i),(7,.int .i64 0)] []=_:=L0;refine ⟨_,by simp only [go_sem,qy,qq,qx,qz,qv,qk,reduceIte,c9L1b,c9L0,hg1,hi',h20,hwr,hw2,hd,L0',h1'];rfl,?_⟩
   simp only [go_sem,qy,qq,qx,qz,qv,qk,reduceIte])
  (fun i v hx hP=>by
   obtain ⟨hv,hi20⟩:V.l[i]? = some v∧i < 20:=by
    have h1:=Z7 hx;rw [ZEF] at h1;rw [ZFd (by omega)] at hx
    exact ⟨hx,by omega⟩
   have hlt:=Z7 hv;have hi':=Zh hlt;have h20:decide ((i:Int) < 20)=true:=decide_eq_true (by omega)
   have hs:=Zwe hv;have hle:=Zx4 hm (i+1);have hm1:=hm v (ZE5 hv);have hw2:IntKind.i64.wrap (((Zr8 V.l i:Nat):Int)+((v.Events.l.length:Nat):Int))=((Zr8 V.l (i+1):Nat):Int):=by
    rw [YM (by omega) (by omega)];omega
   have hg1:=Z6 (f:=Ver.enc) hv;have hev:v.enc=.agg [I v.Authority,I v.Number,I v.At,.str v.Prev,.isl false v.Events.ex 18 (v.Events.l.map fun e=>evA e),I v.Index,.isl false v.Sig.ex 1 (v.Sig.l.map encS),.isl false v.Path.ex 1 (v.Path.l.map encS)]:=rfl
   rw [hev] at hg1;unfold ZvP at hP;cases hd:decide (((Zr8 V.l (i+1):Nat):Int) > most) with
   | true=>
    refine ⟨_,by simp only [go_sem,qy,qq,qx,qz,qv,qk,reduceIte,c9L1b,c9L0,hg1,hi',h20,hw2,hd];rfl,?_⟩
    simp only [go_sem,qy,qq,qx,qz,qv,qk,reduceIte]
   | false=>
    have hP2:v.Events.l.all Xn=false:=by rw [hd] at hP;simpa using hP
    obtain ⟨fr',L0,_,h2⟩:=ZyG V most (Zr8 V.l (i+1)) v i hv hm1;rw [hP2] at L0;have h2':=h2 hP2;have L0':Zg rE [0,1,5,6,7] c9L0b [(0,vsA V),(1,I most),(5,I (Zr8 V.l (i+1))),(6,I i),(7,.int .i64 0)] []=some (.ret,fr',[]):=L0;refine ⟨_,by simp only [go_sem,qy,qq,qx,qz,qv,qk,reduceIte,c9L1b,c9L0,hg1,hi',h20,hw2,hd,L0'];rfl,?_⟩
    simp only [go_sem,qy,qq,qx,qz,qv,qk,reduceIte,h2'])
  (by
   rw [ZEF];rcases ZFh V.l.length 20 with h | h
   ·rw [Nat.min_eq_right (by omega)]
    exact ⟨_,by simp only [go_sem,qy,qq,qx,qz,qv,qk,reduceIte,c9L1b,ZG];rfl,by simp only [go_sem,qy,qq,qx,qz,qv,qk,reduceIte]⟩
   ·rw [ZG4 h];have h20:decide (((20:Nat):Int) < 20)=false:=rfl;cases c:decide (((20:Nat):Int) < ((V.l.length:Nat):Int)) with
    | true=>exact ⟨_,by simp only [go_sem,qy,qq,qx,qz,qv,qk,reduceIte,c9L1b,c,h20];rfl,by simp only [go_sem,qy,qq,qx,qz,qv,qk,reduceIte]⟩
    | false=>exact ⟨_,by simp only [go_sem,qy,qq,qx,qz,qv,qk,reduceIte,c9L1b,c];rfl,by simp only [go_sem,qy,qq,qx,qz,qv,qk,reduceIte]⟩)
 obtain ⟨fr',L1,h0,h1⟩:=L;have L':Zg rE [0,1,5,6] c9L1b [(0,vsA V),(1,I most),(5,.int .i64 0),(6,.int .i64 0)] []=_:=L1;rw [Z5 (f:=9) rfl rfl];unfold ZvT;cases c:Zu (ZvP V.l most) 0 (V.l.take 20) with
 | true=>
  rw [c,if_pos rfl] at L';have h0':=h0 c;simp only [go_sem,qy,qq,qx,qz,qv,qk,reduceIte,c9,c9L1,L',h0']
 | false=>
  rw [c,if_neg ZGz] at L';have h1':=h1 c;simp only [go_sem,qy,qq,qx,qz,qv,qk,reduceIte,c9,c9L1,L',h1']
theorem ZAn (l:List Ver) (i:Nat):Zr8 l i≤Zr8 l l.length:=by
 unfold Zr8;rw [ZEu]
 conv=>rhs;rw [←ZEW i l]
 rw [ZEd,List.sum_append];omega
theorem ZAo (l:List Ver):Zr8 l l.length=(l.map (fun v=>v.Events.l.length)).sum:=by unfold Zr8;rw [ZEu]
theorem ZAp {l:List Ver} {v:Ver} (h:v∈l):v.Events.l.length≤Zr8 l l.length:=by
 obtain ⟨i,hi⟩:=ZFc.1 h;have h1:=Zwe hi;have h2:=ZAn l (i+1);omega
theorem ZyH (l:List Ver) (valid known:Int):∀ i,(Zr7 l valid known i).length≤Zr8 l i
 | 0=>ZDY _
 | i+1=>by
  have ih:=ZyH l valid known i;unfold Zr7;rw [ZEk];cases hv:l[i]? with
  | none=>
   have:Zr8 l (i+1)=Zr8 l i:=by unfold Zr8;rw [ZFa,hv];simp
   show _+0≤_
   omega
  | some v=>
   have h1:=Zwe hv;have h2:=Zyu v valid i v.Events.l.length;show _+(bif Zvl l known i v then Zr4 v valid i v.Events.l.length else []).length≤_
   cases Zvl l known i v with
   | true=>rw [cond_true];omega
   | false=>rw [cond_false,ZEJ];omega
theorem Zwf (l:List Ver) (valid known:Int):(Zr3 l valid known).length≤Zr8 l l.length:=by
 unfold Zr3;rw [(Zwc l _).length_eq];exact ZyH l valid known l.length
structure FewS (l:List Ver):Prop where
 len:l.length≤20
 few:∀ v∈l,∀ e∈v.Events.l,Xn e=true
 sum:Zr8 l l.length≤16
theorem Zx5 {l:List Ver} (h:ZvT l 16=true):FewS l:=by
 unfold ZvT at h;rw [ZDX] at h;have hl:l.length≤20:=by have:=of_decide_eq_true h.2;omega
 rw [ZEo hl] at h;have hA:∀ (i:Nat) v,l[i]? = some v→ZvP l 16 i v=true:=fun i v hv=>by
  have:=Zda.1 h.1 i v hv;simpa using this
 refine ⟨hl,fun v hv e he=>?_,?_⟩
 ·obtain ⟨i,hi⟩:=ZFc.1 hv;have:=hA i v hi;unfold ZvP at this;rw [ZDX] at this;exact ZE3.1 this.2 e he
 ·rcases Nat.eq_zero_or_pos l.length with h0 | h0
  ·rw [h0];exact ZDY _
  ·obtain ⟨v,hv⟩:∃ v,l[l.length - 1]? = some v:=⟨_,ZE0 (by omega)⟩
   have:=hA _ v hv;unfold ZvP at this;rw [ZDX,Nat.sub_add_cancel h0] at this;have h1:=of_decide_eq_false (by simpa using this.1:decide (((Zr8 l l.length:Nat):Int) > 16)=false)
   omega
theorem FewS.vs {V:NL Ver} (h:FewS V.l):VsF V:=by
 refine ⟨⟨by have:=h.len;omega,fun v hv=>?_⟩,h.few⟩
 have h1:=ZAp hv;have h2:=h.sum;omega
theorem Zwg (V:NL Ver) (h:FewS V.l) (valid known:Int):pfn rE 11 [vsA V,I valid,I known]=some (.tup [stA (Zr5 V.l valid known).1,.isl false false 1 ((Zr5 V.l valid known).2.map I)]):=by
 have h1:=Zwf V.l valid known;have h2:=h.sum;exact ZyF V h.vs valid known (by omega)
end Go.AM
namespace Go.AM
open Go
def Zvy (l:List Ver) (p:Nat×Nat):Int:=match l[p.1]? with
 | some v=>(match v.Events.l[p.2]? with | some e=>e.Day | none=>0)
 | none=>0
def Zr6 (l:List Ver):List (Nat×Nat)→List Int→List Int
 | p::O,x::E=>(bif x==0 then [Zvy l p] else [])++Zr6 l O E
 | _,_=>[]
def Zr9:List Int→List Int
 | []=>[]
 | a::r=>match Zr9 r with
  | []=>[a]
  | b::s=>bif a==b then b::s else a::b::s
def Zvp (l:List Ver) (known:Int):List Int:=Zr9 (Zr6 l (Zr3 l 100000 known) (Zr5 l 100000 known).2)
theorem ZyI {l:List Ver} {p:Nat×Nat} {v:Ver} {e:Event} (h1:l[p.1]? = some v) (h2:v.Events.l[p.2]? = some e):Zvy l p=e.Day:=by
 unfold Zvy;rw [h1];simp only [h2]
theorem ZyJ (l:List Ver):∀ (O:List (Nat×Nat)) (E:List Int) (i:Nat) (p:Nat×Nat) (x:Int),O[i]? = some p→E[i]? = some x→Zr6 l (O.take (i+1)) (E.take (i+1))=Zr6 l (O.take i) (E.take i)++(bif x==0 then [Zvy l p] else [])
 | p::O,x::E,0,_,_,h1,h2=>by
  simp only [ZEw,Option.some.injEq] at h1 h2;subst h1;subst h2;simp [Zr6]
 | p::O,x::E,i+1,q,y,h1,h2=>by
  simp only [ZES] at h1 h2;have:=ZyJ l O E i q y h1 h2;rw [ZFk,ZFk,ZFk,ZFk,Zr6,Zr6,this,ZEf]
 | [],_,i,_,_,h1,_=>by simp at h1
 | _::_,[],i,_,_,_,h2=>by simp at h2
theorem Zwv (l:List Ver):∀ (O:List (Nat×Nat)) (E:List Int),(Zr6 l O E).length≤O.length
 | [],_=>ZDY _
 | _::_,[]=>ZDY _
 | p::O,x::E=>by
  have:=Zwv l O E;rw [Zr6,ZEk,ZEh];have h2:(bif x==0 then [Zvy l p] else []).length≤1:=by cases x==0<;>simp
  omega
theorem ZyK (l:List Ver):∀ (O:List (Nat×Nat)) (st:Sta×List Int),(∀ p∈O,InL l p)→(O.foldl (Zvi l) st).2.length=st.2.length+O.length
 | [],_,_=>rfl
 | p::r,st,h=>by
  obtain ⟨v,e,h1,h2⟩:=h p (ZEv ..);rw [ZEH,ZyC h1 h2,ZyK l r _ (fun q hq=>h q (ZEN _ hq))]
  simp;omega
theorem Zx6 (l:List Ver) (valid known:Int):(Zr5 l valid known).2.length=(Zr3 l valid known).length:=by
 unfold Zr5;rw [ZyK l _ _ (Zwd l valid known)];simp
theorem ZyL:∀ L:List Int,Ys (L.map I)=(Zr9 L).map I
 | []=>rfl
 | a::r=>by
  have ih:=ZyL r;rw [ZE2,Ys,Zr9,ih];cases Zr9 r with
  | nil=>rfl
  | cons b s=>
   show (bif (a==b) then _ else _)=_
   dsimp only;cases a==b<;>rfl
theorem Zx7:∀ L:List Int,(Zr9 L).length≤L.length
 | []=>ZDZ _
 | a::r=>by
  have ih:=Zx7 r;rw [Zr9,ZEh];cases h:Zr9 r with
  | nil=>simp
  | cons b s=>
   rw [h] at ih;simp only [ZEh] at ih;dsimp only;cases a==b<;>simp<;>omega
theorem ZAq (L:List Int) (hl:L.length≤1000):fnV rE 43 [.sl 0 L.length 0 L.length false] [.row 1 (L.map I)]=some (.sl 0 L.length 0 (Zr9 L).length false,[.row 1 ((Zr9 L).map I++List.replicate (L.length - (Zr9 L).length) (I 0))]):=by
 rw [V8 (s:=ZvY) rfl];unfold ZvY;have h1:(L.map I).all ZvX=true:=by rw [ZFn,ZE3];intro x _;rfl
 have h2:Nat.ble L.length 1000000=true:=ZEZ (by omega)
 simp only [ZEw,ZyL,ZE1,h1,h2,beq_self_eq_true,ZEL,cond_true];rfl
abbrev dyF (V:NL Ver) (E:List Int) (O:List (Nat×Nat)) (n i:Nat):Fr:=[(0,vsA V),(7,.isl false false 1 (E.map I)),(8,.sl 0 n 0 n false),(20,.isl false false 2 (O.map prA)),(21,I O.length),(22,I i)]
theorem ZAr (V:NL Ver) (O:List (Nat×Nat)) (hO:∀ p∈O,InL V.l p) (E:List Int) (hE:E.length=O.length) (hl:O.length≤1000):
 Zg rE [0,7,8,20,21,22] c18L0b (dyF V E O 0 0) [.row 1 []] =
  some (.exit 0,dyF V E O (Zr6 V.l O E).length O.length,[.row 1 ((Zr6 V.l O E).map I)]):=by
 have hqi:∀ (l:List Int) n,Zd n (l.map I)=true:=fun l n=>ZN _ (Zw (fun t=>rfl) l)
 have z0:((0:Int)≤0∧(0:Int) < ((2:Nat):Int))=True:=by simp
 have z1:((0:Int)≤1∧(1:Int) < ((2:Nat):Int))=True:=by simp
 have t0:Int.toNat 0 * 1=0:=rfl;have t1:Int.toNat 1 * 1=1:=rfl;have L:=Y8 (E:=rE) (live:=[0,7,8,20,21,22]) (b:=c18L0b) O.length (fun i=>dyF V E O (Zr6 V.l (O.take i) (E.take i)).length i) (fun i=>[.row 1 ((Zr6 V.l (O.take i) (E.take i)).map I)]) (fun i=>rfl)
  (fun i hi=>by
   obtain ⟨p,hp⟩:∃ p,O[i]? = some p:=⟨_,ZE0 hi⟩;obtain ⟨x,hx⟩:∃ x,E[i]? = some x:=⟨_,ZE0 (by omega)⟩
   obtain ⟨v,e,h1,h2⟩:=hO p (ZE5 hp);have hg:=Z6 (f:=prA) hp;have hgx:=Z6 (f:=I) hx;have hg1:=Z6 (f:=Ver.enc) h1;have hg2:=Z6 (f:=fun e=>evA e) h2
   have hev:v.enc=.agg [I v.Authority,I v.Number,I v.At,.str v.Prev,.isl false v.Events.ex 18 (v.Events.l.map fun e=>evA e),I v.Index,.isl false v.Sig.ex 1 (v.Sig.l.map encS),.isl false v.Path.ex 1 (v.Path.l.map encS)]:=rfl
   rw [hev] at hg1;have hi':=Zh hi;have hwr:=Zx (n:=i) (by omega)
   have hlen:=Zwv V.l (O.take i) (E.take i);have hlt:(O.take i).length≤i:=by simp;omega
   rw [ZyJ V.l O E i p x hp hx,ZyI h1 h2];generalize Zr6 V.l (O.take i) (E.take i)=D at *;have hD:=hqi D;have hA:=fun (b:Hp)=>XC (h:=.row 1 (D.map I)::b) (fz:=false) (b:=0) (g:=D.length) (sz:=1) (bytes:=8) (es:=D.map I) (bw:=false) (ex:=false) (ys:=[I e.Day]) (by simp [rowAt]) rfl (by rfl) (by decide) (by decide) (by simp;omega)
   have hb2:∀ n,Zj n (.row 2 [.agg [I p.1,I p.2]])=true:=fun n=>rfl
   refine ⟨dyF V E O (D++(bif x==0 then [e.Day] else [])).length (i+1),?_,rfl⟩;show Zb rE c18L0b (dyF V E O D.length i) [.row 1 (D.map I)]=some (.normal,dyF V E O (D++(bif x==0 then [e.Day] else [])).length (i+1),[.row 1 ((D++(bif x==0 then [e.Day] else [])).map I)])
   cases c:x==0 with
   | false=>
    rw [cond_false,ZE8];simp only [go_sem,qy,qq,qx,qz,qv,qk,reduceIte,c18L0b,dyF,prA,hg,hgx,hg1,hg2,hi',hwr,c,hD,hb2,z0,z1,t0,t1,if_true]
   | true=>
    rw [cond_true,ZEd,ZEk];have hD2:∀ n,Zd n (D.map I++[I e.Day])=true:=fun n=>by rw [Z0T,hD];rfl
    simp only [go_sem,qy,qq,qx,qz,qv,qk,reduceIte,c18L0b,dyF,prA,hg,hgx,hg1,hg2,hi',hwr,c,hD,hD2,hA,hb2,z0,z1,t0,t1,if_true,ZFi,ZE2,ZEm])
  (e:=.exit 0) (fr:=dyF V E O (Zr6 V.l O E).length O.length) (h:=[.row 1 ((Zr6 V.l O E).map I)]) (by
   rw [ZEu,ZEo (Nat.le_of_eq hE)];have hD:=hqi (Zr6 V.l O E);simp only [go_sem,qy,qq,qx,qz,qv,qk,reduceIte,c18L0b,dyF,ZG,hD]) (by simp)
 exact L
theorem ZyM (V:NL Ver) (hV:VsF V) (known:Int) (hl:(Zr3 V.l 100000 known).length≤40):pfn rE 18 [vsA V,I known]=some (.isl false false 1 ((Zvp V.l known).map I)):=by
 have hO:=Zx1 V hV.s 100000 known;have hA:=ZyF V hV 100000 known hl;have hlen:=Zx6 V.l 100000 known;have hc:=ZsZ (Zr5 V.l 100000 known).1;unfold Zvp;have hI:=Zwd V.l 100000 known;generalize Zr3 V.l 100000 known=O at *;generalize Zr5 V.l 100000 known=st at *;obtain ⟨s,E⟩:=st;have hr:∀ n,Zj n (.row 7 [stA s])=true:=fun n=>ZN (n:=n) [stA s] hc
 have hz:∀ n,Zj n (.row 7 [.agg HE])=true:=fun n=>rfl
 have hqi:∀ (l:List Int) n,Zd n (l.map I)=true:=fun l n=>ZN _ (Zw (fun t=>rfl) l)
 have hci:∀ (l:List Int),Z4 (l.map I)=true:=fun l=>Zw (fun t=>rfl) l
 have L:=ZAr V O hI E hlen (by omega)
 have L':Zg rE [0,7,8,20,21,22] c18L0b [(0,vsA V),(7,.isl false false 1 (E.map I)),(8,.sl 0 0 0 0 false),(20,.isl false false 2 (O.map prA)),(21,I O.length),(22,.int .i64 0)] [.row 1 []]=_:=L;have hS:=ZAq (Zr6 V.l O E) (by have:=Zwv V.l O E;omega)
 have hcl:=Zx7 (Zr6 V.l O E);have htk:List.take (Zr9 (Zr6 V.l O E)).length ((Zr9 (Zr6 V.l O E)).map I++List.replicate ((Zr6 V.l O E).length - (Zr9 (Zr6 V.l O E)).length) (I 0))=(Zr9 (Zr6 V.l O E)).map I:=by
  rw [ZFQ (by simp),ZEo (by simp)]
 rw [Z5 (f:=18) rfl rfl];simp only [HE] at hz;have hln:((Zr9 (Zr6 V.l O E)).length+((Zr6 V.l O E).length - (Zr9 (Zr6 V.l O E)).length)==(Zr6 V.l O E).length)=true:=by rw [beq_iff_eq];omega
 have hD:=hqi (Zr6 V.l O E);have hcD:=hci (Zr9 (Zr6 V.l O E));simp only [go_sem,qy,qq,qx,qz,qv,qk,reduceIte,c18,c18L0,hO,hA,hr,hz,L',hD,hS,htk,hcD,hln,ZEk,ZGc,ZE1]
end Go.AM
namespace Go.AM
open Go
def ltE (l:List Ver) (p q:Nat×Nat):Prop:=lexB (evK l p) (evK l q)=true
theorem ZAs {l:List Ver} {L:List (Nat×Nat)} (h:Zwu l L):(ZvG l L).Pairwise (ltE l):=by
 have h1:=ZwI _ (ZyA h);rw [ZwY,ZFC] at h1;exact h1
theorem ZyN {l:List Ver} {p:Nat×Nat}:¬ ltE l p p:=fun h=>by unfold ltE at h;rw [Zwm] at h;cases h
theorem Zx8 {l:List Ver} {L:List (Nat×Nat)} (h:L.Pairwise (ltE l)):L.Nodup:=by
 refine List.Pairwise.imp (S:=fun a b=>a≠b) ?_ h
 intro a b h e;subst e;exact ZyN h
theorem ZAt {l:List Ver} {a b:List (Nat×Nat)} (hp:a.Perm b) (h1:a.Pairwise (ltE l)) (h2:b.Pairwise (ltE l)):a=b:=
 List.Perm.eq_of_pairwise (le:=ltE l) (fun x y _ _ q1 q2=>(ZyN (l:=l) (ZvZ _ _ _ q1 q2)).elim) h1 h2 hp
structure Counts (l:List Ver) (valid known:Int) (p:Nat×Nat) (v:Ver) (e:Event):Prop where
 gv:l[p.1]? = some v
 ge:v.Events.l[p.2]? = some e
 day:e.Day≤valid
 at':v.At≤known
 first:∀ w∈l.take p.1,¬ (w.Authority=v.Authority∧w.Number=v.Number)
theorem ZyO (l:List Ver) (known:Int) (i:Nat) (v:Ver):Zvl l known i v=true↔v.At≤known∧∀ w∈l.take i,¬ (w.Authority=v.Authority∧w.Number=v.Number):=by
 unfold Zvl;rw [Zyw,ZDX,ZEp,ZF5,ZEp,decide_eq_false_iff_not];constructor
 ·intro h;refine ⟨by have:=h.2;omega,fun w hw hc=>h.1 w hw ?_⟩
  rw [Zwt,hc.1,hc.2]
 ·intro h;refine ⟨fun w hw hc=>h.2 w hw ?_,by have:=h.1;omega⟩
  rw [Zwt,Prod.mk.injEq] at hc;exact ⟨hc.1.symm,hc.2.symm⟩
theorem ZyP {v:Ver} {valid:Int} {i n:Nat} {p:Nat×Nat}:p∈Zr4 v valid i n↔p.1=i∧p.2 < n∧ZvS v valid p.2=true:=by
 unfold Zr4;rw [ZEn];constructor
 ·rintro ⟨k,hk,rfl⟩;have:=ZFo.1 hk;exact ⟨rfl,by simpa using this.1,this.2⟩
 ·rintro ⟨h1,h2,h3⟩;exact ⟨p.2,ZFo.2 ⟨by simpa using h2,h3⟩,by rw [←h1]⟩
theorem ZyQ (l:List Ver) (valid known:Int) (p:Nat×Nat):∀ i,p∈Zr7 l valid known i↔p.1 < i∧∃ v e,Counts l valid known p v e
 | 0=>by simp [Zr7]
 | i+1=>by
  unfold Zr7;rw [ZEt,ZyQ l valid known p i];have key:(p∈(match l[i]? with | some v=>bif Zvl l known i v then Zr4 v valid i v.Events.l.length else [] | none=>[]))↔p.1=i∧∃ v e,Counts l valid known p v e:=by
   cases hv:l[i]? with
   | none=>
    constructor
    ·intro h;cases h
    ·rintro ⟨h1,v,e,h2⟩;have:=h2.gv;rw [h1,hv] at this;cases this
   | some v=>
    show p∈(bif Zvl l known i v then Zr4 v valid i v.Events.l.length else [])↔_
    constructor
    ·intro h;cases ht:Zvl l known i v with
     | false=>rw [ht] at h;cases h
     | true=>
      rw [ht,cond_true,ZyP] at h;obtain ⟨h1,h2,h3⟩:=h;obtain ⟨t1,t2⟩:=(ZyO l known i v).1 ht;unfold ZvS at h3;rw [ZE0 h2] at h3;refine ⟨h1,v,_,⟨by rw [h1];exact hv,ZE0 h2,of_decide_eq_true h3,t1,by rw [h1];exact t2⟩⟩
    ·rintro ⟨h1,w,e,h2⟩;have hw:=h2.gv;rw [h1,hv] at hw;cases hw;have ht:Zvl l known i v=true:=(ZyO l known i v).2 ⟨h2.at',by have:=h2.first;rwa [h1] at this⟩
     rw [ht,cond_true,ZyP];refine ⟨h1,Z7 h2.ge,?_⟩;unfold ZvS;rw [h2.ge];exact decide_eq_true h2.day
  refine Iff.trans (or_congr Iff.rfl key) ?_;constructor
  ·rintro (⟨h1,h2⟩ | ⟨h1,h2⟩)
   ·exact ⟨by omega,h2⟩
   ·exact ⟨by omega,h2⟩
  ·rintro ⟨h1,h2⟩;rcases Nat.lt_or_eq_of_le (Nat.le_of_lt_succ h1) with h | h
   ·exact .inl ⟨h,h2⟩
   ·exact .inr ⟨h,h2⟩
theorem ZAu (l:List Ver) (valid known:Int) (p:Nat×Nat):p∈Zr7 l valid known l.length↔∃ v e,Counts l valid known p v e:=by
 rw [ZyQ];exact ⟨fun h=>h.2,fun ⟨v,e,h⟩=>⟨Z7 h.gv,v,e,h⟩⟩
theorem ZvQ (l:List Ver) (valid known:Int) (p:Nat×Nat):p∈Zr3 l valid known↔∃ v e,Counts l valid known p v e:=by
 unfold Zr3;rw [(Zwc l _).mem_iff,ZAu]
theorem Zw6 (l:List Ver) (valid known:Int):(Zr3 l valid known).Pairwise (ltE l):=ZAs (Zx0 ..)
theorem Counts.key {l:List Ver} {valid known:Int} {p:Nat×Nat} {v:Ver} {e:Event} (h:Counts l valid known p v e):evK l p=[e.Day,v.At,v.Authority,v.Number,(p.2:Int)]:=Zw4 h.gv h.ge
theorem Counts.dayK {l:List Ver} {valid known:Int} {p:Nat×Nat} {v:Ver} {e:Event} (h:Counts l valid known p v e):Zvy l p=e.Day:=ZyI h.gv h.ge
theorem ZyR (l:List Ver) {v1 v2:Int} (h:v1≤v2) (known:Int):Zr3 l v1 known=(Zr3 l v2 known).filter (fun p=>decide (Zvy l p≤v1)):=by
 refine ZAt (l:=l) ?_ (Zw6 ..) ((Zw6 ..).filter _);refine (List.perm_ext_iff_of_nodup ?_ ?_).2 fun p=>?_
 ·exact Zx8 (Zw6 l v1 known)
 ·exact Zx8 ((Zw6 l v2 known).filter _)
 ·rw [ZFo,ZvQ,ZvQ];constructor
  ·rintro ⟨v,e,hc⟩;exact ⟨⟨v,e,hc.gv,hc.ge,by have:=hc.day;omega,hc.at',hc.first⟩,decide_eq_true (by rw [hc.dayK];exact hc.day)⟩
  ·rintro ⟨⟨v,e,hc⟩,hd⟩;have:=of_decide_eq_true hd;rw [hc.dayK] at this;exact ⟨v,e,hc.gv,hc.ge,this,hc.at',hc.first⟩
theorem ZyS (l:List Ver) (valid known:Int):(Zr3 l valid known).Pairwise (fun p q=>Zvy l p≤Zvy l q):=by
 refine List.Pairwise.imp_of_mem ?_ (Zw6 l valid known);intro p q hp hq h;obtain ⟨v,e,h1⟩:=(ZvQ ..).1 hp;obtain ⟨w,f,h2⟩:=(ZvQ ..).1 hq;unfold ltE at h;rw [h1.key,h2.key] at h;simp only [lexB,ZFm,decide_eq_true_eq,ZDX,beq_iff_eq] at h;rw [h1.dayK,h2.dayK];omega
theorem ZyT {α:Type} (f:α→Int) (d:Int):∀ {L:List α},L.Pairwise (fun p q=>f p≤f q)→L.filter (fun p=>decide (f p≤d))=L.take (L.filter (fun p=>decide (f p≤d))).length
 | [],_=>rfl
 | p::r,h=>by
  rw [ZET] at h;rw [List.filter_cons];cases c:decide (f p≤d) with
  | true=>
   rw [if_pos rfl,ZEh,ZFk,←ZyT f d h.2]
  | false=>
   rw [if_neg ZGz];have:r.filter (fun p=>decide (f p≤d))=[]:=by
    rw [List.filter_eq_nil_iff];intro q hq hd;have h1:=h.1 q hq;have h2:=of_decide_eq_true hd;have h3:=of_decide_eq_false c;omega
   rw [this];rfl
theorem Zx9 (l:List Ver) {v1 v2:Int} (h:v1≤v2) (known:Int):Zr3 l v1 known=(Zr3 l v2 known).take (Zr3 l v1 known).length:=by
 conv=>lhs;rw [ZyR l h,ZyT (Zvy l) v1 (ZyS l v2 known),←ZyR l h]
def Zvu (st:Sta×List Int) (x:Int×Event):Sta×List Int:=(Zvx st.1 x.1 x.2,st.2++[Zvw st.1 x.1 x.2])
def Zvv (l:List Ver) (p:Nat×Nat):Option (Int×Event):=match l[p.1]? with
 | some v=>(match v.Events.l[p.2]? with | some e=>some (v.Authority,e) | none=>none)
 | none=>none
def stD (D:List (Int×Event)):Sta×List Int:=D.foldl Zvu (Yh,[])
theorem ZyU (l:List Ver):∀ (O:List (Nat×Nat)) (st:Sta×List Int),O.foldl (Zvi l) st=(O.filterMap (Zvv l)).foldl Zvu st
 | [],_=>rfl
 | p::r,st=>by
  rw [ZEH,List.filterMap_cons,ZyU l r];unfold Zvi Zvv;cases l[p.1]? with
  | none=>rfl
  | some v=>
   dsimp only;cases v.Events.l[p.2]? with
   | none=>rfl
   | some e=>rfl
theorem Zww (l:List Ver) (valid known:Int):Zr5 l valid known=stD ((Zr3 l valid known).filterMap (Zvv l)):=ZyU l _ _
theorem ZAv {l:List Ver} {p:Nat×Nat} {v:Ver} {e:Event} (h1:l[p.1]? = some v) (h2:v.Events.l[p.2]? = some e):Zvv l p=some (v.Authority,e):=by
 unfold Zvv;rw [h1];simp only [h2]
theorem Zwx:∀ (D:List (Int×Event)) (s:Sta) (E:List Int),(D.foldl Zvu (s,E)).1=(D.foldl Zvu (s,[])).1∧(D.foldl Zvu (s,E)).2=E++(D.foldl Zvu (s,[])).2
 | [],s,E=>⟨rfl,by simp⟩
 | x::D,s,E=>by
  rw [ZEH,ZEH];unfold Zvu;obtain ⟨h1,h2⟩:=Zwx D (Zvx s x.1 x.2) (E++[Zvw s x.1 x.2]);obtain ⟨h3,h4⟩:=Zwx D (Zvx s x.1 x.2) ([]++[Zvw s x.1 x.2]);dsimp only;unfold Zvu at h1 h2 h3 h4;rw [h1,h2,h3,h4];exact ⟨rfl,by simp⟩
theorem ZyV:∀ (D:List (Int×Event)) (st:Sta×List Int),(D.foldl Zvu st).2.length=st.2.length+D.length
 | [],_=>rfl
 | x::D,st=>by
  rw [ZEH,ZyV D];simp [Zvu];omega
end Go.AM
namespace Go.AM
open Go
theorem Zxa (D1 D2:List (Int×Event)):(stD (D1++D2)).1=(D2.foldl Zvu ((stD D1).1,[])).1∧(stD (D1++D2)).2=(stD D1).2++(D2.foldl Zvu ((stD D1).1,[])).2:=by
 unfold stD;rw [ZGd];exact Zwx D2 _ _
theorem ZyW (D:List (Int×Event)):(stD D).2.length=D.length:=by
 unfold stD;rw [ZyV];simp
theorem Zxb {l:List Ver}:∀ {O:List (Nat×Nat)},(∀ p∈O,InL l p)→(O.filterMap (Zvv l)).length=O.length
 | [],_=>rfl
 | p::r,h=>by
  obtain ⟨v,e,h1,h2⟩:=h p (ZEv ..);rw [List.filterMap_cons,ZAv h1 h2,ZEh,ZEh,Zxb (fun q hq=>h q (ZEN _ hq))]
theorem ZAx (l:List Ver) {v1 v2:Int} (h:v1≤v2) (known:Int):(Zr5 l v1 known).2=(Zr5 l v2 known).2.take (Zr3 l v1 known).length:=by
 rw [Zww,Zww];have hp:=Zx9 l h known;have hl:=Zxb (Zwd l v1 known);generalize Zr3 l v1 known=A at *;generalize Zr3 l v2 known=B at *;have hB:B.filterMap (Zvv l)=A.filterMap (Zvv l)++(B.drop A.length).filterMap (Zvv l):=by
  conv=>lhs;rw [←ZEW A.length B,←hp,List.filterMap_append]
 rw [hB,(Zxa _ _).2];have h2:=ZyW (A.filterMap (Zvv l));rw [ZFQ (by omega),ZEo (by omega)]
theorem ZCm (l:List Ver) {v1 v2:Int} (h:v1≤v2) (known:Int):(Zr3 l v1 known).length≤(Zr3 l v2 known).length:=by
 have:=congrArg List.length (Zx9 l h known);rw [ZEF] at this;omega
theorem ZCk:∀ (D:List (Int×Event)) (st:Sta×List Int),Jx st.1=true→Jx (D.foldl Zvu st).1=true
 | [],_,h=>h
 | x::D,st,h=>by
  rw [ZEH];refine ZCk D _ ?_;show Jx (Zvx st.1 x.1 x.2)=true
  unfold Zvx;cases c1:ZoN st.1 x.1 x.2==0 with
  | false=>exact h
  | true=>
   cases c2:Qk st.1 x.1 x.2==0 with
   | false=>exact h
   | true=>exact ZeC (by simpa using c2)
theorem ZCn:Jx Yh=true:=rfl
theorem ZCl (l:List Ver) (valid known:Int):Jx (Zr5 l valid known).1=true:=by
 rw [Zww];exact ZCk _ _ ZCn
end Go.AM
namespace Go.AM
open Go
end Go.AM
namespace Go.AM
open Go
def ZAD (valid:Int) (e:Event):Bool:=decide (e.Day≤valid)
def atP (known:Int) (v:Ver):Bool:=decide (v.At≤known)
def Zxe (valid:Int) (v:Ver):Ver:={ v with Events:=⟨false,v.Events.l.filter (ZAD valid)⟩ }
def Zwh (l:List Ver) (valid known:Int):List Ver:=(l.filter (atP known)).map (Zxe valid)
theorem Zz4 {α:Type} (f g:α→Nat) (P:α→Bool) (hfg:∀ x,g x≤f x):∀ l:List α,((l.filter P).map g).sum≤(l.map f).sum
 | []=>ZDZ _
 | x::r=>by
  have ih:=Zz4 f g P hfg r;have:=hfg x;rw [List.filter_cons,ZE2,List.sum_cons];cases P x with
  | true=>rw [if_pos rfl,ZE2,List.sum_cons];omega
  | false=>rw [if_neg ZGz];omega
theorem FewS.known {l:List Ver} (h:FewS l) (valid known:Int):FewS (Zwh l valid known):=by
 have hl:(Zwh l valid known).length≤l.length:=by unfold Zwh;rw [ZE1];exact ZFq _ _
 refine ⟨by have:=h.len;omega,fun u hu e he=>?_,?_⟩
 ·unfold Zwh at hu;obtain ⟨v,hv,rfl⟩:=ZEn.1 hu;exact h.few v (ZFo.1 hv).1 e (ZFo.1 he).1
 ·have h1:=h.sum;rw [ZAo] at h1 ⊢;unfold Zwh;rw [ZF3];have h2:((l.filter (atP known)).map ((fun v:Ver=>v.Events.l.length) ∘ Zxe valid)).sum≤(l.map (fun v=>v.Events.l.length)).sum:=Zz4 (fun v:Ver=>v.Events.l.length) ((fun v:Ver=>v.Events.l.length) ∘ Zxe valid) (atP known) (fun v=>by show (List.filter _ _).length≤_;exact ZFq _ _) l
  omega
end Go.AM
namespace Go.AM
open Go
theorem ZAE (L:List Ver):Z4 (L.map Ver.enc)=true:=Zw (fun v=>by have:=Zyt v;unfold Z4 at this;rw [ZDX] at this;exact this.1) L
end Go.AM
namespace Go.AM
open Go
def hdA:Event:={ zEv with Kind:=1,Day:=3,A:=1,Id:=B [109,49],Path:=⟨false,[⟨0,0⟩,⟨20,0⟩,⟨20,20⟩,⟨0,20⟩]⟩ }
def hdS (d:Int):Event:={ zEv with Kind:=2,Day:=d,Id:=B [115,49],Path:=⟨false,[⟨2,2⟩,⟨9,2⟩]⟩ }
def hdV (n t:Int) (es:List Event):Ver:=⟨1,n,t,emp,⟨false,es⟩,0,⟨false,[]⟩,⟨false,[]⟩⟩
def hd0:List Ver:=[hdV 1 5 [hdA,hdS 2]]
def hd1:List Ver:=[hdV 1 5 [hdA,hdS 2],hdV 2 7 [hdS 6]]
theorem ZAF:ZvT hd0 16=true:=by decide +kernel
theorem ZAG:ZvT hd1 16=true:=by decide +kernel
theorem ZAH:Zr3 hd0 9 9=[(0,1),(0,0)]:=by decide +kernel
theorem ZAI:(Zr5 hd0 9 9).2=[18,0]:=by decide +kernel
theorem ZAJ:(Zr5 hd0 9 9).1.Regions.map (fun r=>Z3 r.Id (B [109,49]))=[true]:=by decide +kernel
theorem ZAK:(Zr5 hd0 9 9).1.Streets.length=0:=by decide +kernel
theorem ZAL:Zr3 hd0 9 4=[]:=by decide +kernel
theorem ZAM:Zr3 hd0 1 9=[]:=by decide +kernel
theorem ZAN:(Zr5 hd1 6 7).1.Streets.length=1:=by decide +kernel
theorem ZAO:Zvp hd1 9=[3,6]:=by decide +kernel
theorem Zz5 {l:List Ver} {v k:Int} (h:Zr3 l v k=[]):Zr5 l v k=(Yh,[]):=by
 unfold Zr5;rw [h];rfl
end Go.AM
namespace Go.AM
open Go
theorem ZAP {V:NL Ver} (h:FewS V.l) (valid known:Int):StE (Zr5 V.l valid known).1:=by
 have h1:=Zwf V.l valid known;have h2:=h.sum;have:=(Zx3 h.vs (Zr3 V.l valid known) 0 (Yh,[]) (StN.zero 0) (by omega)).1
 exact this.e
theorem ZCo {a:Int} (h0:0≤a) (h1:a≤255):IntKind.i64.wrap a=a:=YM (by omega) (by omega)
theorem ZCp (hup:pfn rE 8 []=some (.bool true)) (V:NL Ver) (hm:∀ v∈V.l,v.Events.l.length≤140737488355328) (valid later known:Int) (hv:-9223372036854775808≤valid) (h0:0≤later) (h1:later≤255):
 pfn rE 3 [vsA V,I valid,.int .u8 later,I known]=some (.bool true):=by
 have hF:=ZAm V 16 hm;rw [Z5 (f:=3) rfl rfl];cases c1:ZvT V.l 16 with
 | false=>rw [c1] at hF;simp only [go_sem,qy,qq,qx,qz,qv,qk,reduceIte,c3,hup,hF]
 | true=>
  rw [c1] at hF;cases c2:decide (valid > 100000) with
  | true=>simp only [go_sem,qy,qq,qx,qz,qv,qk,reduceIte,c3,hup,hF,c2]
  | false=>
   have hfew:=Zx5 c1;have hv2:=of_decide_eq_false c2;have hw0:=ZCo h0 h1;have hw:IntKind.i64.wrap (valid+later)=valid+later:=YM (by omega) (by omega)
   have hO1:=Zx1 V hfew.vs.s valid known;have hO2:=Zx1 V hfew.vs.s (valid+later) known;have hA1:=Zwg V hfew valid known;have hA2:=Zwg V hfew (valid+later) known;have hle:valid≤valid+later:=by omega
   have hp:=Zx9 V.l hle known;have he:=ZAx V.l hle known;have hlen:=ZCm V.l hle known;have n1:=Zx6 V.l valid known;have n2:=Zx6 V.l (valid+later) known;have p1:=ZCl V.l valid known;have p2:=ZCl V.l (valid+later) known;have q1:=Z3i _ (ZAP hfew valid known);have q2:=Z3i _ (ZAP hfew (valid+later) known);rw [p1] at q1;rw [p2] at q2;have hs1:=Zwf V.l valid known;have hs2:=hfew.sum;have hc1:=ZsZ (Zr5 V.l valid known).1;have hc2:=ZsZ (Zr5 V.l (valid+later) known).1;have hr1:=ZAi (Zr3 V.l valid known) (by omega)
   have hr2:=ZAk (Zr5 V.l valid known).2 (by omega)
   generalize Zr3 V.l valid known=A at *;generalize Zr3 V.l (valid+later) known=C at *;generalize Zr5 V.l valid known=st1 at *;generalize Zr5 V.l (valid+later) known=st2 at *;obtain ⟨s1,E1⟩:=st1;obtain ⟨s2,E2⟩:=st2;dsimp only at *;have b1:∀ n,Zj n (.row 7 [stA s1])=true:=fun n=>ZN (n:=n) [stA s1] hc1
   have b2:∀ n,Zj n (.row 7 [stA s2])=true:=fun n=>ZN (n:=n) [stA s2] hc2
   have m1:((E1.length:Int) != (A.length:Int))=false:=by rw [n1];simp
   have m2:((E2.length:Int) != (C.length:Int))=false:=by rw [n2];simp
   have m3:decide ((A.length:Int) > (C.length:Int))=false:=decide_eq_false (by omega)
   have t1:(C.map prA).take A.length=A.map prA:=by rw [←List.map_take,←hp]
   have t2:(E2.map I).take A.length=E1.map I:=by rw [←List.map_take,←he]
   have hz:∀ n,Zj n (.row 7 [.agg HE])=true:=fun n=>rfl
   simp only [HE] at hz;have k1:bounds none (some (I A.length)) none C.length=some (0,A.length,none):=DT (by omega)
   have k2:bounds none (some (I A.length)) none E2.length=some (0,A.length,none):=DT (by omega)
   simp only [go_sem,qy,qq,qx,qz,qv,qk,reduceIte,ZE1,k1,k2,c3,hup,hF,c2,hw0,hw,hO1,hO2,hA1,hA2,m1,m2,m3,q1,q2,b1,b2,hz,t1,t2,hr1,hr2,ZEM,ZFT]
end Go.AM
namespace Go.AM
open Go
end Go.AM
namespace Go.AM
open Go
end Go.AM
namespace Go.AM
open Go
theorem c8_eq:c8=.seq s8p0 (.seq s8p1 (.seq s8p2 (.seq s8p3 (.seq s8p4 (.seq s8p5 (.seq s8p6 (.seq s8p7 (.seq s8p8 (.seq s8p9 (.seq s8p10 (.seq s8p11 (.seq s8p12 .ret)))))))))))):=rfl
theorem ZAS {h:Hp} {sz bytes:Nat} {es ys:List AV} {bw ex:Bool} (hy:ys.isEmpty=false) (h0:0 < sz) (h1:0 < bytes) (h2:(es.length+ys.length) * bytes≤70368744177664) (hc:Z4 (es++ys)=true):
 ZwE h sz bytes (.isl bw true sz es) (.isl false ex sz ys)=some (.isl false false sz (es++ys),h++[.gone]):=by
 have e0:Qt h h.length false sz bytes (.isl bw true sz es) (.isl false ex sz ys)=some (.sl h.length (es++ys).length 0 (es++ys).length false,[],some (h.length,.row sz (es++ys))):=by
  simp only [Qt,Q2,Qq,beq_self_eq_true,ZEb,h0,h1,h2,and_self,if_true,hy,cond_false,Yp,Zs,ZE8]
 unfold ZwE Zwk;rw [e0];have e2:(h.length==h.length&&((es++ys).length==(es++ys).length&&Z4 (es++ys)))=true:=by rw [hc];simp
 have e3:setH h h.length .gone=h++[.gone]:=by
  unfold setH;have:Nat.blt h.length h.length=false:=by rw [ZFp];intro hh;simp at hh
  rw [this,cond_false]
 simp only [ZvE,e2,cond_true,ZEM,ZEu,ZM,ZH,e3]
theorem ZAT:pfn rE 8 []=some (.bool true):=by
 have f0:=Zx5 ZAF;have f1:=Zx5 ZAG;have o1:=Zx1 ⟨true,hd0⟩ f0.vs.s 9 9;have a1:=Zwg ⟨true,hd0⟩ f0 9 9;have a2:=Zwg ⟨true,hd0⟩ f0 9 4;have a3:=Zwg ⟨true,hd0⟩ f0 1 9;have a4:=Zwg ⟨false,hd1⟩ f1 6 7;have a5:=ZyM ⟨false,hd1⟩ f1.vs 9 (by show (Zr3 hd1 100000 9).length≤40;have h3:=Zwf hd1 100000 9;have h4:=f1.sum;omega)
 dsimp only at o1 a1 a2 a3 a4 a5;rw [ZAH] at o1;rw [ZAI] at a1;rw [Zz5 ZAL] at a2;rw [Zz5 ZAM] at a3;rw [ZAO] at a5;have p1:=ZAi [(0,1),(0,0)] (by decide)
 have p2:=ZAk [18,0] (by decide)
 have p3:=ZAl [3,6] (by decide)
 have h16:pfn rE 16 [stA Yh,.agg HE]=some (.bool true):=ZbM Yh Zx2;have hr:=ZAJ;have hs:=ZAK;have ht:=ZAN;have c1:=ZsZ (Zr5 hd0 9 9).1;have c2:=ZsZ (Zr5 hd1 6 7).1;generalize (Zr5 hd0 9 9).1=S at *;generalize Zr5 hd1 6 7=st2 at *;obtain ⟨T,E2⟩:=st2;dsimp only at *;have bS:∀ n,Zj n (.row 7 [stA S])=true:=fun n=>ZN (n:=n) [_] c1
 have bT:∀ n,Zj n (.row 7 [stA T])=true:=fun n=>ZN (n:=n) [_] c2
 have bZ:∀ n,Zj n (.row 7 [.agg HE])=true:=fun n=>rfl
 have bz:∀ n,Zj n (.row 7 [stA Yh])=true:=fun n=>ZN (n:=n) [_] (ZsZ Yh)
 obtain ⟨r,hR,hid⟩:∃ r,S.Regions=[r]∧Z3 r.Id (B [109,49])=true:=by
  cases hh:S.Regions with
  | nil=>rw [hh] at hr;cases hr
  | cons x t=>
   cases t with
   | nil=>rw [hh] at hr;exact ⟨x,rfl,by simpa using hr⟩
   | cons _ _=>rw [hh] at hr;simp at hr
 have hS:S.Streets=[]:=List.eq_nil_of_length_eq_zero hs;have hT:((T.Streets.length:Int)==1)=true:=by rw [ht];rfl
 simp only [HE] at bZ h16;rw [Z5 (f:=8) rfl rfl,c8_eq];have o1':pfn rE 10 [vsA ⟨true,hd0⟩,I 9,I 9]=some (.isl false false 2 [.agg [I 0,I 1],.agg [I 0,I 0]]):=o1;have p1':pfn rE 13 [.isl false false 2 [.agg [I 0,I 1],.agg [I 0,I 0]],.isl false false 2 [.agg [I 0,I 1],.agg [I 0,I 0]]]=some (.bool true):=p1;have hcS:Z4 [stA Yh]=true:=ZsZ Yh;simp only [vsA,hd0,hd1,hdV,hdA,hdS,zEv,Ver.enc,evA,Pt.enc,ZE2,ZEm] at o1' a1 a2 a3 a4 a5 p2 p3;have z0:decide (((0:Nat):Int) > 0)=false:=rfl;have z1:(((1:Nat):Int) != 1)=false:=rfl;have hap:=fun (h:Hp)=>ZAS (h:=h) (sz:=8) (bytes:=120) (es:=[(hdV 1 5 [hdA,hdS 2]).enc]) (ys:=[(hdV 2 7 [hdS 6]).enc]) (bw:=false) (ex:=false) rfl (by decide) (by decide) (by decide) (ZAE [hdV 1 5 [hdA,hdS 2],hdV 2 7 [hdS 6]])
 simp only [hdV,hdA,hdS,zEv,Ver.enc,evA,Pt.enc,ZE2,ZEm,ZE4,ZE6] at hap;have hix:∀ x:AV,ixG [x] 0=some x:=fun _=>rfl
 have y18:((18:Int)==18)=true:=rfl;simp only [go_sem,qy,qq,qx,qz,qv,qk,reduceIte,s8p0,s8p1,s8p2,s8p3,s8p4,s8p5,s8p6,s8p7,s8p8,s8p9,s8p10,s8p11,s8p12,o1',p1',a1,a2,a3,a4,a5,p2,p3,h16,bS,bT,bZ,bz,hap,hR,Region.enc,hix,hid,hS,hT,z0,z1,ZE2,ZEm,ZEh,ZEJ]
end Go.AM
