/- What the functions of the program compute, part 3, for WatchQuiet. No condition. -/
import Derived.Test.YtleidcbidcdaiaaGreatDoorP8b
import Derived.Test.YtleidcbidcdaiaaGreatDoorQ5
set_option linter.unusedVariables false
set_option linter.unusedSimpArgs false
set_option linter.unusedSectionVars false
open Nat renaming reduceAdd → qq, reduceSub → qx, reduceMul → qz, reduceLT → qv, reduceLeDiff → qk, reduceBEq → qy
namespace Go.AM
open Go
theorem Ze0:∀ (l:List Pair) (K:List Int) (b:Int),(l.foldl (fun K p=>Qi Vm K p.b) K).any (Vm b)=true→K.any (Vm b)=true∨∃ p∈l,p.b=b
 | [],K,b,h=>Or.inl h
 | p::r,K,b,h=>by
  rw [ZPl] at h;rcases Ze0 r _ b h with h1 | ⟨q,hq,hb⟩
  ·unfold Qi at h1;cases hc:K.any (Vm p.b) with
   | true=>rw [hc,cond_true] at h1;exact Or.inl h1
   | false=>
    rw [hc,cond_false,List.any_append,ZPq] at h1;rcases h1 with h1 | h1
    ·exact Or.inl h1
    ·refine Or.inr ⟨p,ZOv ..,?_⟩;unfold Vm at h1;simp at h1;exact h1.symm
  ·exact Or.inr ⟨q,ZOP _ hq,hb⟩
theorem ZeA {s:Sta} {a:Int} {e:Event} (h:Prop' s) (he:Q9 e=true) (hk:e.Kind=13) (h0:Hn (wk0 s a e)=0):Prop' (Ho (wk0 s a e)).s:=by
 have hn:K5 e.A e.B=true:=by have:=ZcV he;rw [ZcW hk] at this;exact this
 have ws:(wk0 s a e).s=s:=rfl;have we:(wk0 s a e).e=e:=rfl;unfold K5 at hn;simp only [ZO2] at hn;obtain ⟨n1,n2,n3⟩:=hn;have w0:ZD 0 (-1) 100000=true:=rfl;have hpo:Y2 ⟨e.A,e.B⟩=true:=by
  show (QM e.A 0 0&&(QM e.B 0 0&&!(e.A==e.B)))=true
  unfold QM;rw [n1,n2,w0,Zdf];simpa using n3
 have hA0:0≤e.A:=by
  unfold ZD at n1;simp only [ZO2,decide_eq_true_eq] at n1;exact n1.1
 unfold Hn at h0;rw [ws,we] at h0;cases c1:decide (XJ s e.B ≥ 0) with
 | true=>rw [c1] at h0;cases h0
 | false=>
 cases c2:WN s e.B (s.Merged.length+2) e.A with
 | true=>rw [c1,c2] at h0;cases h0
 | false=>
 have hp:=h.pa;unfold WK at hp;simp only [ZO2] at hp;obtain ⟨p1,p2,p3⟩:=hp;unfold UB at p1;rw [Zda] at p1;have hpk:∀ q∈s.Merged,Y2 q=true:=by
  intro q hq;obtain ⟨j,hj⟩:=ZPV.1 hq;have:=p1 j q hj;rw [ZO2] at this;exact this.1
 have hq0:∀ q∈s.Merged,0≤q.a:=by
  intro q hq;have:=hpk q hq;unfold Y2 QM ZD at this;simp only [ZO2,decide_eq_true_eq] at this;exact this.1.1.1
 have hno:∀ q∈s.Merged,q.b≠e.B:=by
  intro q hq hb;have:=of_decide_eq_false c1;unfold XJ at this;cases hf:s.Merged.find? (fun p=>p.b==e.B) with
  | none=>
   have h2:=ZQb.1 hf q hq;exact h2 (by rw [hb];exact beq_self_eq_true _)
  | some p=>
   rw [hf] at this;have h3:=hq0 p (ZQB hf);exact this h3
 have ht:(Ho (wk0 s a e)).s={ s with Merged:=s.Merged++[⟨e.A,e.B⟩] }:=rfl
 rw [ht];refine ⟨h.rg,h.st,h.bu,fun i d hd=>h.dr i d hd,h.un,h.ids,?_⟩
 have tk:∀ x,XJ { s with Merged:=s.Merged++[⟨e.A,e.B⟩] } x=if x=e.B then e.A else XJ s x:=by
  intro x;show (match (s.Merged++[(⟨e.A,e.B⟩:Pair)]).find? (fun p:Pair=>p.b==x) with | some p=>p.a | none=>-1)=_
  rw [List.find?_append];by_cases hx:x=e.B
  ·rw [if_pos hx];have hf:s.Merged.find? (fun p=>p.b==x)=none:=by
    rw [ZQb];intro q hq hc;exact hno q hq (by rw [←hx];simpa using hc)
   rw [hf,Option.none_or];have:List.find? (fun p:Pair=>p.b==x) [⟨e.A,e.B⟩]=some (⟨e.A,e.B⟩:Pair):=by
    rw [hx];simp
   rw [this]
  ·rw [if_neg hx];have:List.find? (fun p:Pair=>p.b==x) [⟨e.A,e.B⟩]=none:=by
    rw [ZQb];intro q hq;rw [ZOi] at hq;subst hq;intro hc;exact hx (show e.B=x by simpa using hc).symm
   rw [this,Option.or_none];rfl
 have hA:∀ n m x,m≤n→chN s m x=true→WN s e.B (n+1) x=false→∃ j,chN { s with Merged:=s.Merged++[⟨e.A,e.B⟩] } j x=true:=by
  intro n;induction n with
  | zero=>
   intro m x hm hc _;have:m=0:=by omega
   subst this;exact ⟨0,hc⟩
  | succ n ih=>
   intro m x hm hc hz;cases hx:decide (x ≥ 0) with
   | false=>exact ⟨0,by unfold chN;rw [hx];rfl⟩
   | true=>
    unfold WN at hz;rw [hx,cond_true] at hz;cases hb:x==e.B with
    | true=>rw [hb] at hz;cases hz
    | false=>
     rw [hb,cond_false] at hz;cases m with
     | zero=>
      unfold chN at hc;rw [hx] at hc;cases hc
     | succ m=>
      unfold chN at hc;rw [hx,cond_true] at hc;obtain ⟨j,hj⟩:=ih m (XJ s x) (by omega) hc hz
      refine ⟨j+1,?_⟩;unfold chN;rw [hx,cond_true,tk,if_neg (by simpa using hb)]
      exact hj
 have hchA:chN s (s.Merged.length+1) e.A=true:=by
  by_cases hin:∃ q∈s.Merged,q.b=e.A
  ·obtain ⟨q,hq,hb⟩:=hin;have:=ZO8.1 p3 q hq;rw [hb] at this;exact this
  ·have hf:XJ s e.A=-1:=by
    unfold XJ;have:s.Merged.find? (fun p=>p.b==e.A)=none:=by
     rw [ZQb];intro q hq hc;exact hin ⟨q,hq,by simpa using hc⟩
    rw [this]
   unfold chN;rw [hf];cases decide (e.A ≥ 0) with
   | false=>rfl
   | true=>
    rw [cond_true];cases s.Merged.length with
    | zero=>rfl
    | succ n=>rfl
 obtain ⟨jA,hjA⟩:=hA (s.Merged.length+1) (s.Merged.length+1) e.A (ZO4 _) hchA c2;have hX:∀ n x,chN s n x=true→∃ j,chN { s with Merged:=s.Merged++[⟨e.A,e.B⟩] } j x=true:=by
  intro n;induction n with
  | zero=>intro x hc;exact ⟨0,hc⟩
  | succ n ih=>
   intro x hc;cases hx:decide (x ≥ 0) with
   | false=>exact ⟨0,by unfold chN;rw [hx];rfl⟩
   | true=>
    by_cases hb:x=e.B
    ·refine ⟨jA+1,?_⟩;unfold chN;rw [hx,cond_true,tk,if_pos hb];exact hjA
    ·unfold chN at hc;rw [hx,cond_true] at hc;obtain ⟨j,hj⟩:=ih _ hc;refine ⟨j+1,?_⟩;unfold chN;rw [hx,cond_true,tk,if_neg hb];exact hj
 unfold WK;simp only [ZO2];refine ⟨?_,p2,?_⟩
 ·unfold UB;rw [Zda];intro j q hq;have hq':(s.Merged++[⟨e.A,e.B⟩])[j]? = some q:=hq;rw [ZOf];by_cases hl:j < s.Merged.length
  ·rw [ZOz hl] at hq';have:=p1 j q hq';rw [ZOf] at this;have e1:QV (s.Merged++[⟨e.A,e.B⟩]) j=QV s.Merged j:=by
    unfold QV;rw [ZQq (by omega)]
   show (Y2 q&&!(QV (s.Merged++[⟨e.A,e.B⟩]) j).any (Vm q.b))=true
   rw [e1];exact this
  ·rw [ZOA (by omega)] at hq'
   have:=ZOh hq';rw [ZOi] at this;subst this;have hj:j=s.Merged.length:=by
    have:=(ZO7.1 hq').1;simp at this;omega
   show (Y2 ⟨e.A,e.B⟩&&!(QV (s.Merged++[⟨e.A,e.B⟩]) j).any (Vm e.B))=true
   rw [hpo,ZOq,ZOn];cases hc:(QV (s.Merged++[⟨e.A,e.B⟩]) j).any (Vm e.B) with
   | false=>rfl
   | true=>
    exfalso;unfold QV at hc;rw [hj,ZQq (ZO4 _),ZOE] at hc;rcases Ze0 _ _ _ hc with h1 | ⟨q,hq,hb⟩
    ·cases h1
    ·exact hno q hq hb
 ·rw [ZO8];intro q hq;have hex:∃ j,chN { s with Merged:=s.Merged++[⟨e.A,e.B⟩] } j q.b=true:=by
   rcases ZOu.1 hq with h1 | h1
   ·exact hX _ _ (ZO8.1 p3 q h1)
   ·rw [ZOi] at h1;subst h1;refine ⟨jA+1,?_⟩;show chN _ (jA+1) e.B=true
    unfold chN;cases decide (e.B ≥ 0) with
    | false=>rfl
    | true=>
     rw [cond_true,tk,if_pos rfl];exact hjA
  obtain ⟨j,hj⟩:=hex;exact Zez (s:={ s with Merged:=s.Merged++[⟨e.A,e.B⟩] }) hj
end Go.AM
namespace Go.AM
open Go
theorem ZeB {s:Sta} {a:Int} {e:Event} (hp:Jx s=true) (ha:QM a 0 0=true) (he:Q9 e=true) (h0:Q1 (wk0 s a e)=0):Prop' (stepW (wk0 s a e)).s:=by
 have h:=((Zdb s).1 hp).1;have hkind:e.Kind=1∨e.Kind=2∨e.Kind=3∨e.Kind=4∨e.Kind=5∨e.Kind=6∨e.Kind=7∨e.Kind=8∨e.Kind=9∨e.Kind=10∨e.Kind=11∨e.Kind=12∨e.Kind=13∨e.Kind=14∨e.Kind=15:=by
  unfold Q9 at he;simp only [ZO2] at he;have:=he.1;unfold ZD at this;simp only [ZO2,decide_eq_true_eq] at this;omega
 have we:(wk0 s a e).e=e:=rfl;unfold Q1 at h0;unfold stepW;rw [we] at h0 ⊢;rcases hkind with hk | hk | hk | hk | hk | hk | hk | hk | hk | hk | hk | hk | hk | hk | hk<;>rw [hk] at h0 ⊢
 ·exact Zek h hp ha he hk h0
 ·exact Zee h ha he hk (Zdo h0)
 ·exact Zen h hp he hk
 ·exact Zem h hp h0
 ·exact Zef h ha he hk (Zdo h0)
 ·exact Zeh h ha he hk h0
 ·exact Zej h he hk h0
 ·exact Zeq h he hk h0
 ·exact Zeu h ha he hk h0
 ·exact Zev h ha he hk h0
 ·exact Zex h he hk h0
 ·exact Zey h he hk h0
 ·exact ZeA h he hk h0
 ·exact Zel h he hk
 ·exact Zei h ha he hk (Zdo h0)
theorem ZeC {s:Sta} {a:Int} {e:Event} (h:Qk s a e=0):Jx (ZP s a e)=true:=by
 obtain ⟨h1,h2,h3,h4⟩:=ZbV h;obtain ⟨p1,p2,p3⟩:=ZbX h1;rw [h4,Zdb];exact ⟨ZeB p1 p2 p3 h2,h3⟩
end Go.AM
namespace Go.AM
open Go
theorem ZbD {α:Type} {Q:α→Prop} {f:α→α} {l:List α} {k:Nat} (h:∀ x∈l,Q x) (hf:∀ x,Q x→Q (f x)):∀ x∈ZK l k f,Q x:=by
 unfold ZK;split
 ·rename_i x hx;intro y hy;rcases ZQe hy with h1 | rfl
  ·exact h y h1
  ·exact hf x (h x (ZOh hx))
 ·exact h
theorem Zd9 {α:Type} {Q:α→Prop} {l m:List α} (h:∀ x∈l,Q x) (hm:∀ x∈m,Q x):∀ x∈l++m,Q x:=fun x hx=>by
 rcases ZOu.1 hx with h1 | h1
 ·exact h x h1
 ·exact hm x h1
theorem Zdi {α:Type} {Q:α→Prop} {y:α} (h:Q y):∀ x∈[y],Q x:=fun x hx=>by rw [ZOi] at hx;subst hx;exact h
structure SizeOk (s:Sta):Prop where
 rg:∀ x∈s.Regions,x.Names.l.length≤100∧x.Ring.l.length≤100∧x.Id.size≤1000
 st:∀ x∈s.Streets,x.Names.l.length≤100∧x.Line.l.length≤100∧x.Id.size≤1000
 bu:∀ x∈s.Buildings,x.Ring.l.length≤100∧x.Id.size≤1000
 dr:∀ x∈s.Doors,DoS x
 un:∀ x∈s.Units,x.Id.size≤1000∧x.Door.size≤1000∧x.Text.size≤1000
theorem Zdr {w:Wk} {k:Nat} {a:NL Str} (h:SizeOk w.s) (ha:a.l.length≤100) (hi:∀ id∈a.l,id.size≤1000):SizeOk (Qf w k a).s:=by
 unfold Qf;split
 ·rename_i x hx;refine ⟨h.rg,h.st,h.bu,ZbD h.dr (fun d hd=>⟨ha,hd.id,hd.building,hd.street,hd.veil⟩),fun u hu=>?_⟩
  obtain ⟨v,hv,rfl⟩:=ZOr.1 hu;have h0:=h.un v hv;unfold XO;cases Z3P x.Id v with
  | false=>exact h0
  | true=>
   rw [cond_true];unfold UG;split
   ·rename_i id r hc;exact ⟨h0.1,hi id (by rw [hc];exact ZOv ..),h0.2.2⟩
   ·exact h0
 ·exact h
theorem ZdB {w:Wk} {d:Door} (h:SizeOk w.s) (hd:DoS d):SizeOk (Qw w d).s:=
 ⟨h.rg,h.st,h.bu,Zd9 h.dr (Zdi ⟨hd.after,hd.id,hd.building,hd.street,hd.veil⟩),h.un⟩
theorem Ze1 {a:NL Str} (ha:a.l.length≤100) (hi:∀ id∈a.l,id.size≤1000):∀ (l:List Int) (w:Wk),SizeOk w.s→SizeOk (Yg w l a).s
 | [],_,h=>h
 | k::r,w,h=>Ze1 ha hi r (Qf w k.toNat a) (Zdr h ha hi)
theorem Ze2 {w:Wk} {l:List Door} (h:SizeOk w.s):∀ i,SizeOk (Y6 w l i).s
 | 0=>h
 | i+1=>by
  have ih:=Ze2 (w:=w) (l:=l) h i;unfold Y6;split
  ·rename_i x hx;cases NV w.e.Id x with
   | false=>exact ih
   | true=>exact Zdr ih (ZO5 _) (fun id hc=>by cases hc)
  ·exact ih
theorem Ze3 {D:List Door} {l:List Ent} (h:∀ x∈D,DoS x):∀ i,∀ x∈Yn D l i,DoS x
 | 0=>h
 | i+1=>by
  have ih:=Ze3 (l:=l) h i;unfold Yn;split
  ·exact ZbD ih (fun d hd=>⟨hd.after,hd.id,hd.building,hd.street,hd.veil⟩)
  ·exact ih
theorem Ze4 {s:Sta} (h:SizeOk s) (k:Nat):(JF s k).l.length≤100:=by
 unfold JF;split
 ·rename_i x hx;exact (h.st x (ZOh hx)).1
 ·exact ZO5 _
theorem Zdj:emp.size≤1000:=ZO5 _
theorem ZeG {w:Wk} (h:SizeOk w.s) (he:EvS w.e) (hL:∀ x∈w.e.Lst.l,x.Id.size≤1000):SizeOk (stepW w).s:=by
 unfold stepW;split
 ·refine ⟨?_,h.st,h.bu,h.dr,h.un⟩;unfold Hj;cases decide (Qo w.s w.e.Id < 0) with
  | true=>exact Zd9 h.rg (Zdi ⟨ZO5 _,he.path,he.id⟩)
  | false=>exact ZbD h.rg (fun x hx=>⟨hx.1,he.path,hx.2.2⟩)
 ·exact ⟨h.rg,Zd9 h.st (Zdi ⟨ZO5 _,he.path,he.id⟩),h.bu,h.dr,h.un⟩
 ·unfold Hl;cases decide (Qo w.s w.e.Id ≥ 0) with
  | true=>exact ⟨ZbD h.rg (fun x hx=>⟨he.names,hx.2⟩),h.st,h.bu,h.dr,h.un⟩
  | false=>exact ⟨h.rg,ZbD h.st (fun x hx=>⟨he.names,hx.2⟩),h.bu,h.dr,h.un⟩
 ·exact ⟨h.rg,ZbD (ZbD h.st (fun x hx=>⟨Ze4 h _,hx.2⟩)) (fun x hx=>⟨Ze4 h _,hx.2⟩),h.bu,h.dr,h.un⟩
 ·exact ⟨h.rg,h.st,Zd9 h.bu (Zdi ⟨he.path,he.id⟩),h.dr,h.un⟩
 ·exact ZdB h ⟨ZO5 _,he.id,he.other,he.text,Zdj⟩
 ·exact ⟨h.rg,h.st,h.bu,h.dr,Zd9 h.un (Zdi ⟨he.id,he.other,he.text⟩)⟩
 ·exact ⟨h.rg,h.st,h.bu,Ze3 h.dr _,h.un⟩
 ·unfold Kb;split
  ·rename_i d hd;have hd':=h.dr d (ZOh hd);refine Zdr (w:=Y5 w d w.e.Lst.l) ⟨h.rg,h.st,h.bu,Zd9 h.dr (fun y hy=>?_),h.un⟩ ?_ (fun id hid=>?_)
   ·obtain ⟨x,hx,rfl⟩:=ZOr.1 hy;exact ⟨ZO5 _,hL x hx,hd'.building,hd'.street,Zdj⟩
   ·rw [ZO3];exact he.lst
   ·obtain ⟨x,hx,rfl⟩:=ZOr.1 hid;exact hL x hx
  ·exact h
 ·unfold Kd;split
  ·rename_i d hd;have hd':=h.dr d (ZOh hd);exact Ze1 (a:=⟨false,[w.e.Id]⟩) (by simp) (fun id hid=>by rw [ZOi] at hid;subst hid;exact he.id) _ _ (ZdB h ⟨ZO5 _,he.id,hd'.building,hd'.street,Zdj⟩)
  ·exact h
 ·unfold Ht;exact Ze2 (w:=JH w (ZK w.s.Buildings (Y1 w.s w.e.Id).toNat (Ke w.e))) ⟨h.rg,h.st,ZbD (f:=Ke w.e) h.bu (fun x hx=>hx),h.dr,h.un⟩ _
 ·unfold Hy;cases Kg w.s w.e.Id with
  | true=>exact ⟨ZbD h.rg (fun x hx=>hx),h.st,h.bu,h.dr,h.un⟩
  | false=>
  cases Kh w.s w.e.Id with
  | true=>exact ⟨h.rg,ZbD h.st (fun x hx=>hx),h.bu,h.dr,h.un⟩
  | false=>
  cases Ki w.s w.e.Id with
  | true=>exact Zdr h (ZO5 _) (fun id hc=>by cases hc)
  | false=>exact ⟨h.rg,h.st,h.bu,h.dr,ZbD h.un (fun x hx=>hx)⟩
 ·exact ⟨h.rg,h.st,h.bu,h.dr,h.un⟩
 ·exact ⟨h.rg,h.st,h.bu,h.dr,h.un⟩
 ·exact ZdB h ⟨ZO5 _,he.id,Zdj,Zdj,he.text⟩
theorem ZeH (s:Sta) (hs:StF s) (a:Int) (e:Event) (he:EvS e) (hL:∀ x∈e.Lst.l,x.Id.size≤1000):StE (ZP s a e):=by
 unfold ZP;cases okB s a e&&(Q1 (wk0 s a e)==0&&Wh (stepW (wk0 s a e)).s.Doors) with
 | true=>
  have h:=ZeG (w:=wk0 s a e) ⟨hs.e.regions,hs.e.streets,hs.e.buildings,hs.e.doors,hs.e.units⟩ he hL;exact ⟨FN s hs a e he,h.rg,h.st,h.bu,h.dr,h.un⟩
 | false=>
  refine ⟨⟨ZO5 _,ZO5 _,ZO5 _,ZO5 _,ZO5 _,ZO5 _,ZO5 _⟩,?_,?_,?_,?_,?_⟩
  all_goals (intro x hx;cases hx)
end Go.AM
namespace Go.AM
open Go
def lvR (l:List Region):List Region:=l.filter (fun x=>x.Ended==-1)
end Go.AM
namespace Go.AM
open Go
def ZU (s:Str):Bool:=!decide ((s.size:Int) > 100)
theorem Vv (bw ex:Bool) (l:List Str) (hl:l.length < 9223372036854775807):pfn rE 33 [.isl bw ex 1 (l.map encS)]=some (.bool (l.all ZU)):=by
 have L:=Uf (E:=rE) (live:=[0,3]) (b:=c33L0b) (h:=[]) l (fun _ x=>ZU x) (fun i=>[(0,.isl bw ex 1 (l.map encS)),(3,I i)]) 0 (fun fr=>get fr 2=.bool false) (fun i=>rfl)
  (fun i x hx hP=>by
   have hg:=Z6 (f:=encS) hx;have hi:=Zh (Z7 hx);have hw:=Zx (n:=i) (by have:=Z7 hx;omega)
   have hP':decide ((x.size:Int) > 100)=false:=by simpa [ZU] using hP
   refine ⟨_,by simp only [go_sem,qy,reduceIte,c33L0b,hg,hi,hw,hP',encS];rfl,?_⟩
   simp only [go_sem,qy])
  (fun i x hx hP=>by
   have hg:=Z6 (f:=encS) hx;have hi:=Zh (Z7 hx);have hP':decide ((x.size:Int) > 100)=true:=by simpa [ZU] using hP
   refine ⟨_,by simp only [go_sem,qy,reduceIte,c33L0b,hg,hi,hP',encS];rfl,?_⟩
   simp only [go_sem,qy])
  (⟨_,by simp only [go_sem,qy,reduceIte,c33L0b,ZG];rfl⟩)
 rw [Z5 (f:=33) rfl rfl];rw [QE] at L;obtain ⟨fr',h1,h2⟩:=L;have h1':Zg rE [0,3] c33L0b [(0,.isl bw ex 1 (l.map encS)),(3,.int .i64 0)] []=_:=h1;cases hc:l.all ZU with
 | true=>rw [hc] at h1';simp only [go_sem,qy,qq,reduceIte,c33,c33L0,h1']
 | false=>
  rw [hc] at h1';have h2':=h2 hc;simp only [go_sem,qy,qq,reduceIte,c33,c33L0,h1',h2',ZOd]
theorem JK (a:Str):pfn rE 33 [.isl false false 1 [.str a]]=some (.bool ([a].all ZU)):=Vv false false [a] (by simp)
theorem HG (a b:Str):pfn rE 33 [.isl false false 1 [.str a,.str b]]=some (.bool ([a,b].all ZU)):=Vv false false [a,b] (by simp)
theorem FP (a b c:Str):pfn rE 33 [.isl false false 1 [.str a,.str b,.str c]]=some (.bool ([a,b,c].all ZU)):=Vv false false [a,b,c] (by simp)
theorem Z4y (a b c d:Str):pfn rE 33 [.isl false false 1 [.str a,.str b,.str c,.str d]]=some (.bool ([a,b,c,d].all ZU)):=Vv false false [a,b,c,d] (by simp)
theorem FQ (a b c d e:Str):pfn rE 33 [.isl false false 1 [.str a,.str b,.str c,.str d,.str e]]=some (.bool ([a,b,c,d,e].all ZU)):=Vv false false [a,b,c,d,e] (by simp)
theorem HH {α:Type} {l:List α} {n i:Nat} {x:α} (h:(l.take n)[i]? = some x):l[i]? = some x∧i < n:=by
 have hi:=Z7 h;rw [ZOY] at hi;rw [ZPA (by omega)] at h
 exact ⟨h,by omega⟩
theorem FR {α:Type} (l:List α):(decide ((((l.take 10).length:Nat):Int) < (l.length:Int))=true→decide ((((l.take 10).length:Nat):Int) < 10)=false):=by
 intro h;have:=of_decide_eq_true h;rw [ZOY] at *;exact decide_eq_false (by omega)
def M1 (x:Nm):Bool:=[x.Lang,x.Text].all ZU
def XQ (l:List Nm):Bool:=(l.take 10).all M1&&decide ((l.length:Int)≤10)
theorem UQ (ex:Bool) (l:List Nm):pfn rE 34 [.isl false ex 3 (l.map Nm.enc)]=some (.bool (XQ l)):=by
 have L:=QT (E:=rE) (live:=[0,3]) (b:=c34L0b) (h:=[]) (l.take 10) (fun _ x=>M1 x) (fun i=>[(0,.isl false ex 3 (l.map Nm.enc)),(3,I i)]) 0 (fun fr=>get fr 0=.isl false ex 3 (l.map Nm.enc)∧get fr 2=.bot) (fun fr=>get fr 2=.bool false) (fun i=>rfl)
  (fun i x hx hP=>by
   obtain ⟨hx',hi10⟩:=HH hx;have hg:=Z6 (f:=Nm.enc) hx';have hi:=Zh (Z7 hx');have hw:=Zx (n:=i) (by omega)
   have h10:decide ((i:Int) < 10)=true:=decide_eq_true (by omega)
   have hS:=HG x.Lang x.Text;have hP':[x.Lang,x.Text].all ZU=true:=hP;rw [hP'] at hS;refine ⟨_,by simp only [go_sem,qy,qq,qv,qk,reduceIte,c34L0b,hg,hi,hw,h10,Nm.enc,hS];rfl,?_⟩
   simp only [go_sem,qy])
  (fun i x hx hP=>by
   obtain ⟨hx',hi10⟩:=HH hx;have hg:=Z6 (f:=Nm.enc) hx';have hi:=Zh (Z7 hx');have h10:decide ((i:Int) < 10)=true:=decide_eq_true (by omega)
   have hS:=HG x.Lang x.Text;have hP':[x.Lang,x.Text].all ZU=false:=hP;rw [hP'] at hS;refine ⟨_,by simp only [go_sem,qy,qq,qv,qk,reduceIte,c34L0b,hg,hi,h10,Nm.enc,hS];rfl,?_⟩
   simp only [go_sem,qy])
  (by
   cases c:decide ((((l.take 10).length:Nat):Int) < (l.length:Int)) with
   | true=>
    have h10:=FR l c;exact ⟨_,by simp only [go_sem,qy,reduceIte,c34L0b,c,h10];rfl,by simp only [go_sem,qy],by simp only [go_sem,qy]⟩
   | false=>exact ⟨_,by simp only [go_sem,qy,reduceIte,c34L0b,c];rfl,by simp only [go_sem,qy],by simp only [go_sem,qy]⟩)
 rw [Z5 (f:=34) rfl rfl];rw [QE] at L;obtain ⟨fr',h1,h3,h2⟩:=L;have h1':Zg rE [0,3] c34L0b [(0,.isl false ex 3 (l.map Nm.enc)),(3,.int .i64 0)] []=_:=h1;unfold XQ;cases hc:(l.take 10).all M1 with
 | true=>
  rw [hc] at h1';obtain ⟨q0,q2⟩:=h3 hc;simp only [go_sem,qy,qq,reduceIte,c34,c34L0,h1',q0,q2]
 | false=>
  rw [hc] at h1';have h2':=h2 hc;simp only [go_sem,qy,qq,reduceIte,c34,c34L0,h1',h2',ZOd]
def M2 (x:Ent):Bool:=[x.Id,x.Number.Letter].all ZU
def FT (l:List Ent):Bool:=(l.take 10).all M2
abbrev evI (e:Event):AV:=.iptr false [I e.Kind,I e.Day,I e.A,I e.B,I e.Office,.str e.Id,.str e.Other,.str e.Text,.isl false e.Ids.ex 1 (e.Ids.l.map encS),.isl false e.Names.ex 3 (e.Names.l.map Nm.enc),
 I e.Number.N,.str e.Number.Letter,I e.Number.Num,I e.Number.Den,I e.Point.X,I e.Point.Y,.isl false e.Path.ex 2 (e.Path.l.map Pt.enc),.isl false e.Lst.ex 7 (e.Lst.l.map Ent.enc)]
def Xn (e:Event):Bool:=
 FT e.Lst.l&&([e.Id,e.Other,e.Text,e.Number.Letter].all ZU&&(decide ((e.Ids.l.length:Int)≤10)&&(e.Ids.l.all ZU&&(XQ e.Names.l&&(decide ((e.Path.l.length:Int)≤12)&&decide ((e.Lst.l.length:Int)≤10))))))
theorem Z4z (e:Event):pfn rE 20 [evA e]=some (.bool (Xn e)):=by
 have L:=QT (E:=rE) (live:=[1,3]) (b:=c20L0b) (h:=[]) (e.Lst.l.take 10) (fun _ x=>M2 x) (fun i=>[(1,evI e),(3,I i)]) 0 (fun fr=>get fr 1=evI e∧get fr 2=.bot) (fun fr=>get fr 2=.bool false) (fun i=>rfl)
  (fun i x hx hP=>by
   obtain ⟨hx',hi10⟩:=HH hx;have hg:=Z6 (f:=Ent.enc) hx';have hi:=Zh (Z7 hx');have hw:=Zx (n:=i) (by omega)
   have h10:decide ((i:Int) < 10)=true:=decide_eq_true (by omega)
   have hS:=HG x.Id x.Number.Letter;have hP':[x.Id,x.Number.Letter].all ZU=true:=hP;rw [hP'] at hS;refine ⟨_,by simp only [go_sem,qy,qq,qv,qk,reduceIte,c20L0b,hg,hi,hw,h10,Ent.enc,hS];rfl,?_⟩
   simp only [go_sem,qy])
  (fun i x hx hP=>by
   obtain ⟨hx',hi10⟩:=HH hx;have hg:=Z6 (f:=Ent.enc) hx';have hi:=Zh (Z7 hx');have h10:decide ((i:Int) < 10)=true:=decide_eq_true (by omega)
   have hS:=HG x.Id x.Number.Letter;have hP':[x.Id,x.Number.Letter].all ZU=false:=hP;rw [hP'] at hS;refine ⟨_,by simp only [go_sem,qy,qq,qv,qk,reduceIte,c20L0b,hg,hi,h10,Ent.enc,hS];rfl,?_⟩
   simp only [go_sem,qy])
  (by
   cases c:decide ((((e.Lst.l.take 10).length:Nat):Int) < (e.Lst.l.length:Int)) with
   | true=>
    have h10:=FR e.Lst.l c;exact ⟨_,by simp only [go_sem,qy,reduceIte,c20L0b,c,h10];rfl,by simp only [go_sem,qy],by simp only [go_sem,qy]⟩
   | false=>exact ⟨_,by simp only [go_sem,qy,reduceIte,c20L0b,c];rfl,by simp only [go_sem,qy],by simp only [go_sem,qy]⟩)
 rw [Z5 (f:=20) rfl rfl];rw [QE] at L;obtain ⟨fr',h1,h3,h2⟩:=L;have h1':Zg rE [1,3] c20L0b [(1,evI e),(3,.int .i64 0)] []=_:=h1;have hS:=Z4y e.Id e.Other e.Text e.Number.Letter;have hN:=UQ e.Names.ex e.Names.l;unfold Xn FT;cases hc:(e.Lst.l.take 10).all M2 with
 | false=>
  rw [hc] at h1';have h2':=h2 hc;simp only [evI] at h1';simp only [go_sem,qy,qq,reduceIte,c20,c20L0,h1',h2',ZOd]
 | true=>
  rw [hc] at h1';obtain ⟨q1,q2⟩:=h3 hc;simp only [evI] at h1' q1;cases c1:[e.Id,e.Other,e.Text,e.Number.Letter].all ZU with
  | false=>rw [c1] at hS;simp only [go_sem,qy,qq,qv,qk,reduceIte,c20,c20L0,h1',q1,q2,hS]
  | true=>
  rw [c1] at hS;cases c2:decide ((e.Ids.l.length:Int)≤10) with
  | false=>simp only [go_sem,qy,qq,qv,qk,reduceIte,c20,c20L0,h1',q1,q2,hS,c2]
  | true=>
  have hI:=Vv false e.Ids.ex e.Ids.l (by have:=of_decide_eq_true c2;omega)
  cases c5003:e.Ids.l.all ZU with
  | false=>rw [c5003] at hI;simp only [go_sem,qy,qq,qv,qk,reduceIte,c20,c20L0,h1',q1,q2,hS,c2,hI]
  | true=>
  rw [c5003] at hI;cases c5004:XQ e.Names.l with
  | false=>rw [c5004] at hN;simp only [go_sem,qy,qq,qv,qk,reduceIte,c20,c20L0,h1',q1,q2,hS,c2,hI,hN]
  | true=>
  rw [c5004] at hN;cases c5005:decide ((e.Path.l.length:Int)≤12) with
  | false=>simp only [go_sem,qy,qq,qv,qk,reduceIte,c20,c20L0,h1',q1,q2,hS,c2,hI,hN,c5005]
  | true=>simp only [go_sem,qy,qq,qv,qk,reduceIte,c20,c20L0,h1',q1,q2,hS,c2,hI,hN,c5005]
theorem JL (e:Event) (h:Xn e=true):EvS e:=by
 simp only [Xn,ZO2] at h;obtain ⟨_,h1,h2,h3,h4,h5,h6⟩:=h;have k2:=of_decide_eq_true h2;have k5:=of_decide_eq_true h5;have k6:=of_decide_eq_true h6;have k4:(e.Names.l.length:Int)≤10:=by
  simp only [XQ,ZO2] at h4;exact of_decide_eq_true h4.2
 simp [ZU] at h1;exact ⟨by omega,by omega,by omega,by omega,by omega,by omega,by omega⟩
end Go.AM
namespace Go.AM
open Go
end Go.AM
namespace Go.AM
open Go
theorem Zi8 (s:Str):pfn rE 253 [.str s]=some (.bool (ZZ s)):=by
 have h:=Z1W s;unfold ZZ;generalize Up s=x at h ⊢;obtain ⟨ts,err,pos⟩:=x;unfold Lx.val at h;simp only at h ⊢;rw [Z5 (f:=253) rfl rfl];cases h0:err==0 with
 | false=>simp only [go_sem,qy,qq,qx,qz,qv,qk,reduceIte,c253,h,h0]
 | true=>
  rcases ts with _ | ⟨⟨tk,ta,tn,tt⟩,_ | ⟨t2,ts⟩⟩
  ·have e:(((0:Nat):Int)==1)=false:=rfl;simp only [go_sem,qy,qq,qx,qz,qv,qk,reduceIte,c253,h,h0,e]
  ·have e:(((0+1:Nat):Int)==1)=true:=rfl;have e1:ixG [.agg [I tk,I ta,I tn,.str tt]] 0=some (.agg [I tk,I ta,I tn,.str tt]):=rfl;have e2:(((1:Nat):Int)==1)=true:=rfl;cases h1:tk==1<;>simp only [go_sem,qy,qq,qx,qz,qv,qk,reduceIte,c253,h,h0,e,e1,e2,h1,Tok.enc]
  ·have e:(((ts.length+1+1:Nat):Int)==1)=false:=by
    rw [beq_eq_false_iff_ne];omega
   simp only [go_sem,qy,qq,qx,qz,qv,qk,reduceIte,c253,h,h0,e]
theorem Zi9 (k:Int):pfn rE 207 [I k]=some (.bool (ZD k 1 3)):=by
 rw [Z5 (f:=207) rfl rfl];unfold ZD;cases h:decide (k ≥ 1)<;>simp only [go_sem,qy,qq,qx,qz,qv,qk,reduceIte,c207,h]
def arA (x:Region):AV:=.agg [.str x.Id,I x.Kind,.isl false x.Ring.ex 2 (x.Ring.l.map Pt.enc)]
theorem Zi0 (l:List Region):(lvR l).length≤l.length:=ZPf ..
theorem Zi2 {l:List Region} {i:Nat} {x:Region} (hx:l[i]? = some x):lvR (l.take (i+1))=lvR (l.take i)++(bif x.Ended==-1 then [x] else []):=by
 unfold lvR;rw [ZPY,hx,ZPP];cases h:x.Ended==-1 with
 | true=>simp [h]
 | false=>simp [h]
theorem Zi3 (s:Sta) (hs:StS s):pfn rE 112 [stA s]=some (.isl false false 3 ((lvR s.Regions).map arA)):=by
 have hbS:∀ n (K:List Region),Zd n (K.map arA)=true:=fun n K=>ZN _ (Zw (fun t=>rfl) K)
 have hl:=hs.regions;have L:=Y8 (E:=rE) (live:=[3,7,8,9]) (b:=c112L0b) s.Regions.length
  (fun i=>[(3,.sl 0 (lvR (s.Regions.take i)).length 0 (lvR (s.Regions.take i)).length false),(7,.isl false false 6 (s.Regions.map Region.enc)),(8,I s.Regions.length),(9,I i)])
  (fun i=>[.row 3 ((lvR (s.Regions.take i)).map arA)]) (fun i=>rfl)
  (fun i hi=>by
   obtain ⟨x,hx⟩:∃ x,s.Regions[i]? = some x:=⟨_,ZO6 hi⟩;have hg:=Z6 (f:=Region.enc) hx;have hi':=Zh hi;have hw:=Zx (n:=i) (by omega)
   have hn:(lvR (s.Regions.take i)).length≤1000:=ZOX (Zi0 _) (by rw [ZOY];omega)
   rw [Zi2 hx];generalize lvR (s.Regions.take i)=KS at hn ⊢;cases c:x.Ended==-1 with
   | false=>
    rw [cond_false,ZOc];refine ⟨_,by simp only [go_sem,qy,qq,qx,qz,qv,qk,reduceIte,c112L0b,hg,hi',hw,Region.enc,NL.enc,c,hbS];rfl,?_⟩
    simp only [go_sem,qy,qq,qx,qz,qv,qk,reduceIte]
   | true=>
    have ha:=fun q=>XC (h:=[.row 3 (KS.map arA),q]) (fz:=false) (b:=0) (g:=KS.length) (sz:=3) (es:=KS.map arA) (bw:=false) (ex:=false) (ys:=[.agg [.str x.Id,I x.Kind,.isl false x.Ring.ex 2 (x.Ring.l.map Pt.enc)]]) (bytes:=48) (by simp [rowAt]) rfl (by rfl) (by omega) (by omega) (by simp;omega)
    have e1:(KS++[x]).map arA=KS.map arA++[.agg [.str x.Id,I x.Kind,.isl false x.Ring.ex 2 (x.Ring.l.map Pt.enc)]]:=by rw [ZOk];rfl
    rw [cond_true,e1,ZOj,ZPg];refine ⟨_,by simp only [go_sem,qy,qq,qx,qz,qv,qk,reduceIte,c112L0b,hg,hi',hw,Region.enc,NL.enc,c,ha,beq_self_eq_true,hbS];rfl,?_⟩
    simp only [go_sem,qy,qq,qx,qz,qv,qk,reduceIte])
  (e:=.exit 0) (by simp only [go_sem,qy,qq,qx,qz,qv,qk,reduceIte,c112L0b,ZG,ZOE];rfl) (by simp)
 have e0:lvR (s.Regions.take 0)=[]:=rfl;simp only [e0,ZOp,ZOy] at L;have L':Zg rE [3,7,8,9] c112L0b [(3,.sl 0 0 0 0 false),(7,.isl false false 6 (s.Regions.map Region.enc)),(8,I s.Regions.length),(9,.int .i64 0)] [.row 3 []]=_:=L;rw [Z5 (f:=112) rfl rfl];have hcl:Z4 ((lvR s.Regions).map arA)=true:=Zw (fun t=>rfl) _
 have htk:((lvR s.Regions).map arA).take (lvR s.Regions).length=(lvR s.Regions).map arA:=ZOs (by rw [ZO3];omega)
 simp only [go_sem,qy,qq,qx,qz,qv,qk,reduceIte,c112,c112L0,L',hbS,beq_self_eq_true,ZP8,htk,hcl]
end Go.AM
namespace Go.AM
open Go
theorem Zia {K:List Str} {x:Str} (h:x ∉ K):Qi Z3 K x=K++[x]:=by
 unfold Qi;cases hx:K.any (Z3 x) with
 | true=>exact absurd (ZdP.1 hx) h
 | false=>rfl
theorem Zib (L:List Region) (hl:L.length≤400) (hn:(L.map (·.Id)).Nodup) (hv:∀ x∈L,ZZ x.Id=true∧ZD x.Kind 1 3=true∧Vh x.Ring.l=true∧x.Ring.l.length≤1000000):
 pfn rE 206 [.isl false false 3 (L.map arA)]=some (.bool true):=by
 have hb2:∀ n (K:List Str),Zd n (K.map encS)=true:=fun n K=>ZN _ (Zw (fun t=>rfl) K)
 have hb3:∀ n k,Zd n (ZO k)=true:=fun n k=>ZN _ (Ut k)
 have H:=Y8 (E:=rE) (live:=[0,3,7,8,9]) (b:=c206L0b) L.length (fun i=>[(0,.isl false false 3 (L.map arA)),(3,.mp 0),(7,.isl false false 3 (L.map arA)),(8,I L.length),(9,I i)])
  (fun i=>[.map (((L.take i).map (·.Id)).map encS) (ZO ((L.take i).map (·.Id)).length)]) (fun i=>rfl)
  (fun i hi=>by
   obtain ⟨x,hx⟩:∃ x,L[i]? = some x:=⟨_,ZO6 hi⟩;have hg:=Z6 (f:=arA) hx;have hi':=Zh hi;have hw:=Zx (n:=i) (by omega)
   obtain ⟨v1,v2,v3,v4⟩:=hv x (ZOh hx);have k1:=Zi8 x.Id;have k2:=Zi9 x.Kind;have k3:=Dz x.Ring.l x.Ring.ex v4;rw [v1] at k1;rw [v2] at k2;rw [v3] at k3;have ht:=YW (fun x:Region=>x.Id) hx
   have hnew:x.Id ∉ (L.take i).map (·.Id):=by
    intro hm;have h1:(((L.take (i+1)).map (·.Id))).Nodup:=by
     rw [List.map_take];exact hn.sublist (List.take_sublist _ _)
    rw [ht,ZPi] at h1;exact h1.2.2 _ hm _ (ZOi.2 rfl) rfl
   have hf:=Zia hnew;have hany:((L.take i).map (·.Id)).any (Z3 x.Id)=false:=by
    cases hc:((L.take i).map (·.Id)).any (Z3 x.Id) with
    | false=>rfl
    | true=>exact absurd (ZdP.1 hc) hnew
   rw [ht];generalize (L.take i).map (·.Id)=K at hf hany ⊢;have hp:=fun hh=>Ur (ag:=false) (kk:=[2]) (enc:=encS) (eq:=Z3) Z1Y K x.Id (h:=.map (K.map encS) (ZO K.length)::hh) (b:=0) rfl
   have hq:=fun hh=>H5 (ag:=false) (kk:=[2]) (enc:=encS) (eq:=Z3) Z1Y K x.Id (h:=.map (K.map encS) (ZO K.length)::hh) (b:=0) rfl
   rw [hf] at hp;rw [hany] at hq;simp only [encS] at hp hq;simp only [arA] at hg;refine ⟨_,by simp only [go_sem,qy,qq,qx,qz,qv,qk,reduceIte,c206L0b,hg,hi',hw,k1,k2,k3,hp,hq,hb2,hb3];rfl,?_⟩
   simp only [go_sem,qy,qq,qx,qz,qv,qk,reduceIte])
  (e:=.exit 0) (by simp only [go_sem,qy,qq,qx,qz,qv,qk,reduceIte,c206L0b,ZG];rfl) (by simp)
 have H':Zg rE [0,3,7,8,9] c206L0b [(0,.isl false false 3 (L.map arA)),(3,.mp 0),(7,.isl false false 3 (L.map arA)),(8,I L.length),(9,.int .i64 0)] [.map [] []]=_:=H;have h400:decide ((L.length:Int)≤400)=true:=decide_eq_true (by omega)
 rw [Z5 (f:=206) rfl rfl];simp only [go_sem,qy,qq,qx,qz,qv,qk,reduceIte,c206,c206L0,H',h400]
end Go.AM
namespace Go.AM
open Go
theorem Z4M (E:Env) (hf:E.fn 69=some a69) (hs:E.sum 69=none) (v:Str):pfn E 69 [.str v]=some (.str v):=by
 rw [Z5 (f:=69) hs hf];simp only [go_sem,qy,qq,c69]
theorem ZGM (E:Env) (hf:E.fn 71=some a71) (hs:E.sum 71=none) (v:Str) (a b:Int):pfn E 71 [.agg [.str v,I a,I b]]=some (.str v):=by
 rw [Z5 (f:=71) hs hf];simp only [go_sem,qy,qq,c71]
theorem ZFO (v:Str):pfn e0 182 [.str v]=some (.bool false):=by
 have hn:Z3 v v=true:=by unfold Z3;simp
 rw [Z5 (f:=182) rfl rfl];simp only [go_sem,qy,qq,c182,hn,ZO9]
theorem ZEA (a b:Str):WW a b=decide (a.data.toList < b.data.toList):=by
 unfold WW;rw [Go.Proofs.bytesLess_eq]
theorem ZFP (a b:Str):pfn e0 124 [.str a,.str b]=some (I (ZEg a.data.toList b.data.toList)):=by
 have h1:=ZFO a;have h2:=ZFO b;unfold ZEg;rw [←ZEA,←ZEA];rw [Z5 (f:=124) rfl rfl];cases c:WW a b with
 | true=>simp only [go_sem,qy,qq,c124,h1,h2,c]
 | false=>
  cases c2:WW b a with
  | true=>
   have c5003:Z3 a b=false:=by
    cases h:Z3 a b with
    | false=>rfl
    | true=>
     exfalso;have he:a.data.toList=b.data.toList:=by unfold Z3 at h;simpa using h
     rw [ZEA,he,decide_eq_true_iff] at c2;exact List.lt_irrefl _ c2
   simp only [go_sem,qy,qq,c124,h1,h2,c,c5003,ZOm,Bool.or_false]
  | false=>
   have c5003:Z3 a b=true:=by
    rw [ZEA,decide_eq_false_iff_not] at c c2;unfold Z3;simp only [beq_iff_eq];exact List.le_antisymm c2 c
   simp only [go_sem,qy,qq,c124,h1,h2,c,c5003,ZO9,ZPh]
def ZEa (k:Nat):AV:=.clo (.func k) [] []
theorem ZFQ {k:Nat} {caps:List AV} (h:ckS k caps=true):caps=[.iptr false [ZEa k]]:=by
 unfold ckS at h;split at h
 ·rw [ZPN h];rfl
 ·cases h
theorem ZGN (caps:List AV) (x y:List UInt8) (h:ckS 69 caps=true):∃ h',fnV e0 123 ([Qd x,Qd y]++caps) []=some (.int .i64 (ZEg x y),h'):=by
 obtain rfl:=ZFQ h;have h1:=Z4M e0 rfl rfl;have h2:=ZFP ⟨x.toArray⟩ ⟨y.toArray⟩;simp only [List.toList_toArray] at h2;unfold Qd ZEa;rw [Q6 (f:=123) rfl rfl];simp only [ZOa,ZOl];exact ⟨_,by simp only [go_sem,qy,qq,c123,h1,h2];rfl⟩
def ZE4 (s:Str):List Int:=s.data.toList.map fun b=>(b.toNat:Int)
theorem ZEM:∀ x y:List UInt8,lexB (x.map fun b=>(b.toNat:Int)) (y.map fun b=>(b.toNat:Int))=decide (x < y)
 | [],[]=>by simp [lexB]
 | [],_::_=>by simp [lexB]
 | _::_,[]=>by simp [lexB]
 | a::r,b::s=>by
  simp only [ZOb,lexB,ZEM r s];rw [ZQ6];simp only [ZPq,ZO2,decide_eq_true_eq,beq_iff_eq,List.cons_lt_cons_iff,UInt8.lt_iff_toNat_lt,←UInt8.toNat_inj,Int.ofNat_lt,Int.natCast_inj]
theorem ZGO (x y:List UInt8):cmpL (x.map fun b=>(b.toNat:Int)) (y.map fun b=>(b.toNat:Int))=ZEg x y:=by
 unfold cmpL ZEg;rw [ZEM,ZEM]
theorem ZFR {caps:List AV} {x:AV} {k:List Int} (h:ZEm caps x=some k):caps=[.iptr false [ZEa 71]]∧∃ (s:Str) (a b:Int),x=.agg [.str s,I a,I b]∧k=ZE4 s:=by
 unfold ZEm at h;cases hc:ckS 71 caps with
 | false=>rw [hc] at h;cases h
 | true=>
  rw [hc,cond_true] at h;refine ⟨ZFQ hc,?_⟩;unfold ZEf at h;split at h
  ·cases h;exact ⟨_,_,_,rfl,rfl⟩
  ·cases h
theorem ZGP (caps:List AV) (x y:AV) (kx ky:List Int) (hx:ZEm caps x=some kx) (hy:ZEm caps y=some ky):∃ h',fnV e0 126 ([x,y]++caps) []=some (.int .i64 (cmpL kx ky),h'):=by
 obtain ⟨rfl,s,a,b,rfl,rfl⟩:=ZFR hx;obtain ⟨_,t,a',b',rfl,rfl⟩:=ZFR hy;have h1:=ZGM e0 rfl rfl;have h2:=ZFP s t;unfold ZE4 ZEa;rw [ZGO,Q6 (f:=126) rfl rfl];simp only [ZOa,ZOl];exact ⟨_,by simp only [go_sem,qy,qq,qk,c126,h1,h2];rfl⟩
theorem ZFS {h:Hp} {b:Nat} {o o2:AObj} (hb:h[b]? = some o2):(setH h b o).length=h.length:=by
 have hl:b < h.length:=(ZO7.1 hb).1;unfold setH;rw [show Nat.blt b h.length=true by simpa using hl,cond_true,ZPn]
theorem ZE5 {n:Nat} {fr:Fr} {h:Hp} (hl:h.length=n):Xq n fr h=h:=by
 unfold Xq;rw [ZOs (by omega)]
 cases Zd n (fr.map (·.2))&&X4 n h<;>rfl
theorem ZGQ (args:List AV) (h:Hp) (v:AV) (wr:Option (Nat×AObj)) (he:ZE8 (ZE7 69) h args=some (v,wr)):fnV e1 68 args h=some (v,ZH h wr):=by
 unfold ZE8 at he;split at he
 ·rename_i b g off len ex r;split at he
  ·rename_i sz es hb;cases hc:es.length==g&&(off==0&&len==g) with
   | false=>rw [hc] at he;cases he
   | true=>
    rw [hc,cond_true] at he;simp only [ZOe] at he;obtain ⟨es',h1,h2⟩:=he;cases h2;unfold ZE7 at h1;split at h1
    ·rename_i k;cases hc2:Nat.beq k 69&&(sz==1&&(es.all WB&&Nat.ble es.length 1000000)) with
     | false=>rw [hc2] at h1;cases h1
     | true=>
      rw [hc2] at h1;cases h1;simp only [ZO2,beq_iff_eq] at hc hc2;obtain ⟨c1,rfl,c5003,c5004⟩:=hc2;obtain rfl:=ZPN c1;obtain ⟨rfl,rfl,rfl⟩:=hc;have hs:fnV e1 122 [.sl b es.length 0 es.length ex,.clo (.func 123) [] [.iptr false [.clo (.func 69) [] []]]] h=some (.tup [],setH h b (.row 1 (Yk es))):=by
       rw [V8 (s:=ZEt 123 (ckS 69)) rfl];unfold ZEt;simp only [hb,c5003,c5004,beq_self_eq_true,ZOq,ZOD];rfl
      rw [Q6 (f:=68) rfl rfl];simp only [go_sem,qy,qq,c68,hs,ZH,ZE5 (ZFS hb)]
    ·cases h1
  ·cases he
 ·rename_i bw ex sz r;split at he
  ·rename_i h1;cases he;unfold ZE7 at h1;split at h1
   ·rename_i k;have hs:∀ sz,fnV e1 122 [.isl bw ex sz [],.clo (.func 123) [] [.iptr false [.clo (.func k) [] []]]] h=some (.tup [],h):=fun sz=>by
     rw [V8 (s:=ZEt 123 (ckS 69)) rfl];rfl
    rw [Q6 (f:=68) rfl rfl];simp only [go_sem,qy,qq,c68,hs,ZH,ZE5 (h:=h) rfl]
   ·cases h1
  ·cases he
 ·cases he
theorem ZGR (args:List AV) (h:Hp) (v:AV) (wr:Option (Nat×AObj)) (he:ZE8 (ZEe 71 3 ZEf) h args=some (v,wr)):fnV e1 70 args h=some (v,ZH h wr):=by
 unfold ZE8 at he;split at he
 ·rename_i b g off len ex r;split at he
  ·rename_i sz es hb;cases hc:es.length==g&&(off==0&&len==g) with
   | false=>rw [hc] at he;cases he
   | true=>
    rw [hc,cond_true] at he;simp only [ZOe] at he;obtain ⟨es',h1,h2⟩:=he;cases h2;unfold ZEe at h1;split at h1
    ·rename_i k;split at h1
     ·rename_i l hl;cases hc2:Nat.beq k 71&&(sz==3&&(Z4 es&&(es.all Zwl&&(es.all (fits 3)&&(ZvJ l&&Nat.ble es.length 1000000))))) with
      | false=>rw [hc2] at h1;cases h1
      | true=>
       rw [hc2] at h1;cases h1;simp only [ZO2,beq_iff_eq] at hc hc2;obtain ⟨c1,rfl,c5003,c5004,c5005,c5006,c5007⟩:=hc2;obtain rfl:=ZPN c1;obtain ⟨rfl,rfl,rfl⟩:=hc;have hs:fnV e1 125 [.sl b es.length 0 es.length ex,.clo (.func 126) [] [.iptr false [.clo (.func 71) [] []]]] h=some (.tup [],setH h b (.row 3 ((ZvN l).map (·.2)))):=by
        rw [V8 (s:=ZvW 126 3 ZEm) rfl];unfold ZvW;have hk:keysOf (ZEm [.iptr false [.clo (.func 71) [] []]]) es=some l:=hl;cases es with
        | nil=>
         cases hl;simp only [hb];have e1:setH h b (.row 3 [])=h:=RT hb;exact congrArg some (Prod.ext rfl e1.symm)
        | cons a r=>
         simp only [hb,hk,c5003,c5004,c5005,c5006,c5007,beq_self_eq_true,ZOq,ZOD,ZQ8,cond_false,ZOm];rfl
       rw [Q6 (f:=70) rfl rfl];simp only [go_sem,qy,qq,c70,hs,ZH,ZE5 (ZFS hb)]
     ·cases h1
    ·cases h1
  ·cases he
 ·rename_i bw ex sz r;split at he
  ·rename_i h1;cases he;unfold ZEe at h1;split at h1
   ·rename_i k;have hs:∀ sz,fnV e1 125 [.isl bw ex sz [],.clo (.func 126) [] [.iptr false [.clo (.func k) [] []]]] h=some (.tup [],h):=fun sz=>by
     rw [V8 (s:=ZvW 126 3 ZEm) rfl];rfl
    rw [Q6 (f:=70) rfl rfl];simp only [go_sem,qy,qq,c70,hs,ZH,ZE5 (h:=h) rfl]
   ·cases h1
  ·cases he
 ·cases he
end Go.AM
namespace Go.AM
open Go
def ffr (t:AV):Fr:=[(4,.ptr 0 0 0 1),(5,I 0),(7,.ptr 3 0 0 1),(19,t)]
def fP (lp:AObj) (D E:List AV) (tl:List AObj):List AObj:=
 .row 2 [.agg [.isl false false 1 [],.isl false false 3 []]]::.row 1 D::.row 3 E::.row 2 [.agg [.sl 1 D.length 0 D.length false,.sl 2 E.length 0 E.length false]]::lp::tl
def feL (st:LoopState) (t:AV):AObj:=.loop st .normal (ffr t) [20] c31R0a c31R0b
theorem ZEp (h:Hp) (x y:AObj):setH (h++[x]) h.length y=h++[y]:=by
 unfold setH;rw [show Nat.blt h.length (h++[x]).length=true by simp,cond_true,ZPS _ _ (ZO4 _)]
 simp
theorem ZGS (t:AV) (d:Door) (lp:AObj) (D E:List AV) (tl:List AObj):Zb rE c31R0a ((20,d.enc)::ffr t) (fP lp D E tl)=some (.normal,(8,.ptr (tl.length+5) 0 0 1)::(20,d.enc)::ffr t,fP lp D E (tl++[.row 16 [d.enc]])):=by
 simp only [go_sem,qy,qq,qk,c31R0a,fP,ffr,Door.enc,NL.enc,ZOa,ZOg,ZEp]
theorem ZEx {n:Nat} {h:Hp} {b:Bool} (hl:h.length=n):trimB n h b=h:=by
 unfold trimB;cases b with
 | true=>rw [cond_true,ZOs (by omega)]
 | false=>rfl
theorem ZF2 (r0 r1 r2 r3 r4 x:AObj) (tl:List AObj) (b:Bool):trimB (tl.length+1+1+1+1+1+1) (r0::r1::r2::r3::r4::(tl++[x])) b=r0::r1::r2::r3::r4::(tl++[x]):=ZEx (by simp)
def faD (d:Door) (D:List AV):List AV:=bif decide (d.Ended < 0) then D++[.str d.Id] else D
def ZEB (d:Door):AV:=.agg [.str d.Id,I d.Why,I d.Ended]
def faE (d:Door) (E:List AV):List AV:=bif !decide (d.Ended < 0)&&d.After.l.isEmpty then E++[ZEB d] else E
theorem ZGT (t:AV) (d:Door) (lp:AObj) (D E:List AV) (tl:List AObj) (h1:D.length≤1000) (h2:E.length≤1000):Zb rE c31R0b ((8,.ptr (tl.length+5) 0 0 1)::(20,d.enc)::ffr t) (fP lp D E (tl++[.row 16 [d.enc]])) =
 some (.normal,[],fP lp (faD d D) (faE d E) (tl++[.row 16 [d.enc]])):=by
 have a1:=fun (r0 r2 r3 r4:AObj) (tl:List AObj)=>XC (h:=r0::.row 1 D::r2::r3::r4::tl) (fz:=false) (b:=1) (g:=D.length) (sz:=1) (es:=D) (bw:=false) (ex:=false) (ys:=[.str d.Id]) (bytes:=16) (by simp [rowAt]) rfl (by rfl) (by omega) (by omega) (by simp;omega)
 have a2:=fun (r0 r1 r3 r4:AObj) (tl:List AObj)=>XC (h:=r0::r1::.row 3 E::r3::r4::tl) (fz:=false) (b:=2) (g:=E.length) (sz:=3) (es:=E) (bw:=false) (ex:=false) (ys:=[ZEB d]) (bytes:=32) (by simp [rowAt]) rfl (by rfl) (by omega) (by omega) (by simp;omega)
 unfold ZEB at a2;unfold faD faE;cases c:decide (d.Ended < 0) with
 | true=>simp only [go_sem,qy,qq,qv,qk,reduceIte,c31R0b,fP,ffr,Door.enc,NL.enc,ZOa,ZOg,ZF2,c,a1,ZOj,ZOp,ZO9,ZOG]
 | false=>
  cases c2:d.After.l with
  | nil=>
   have z0:(((0:Nat):Int)==0)=true:=rfl;simp only [go_sem,qy,qq,qv,qk,reduceIte,z0,c31R0b,fP,ffr,Door.enc,NL.enc,ZOa,ZOg,ZF2,c,c2,a2,ZEB,ZOj,ZOp,ZOm,ZOq,List.isEmpty_nil,ZOy]
  | cons a r=>
   have hz:(((r.length+1:Nat):Int)==0)=false:=by
    rw [beq_eq_false_iff_ne];omega
   simp only [go_sem,qy,qq,reduceIte,c31R0b,fP,ffr,Door.enc,NL.enc,ZOg,ZF2,c,c2,hz,ZOj,ZOp,ZOm,ZOq,ZQ8,ZOb,ZO3]
theorem ZGU (t:AV) (d:Door) (D E:List AV) (tl:List AObj) (h1:D.length≤1000) (h2:E.length≤1000):
 U4 rE 4 [d.enc] (fP (feL .ready t) D E tl)=some (.bool true,fP (feL .ready t) (faD d D) (faE d E) (tl++[.row 16 [d.enc]])):=by
 have h:=Ss (E:=rE) (b:=4) (args:=[d.enc]) (h:=fP (feL .ready t) D E tl) (fr:=ffr t) (ps:=[20]) (assign:=c31R0a) (body:=c31R0b)
  (fr0:=(20,d.enc)::ffr t) rfl rfl (ZGS t d (feL .ready t) D E tl) (h1:=fP (feL .ready t) D E (tl++[.row 16 [d.enc]])) rfl
  (e:=.normal) (fr2:=[]) (h2:=fP (feL .busy t) (faD d D) (faE d E) (tl++[.row 16 [d.enc]])) (ZGT t d (feL .busy t) D E tl h1 h2) rfl
 exact h
end Go.AM
namespace Go.AM
open Go
def TC' (tl:List AObj):Prop:=∀ n,X4 n tl=true
theorem ZEu:∀ (n:Nat) (a b:List AObj),X4 n (a++b)=(X4 n a&&X4 n b)
 | _,[],b=>by simp [X4]
 | n,x::a,b=>by simp [X4,ZEu n a b,ZPT]
theorem ZEN {n:Nat}:∀ {a:List AObj} {i:Nat} {x:AObj},X4 n a=true→Zj n x=true→X4 n (a.set i x)=true
 | [],_,_,h,_=>h
 | y::a,0,x,h,hx=>by
  simp only [List.set_cons_zero,X4,ZO2] at h ⊢;exact ⟨hx,h.2⟩
 | y::a,i+1,x,h,hx=>by
  simp only [List.set_cons_succ,X4,ZO2] at h ⊢;exact ⟨h.1,ZEN h.2 hx⟩
theorem ZEv (n:Nat):∀ L:List Str,Zd n (L.map encS)=true
 | []=>rfl
 | x::r=>by simp only [ZOb,Zd,ZEv n r,ZOD];rfl
theorem ZEC {h:Hp} {b:Nat} {o:AObj} (hb:b < h.length):setH h b o=h.set b o:=by
 unfold setH;rw [show Nat.blt b h.length=true by simpa using hb,cond_true]
theorem ZF3 (h:Hp) (x:AObj):(h++[x])[h.length]? = some x:=by simp
def wkS (s:List Str×List Str) (x:Str):List Str×List Str:=bif s.1.any (Z3 x) then s else (s.1++[x],s.2++[x])
theorem ZGW (s:List Str×List Str) (x:Str):(wkS s x).2.length≤s.2.length+1:=by
 unfold wkS;cases s.1.any (Z3 x)<;>simp
theorem ZF4:∀ (l:List Str) (s:List Str×List Str),(l.foldl wkS s).2.length≤s.2.length+l.length
 | [],s=>by simp
 | x::r,s=>by
  have h1:=ZF4 r (wkS s x);have h2:=ZGW s x;simp only [ZPl,ZOg];omega
def kM (K:List Str):AObj:=.map (K.map encS) (ZO K.length)
end Go.AM
namespace Go.AM
open Go
theorem ZGY (d:Door) (h:Hp):fnV rE 66 [d.enc] h=some (d.After.enc 1 encS,h):=by
 rw [Q6 (f:=66) rfl rfl];simp only [go_sem,qy,qq,c66,Door.enc,NL.enc,ZE5 (h:=h) rfl]
def grA (s:Sta):AV:=.iptr false ((stA s).cells++[.clo (.func 66) [] []])
theorem ZFT (n:Nat):decide (((n+1:Nat):Int) > 0)=true:=decide_eq_true (by omega)
theorem ZEO:∀ {n k:Nat} {l:List AObj},X4 n l=true→X4 n (l.take k)=true
 | _,0,_,_=>rfl
 | _,_+1,[],h=>h
 | n,k+1,x::r,h=>by
  simp only [X4,ZO2,ZPH] at h ⊢;exact ⟨h.1,ZEO h.2⟩
def c71L1m:ACode:=match c121L1b with | .keep _ (.seq _ (.seq (.keep _ (.block _ m)) _))=>m | _=>.skip
def c71D:ACode:=match c71L1m with | .seq d _=>d | _=>.skip
def c71Y:ACode:=match c71L1m with | .seq _ (.seq y _)=>y | _=>.skip
def c71Z:ACode:=match c71L1m with | .seq _ (.seq _ z)=>z | _=>.skip
theorem ZEP (tl L:List AObj) (x:AV) (sz:Nat):rowAt (tl++.row sz [x]::L) tl.length 1=some (sz,[x]):=by
 unfold rowAt;rw [ZOA (ZO4 _),ZQ3];rfl
end Go.AM
namespace Go.AM
open Go
def c71R:ACode:=match c71Z with | .seq r _=>r | _=>.skip
def c71A:ACode:=match c121L1b with | .keep _ (.seq a _)=>a | _=>.skip
def c71C:ACode:=match c121L1b with | .keep _ (.seq _ (.seq _ (.keep _ c)))=>c | _=>.skip
theorem ZFU (n:Nat):bounds (some (.int .i64 1)) none none (n+1)=some (1,n+1,none):=by
 have e:bounds (some (.int .i64 1)) none none (n+1)=bif Nat.ble 1 (n+1)&&Nat.ble (n+1) (n+1)&&VB (n+1) (n+1) none then some (1,n+1,none) else none:=rfl;rw [e,ZP0 (show 1≤n+1 by omega),ZP0 (ZO4 (n+1))]
 rfl
theorem ZFV {h:Hp} {b g off n:Nat} {ex:Bool} {es:List AV} (hr:rowAt h b g=some (1,es)):slF h 1 (.sl b g off (n+1) ex) (some (1,n+1,none))=some (.sl b g (off+1) n ex):=by
 simp only [slF,hr,beq_self_eq_true,cond_true,ZOD,Nat.add_sub_cancel]
end Go.AM
namespace Go.AM
open Go
theorem ZEQ:∀ (l:List Str) (K L:List Str) (id:Str) (r:List Str),L=id::r→∃ r',(l.foldl wkS (K,L)).2=id::r'
 | [],_,_,id,r,h=>⟨r,h⟩
 | x::l,K,L,id,r,h=>by
  rw [ZPl];unfold wkS;cases (K,L).1.any (Z3 x) with
  | true=>exact ZEQ l K L id r h
  | false=>exact ZEQ l (K++[x]) (L++[x]) id (r++[x]) (by rw [h];rfl)
inductive Runs (s:Sta):List Str→List Str→List AV→List AV→List AV→List AV→Prop
 | stop (K:List Str) (D E:List AV):Runs s K [] D E D E
 | step (K:List Str) (id:Str) (r:List Str) (D E D' E':List AV) (k:Nat) (d:Door) (hd:s.Doors[k]? = some d) (hf:pfn rE 54 [stA s,.str id]=some (I k)) (h1:D.length≤1000) (h2:E.length≤1000)
  (h3:(id::r).length+d.After.l.length≤1000) (h:Runs s (d.After.l.foldl wkS (K,id::r)).1 (d.After.l.foldl wkS (K,id::r)).2.tail (faD d D) (faE d E) D' E'):Runs s K (id::r) D E D' E'
end Go.AM
namespace Go.AM
open Go
def h5 (t:AV) (D E:List AV):List AObj:=[.row 2 [.agg [.isl false false 1 [],.isl false false 3 []]],.row 1 D,.row 3 E,.row 2 [.agg [.sl 1 D.length 0 D.length false,.sl 2 E.length 0 E.length false]],feL .ready t]
end Go.AM
namespace Go.AM
open Go
theorem ZEw (hd tl:List AObj) (x:AObj) (bl g:Nat):rowAt (hd++x::tl) (hd.length+(bl+1)) g=rowAt tl bl g:=by
 unfold rowAt;rw [ZOA (by omega),show hd.length+(bl+1) - hd.length=bl+1 by omega,ZOR]
theorem ZHA (hd tl:List AObj) (x:AObj) (bl:Nat):(hd++x::tl)[hd.length+(bl+1)]? = tl[bl]?:=by
 rw [ZOA (by omega),show hd.length+(bl+1) - hd.length=bl+1 by omega,ZOR]
theorem ZEG (hd tl:List AObj) (x:AObj):(hd++x::tl)[hd.length]? = some x:=by
 rw [ZOA (ZO4 _),ZQ3];rfl
theorem ZEV (hd tl:List AObj) (x o:AObj):setH (hd++x::tl) hd.length o=hd++o::tl:=by
 unfold setH;rw [show Nat.blt hd.length (hd++x::tl).length=true by simp,cond_true,ZPS _ _ (ZO4 _),ZQ3]
 rfl
theorem ZFd (hd tl:List AObj) (x o:AObj) (bl:Nat):setH (hd++x::tl) (hd.length+(bl+1)) o=hd++x::setH tl bl o:=by
 unfold setH;have e:Nat.blt (hd.length+(bl+1)) (hd++x::tl).length=Nat.blt bl tl.length:=by
  rw [ZQ6];simp only [ZOT,ZOj,ZOg];omega
 rw [e];cases Nat.blt bl tl.length with
 | true=>
  rw [cond_true,cond_true,ZPS _ _ (by omega),show hd.length+(bl+1) - hd.length=bl+1 by omega]
  rfl
 | false=>simp
theorem ZEH (hd tl:List AObj) (x:AObj):(hd++x::tl).length=hd.length+(tl.length+1):=by simp
def LVm (m:Nat) (Lv:AV) (L:List Str) (tl:List AObj):Prop:=
 ∃ bl g off ex es,Lv=.sl (m+(bl+1)) g off L.length ex∧tl[bl]? = some (.row 1 es)∧es.length=g∧off+L.length=g∧es.drop off=L.map encS
theorem ZHB {m:Nat} {Lv:AV} {L:List Str} {tl:List AObj} (h:LVm m Lv L tl) (l:List AObj):LVm m Lv L (tl++l):=by
 obtain ⟨bl,g,off,ex,es,rfl,h2,h3⟩:=h;refine ⟨bl,g,off,ex,es,rfl,?_,h3⟩;rw [ZOz (ZO7.1 h2).1];exact h2
theorem ZHC {m:Nat} {Lv:AV} {L:List Str} {tl:List AObj} {n:Nat} (h:LVm m Lv L tl) (hb:bel (m+(n+1)) Lv=true):LVm m Lv L (tl.take n):=by
 obtain ⟨bl,g,off,ex,es,rfl,h2,h3⟩:=h;refine ⟨bl,g,off,ex,es,rfl,?_,h3⟩;have:m+(bl+1) < m+(n+1):=by simpa [bel] using hb
 rw [List.getElem?_take,if_pos (by omega)]
 exact h2
theorem ZHD (hd:List AObj) (p5:AObj) {Lv:AV} {L:List Str} {tl:List AObj} (x:Str) (hL:LVm hd.length Lv L tl) (hc:TC' tl) (hn:L.length≤1000000):
 ∃ tl',tl'.length=tl.length∧TC' tl'∧ZE9 (hd++p5::tl) 1 16 Lv (.isl false false 1 [.str x]) =
  some (.sl (hd.length+(tl.length+1)) (L.length+1) 0 (L.length+1) false,hd++p5::(tl'++[.row 1 ((L++[x]).map encS)])):=by
 obtain ⟨bl,g,off,ex,es,rfl,hb,hg,hoff,hes⟩:=hL;have hlt:bl < tl.length:=(ZO7.1 hb).1;have hbb:(hd++p5::tl)[hd.length+(bl+1)]? = some (.row 1 es):=by rw [ZHA];exact hb
 have hmap:(L++[x]).map encS=es.drop off++[.str x]:=by rw [ZOk,hes];rfl
 have hlen:(hd++p5::tl).length=hd.length+(tl.length+1):=ZEH _ _ _;cases ex with
 | true=>
  refine ⟨tl,rfl,hc,?_⟩;have hel:Q2 (hd++p5::tl) (.sl (hd.length+(bl+1)) g off L.length true)=some (es.drop off):=by
   simp only [Q2,hbb,hg,beq_self_eq_true,cond_true];rw [ZOs (by simp;omega)]
  have hz:Qq (hd++p5::tl) 1 (.sl (hd.length+(bl+1)) g off L.length true)=true:=by simp only [Qq,hbb];rfl
  have hl2:(es.drop off++[AV.str x]).length=L.length+1:=by simp;omega
  have hbd:((es.drop off).length+1) * 16≤70368744177664:=by simp;omega
  have he:Qt (hd++p5::tl) (hd++p5::tl).length false 1 16 (.sl (hd.length+(bl+1)) g off L.length true) (.isl false false 1 [.str x]) =
   some (.sl (hd++p5::tl).length (es.drop off++[AV.str x]).length 0 (es.drop off++[AV.str x]).length false,[hd.length+(bl+1)],some ((hd++p5::tl).length,.row 1 (es.drop off++[.str x]))):=by
   unfold Qt;rw [hel];dsimp only [Q2];rw [if_pos ⟨hz,rfl,Nat.zero_lt_one,by decide,hbd⟩]
   rfl
  unfold ZE9;dsimp only;rw [he,hmap,hl2,hlen];have e:setH (hd++p5::tl) (hd.length+(tl.length+1)) (.row 1 (es.drop off++[.str x]))=hd++p5::(tl++[.row 1 (es.drop off++[.str x])]):=by
   rw [←hlen,J1,ZOo];rfl
  exact congrArg some (Prod.ext rfl e)
 | false=>
  refine ⟨tl.set bl .gone,by simp,fun n=>ZEN (hc n) rfl,?_⟩
  have hz:Qq (hd++p5::tl) 1 (.isl false false 1 [.str x])=true:=rfl;have hcond:((es.length==g&&(1==1))&&((off+L.length==g)&&(Qq (hd++p5::tl) 1 (.isl false false 1 [.str x])&&(([AV.str x]:List AV).all (fits 1)&&(Nat.blt 0 ([AV.str x]:List AV).length&&(Nat.blt 0 1&&(Nat.blt 0 16&&Nat.ble ((L.length+([AV.str x]:List AV).length) * 16) 70368744177664)))))))=true:=by
   simp only [hg,hoff,hz,beq_self_eq_true,ZOq,ZOD];have:(L.length+([AV.str x]:List AV).length) * 16≤70368744177664:=by simp;omega
   have e2:Nat.ble ((L.length+([AV.str x]:List AV).length) * 16) 70368744177664=true:=ZP0 this;rw [e2];rfl
  unfold ZE9;simp only [hbb,Q2,hcond,cond_true];rw [ZFd,ZEC hlt,hmap,hlen,ZOo];rfl
theorem ZEJ (hd:List AObj) (x:AObj) (tl:List AObj) (fr:Fr):Xq (hd.length+(tl.length+1)) fr (hd++x::tl)=hd++x::tl:=ZE5 (by simp)
theorem ZFe (n g o k:Nat) (ex:Bool) (a b c v q r:AV) (h:Hp):Xq n [(0,a),(2,b),(4,c),(5,.sl n g o k ex),(37,v),(38,q),(39,r)] h=h:=by
 have e:Zd n ([(0,a),(2,b),(4,c),(5,AV.sl n g o k ex),(37,v),(38,q),(39,r)].map (fun (p:Nat×AV)=>p.2))=false:=by
  simp [Zd,bel]
 unfold Xq;rw [e];rfl
def ZEl (hd:List AObj) (v:AV) (A:List Str):Prop:=
 (∀ x tl,lnV (hd++x::tl) 1 v=some (I A.length))∧∀ (i:Nat) (a:Str),A[i]? = some a→∃ p,(∀ x tl,iaV (hd++x::tl) 1 v (I i)=some p)∧∀ x tl,ldV (hd++x::tl) none p=some (.str a)
theorem ZHE (hd:List AObj) (ex:Bool) (A:List Str):ZEl hd (.isl false ex 1 (A.map encS)) A:=by
 refine ⟨fun x tl=>by rw [AX,ZO3],fun i a h=>⟨.iptr false [.str a],fun x tl=>?_,fun x tl=>rfl⟩⟩
 have hg:=Z6 (f:=encS) h;rw [AK];simp only [go_sem,hg,encS]
theorem ZHG (hd:List AObj) (Y G v:AV) (l:List Str) (hv:ZEl hd v l) (s0:List Str×List Str) (Lv0:AV) (tl0:List AObj) (hL0:LVm hd.length Lv0 s0.2 tl0) (hc0:TC' tl0) (hn:s0.2.length+l.length≤1000000):
 ∃ fr' Lv tl,Zg rE [0,2,4,5,37,38,39] c121L0b [(0,Y),(2,G),(4,.mp hd.length),(5,Lv0),(37,v),(38,I l.length),(39,I 0)] (hd++kM s0.1::tl0) =
  some (.exit 2,fr',hd++kM (l.foldl wkS s0).1::tl)∧LVm hd.length Lv (l.foldl wkS s0).2 tl∧TC' tl∧get fr' 0=Y∧get fr' 2=G∧get fr' 4=.mp hd.length∧get fr' 5=Lv:=by
 obtain ⟨e,fr',h',L,hQ⟩:=Z9Y (E:=rE) (live:=[0,2,4,5,37,38,39]) (b:=c121L0b) l.length
  (fun i fr h=>∃ Lv tl,fr=[(0,Y),(2,G),(4,.mp hd.length),(5,Lv),(37,v),(38,I l.length),(39,I i)]∧h=hd++kM ((l.take i).foldl wkS s0).1::tl∧LVm hd.length Lv ((l.take i).foldl wkS s0).2 tl∧TC' tl)
  (fun e fr h=>e=.exit 2∧∃ Lv tl,h=hd++kM (l.foldl wkS s0).1::tl∧LVm hd.length Lv (l.foldl wkS s0).2 tl∧TC' tl∧get fr 0=Y∧get fr 2=G∧get fr 4=.mp hd.length∧get fr 5=Lv)
  (fun i fr h m=>by obtain ⟨Lv,tl,rfl,_⟩:=m;rfl)
  (fun i fr h hi m=>by
   obtain ⟨Lv,tl,rfl,rfl,hL,hc⟩:=m;refine .inl ?_;obtain ⟨x,hx⟩:∃ x,l[i]? = some x:=⟨_,ZO6 hi⟩;obtain ⟨p,hg1,hg2⟩:=hv.2 i x hx;have hi':=Zh hi;have hwr:=Zx (n:=i) (by omega)
   have hf:(l.take (i+1)).foldl wkS s0=wkS ((l.take i).foldl wkS s0) x:=Us wkS s0 hx;have hlen:=ZF4 (l.take i) s0;have hle:(l.take i).length≤l.length:=by simp;omega
   rw [hf];generalize (l.take i).foldl wkS s0=s at hL hlen ⊢;obtain ⟨K,L⟩:=s;have hq:=fun (tl:List AObj)=>H5 (enc:=encS) (eq:=Z3) Z1Y K x (h:=hd++.map (K.map encS) (ZO K.length)::tl) (b:=hd.length) (ZEG _ _ _)
   have hp:=fun (tl:List AObj)=>Ur (enc:=encS) (eq:=Z3) Z1Y K x (h:=hd++.map (K.map encS) (ZO K.length)::tl) (b:=hd.length) (ZEG _ _ _)
   have hlen':L.length≤s0.2.length+(l.take i).length:=hlen;have hL:LVm hd.length Lv L tl:=hL;unfold encS at hq hp;cases c:K.any (Z3 x) with
   | true=>
    have hw:wkS (K,L) x=(K,L):=by unfold wkS;rw [c];rfl
    rw [hw];unfold kM encS;refine ⟨_,_,by simp only [go_sem,qy,reduceIte,c121L0b,hg1,hg2,hi',hwr,hq,c,ZEJ,ZO9,ZOg,ZOj]<;>rfl,Lv,tl,?_,rfl,hL,hc⟩
    simp only [go_sem,qy]
   | false=>
    obtain ⟨tl',hl',hc',ha⟩:=ZHD hd (.map ((Qi Z3 K x).map encS) (ZO (Qi Z3 K x).length)) x hL hc (by omega)
    unfold encS at ha;have hak:Qi Z3 K x=K++[x]:=by unfold Qi;rw [c];rfl
    have hirr:decide (hd.length+(tl.length+1) < hd.length+(tl.length+1))=false:=by simp
    have e1:(K++[x]).length=K.length+1:=by simp
    rw [hak,e1] at ha;have hw:wkS (K,L) x=(K++[x],L++[x]):=by unfold wkS;rw [c];rfl
    rw [hw];unfold kM encS;rw [e1];refine ⟨_,_,by simp only [go_sem,qy,qq,qv,reduceIte,c121L0b,hg1,hg2,hi',hwr,hq,hp,c,hak,ha,ZEV,ZEJ,ZFe,ZOm,ZOg,ZOj]<;>rfl,.sl (hd.length+(tl.length+1)) (L.length+1) 0 (L.length+1) false,_,?_,rfl,?_,?_⟩
    ·simp only [go_sem,qy]
    ·refine ⟨tl.length,L.length+1,0,false,(L++[x]).map encS,by simp,by rw [←hl'];exact ZF3 _ _,by simp,by simp,by simp⟩
    ·intro n;rw [ZEu,hc' n];show (true&&(Zj n (.row 1 ((L++[x]).map encS))&&true))=true
     simp only [Zj,ZEv,ZOD])
  (fun fr h m=>by
   obtain ⟨Lv,tl,rfl,rfl,hL,hc⟩:=m;rw [ZOE] at hL ⊢;refine ⟨.exit 2,_,_,by simp only [go_sem,qy,reduceIte,c121L0b,ZG,ZEJ,kM,ZOg,ZOj]<;>rfl,by simp,rfl,Lv,tl,rfl,hL,hc,?_⟩
   refine ⟨?_,?_,?_,?_⟩<;>simp only [go_sem,qy])
  l.length 0 [(0,Y),(2,G),(4,.mp hd.length),(5,Lv0),(37,v),(38,I l.length),(39,I 0)] (hd++kM s0.1::tl0) (by omega) ⟨Lv0,tl0,rfl,rfl,hL0,hc0⟩
 obtain ⟨rfl,Lv,tl,rfl,h1,h2,h3,h4,h5,h6⟩:=hQ;exact ⟨fr',Lv,tl,L,h1,h2,h3,h4,h5,h6⟩
end Go.AM
namespace Go.AM
open Go
structure GRdz (hd:List AObj) (G:AV) (s:Sta) (FC p0 p3 p7:AV):Prop where
 f0:∀ x tl,faV (hd++x::tl) 0 G=some p0
 f3:∀ x tl,faV (hd++x::tl) 3 p0=some p3
 l3:∀ x tl,ldV (hd++x::tl) none p3=some (.isl false false 16 (s.Doors.map Door.enc))
 l0:∀ x tl,ldV (hd++x::tl) (some 7) p0=some (stA s)
 f7:∀ x tl,faV (hd++x::tl) 7 G=some p7
 l7:∀ x tl,ldV (hd++x::tl) none p7=some FC
 t:∀ n,hd.length≤n→(Zs G).contains n=false∧(Zs p0).contains n=false∧(Zs p3).contains n=false
inductive RunsG {σ:Type} (s:Sta) (aft:Door→List Str) (f:Door→σ→σ) (ok:σ→Prop):List Str→List Str→σ→σ→Prop
 | stop (K:List Str) (x:σ):RunsG s aft f ok K [] x x
 | step (K:List Str) (id:Str) (r:List Str) (x x':σ) (k:Nat) (d:Door) (hd:s.Doors[k]? = some d) (hf:pfn rE 54 [stA s,.str id]=some (I k)) (hx:ok x)
  (h3:(id::r).length+(aft d).length≤1000000) (h:RunsG s aft f ok ((aft d).foldl wkS (K,id::r)).1 ((aft d).foldl wkS (K,id::r)).2.tail (f d x) x'):RunsG s aft f ok K (id::r) x x'
def wfp (y m:Nat) (G Lv:AV):Fr:=[(0,.yld y),(2,G),(4,.mp m),(5,Lv)]
theorem ZG7 {fr:Fr} {Y G Lv:AV} {L:List Str} (hd:List AObj) (p5:AObj) {tl:List AObj} (n:Nat) (e:AExit) (h0:get fr 0=Y) (h2:get fr 2=G) (h4:get fr 4=.mp hd.length) (h5:get fr 5=Lv) (hL:LVm hd.length Lv L tl) (hc:TC' tl):
 ∃ tl',kp [0,2,4,5] (hd.length+(n+1)) (some (e,fr,hd++p5::tl))=some (e,[(0,Y),(2,G),(4,.mp hd.length),(5,Lv)],hd++p5::tl')∧LVm hd.length Lv L tl'∧TC' tl':=by
 have hr:Z2 [0,2,4,5] fr=[(0,Y),(2,G),(4,.mp hd.length),(5,Lv)]:=by
  show [(0,get fr 0),(2,get fr 2),(4,get fr 4),(5,get fr 5)]=_
  rw [h0,h2,h4,h5]
 have ht:(hd++p5::tl).take (hd.length+(n+1))=hd++p5::tl.take n:=by
  rw [ZQl,ZOs (by omega),show hd.length+(n+1) - hd.length=n+1 by omega]
  rfl
 rw [Sd,hr];unfold Xq;cases c:Zd (hd.length+(n+1)) (List.map (·.2) [(0,Y),(2,G),(4,AV.mp hd.length),(5,Lv)])&&X4 (hd.length+(n+1)) ((hd++p5::tl).take (hd.length+(n+1))) with
 | false=>exact ⟨tl,rfl,hL,hc⟩
 | true=>
  refine ⟨tl.take n,by rw [cond_true,ht],ZHC hL ?_,fun m=>ZEO (hc m)⟩
  simp only [List.map,Zd,ZO2,ZOD] at c;exact c.1.2.2.2
theorem ZHH (n i o g:Nat) (a b c e:AV) (h:Hp):Xq n [(0,a),(2,b),(4,c),(5,e),(6,.ptr n i o g)] h=h:=by
 have e:Zd n ([(0,a),(2,b),(4,c),(5,e),(6,AV.ptr n i o g)].map (fun (p:Nat×AV)=>p.2))=false:=by
  have hn:Nat.blt n n=false:=by rw [ZPc];simp [ZOT]
  simp [Zd,bel,hn]
 unfold Xq;rw [e];rfl
section
variable (y:Nat) (s:Sta) (FC G p0 p3 p7:AV) (hd hd':List AObj) (K:List Str) (Lv:AV) (id:Str) (r:List Str) (tl L:List AObj) (d:Door)
theorem pd (hG:GRdz hd G s FC p0 p3 p7) (hL:LVm hd.length Lv (id::r) tl) (k:Nat) (hk':s.Doors[k]? = some d) (hf:pfn rE 54 [stA s,.str id]=some (I k)):
 Zb rE c71D (wfp y hd.length G Lv++[(16,.bool true)]) (hd++kM K::tl)=some (.normal,[(0,.yld y),(2,G),(4,.mp hd.length),(5,Lv),(6,.ptr (hd.length+(tl.length+1)) 0 0 1)],hd++kM K::(tl++[.row 16 [d.enc]])):=by
 obtain ⟨bl,g,off,ex,es,rfl,hb,hg1,hg2,hes⟩:=hL;have hlt:bl < tl.length:=(ZO7.1 hb).1;have hr:rowAt tl bl g=some (1,es):=by unfold rowAt;rw [hb];simp only [hg1,beq_self_eq_true,cond_true]
 have hes0:es[off]? = some (.str id):=by
  have:=congrArg List.head? hes;rw [List.head?_drop] at this;exact this
 have hg:=Z6 (f:=Door.enc) hk';have hk:(0≤(k:Int))=True:=by simp
 have hk2:((k:Int)).toNat=k:=ZQm k;have z0:((0:Int)).toNat=0:=rfl;have hlen:(id::r).length=r.length+1:=rfl;have hi0:iaP (hd.length+(bl+1)) g off 1 0 (r.length+1) (some (1,es))=some (.ptr (hd.length+(bl+1)) off 0 g):=VT _ _ _ _ _ _ _ ⟨Int.le_refl _,by omega⟩
 have hne:(hd.length+(tl.length+1)==hd.length+(bl+1))=false:=by rw [beq_eq_false_iff_ne];omega
 have hirr:decide (hd.length+(tl.length+1) < hd.length+(tl.length+1))=false:=by simp
 have l0:=hG.l0;obtain ⟨tG1,tG2,tG3⟩:=hG.t (hd.length+(tl.length+1)) (by omega)
 simp only [Zs] at tG1 tG2 tG3;simp only [stA] at hf l0;simp only [Door.enc,NL.enc] at hg;simp only [go_sem,qy,qq,qk,c71D,c71L1m,c121L1b,wfp,kM,hG.f0,hG.f3,hG.l3,l0,tG1,tG2,tG3,ZOm,ZOH,hne,Door.enc,NL.enc,ZEw,hr,ZOg,ZOj,ZHH,hf,hg,hi0,hes0,ZFd,ZEp,ZOa,ZOo]
theorem ZHI (hd:List AObj) (p5 x y:AObj) (tl:List AObj) (b:Bool):trimB (hd.length+(tl.length+1+1)) (hd++p5::(tl++[x,y])) b=hd++p5::(tl++x::bif b then [] else [y]):=by
 unfold trimB;cases b with
 | false=>rfl
 | true=>
  simp only [cond_true];rw [ZQl,ZOs (by omega),show hd.length+(tl.length+1+1) - hd.length=tl.length+1+1 by omega,ZPH,ZQl,ZOs (by omega)]
  simp
theorem ZHJ (hd:List AObj) (p5 x y:AObj) (tl:List AObj) (fr:Fr):∃ b:Bool,Xq (hd.length+(tl.length+1+1)) fr (hd++p5::(tl++[x,y]))=hd++p5::(tl++x::bif b then [] else [y]):=by
 refine ⟨Zd (hd.length+(tl.length+1+1)) (fr.map (·.2))&&X4 (hd.length+(tl.length+1+1)) ((hd++p5::(tl++[x,y])).take (hd.length+(tl.length+1+1))),?_⟩;have:=ZHI hd p5 x y tl (Zd (hd.length+(tl.length+1+1)) (fr.map (·.2))&&X4 (hd.length+(tl.length+1+1)) ((hd++p5::(tl++[x,y])).take (hd.length+(tl.length+1+1))));exact this
theorem ZG8 (hd tl L:List AObj) (p5:AObj) (x:AV) (sz:Nat):rowAt (hd++p5::(tl++.row sz [x]::L)) (hd.length+(tl.length+1)) 1=some (sz,[x]):=by rw [ZEw,ZEP]
theorem py (hl:hd'.length=hd.length) (hy:U4 rE y [d.enc] (hd++kM K::(tl++[.row 16 [d.enc]]))=some (.bool true,hd'++kM K::(tl++[.row 16 [d.enc],.row 16 [d.enc]]))):
 ∃ b:Bool,Zb rE c71Y [(0,.yld y),(2,G),(4,.mp hd.length),(5,Lv),(6,.ptr (hd.length+(tl.length+1)) 0 0 1)] (hd++kM K::(tl++[.row 16 [d.enc]])) =
  some (.normal,[(0,.yld y),(2,G),(4,.mp hd.length),(5,Lv),(6,.ptr (hd.length+(tl.length+1)) 0 0 1),(33,.bool false)],hd'++kM K::(tl++.row 16 [d.enc]::bif b then [] else [.row 16 [d.enc]])):=by
 obtain ⟨b,ht⟩:=ZHJ hd' (kM K) (.row 16 [d.enc]) (.row 16 [d.enc]) tl [(0,.yld y),(2,G),(4,.mp hd.length),(5,Lv),(6,.ptr (hd.length+(tl.length+1)) 0 0 1),(33,.bool false)];rw [hl] at ht;simp only [Door.enc,NL.enc,kM] at hy ht;refine ⟨b,?_⟩;simp only [go_sem,qy,qq,qk,S3,c71Y,c71L1m,c121L1b,kM,Door.enc,NL.enc,ZOg,ZOj,ZOp,ZG8,hy,ZO9,ht]
theorem ZHL (hd:List AObj) (p5 x:AObj) (tl L:List AObj) (fr:Fr):Xq (hd.length+(tl.length+(L.length+1)+1)) fr (hd++p5::(tl++x::L))=hd++p5::(tl++x::L):=ZE5 (by simp)
theorem pr (hG:GRdz hd G s FC p0 p3 p7) (v:AV) (A:List Str) (hv:ZEl hd v A) (hA:Xy rE false FC [d.enc] (hd++kM K::(tl++.row 16 [d.enc]::L))=some (v,hd++kM K::(tl++.row 16 [d.enc]::L))):
 Zb rE c71R [(0,.yld y),(2,G),(4,.mp hd.length),(5,Lv),(6,.ptr (hd.length+(tl.length+1)) 0 0 1),(33,.bool false)] (hd++kM K::(tl++.row 16 [d.enc]::L)) =
  some (.normal,[(0,.yld y),(2,G),(4,.mp hd.length),(5,Lv),(37,v),(38,I A.length),(39,I 0)],hd++kM K::(tl++.row 16 [d.enc]::L)):=by
 have hln:=hv.1;simp only [Door.enc,NL.enc,kM] at hA;simp only [go_sem,qy,qq,qk,c71R,c71Z,c71L1m,c121L1b,kM,hG.f7,hG.l7,Door.enc,NL.enc,ZOg,ZOj,ZG8,hA,hln,ZHL]
theorem pA (hL:LVm hd.length Lv (id::r) tl):
 Zb rE c71A (wfp y hd.length G Lv) (hd++kM K::tl)=some (.normal,wfp y hd.length G Lv++[(16,.bool true)],hd++kM K::tl):=by
 obtain ⟨bl,g,off,ex,es,rfl,hb,hg1,hg2,hes⟩:=hL;have hr:rowAt tl bl g=some (1,es):=by unfold rowAt;rw [hb];simp only [hg1,beq_self_eq_true,cond_true]
 have hlen:(id::r).length=r.length+1:=rfl;simp only [go_sem,qy,reduceIte,c71A,c121L1b,wfp,kM,hlen,ZEw,hr,ZOg,ZOj,ZFT,ZEJ,ZOa,ZOl]
theorem pE (hL:LVm hd.length Lv [] tl):
 Zb rE c71A (wfp y hd.length G Lv) (hd++kM K::tl)=some (.exit 0,wfp y hd.length G Lv++[(16,.bool false)],hd++kM K::tl):=by
 obtain ⟨bl,g,off,ex,es,rfl,hb,hg1,hg2,hes⟩:=hL;have hr:rowAt tl bl g=some (1,es):=by unfold rowAt;rw [hb];simp only [hg1,beq_self_eq_true,cond_true]
 have hlen:([]:List Str).length=0:=rfl;have h0:decide (((0:Nat):Int) > 0)=false:=rfl;simp only [go_sem,qy,reduceIte,c71A,c121L1b,wfp,kM,hlen,ZEw,hr,ZOg,ZOj,h0,ZEJ,ZOa,ZOl]
theorem pC (hL:LVm hd.length Lv (id::r) tl):
 ∃ fr Lv',Zb rE c71C (wfp y hd.length G Lv) (hd++kM K::tl)=some (.normal,fr,hd++kM K::tl)∧get fr 0=.yld y∧get fr 2=G∧get fr 4=.mp hd.length∧get fr 5=Lv'∧LVm hd.length Lv' r tl:=by
 obtain ⟨bl,g,off,ex,es,rfl,hb,hg1,hg2,hes⟩:=hL;have hlen:(id::r).length=r.length+1:=rfl;have hr:rowAt tl bl g=some (1,es):=by unfold rowAt;rw [hb];simp only [hg1,beq_self_eq_true,cond_true]
 refine ⟨[(5,.sl (hd.length+(bl+1)) g (off+1) r.length ex),(18,.sl (hd.length+(bl+1)) g (off+1) r.length ex),(17,.sl (hd.length+(bl+1)) g off (r.length+1) ex)]++wfp y hd.length G (.sl (hd.length+(bl+1)) g off (r.length+1) ex),.sl (hd.length+(bl+1)) g (off+1) r.length ex,?_,rfl,rfl,rfl,rfl,?_⟩
 ·have hs:=ZFV (h:=hd++.map (K.map encS) (ZO K.length)::tl) (b:=hd.length+(bl+1)) (off:=off) (n:=r.length) (ex:=ex) (by rw [ZEw];exact hr)
  simp only [go_sem,qy,c71C,c121L1b,wfp,kM,hlen,ZFU,hs,ZOa,ZOl]
 ·refine ⟨bl,g,off+1,ex,es,rfl,hb,hg1,by simp at hg2;omega,?_⟩
  have:=congrArg List.tail hes
  rwa [List.tail_drop] at this
theorem ZHM (hG:GRdz hd G s FC p0 p3 p7) (hG':GRdz hd' G s FC p0 p3 p7) (hl:hd'.length=hd.length) (hL:LVm hd.length Lv (id::r) tl) (hc:TC' tl) (k:Nat) (hk:s.Doors[k]? = some d) (hf:pfn rE 54 [stA s,.str id]=some (I k)) (A:List Str) (h3:(id::r).length+A.length≤1000000)
 (hy:U4 rE y [d.enc] (hd++kM K::(tl++[.row 16 [d.enc]]))=some (.bool true,hd'++kM K::(tl++[.row 16 [d.enc],.row 16 [d.enc]])))
 (hA:∀ L,∃ v,Xy rE false FC [d.enc] (hd'++kM K::(tl++.row 16 [d.enc]::L))=some (v,hd'++kM K::(tl++.row 16 [d.enc]::L))∧ZEl hd' v A):
 ∃ Lv' tl',Zb rE c121L1b (wfp y hd.length G Lv) (hd++kM K::tl)=some (.normal,wfp y hd.length G Lv',hd'++kM (A.foldl wkS (K,id::r)).1::tl')∧
  LVm hd.length Lv' (A.foldl wkS (K,id::r)).2.tail tl'∧TC' tl':=by
 obtain ⟨b,hy'⟩:=py y G hd hd' K Lv tl d hl hy;have hT:TC' (tl++.row 16 [d.enc]::bif b then [] else [.row 16 [d.enc]]):=fun n=>by
  have e:Zj n (.row 16 [d.enc])=true:=by simp only [Zj,Zd,Door.enc,NL.enc,bel,ZOH]
  rw [ZEu,hc n];cases b<;>simp only [cond_true,cond_false,X4,e,ZOH]
 generalize (bif b then [] else [AObj.row 16 [d.enc]])=X at hy' hT;obtain ⟨v,hA,hv⟩:=hA X;have hin:=ZHG hd' (.yld y) (G) v A hv (K,id::r) Lv (tl++.row 16 [d.enc]::X) (by rw [hl];exact ZHB hL _) hT h3
 have hr:=pr y s FC G p0 p3 p7 hd' K Lv tl X d hG' v A hv hA;have kq:=fun {fr:Fr} {Y G Lv:AV} {L:List Str}=>@ZG7 fr Y G Lv L hd'
 have cq:=fun (K:List Str) (Lv:AV) (id:Str) (r:List Str) (tl:List AObj)=>pC y G hd' K Lv id r tl
 rw [hl] at hin hr;simp only [hl] at kq cq;obtain ⟨fr',Lv0,tl0,hin,z1,z2,z3,z4,z5,z6⟩:=hin;obtain ⟨tl1,hk1,l1,c1⟩:=kq (kM (A.foldl wkS (K,id::r)).1) (tl++.row 16 [d.enc]::X).length .normal z3 z4 z5 z6 z1 z2;have hlen1:(hd'++kM K::(tl++.row 16 [d.enc]::X)).length=hd.length+((tl++.row 16 [d.enc]::X).length+1):=by rw [ZEH,hl]
 have e1:Zb rE c71L1m (wfp y hd.length G Lv++[(16,.bool true)]) (hd++kM K::tl)=some (.normal,wfp y hd.length G Lv0,hd'++kM (A.foldl wkS (K,id::r)).1::tl1):=by
  show Zb rE (.seq c71D (.seq c71Y (.seq c71R (.keep [0,2,4,5] (.block 2 c121L0))))) _ _=_
  rw [SK,pd y s FC G p0 p3 p7 hd K Lv id r tl d hG hL k hk hf,SH,SK,hy',SH,SK,hr,SH,Sm,Sl];show kp _ _ (blk 2 (Zg rE [0,2,4,5,37,38,39] c121L0b _ _))=_
  rw [hin,hlen1];exact hk1
 obtain ⟨r',hne⟩:=ZEQ A K (id::r) id r rfl;generalize A.foldl wkS (K,id::r)=q at hne e1 l1 ⊢;obtain ⟨K',L'⟩:=q;have hne:L'=id::r':=hne;subst hne;have l1:LVm hd.length Lv0 (id::r') tl1:=l1;obtain ⟨tl2,e2,l2,c2⟩:=kq (Y:=.yld y) (G:=G) (Lv:=Lv0) (fr:=wfp y hd.length G Lv0) (kM K') tl.length .normal rfl rfl rfl rfl l1 c1;obtain ⟨fr3,Lv3,e3,g0,g2,g4,g5,l3⟩:=cq K' Lv0 id r' tl2 l2;obtain ⟨tl4,e4,l4,c5004⟩:=kq (Y:=.yld y) (G:=G) (Lv:=Lv3) (fr:=fr3) (kM K') tl2.length .normal g0 g2 g4 g5 l3 c2;obtain ⟨tl5,e5,l5,c5005⟩:=kq (Y:=.yld y) (G:=G) (Lv:=Lv3) (fr:=wfp y hd.length G Lv3) (kM K') tl.length .normal rfl rfl rfl rfl l4 c5004;refine ⟨Lv3,tl5,?_,l5,c5005⟩;show Zb rE (.keep [0,2,4,5] (.seq c71A (.seq (.keep [0,2,4,5] (.block 1 c71L1m)) (.keep [0,2,4,5] c71C)))) _ _=_
 rw [Sm,SK,pA y G hd K Lv id r tl hL,SH,SK,Sm,Sl,e1];show kp _ _ (sq rE _ (kp _ _ (some (.normal,wfp y hd.length G Lv0,_))))=_
 rw [ZEH,e2,SH,Sm];rw [show Zb rE c71C [(0,.yld y),(2,G),(4,.mp hd.length),(5,Lv0)] (hd'++kM K'::tl2)=_ from e3,ZEH,hl,e4]
 exact e5
end
theorem ZHN {σ:Type} {s:Sta} {aft:Door→List Str} {f:Door→σ→σ} {ok:σ→Prop} (FC G p0 p3 p7:AV) (y m:Nat) (H:σ→List AObj) (hG:∀ x,GRdz (H x) G s FC p0 p3 p7) (hH:∀ x,(H x).length=m)
 (hy:∀ (d:Door) (x:σ) (K:List Str) (tl:List AObj),d∈s.Doors→ok x→U4 rE y [d.enc] (H x++kM K::(tl++[.row 16 [d.enc]]))=some (.bool true,H (f d x)++kM K::(tl++[.row 16 [d.enc],.row 16 [d.enc]])))
 (hA:∀ (d:Door) (x:σ) (K:List Str) (tl:List AObj),d∈s.Doors→∃ v,Xy rE false FC [d.enc] (H x++kM K::tl)=some (v,H x++kM K::tl)∧ZEl (H x) v (aft d))
 {K L:List Str} {x x':σ} (R:RunsG s aft f ok K L x x'):∀ (Lv:AV) (tl:List AObj),LVm m Lv L tl→TC' tl→
 ∃ K' Lv' tl',Zg rE [0,2,4,5] c121L1b (wfp y m G Lv) (H x++kM K::tl)=some (.exit 0,wfp y m G Lv',H x'++kM K'::tl'):=by
 induction R with
 | stop K x=>
  intro Lv tl hL hc;have hm:=hH x;subst hm;obtain ⟨tl2,e2,l2,c2⟩:=ZG7 (Y:=.yld y) (G:=G) (Lv:=Lv) (fr:=wfp y (H x).length G Lv++[(16,.bool false)]) (H x) (kM K) tl.length (.exit 0) rfl rfl rfl rfl hL hc;refine ⟨K,Lv,tl2,Q7 rfl ?_ (fun h=>by cases h)⟩
  show Zb rE (.keep [0,2,4,5] (.seq c71A (.seq (.keep [0,2,4,5] (.block 1 c71L1m)) (.keep [0,2,4,5] c71C)))) _ _=_
  rw [Sm,SK,pE y G (H x) K Lv tl hL,SI,ZEH];exact e2
 | step K id r x x' k d hd hf hx h3 h ih=>
  intro Lv tl hL hc;have hm:=ZOh hd;have hl:(H (f d x)).length=(H x).length:=by rw [hH,hH]
  have hm':=hH x;obtain ⟨Lv1,tl1,e1,l1,c1⟩:=ZHM y s FC G p0 p3 p7 (H x) (H (f d x)) K Lv id r tl d (hG x) (hG (f d x)) hl (by rw [hm'];exact hL) hc k hd hf (aft d) h3 (hy d x K tl hm hx) (fun L=>hA d (f d x) K _ hm)
  rw [hm'] at e1 l1;obtain ⟨K',Lv',tl',e⟩:=ih Lv1 tl1 l1 c1;refine ⟨K',Lv',tl',?_⟩;rw [Yt rfl e1];exact e
end Go.AM
namespace Go.AM
open Go
theorem ZGf (hd Z:List AObj) (n:Nat) (fr:Fr) (hn:hd.length≤n):∃ tl,Xq n fr (hd++Z)=hd++tl:=by
 unfold Xq;cases Zd n (fr.map (·.2))&&X4 n ((hd++Z).take n) with
 | false=>exact ⟨Z,rfl⟩
 | true=>exact ⟨Z.take (n - hd.length),by rw [cond_true,ZQl,ZOs hn]⟩
theorem ZI8 {σ:Type} {s:Sta} {aft:Door→List Str} {f:Door→σ→σ} {ok:σ→Prop} (FC G p0 p3 p7:AV) (y m:Nat) (H:σ→List AObj) (hG:∀ x,GRdz (H x) G s FC p0 p3 p7) (hH:∀ x,(H x).length=m)
 (hy:∀ (d:Door) (x:σ) (K:List Str) (tl:List AObj),d∈s.Doors→ok x→U4 rE y [d.enc] (H x++kM K::(tl++[.row 16 [d.enc]]))=some (.bool true,H (f d x)++kM K::(tl++[.row 16 [d.enc],.row 16 [d.enc]])))
 (hA:∀ (d:Door) (x:σ) (K:List Str) (tl:List AObj),d∈s.Doors→∃ v,Xy rE false FC [d.enc] (H x++kM K::tl)=some (v,H x++kM K::tl)∧ZEl (H x) v (aft d))
 (id:Str) {x x':σ} (R:RunsG s aft f ok [id] [id] x x'):
 ∃ fr tl,Zb rE c121 (QP 0 ([]++[.yld y]++[.iptr false [.str id],G])) (H x)=some (.normal,fr,H x'++tl):=by
 obtain ⟨K',Lv',tl',hl⟩:=ZHN FC G p0 p3 p7 y m H hG hH hy hA R (.sl (m+(0+1)) 1 0 1 true) [.row 1 [.str id]] ⟨0,1,0,true,[.str id],rfl,rfl,rfl,rfl,rfl⟩ (fun n=>rfl)
 have hm:=hH x;have hm':=hH x';have hp:=Ur (enc:=encS) (eq:=Z3) Z1Y [] id (h:=H x++[.map [] []]) (b:=(H x).length) (ZEG _ _ _);have hk:Qi Z3 [] id=[id]:=rfl;rw [hk] at hp;have hrep:List.replicate 1 (AV.bool true)=[.bool true]:=rfl;have hrep0:List.replicate 0 (AV.bool true)=[]:=rfl;rw [ZEV] at hp;simp only [encS,List.map,ZO,ZOg,ZOp,ZOf,hrep] at hp;simp only [wfp,kM,encS,List.map,ZO,ZOg,ZOp,ZOf,hrep] at hl;subst hm;have f1:∀ a b c h,Xq (H x).length [(0,a),(1,b),(2,c),(4,.mp (H x).length)] h=h:=fun a b c h=>by
  have hn:Nat.blt (H x).length (H x).length=false:=by rw [ZPc];simp [ZOT]
  have e:Zd (H x).length ([(0,a),(1,b),(2,c),(4,AV.mp (H x).length)].map (fun (p:Nat×AV)=>p.2))=false:=by simp [Zd,bel,hn]
  unfold Xq;rw [e];rfl
 have f2:∀ n a b c g o k ex h,Xq n [(0,a),(2,b),(4,c),(5,.sl n g o k ex)] h=h:=fun n a b c g o k ex h=>by
  have hn:Nat.blt n n=false:=by rw [ZPc];simp [ZOT]
  have e:Zd n ([(0,a),(2,b),(4,c),(5,AV.sl n g o k ex)].map (fun (p:Nat×AV)=>p.2))=false:=by simp [Zd,bel,hn]
  unfold Xq;rw [e];rfl
 have l1:∀ o:AObj,(H x++[o]).length=(H x).length+1:=fun o=>by simp
 have l2:∀ o p:AObj,(H x++[o]++[p]).length=(H x).length+2:=fun o p=>by simp
 have l3:H x++[AObj.map [.str id] [.bool true]]++[.row 1 [.str id]]=H x++[AObj.map [.str id] [.bool true],.row 1 [.str id]]:=by simp
 have hl:Zg rE [0,2,4,5] c121L1b _ (H x++[AObj.map [.str id] [.bool true],.row 1 [.str id]])=_:=hl;simp only [go_sem,qy,qq,qv,c121,c121L1,hp,f1,f2,l1,l3,hl];obtain ⟨tl,ht⟩:=ZGf (H x') (AObj.map (K'.map encS) (List.replicate K'.length (.bool true))::tl') ((H x).length+2) [] (by omega)
 exact ⟨[],tl,by rw [ht]⟩
end Go.AM
namespace Go.AM
open Go
theorem ZL5 {s:Sta} {K L:List Str} {D E D' E':List AV} (H:Runs s K L D E D' E'):RunsG s (fun d=>d.After.l) (fun d (q:List AV×List AV)=>(faD d q.1,faE d q.2)) (fun q=>q.1.length≤1000∧q.2.length≤1000) K L (D,E) (D',E'):=by
 induction H with
 | stop K D E=>exact RunsG.stop _ _
 | step K id r D E D' E' k d hd hf h1 h2 h3 h ih=>exact RunsG.step K id r _ _ k d hd hf ⟨h1,h2⟩ (by omega) ih
theorem ZHd (s:Sta) (t:AV) (id:Str) (D' E':List AV) (H:Runs s [id] [id] [] [] D' E'):
 ∃ fr tl,Zb rE c121 (QP 0 ([]++[.yld 4]++[.iptr false [.str id],grA s])) (h5 t [] [])=some (.normal,fr,h5 t D' E'++tl):=
 ZI8 (AV.clo (.func 66) [] []) (grA s) (.iptr false ((stA s).cells++[AV.clo (.func 66) [] []])) (.iptr false (((stA s).cells++[AV.clo (.func 66) [] []]).drop 3)) (.iptr false [AV.clo (.func 66) [] []]) 4 5 (fun q:List AV×List AV=>h5 t q.1 q.2)
  (fun q=>⟨fun _ _=>rfl,fun _ _=>rfl,fun _ _=>rfl,fun _ _=>rfl,fun _ _=>rfl,fun _ _=>rfl,fun _ _=>⟨rfl,rfl,rfl⟩⟩) (fun q=>rfl)
  (fun d q K tl _ hq=>by
   have h:=ZGU t d q.1 q.2 (kM K::(tl++[.row 16 [d.enc]])) hq.1 hq.2;rw [ZOa,ZOo] at h;exact h)
  (fun d q K tl _=>⟨d.After.enc 1 encS,by
   have h:=ZGY d (h5 t q.1 q.2++kM K::tl);rw [RL];exact h,ZHE _ _ _⟩) id (ZL5 H)
end Go.AM
namespace Go.AM
open Go
def wkT (s:Sta) (id:Str):AV:=.clo (.func 121) [] [.iptr false [.str id],grA s]
def h4 (D E:List AV):List AObj:=[.row 2 [.agg [.isl false false 1 [],.isl false false 3 []]],.row 1 D,.row 3 E,.row 2 [.agg [.sl 1 D.length 0 D.length false,.sl 2 E.length 0 E.length false]]]
theorem ZHe (s:Sta) (id:Str) (D E:List AV) (H:Runs s [id] [id] [] [] D E):
 ∃ tl,rf rE (wkT s id) [20] c31R0a c31R0b (ffr (wkT s id)) (h4 [] [])=some (.normal,ffr (wkT s id),h4 D E++tl):=by
 obtain ⟨fr,tl,h⟩:=ZHd s (wkT s id) id D E H;refine ⟨.loop .exhausted .normal (ffr (wkT s id)) [20] c31R0a c31R0b::tl,?_⟩;unfold wkT;rw [Z1k (c:=c121) (rs:=[]) rfl];have h':Zb rE c121 (QP 0 ([]++[.yld (h4 [] []).length]++[.iptr false [.str id],grA s])) (h4 [] []++[.loop .ready .normal (ffr (wkT s id)) [20] c31R0a c31R0b])=_:=h;unfold wkT at h';rw [h'];rfl
def grC (s:Sta):List AV:=[.isl false false 6 (s.Regions.map Region.enc),.isl false false 5 (s.Streets.map Street.enc),.isl false false 4 (s.Buildings.map Building.enc),.isl false false 16 (s.Doors.map Door.enc),.isl false false 6 (s.Units.map Unit'.enc),.isl false false 2 (s.Merged.map Pair.enc),.isl false false 2 (s.Rulings.map Pair.enc)]
theorem ZHf (s:Sta) (id:Str) (h:Hp):fnV rE 67 [.agg (grC s++[.clo (.func 66) [] []]),.str id] h=some (.clo (.func 121) [] [.iptr false [.str id],.iptr false (grC s++[.clo (.func 66) [] []])],h):=by
 rw [Q6 (f:=67) rfl rfl];unfold grC;simp only [go_sem,qy,qq,c67,ZOa,ZOl,ZE5 (h:=h) rfl]
theorem ZHg (p0 p1 p2 p3:AObj) (tl:List AObj) (b:Bool):trimB 4 (p0::p1::p2::p3::tl) b=p0::p1::p2::p3::bif b then [] else tl:=by cases b<;>rfl
theorem ZHh {D D2:List AV} (hD:ZE7 69 [ZEa 69] 1 D=some D2) (p0 p2 p3:AObj) (tl:List AObj):
 rsD (rE.rs 68) (p0::.row 1 D::p2::p3::tl) [.sl 1 D.length 0 D.length false,.clo (.func 69) [] []]=some (.sl 1 D.length 0 D.length false,⟨false,[1],some 1,none⟩,some (1,.row 1 D2)):=by
 show ZEn (ZE7 69) _ _=_
 unfold ZEn ZE8;simp only [ZOR,ZOC,beq_self_eq_true,ZOH,cond_true];have hD':ZE7 69 [.clo (.func 69) [] []] 1 D=some D2:=hD;rw [hD'];rfl
theorem ZHi {E E2:List AV} (hE:ZEe 71 3 ZEf [ZEa 71] 3 E=some E2) (p0 p1 p3:AObj) (tl:List AObj):
 fnV rE 70 [.sl 2 E.length 0 E.length false,.clo (.func 71) [] []] (p0::p1::.row 3 E::p3::tl)=some (.sl 2 E.length 0 E.length false,p0::p1::.row 3 E2::p3::tl):=by
 rw [V8 (s:=ZEo (ZEe 71 3 ZEf)) rfl];unfold ZEo ZE8;simp only [ZOR,ZOC,beq_self_eq_true,ZOH,cond_true];have hE':ZEe 71 3 ZEf [.clo (.func 71) [] []] 3 E=some E2:=hE;rw [hE'];rfl
theorem ZHj {E:Env} {d:Option Nat} {r:List AOper} {u:List Nat} {us:List (List Nat)} {fr:Fr} {h:Hp} {recs:List DRec} {v:AV} {rc:DRec} {b:Nat} {o:AObj}:
 rkw E d r u us fr h recs (some (v,rc,some (b,o)))=okd recs u h rc (some (b,o)) (Zm E r us (ZB fr d v) (setH h b o) (recs++[rc])):=rfl
theorem ZHk {α:Type} {recs:List DRec} {p0 p1 o:AObj} {tl:List AObj} {d:DRec} {k:Option α}:okd recs [] (p0::p1::tl) d (some (1,o)) k=k:=Z9E rfl (ZP0 (show 1≤(p0::p1::tl).length by simp))
theorem ZHl (p0 p1 p2 p3:AObj) (tl:List AObj) (b:Bool):trimB (tl.length+1+1+1+1) (p0::p1::p2::p3::tl) b=p0::p1::p2::p3::tl:=ZEx (by simp)
theorem ZFW (s:Sta) (id:Str) (D E D2 E2:List AV) (hc:pfn rE 65 [stA s,.str id]=some (I 0)) (H:Runs s [id] [id] [] [] D E) (hD:ZE7 69 [ZEa 69] 1 D=some D2) (hE:ZEe 71 3 ZEf [ZEa 71] 3 E=some E2) (hDl:D2.length=D.length) (hEl:E2.length=E.length) (hDc:Z4 D2=true) (hEc:Z4 E2=true):
 pfn rE 31 [stA s,.str id]=some (.tup [.agg [.isl false false 1 D2,.isl false false 3 E2],I 0]):=by
 obtain ⟨tl,hr⟩:=ZHe s id D E H;simp only [stA] at hc;simp only [wkT,grA,ffr,h4,AV.cells,ZOa,ZOl,ZOp] at hr;have hw:=ZHf s id;simp only [grC,ZOa,ZOl] at hw;have b1:(D2.length==D.length)=true:=by rw [hDl];exact beq_self_eq_true _
 have b2:(E2.length==E.length)=true:=by rw [hEl];exact beq_self_eq_true _
 have t1:D2.take D.length=D2:=by rw [←hDl];exact ZOE
 have t2:E2.take E.length=E2:=by rw [←hEl];exact ZOE
 have f1:∀ h n,ZC false h (n+1) D2=some D2:=fun h n=>by simp only [ZC,hDc,cond_true]
 have f2:∀ h n,ZC false h (n+1) E2=some E2:=fun h n=>by simp only [ZC,hEc,cond_true]
 have f1:=fun h=>f1 h 34
 have f2:=fun h=>f2 h 33
 simp only [Nat.reduceAdd] at f1 f2;have h00:((0:Int) != 0)=false:=rfl;rw [Z5 (f:=31) rfl rfl];simp only [go_sem,qy,qq,qv,qk,reduceIte,c31,stA,hc,h00,hw,put,Sr,hr,ZHg,ZL4,ZHj,ZHk,ZHl,ZHh hD,ZHi hE,b1,b2,t1,t2,f1,f2]
end Go.AM
namespace Go.AM
open Go
def WQ (x:Region):Bool:=[x.Id].all ZU&&(XQ x.Names.l&&(!decide ((x.Ring.l.length:Int) > 12)))
def WR (x:Street):Bool:=[x.Id].all ZU&&(XQ x.Names.l&&(!decide ((x.Line.l.length:Int) > 12)))
def WS (x:Building):Bool:=[x.Id].all ZU&&(!decide ((x.Ring.l.length:Int) > 12))
def WT (x:Door):Bool:=[x.Id,x.Building,x.Street,x.Number.Letter,x.Veil].all ZU&&(!decide ((x.After.l.length:Int) > 10)&&(x.After.l.all ZU))
def WU (x:Unit'):Bool:=[x.Id,x.Door,x.Text].all ZU
theorem Z4A (s:Sta) (hl:s.Regions.length≤1000):∃ fr',Zg rE [1,3] c16L0b [(1,stI s),(3,.int .i64 0)] []=some (if s.Regions.all WQ=true then .exit 0 else .ret,fr',[])∧(s.Regions.all WQ=true→get fr' 1=stI s∧get fr' 2=.bot)∧(s.Regions.all WQ=false→get fr' 2=.bool false):=by
 have L:=QT (E:=rE) (live:=[1,3]) (b:=c16L0b) (h:=[]) s.Regions (fun _ x=>WQ x) (fun i=>[(1,stI s),(3,I i)]) 0 (fun fr=>get fr 1=stI s∧get fr 2=.bot) (fun fr=>get fr 2=.bool false) (fun i=>rfl)
  (fun i x hx hP=>by
   have hg:=Z6 (f:=Region.enc) hx;have hi:=Zh (Z7 hx);have hw:=Zx (n:=i) (by have:=Z7 hx;omega)
   have hS:=JK x.Id;have hN:=UQ x.Names.ex x.Names.l;simp only [WQ,ZO2,ZOn] at hP;obtain ⟨p0,p1,p2⟩:=hP;rw [p0] at hS;rw [p1] at hN;refine ⟨_,by simp only [go_sem,qy,qq,qv,qk,reduceIte,c16L0b,hg,hi,hw,Region.enc,NL.enc,hS,hN,p2];rfl,?_⟩
   simp only [go_sem,qy])
  (fun i x hx hP=>by
   have hg:=Z6 (f:=Region.enc) hx;have hi:=Zh (Z7 hx);have hS:=JK x.Id;have hN:=UQ x.Names.ex x.Names.l;unfold WQ at hP;cases c0:[x.Id].all ZU with
   | false=>
    rw [c0] at hS;refine ⟨_,by simp only [go_sem,qy,qq,qv,qk,reduceIte,c16L0b,hg,hi,Region.enc,NL.enc,hS];rfl,?_⟩
    simp only [go_sem,qy]
   | true=>
   rw [c0] at hS hP;cases c1:XQ x.Names.l with
   | false=>
    rw [c1] at hN;refine ⟨_,by simp only [go_sem,qy,qq,qv,qk,reduceIte,c16L0b,hg,hi,Region.enc,NL.enc,hS,hN];rfl,?_⟩
    simp only [go_sem,qy]
   | true=>
   rw [c1] at hN hP;cases c2:decide ((x.Ring.l.length:Int) > 12) with
   | true=>
    refine ⟨_,by simp only [go_sem,qy,qq,qv,qk,reduceIte,c16L0b,hg,hi,Region.enc,NL.enc,hS,hN,c2];rfl,?_⟩
    simp only [go_sem,qy]
   | false=>
   rw [c2] at hP;cases hP)
  (⟨_,by simp only [go_sem,qy,reduceIte,c16L0b,ZG];rfl,by simp only [go_sem,qy],by simp only [go_sem,qy]⟩)
 rw [QE] at L;exact L
theorem Z4B (s:Sta) (hl:s.Streets.length≤1000):∃ fr',Zg rE [1,4] c16L1b [(1,stI s),(4,.int .i64 0)] []=some (if s.Streets.all WR=true then .exit 2 else .ret,fr',[])∧(s.Streets.all WR=true→get fr' 1=stI s∧get fr' 2=.bot)∧(s.Streets.all WR=false→get fr' 2=.bool false):=by
 have L:=QT (E:=rE) (live:=[1,4]) (b:=c16L1b) (h:=[]) s.Streets (fun _ x=>WR x) (fun i=>[(1,stI s),(4,I i)]) 2 (fun fr=>get fr 1=stI s∧get fr 2=.bot) (fun fr=>get fr 2=.bool false) (fun i=>rfl)
  (fun i x hx hP=>by
   have hg:=Z6 (f:=Street.enc) hx;have hi:=Zh (Z7 hx);have hw:=Zx (n:=i) (by have:=Z7 hx;omega)
   have hS:=JK x.Id;have hN:=UQ x.Names.ex x.Names.l;simp only [WR,ZO2,ZOn] at hP;obtain ⟨p0,p1,p2⟩:=hP;rw [p0] at hS;rw [p1] at hN;refine ⟨_,by simp only [go_sem,qy,qq,qv,qk,reduceIte,c16L1b,hg,hi,hw,Street.enc,NL.enc,hS,hN,p2];rfl,?_⟩
   simp only [go_sem,qy])
  (fun i x hx hP=>by
   have hg:=Z6 (f:=Street.enc) hx;have hi:=Zh (Z7 hx);have hS:=JK x.Id;have hN:=UQ x.Names.ex x.Names.l;unfold WR at hP;cases c0:[x.Id].all ZU with
   | false=>
    rw [c0] at hS;refine ⟨_,by simp only [go_sem,qy,qq,qv,qk,reduceIte,c16L1b,hg,hi,Street.enc,NL.enc,hS];rfl,?_⟩
    simp only [go_sem,qy]
   | true=>
   rw [c0] at hS hP;cases c1:XQ x.Names.l with
   | false=>
    rw [c1] at hN;refine ⟨_,by simp only [go_sem,qy,qq,qv,qk,reduceIte,c16L1b,hg,hi,Street.enc,NL.enc,hS,hN];rfl,?_⟩
    simp only [go_sem,qy]
   | true=>
   rw [c1] at hN hP;cases c2:decide ((x.Line.l.length:Int) > 12) with
   | true=>
    refine ⟨_,by simp only [go_sem,qy,qq,qv,qk,reduceIte,c16L1b,hg,hi,Street.enc,NL.enc,hS,hN,c2];rfl,?_⟩
    simp only [go_sem,qy]
   | false=>
   rw [c2] at hP;cases hP)
  (⟨_,by simp only [go_sem,qy,reduceIte,c16L1b,ZG];rfl,by simp only [go_sem,qy],by simp only [go_sem,qy]⟩)
 rw [QE] at L;exact L
theorem Z4C (s:Sta) (hl:s.Buildings.length≤1000):∃ fr',Zg rE [1,5] c16L2b [(1,stI s),(5,.int .i64 0)] []=some (if s.Buildings.all WS=true then .exit 4 else .ret,fr',[])∧(s.Buildings.all WS=true→get fr' 1=stI s∧get fr' 2=.bot)∧(s.Buildings.all WS=false→get fr' 2=.bool false):=by
 have L:=QT (E:=rE) (live:=[1,5]) (b:=c16L2b) (h:=[]) s.Buildings (fun _ x=>WS x) (fun i=>[(1,stI s),(5,I i)]) 4 (fun fr=>get fr 1=stI s∧get fr 2=.bot) (fun fr=>get fr 2=.bool false) (fun i=>rfl)
  (fun i x hx hP=>by
   have hg:=Z6 (f:=Building.enc) hx;have hi:=Zh (Z7 hx);have hw:=Zx (n:=i) (by have:=Z7 hx;omega)
   have hS:=JK x.Id;simp only [WS,ZO2,ZOn] at hP;obtain ⟨p0,p1⟩:=hP;rw [p0] at hS;refine ⟨_,by simp only [go_sem,qy,qq,qv,qk,reduceIte,c16L2b,hg,hi,hw,Building.enc,NL.enc,hS,p1];rfl,?_⟩
   simp only [go_sem,qy])
  (fun i x hx hP=>by
   have hg:=Z6 (f:=Building.enc) hx;have hi:=Zh (Z7 hx);have hS:=JK x.Id;unfold WS at hP;cases c0:[x.Id].all ZU with
   | false=>
    rw [c0] at hS;refine ⟨_,by simp only [go_sem,qy,qq,qv,qk,reduceIte,c16L2b,hg,hi,Building.enc,NL.enc,hS];rfl,?_⟩
    simp only [go_sem,qy]
   | true=>
   rw [c0] at hS hP;cases c2:decide ((x.Ring.l.length:Int) > 12) with
   | true=>
    refine ⟨_,by simp only [go_sem,qy,qq,qv,qk,reduceIte,c16L2b,hg,hi,Building.enc,NL.enc,hS,c2];rfl,?_⟩
    simp only [go_sem,qy]
   | false=>
   rw [c2] at hP;cases hP)
  (⟨_,by simp only [go_sem,qy,reduceIte,c16L2b,ZG];rfl,by simp only [go_sem,qy],by simp only [go_sem,qy]⟩)
 rw [QE] at L;exact L
theorem Z4D (s:Sta) (hl:s.Doors.length≤1000):∃ fr',Zg rE [1,6] c16L3b [(1,stI s),(6,.int .i64 0)] []=some (if s.Doors.all WT=true then .exit 6 else .ret,fr',[])∧(s.Doors.all WT=true→get fr' 1=stI s∧get fr' 2=.bot)∧(s.Doors.all WT=false→get fr' 2=.bool false):=by
 have L:=QT (E:=rE) (live:=[1,6]) (b:=c16L3b) (h:=[]) s.Doors (fun _ x=>WT x) (fun i=>[(1,stI s),(6,I i)]) 6 (fun fr=>get fr 1=stI s∧get fr 2=.bot) (fun fr=>get fr 2=.bool false) (fun i=>rfl)
  (fun i x hx hP=>by
   have hg:=Z6 (f:=Door.enc) hx;have hi:=Zh (Z7 hx);have hw:=Zx (n:=i) (by have:=Z7 hx;omega)
   have hS:=FQ x.Id x.Building x.Street x.Number.Letter x.Veil;simp only [WT,ZO2,ZOn] at hP;obtain ⟨p0,p1,p2⟩:=hP;rw [p0] at hS;have hA:=Vv false x.After.ex x.After.l (by have:=of_decide_eq_false p1;omega)
   rw [p2] at hA;refine ⟨_,by simp only [go_sem,qy,qq,qv,qk,reduceIte,c16L3b,hg,hi,hw,Door.enc,NL.enc,hS,p1,hA];rfl,?_⟩
   simp only [go_sem,qy])
  (fun i x hx hP=>by
   have hg:=Z6 (f:=Door.enc) hx;have hi:=Zh (Z7 hx);have hS:=FQ x.Id x.Building x.Street x.Number.Letter x.Veil;unfold WT at hP;cases c0:[x.Id,x.Building,x.Street,x.Number.Letter,x.Veil].all ZU with
   | false=>
    rw [c0] at hS;refine ⟨_,by simp only [go_sem,qy,qq,qv,qk,reduceIte,c16L3b,hg,hi,Door.enc,NL.enc,hS];rfl,?_⟩
    simp only [go_sem,qy]
   | true=>
   rw [c0] at hS hP;cases c2:decide ((x.After.l.length:Int) > 10) with
   | true=>
    refine ⟨_,by simp only [go_sem,qy,qq,qv,qk,reduceIte,c16L3b,hg,hi,Door.enc,NL.enc,hS,c2];rfl,?_⟩
    simp only [go_sem,qy]
   | false=>
   rw [c2] at hP;have hA:=Vv false x.After.ex x.After.l (by have:=of_decide_eq_false c2;omega)
   cases c5003:x.After.l.all ZU with
   | false=>
    rw [c5003] at hA;refine ⟨_,by simp only [go_sem,qy,qq,qv,qk,reduceIte,c16L3b,hg,hi,Door.enc,NL.enc,hS,c2,hA];rfl,?_⟩
    simp only [go_sem,qy]
   | true=>rw [c5003] at hP;cases hP)
  (⟨_,by simp only [go_sem,qy,reduceIte,c16L3b,ZG];rfl,by simp only [go_sem,qy],by simp only [go_sem,qy]⟩)
 rw [QE] at L;exact L
theorem Z4E (s:Sta) (hl:s.Units.length≤1000):∃ fr',Zg rE [1,8] c16L4b [(1,stI s),(8,.int .i64 0)] []=some (if s.Units.all WU=true then .exit 8 else .ret,fr',[])∧(s.Units.all WU=true→get fr' 1=stI s∧get fr' 2=.bot)∧(s.Units.all WU=false→get fr' 2=.bool false):=by
 have L:=QT (E:=rE) (live:=[1,8]) (b:=c16L4b) (h:=[]) s.Units (fun _ x=>WU x) (fun i=>[(1,stI s),(8,I i)]) 8 (fun fr=>get fr 1=stI s∧get fr 2=.bot) (fun fr=>get fr 2=.bool false) (fun i=>rfl)
  (fun i x hx hP=>by
   have hg:=Z6 (f:=Unit'.enc) hx;have hi:=Zh (Z7 hx);have hw:=Zx (n:=i) (by have:=Z7 hx;omega)
   have hS:=FP x.Id x.Door x.Text;simp only [WU] at hP;have p0:=hP;rw [p0] at hS;refine ⟨_,by simp only [go_sem,qy,qq,qv,qk,reduceIte,c16L4b,hg,hi,hw,Unit'.enc,hS];rfl,?_⟩
   simp only [go_sem,qy])
  (fun i x hx hP=>by
   have hg:=Z6 (f:=Unit'.enc) hx;have hi:=Zh (Z7 hx);have hS:=FP x.Id x.Door x.Text;unfold WU at hP;cases c0:[x.Id,x.Door,x.Text].all ZU with
   | false=>
    rw [c0] at hS;refine ⟨_,by simp only [go_sem,qy,qq,qv,qk,reduceIte,c16L4b,hg,hi,Unit'.enc,hS];rfl,?_⟩
    simp only [go_sem,qy]
   | true=>
   rw [c0] at hS hP;cases hP)
  (⟨_,by simp only [go_sem,qy,reduceIte,c16L4b,ZG];rfl,by simp only [go_sem,qy],by simp only [go_sem,qy]⟩)
 rw [QE] at L;exact L
def M3 (s:Sta):Bool:=!decide ((s.Regions.length:Int) > 8)&&(!decide ((s.Streets.length:Int) > 8)&&(!decide ((s.Buildings.length:Int) > 8)&&(!decide ((s.Doors.length:Int) > 16)&&(!decide ((s.Units.length:Int) > 10)&&(!decide ((s.Merged.length:Int) > 10)&&!decide ((s.Rulings.length:Int) > 10))))))
def YQ (s:Sta):Bool:=M3 s&&(s.Regions.all WQ&&(s.Streets.all WR&&(s.Buildings.all WS&&(s.Doors.all WT&&s.Units.all WU))))
theorem Z4F (s:Sta):pfn rE 16 [stA s]=some (.bool (YQ s)):=by
 rw [Z5 (f:=16) rfl rfl];unfold YQ M3;cases d0:decide ((s.Regions.length:Int) > 8) with
 | true=>simp only [go_sem,qy,qq,reduceIte,c16,d0]
 | false=>
 cases d1:decide ((s.Streets.length:Int) > 8) with
 | true=>simp only [go_sem,qy,qq,reduceIte,c16,d0,d1]
 | false=>
 cases d2:decide ((s.Buildings.length:Int) > 8) with
 | true=>simp only [go_sem,qy,qq,reduceIte,c16,d0,d1,d2]
 | false=>
 cases d3:decide ((s.Doors.length:Int) > 16) with
 | true=>simp only [go_sem,qy,qq,reduceIte,c16,d0,d1,d2,d3]
 | false=>
 cases d4:decide ((s.Units.length:Int) > 10) with
 | true=>simp only [go_sem,qy,qq,reduceIte,c16,d0,d1,d2,d3,d4]
 | false=>
 cases d5:decide ((s.Merged.length:Int) > 10) with
 | true=>simp only [go_sem,qy,qq,reduceIte,c16,d0,d1,d2,d3,d4,d5]
 | false=>
 cases d6:decide ((s.Rulings.length:Int) > 10) with
 | true=>simp only [go_sem,qy,qq,reduceIte,c16,d0,d1,d2,d3,d4,d5,d6]
 | false=>
 obtain ⟨f0,l0,a0,b0⟩:=Z4A s (by have:=of_decide_eq_false d0;omega)
 simp only [stI] at l0 a0;cases e0:s.Regions.all WQ with
 | false=>
  rw [e0] at l0;simp only [go_sem,qy,qq,reduceIte,c16,d0,d1,d2,d3,d4,d5,d6,c16L0,l0,b0 e0,ZOd]
 | true=>
 rw [e0] at l0;obtain ⟨q0,r0⟩:=a0 e0;obtain ⟨f1,l1,a1,b1⟩:=Z4B s (by have:=of_decide_eq_false d1;omega)
 simp only [stI] at l1 a1;cases e1:s.Streets.all WR with
 | false=>
  rw [e1] at l1;simp only [go_sem,qy,qq,reduceIte,c16,d0,d1,d2,d3,d4,d5,d6,c16L0,l0,q0,r0,c16L1,l1,b1 e1,ZOd]
 | true=>
 rw [e1] at l1;obtain ⟨q1,r1⟩:=a1 e1;obtain ⟨f2,l2,a2,b2⟩:=Z4C s (by have:=of_decide_eq_false d2;omega)
 simp only [stI] at l2 a2;cases e2:s.Buildings.all WS with
 | false=>
  rw [e2] at l2;simp only [go_sem,qy,qq,reduceIte,c16,d0,d1,d2,d3,d4,d5,d6,c16L0,l0,q0,r0,c16L1,l1,q1,r1,c16L2,l2,b2 e2,ZOd]
 | true=>
 rw [e2] at l2;obtain ⟨q2,r2⟩:=a2 e2;obtain ⟨f3,l3,a3,b3⟩:=Z4D s (by have:=of_decide_eq_false d3;omega)
 simp only [stI] at l3 a3;cases e3:s.Doors.all WT with
 | false=>
  rw [e3] at l3;simp only [go_sem,qy,qq,reduceIte,c16,d0,d1,d2,d3,d4,d5,d6,c16L0,l0,q0,r0,c16L1,l1,q1,r1,c16L2,l2,q2,r2,c16L3,l3,b3 e3,ZOd]
 | true=>
 rw [e3] at l3;obtain ⟨q3,r3⟩:=a3 e3;obtain ⟨f4,l4,a4,b4⟩:=Z4E s (by have:=of_decide_eq_false d4;omega)
 simp only [stI] at l4 a4;cases e4:s.Units.all WU with
 | false=>
  rw [e4] at l4;simp only [go_sem,qy,qq,reduceIte,c16,d0,d1,d2,d3,d4,d5,d6,c16L0,l0,q0,r0,c16L1,l1,q1,r1,c16L2,l2,q2,r2,c16L3,l3,q3,r3,c16L4,l4,b4 e4,ZOd]
 | true=>
 rw [e4] at l4;obtain ⟨q4,r4⟩:=a4 e4;simp only [go_sem,qy,qq,c16,d0,d1,d2,d3,d4,d5,d6,c16L0,l0,q0,r0,c16L1,l1,q1,r1,c16L2,l2,q2,r2,c16L3,l3,q3,r3,c16L4,l4,r4,if_true]
theorem Kl (s:Sta) (h:YQ s=true):StF s:=by
 simp only [YQ,M3,ZO2,ZOn] at h;obtain ⟨⟨d0,d1,d2,d3,d4,d5,d6⟩,e0,e1,e2,e3,e4⟩:=h;have k0:=of_decide_eq_false d0;have k1:=of_decide_eq_false d1;have k2:=of_decide_eq_false d2;have k3:=of_decide_eq_false d3;have k4:=of_decide_eq_false d4;have k5:=of_decide_eq_false d5;have k6:=of_decide_eq_false d6;have hN:∀ l:List Nm,XQ l=true→l.length≤100:=fun l hl=>by
  simp only [XQ,ZO2] at hl;have:=of_decide_eq_true hl.2;omega
 rw [ZO8] at e0 e1 e2 e3 e4;refine ⟨⟨⟨by omega,by omega,by omega,by omega,by omega,by omega,by omega⟩,fun x hx=>?_,fun x hx=>?_,fun x hx=>?_,fun x hx=>?_,fun x hx=>?_⟩,by omega,by omega,by omega,by omega,by omega,by omega,by omega⟩
 ·have:=e0 x hx;simp only [WQ,ZO2,ZOn] at this;obtain ⟨p0,p1,p2⟩:=this;have p2':=of_decide_eq_false p2;simp [ZU] at p0;exact ⟨hN _ p1,by omega,by omega⟩
 ·have:=e1 x hx;simp only [WR,ZO2,ZOn] at this;obtain ⟨p0,p1,p2⟩:=this;have p2':=of_decide_eq_false p2;simp [ZU] at p0;exact ⟨hN _ p1,by omega,by omega⟩
 ·have:=e2 x hx;simp only [WS,ZO2,ZOn] at this;obtain ⟨p0,p2⟩:=this;have p2':=of_decide_eq_false p2;simp [ZU] at p0;exact ⟨by omega,by omega⟩
 ·have:=e3 x hx;simp only [WT,ZO2,ZOn] at this;obtain ⟨p0,p1,p2⟩:=this;have p1':=of_decide_eq_false p1;simp [ZU] at p0;exact ⟨by omega,by omega,by omega,by omega,by omega⟩
 ·have:=e4 x hx;simp only [WU] at this;simp [ZU] at this;exact ⟨by omega,by omega,by omega⟩
end Go.AM
namespace Go.AM
open Go
def HK (a b:List Str):Bool:=a.length==b.length&&Zu (fun i x=>match b[i]? with | some y=>Z3 x y | none=>false) 0 a
end Go.AM
namespace Go.AM
open Go
theorem Z4L (ea eb:Bool) (a b:List Str) (ha:a.length≤1000):pfn rE 32 [.isl false ea 1 (a.map encS),.isl false eb 1 (b.map encS)]=some (.bool (HK a b)):=by
 rw [Z5 (f:=32) rfl rfl];unfold HK;have hne:((a.length:Int) != (b.length:Int)) = !(a.length==b.length):=by
  cases h:a.length==b.length with
  | true=>have:a.length=b.length:=by simpa using h
          rw [this];simp
  | false=>have:a.length≠b.length:=by simpa using h
           simp;omega
 cases c:a.length==b.length with
 | false=>
  rw [c] at hne;simp only [go_sem,qy,qq,reduceIte,c32,hne]
 | true=>
 rw [c] at hne;have hlen:a.length=b.length:=by simpa using c
 have L:=QT (E:=rE) (live:=[0,1,5]) (b:=c32L0b) (h:=[]) a (fun i x=>match b[i]? with | some y=>Z3 x y | none=>false) (fun i=>[(0,.isl false ea 1 (a.map encS)),(1,.isl false eb 1 (b.map encS)),(5,I i)]) 0 (fun fr=>get fr 4=.bot) (fun fr=>get fr 4=.bool false) (fun i=>rfl)
  (fun i x hx hP=>by
   have hg:=Z6 (f:=encS) hx;have hi:=Zh (Z7 hx);have hw:=Zx (n:=i) (by have:=Z7 hx;omega)
   obtain ⟨y,hy⟩:∃ y,b[i]? = some y:=⟨_,ZO6 (by rw [←hlen];exact Z7 hx)⟩
   have hgy:=Z6 (f:=encS) hy;rw [hy] at hP;dsimp only at hP;refine ⟨_,by simp only [go_sem,qy,reduceIte,c32L0b,hg,hgy,hi,hw,encS,hP];rfl,?_⟩
   simp only [go_sem,qy])
  (fun i x hx hP=>by
   have hg:=Z6 (f:=encS) hx;have hi:=Zh (Z7 hx);obtain ⟨y,hy⟩:∃ y,b[i]? = some y:=⟨_,ZO6 (by rw [←hlen];exact Z7 hx)⟩
   have hgy:=Z6 (f:=encS) hy;rw [hy] at hP;dsimp only at hP;refine ⟨_,by simp only [go_sem,qy,reduceIte,c32L0b,hg,hgy,hi,encS,hP];rfl,?_⟩
   simp only [go_sem,qy])
  (⟨_,by simp only [go_sem,qy,reduceIte,c32L0b,ZG];rfl,by simp only [go_sem,qy]⟩)
 obtain ⟨fr',h1,h2,h3⟩:=L;have h1':Zg rE [0,1,5] c32L0b [(0,.isl false ea 1 (a.map encS)),(1,.isl false eb 1 (b.map encS)),(5,.int .i64 0)] []=_:=h1;cases e:Zu (fun i x=>match b[i]? with | some y=>Z3 x y | none=>false) 0 a with
 | true=>
  rw [e] at h1';simp only [go_sem,qy,qq,c32,c32L0,hne,h1',h2 e,if_true]
 | false=>
  rw [e] at h1';simp only [go_sem,qy,qq,reduceIte,c32,c32L0,hne,h1',h3 e,ZOd]
structure Endz where
 Id:Str
 Kind:Int
 Day:Int
def Endz.enc (e:Endz):AV:=.agg [.str e.Id,I e.Kind,I e.Day]
def ZEq (a b:Endz):Bool:=Z3 a.Id b.Id&&(a.Kind==b.Kind&&a.Day==b.Day)
def ZEb (s:Sta) (id:Str):Int:=bif Jx s then (bif decide (Zn s id < 0) then 10 else 0) else 1
theorem Zpq (s:Sta) (hs:StE s) (id:Str):pfn rE 65 [stA s,.str id]=some (I (ZEb s id)):=by
 have h1:=Z3i s hs;have h2:=find_ok s hs.sizes id;rw [Z5 (f:=65) rfl rfl];unfold ZEb;cases c:Jx s with
 | false=>rw [c] at h1;simp only [go_sem,qy,qq,qk,c65,h1,ZOm]
 | true=>
  rw [c] at h1;cases c2:decide (Zn s id < 0) with
  | true=>simp only [go_sem,qy,qq,qk,reduceIte,c65,h1,h2,c2,ZO9]
  | false=>simp only [go_sem,qy,qq,qk,reduceIte,c65,h1,h2,c2,ZO9]
end Go.AM
namespace Go.AM
open Go
def ftA (ea eb:Bool) (D:List Str) (E:List Endz):AV:=.agg [.isl false ea 1 (D.map encS),.isl false eb 3 (E.map Endz.enc)]
def HL (D D2:List Str) (E E2:List Endz):Bool:=(E.length==E2.length&&HK D D2)&&Zu (fun i x=>match E2[i]? with | some y=>ZEq x y | none=>false) 0 E
theorem ZF5 (ea eb ec ed:Bool) (D D2:List Str) (E E2:List Endz) (hD:D.length≤1000) (hE:E.length≤1000):pfn rE 14 [ftA ea eb D E,ftA ec ed D2 E2]=some (.bool (HL D D2 E E2)):=by
 have ht:=Z4L ea ec D D2 hD;rw [Z5 (f:=14) rfl rfl];unfold HL ftA;have hne:((E.length:Int) != (E2.length:Int)) = !(E.length==E2.length):=by
  cases h:E.length==E2.length with
  | true=>have:E.length=E2.length:=by simpa using h
          rw [this];simp
  | false=>have:E.length≠E2.length:=by simpa using h
           simp;omega
 cases c:E.length==E2.length with
 | false=>
  rw [c] at hne;simp only [go_sem,qy,qq,reduceIte,c14,hne,ZOm,ZOG]
 | true=>
 rw [c] at hne;cases ct:HK D D2 with
 | false=>
  rw [ct] at ht;simp only [go_sem,qy,qq,qk,reduceIte,c14,hne,ht,ZOm,ZO9,ZOG,ZPv]
 | true=>
 rw [ct] at ht;have hlen:E.length=E2.length:=by simpa using c
 have L:=QT (E:=rE) (live:=[2,3,5]) (b:=c14L0b) (h:=[]) E (fun i x=>match E2[i]? with | some y=>ZEq x y | none=>false) (fun i=>[(2,.iptr false [.isl false ea 1 (D.map encS),.isl false eb 3 (E.map Endz.enc)]),(3,.iptr false [.isl false ec 1 (D2.map encS),.isl false ed 3 (E2.map Endz.enc)]),(5,I i)]) 0 (fun fr=>get fr 4=.bot) (fun fr=>get fr 4=.bool false) (fun i=>rfl)
  (fun i x hx hP=>by
   have hg:=Z6 (f:=Endz.enc) hx;have hi:=Zh (Z7 hx);have hw:=Zx (n:=i) (by have:=Z7 hx;omega)
   obtain ⟨y,hy⟩:∃ y,E2[i]? = some y:=⟨_,ZO6 (by rw [←hlen];exact Z7 hx)⟩
   have hgy:=Z6 (f:=Endz.enc) hy;rw [hy] at hP;dsimp only at hP;unfold ZEq at hP;refine ⟨_,by simp only [go_sem,qy,qq,qk,reduceIte,c14L0b,hg,hgy,hi,hw,Endz.enc,hP,ZO9];rfl,?_⟩
   simp only [go_sem,qy])
  (fun i x hx hP=>by
   have hg:=Z6 (f:=Endz.enc) hx;have hi:=Zh (Z7 hx);obtain ⟨y,hy⟩:∃ y,E2[i]? = some y:=⟨_,ZO6 (by rw [←hlen];exact Z7 hx)⟩
   have hgy:=Z6 (f:=Endz.enc) hy;rw [hy] at hP;dsimp only at hP;unfold ZEq at hP;refine ⟨_,by simp only [go_sem,qy,qq,qk,reduceIte,c14L0b,hg,hgy,hi,Endz.enc,hP,ZOm];rfl,?_⟩
   simp only [go_sem,qy])
  (⟨_,by simp only [go_sem,qy,reduceIte,c14L0b,ZG];rfl,by simp only [go_sem,qy]⟩)
 obtain ⟨fr',h1,h2,h3⟩:=L;have h1':Zg rE [2,3,5] c14L0b [(2,.iptr false [.isl false ea 1 (D.map encS),.isl false eb 3 (E.map Endz.enc)]),(3,.iptr false [.isl false ec 1 (D2.map encS),.isl false ed 3 (E2.map Endz.enc)]),(5,.int .i64 0)] []=_:=h1;cases e:Zu (fun i x=>match E2[i]? with | some y=>ZEq x y | none=>false) 0 E with
 | true=>
  rw [e] at h1';simp only [go_sem,qy,qq,qk,c14,c14L0,hne,ht,h1',h2 e,if_true,ZO9,ZOq]
 | false=>
  rw [e] at h1';simp only [go_sem,qy,qq,qk,reduceIte,c14,c14L0,hne,ht,h1',h3 e,ZOd,ZO9,ZOq]
end Go.AM
namespace Go.AM
open Go
theorem ZF6:∀ (l m:List Str),l.Nodup→(∀ x∈l,x∈m)→l.length≤m.length
 | [],m,_,_=>ZO5 _
 | a::r,m,h,hs=>by
  rw [ZOL] at h;obtain ⟨p,q,rfl⟩:=List.append_of_mem (hs a ZOv);have:=ZF6 r (p++q) h.2 (fun x hx=>by
   have h2:=hs x (ZOP _ hx);have hne:x≠a:=fun e=>h.1 (e▸hx)
   simp only [ZOu,ZOt,hne,false_or] at h2 ⊢;exact h2)
  simp only [ZOj,ZOg] at this ⊢;omega
theorem ZFX {s:Sta} (hn:(s.Doors.map (·.Id)).Nodup) {d e:Door} (hd:d∈s.Doors) (he:e∈s.Doors) (h:d.Id=e.Id):d=e:=by
 obtain ⟨i,hi⟩:=ZOZ hd;obtain ⟨j,hj⟩:=ZOZ he;have h1:=Zi1 (f:=fun x:Door=>x.Id) hn hi
 have h2:=Zi1 (f:=fun x:Door=>x.Id) hn hj
 rw [h] at h1;have:i=j:=by rw [h1] at h2;omega
 rw [this,hj] at hi;exact (Option.some.inj hi).symm
inductive Reach (s:Sta):Str→Str→Prop
 | refl (x:Str):Reach s x x
 | step (x y z:Str) (d:Door) (h:Reach s x y) (hd:d∈s.Doors) (hi:d.Id=y) (hz:z∈d.After.l):Reach s x z
theorem ZF7:∀ (l K L:List Str),∃ new,l.foldl wkS (K,L)=(K++new,L++new)∧(∀ x∈new,x∈l)∧(∀ x∈l,x∈K++new)∧(K.Nodup→(K++new).Nodup)
 | [],K,L=>⟨[],by simp⟩
 | a::l,K,L=>by
  rw [ZPl];cases c:K.any (Z3 a) with
  | true=>
   obtain ⟨new,h1,h2,h3,h4⟩:=ZF7 l K L;refine ⟨new,?_,fun x hx=>ZOP _ (h2 x hx),fun x hx=>?_,h4⟩
   ·rw [show wkS (K,L) a=(K,L) by unfold wkS;simp only [c,cond_true],h1]
   ·rcases ZOt.1 hx with rfl | hx
    ·exact ZPm _ (ZdP.1 c)
    ·exact h3 x hx
  | false=>
   obtain ⟨new,h1,h2,h3,h4⟩:=ZF7 l (K++[a]) (L++[a]);have ha:a ∉ K:=fun h=>by rw [ZdP.2 h] at c;cases c
   refine ⟨a::new,?_,fun x hx=>?_,fun x hx=>?_,fun hn=>?_⟩
   ·have e:∀ M:List Str,M++a::new=M++[a]++new:=fun M=>by simp
    rw [e,e,show wkS (K,L) a=(K++[a],L++[a]) by unfold wkS;simp only [c,cond_false],h1]
   ·rcases ZOt.1 hx with rfl | hx
    ·exact ZOv
    ·exact ZOP _ (h2 x hx)
   ·rcases ZOt.1 hx with rfl | hx
    ·simp
    ·have:=h3 x hx;simpa using this
   ·have e:K++a::new=K++[a]++new:=by simp
    rw [e];refine h4 ?_;rw [ZPi];exact ⟨hn,by simp,fun x hx y hy=>by simp only [ZOi] at hy;rw [hy];exact fun h=>ha (h▸hx)⟩
def ZEc (Q:List Door):List AV:=(Q.filter fun d=>decide (d.Ended < 0)).map fun d=>.str d.Id
def ZEd (Q:List Door):List AV:=(Q.filter fun d=>!decide (d.Ended < 0)&&d.After.l.isEmpty).map ZEB
theorem ZFY (d:Door) (Q:List Door):faD d (ZEc Q)=ZEc (Q++[d]):=by
 unfold faD ZEc;rw [ZPP,ZOk];cases c:decide (d.Ended < 0)<;>simp [List.filter,c]
theorem ZFZ (d:Door) (Q:List Door):faE d (ZEd Q)=ZEd (Q++[d]):=by
 unfold faE ZEd;rw [ZPP,ZOk];cases c:(!decide (d.Ended < 0)&&d.After.l.isEmpty)<;>simp only [List.filter,c,cond_true,cond_false,List.map,ZOc]
theorem ZHn {s:Sta} (hp:Prop' s) {d:Door} (hd:d∈s.Doors) {x:Str} (hx:x∈d.After.l):∃ e∈s.Doors,e.Id=x:=by
 obtain ⟨i,hi⟩:=ZOZ hd;have h1:=((Zd0 s i d).1 (hp.dr i d hi)).2.1 x hx;have h2:decide (Zn s x < 0)=false:=decide_eq_false (by have:=of_decide_eq_false h1;omega)
 rw [ZEz] at h2;obtain ⟨j,e,_,h4,h5⟩:=ZcU h2;exact ⟨e,ZOh h4,h5⟩
theorem ZEF {s:Sta} (hp:Prop' s):(s.Doors.map (·.Id)).Nodup:=by
 have h:=hp.ids;unfold Qp at h;have h1:=(ZPi.1 h).2.1;have h2:=(ZPi.1 h1).2.1;have h3:=(ZPi.1 h2).2.1;exact (ZPi.1 h3).1
theorem ZG0 (s:Sta) (hp:Prop' s) (hs:StE s) (hN:s.Doors.length≤500) (id0:Str):∀ (n:Nat) (P:List Door) (L:List Str),s.Doors.length≤P.length+n→(∀ d∈P,d∈s.Doors)→(P.map (·.Id)++L).Nodup→(∀ x∈L,∃ d∈s.Doors,d.Id=x)→
 (∀ x∈P.map (·.Id)++L,Reach s id0 x)→(∀ d∈P,∀ y∈d.After.l,y∈P.map (·.Id)++L)→
 ∃ Q,Runs s (P.map (·.Id)++L) L (ZEc P) (ZEd P) (ZEc Q) (ZEd Q)∧(Q.map (·.Id)).Nodup∧(∀ d∈Q,d∈s.Doors)∧(∀ d∈Q,Reach s id0 d.Id)∧(∀ d∈Q,∀ y∈d.After.l,y∈Q.map (·.Id))∧(∀ x∈P.map (·.Id)++L,x∈Q.map (·.Id))
 | n,P,[],_,hP,hn,_,hR,hA=>by
  rw [ZOc] at hn hR hA ⊢;exact ⟨P,Runs.stop _ _ _,hn,hP,fun d hd=>hR _ (ZP1 hd),hA,fun x hx=>hx⟩
 | n,P,x::r,hle,hP,hn,hL,hR,hA=>by
  have hsub:∀ y∈P.map (·.Id)++x::r,y∈s.Doors.map (·.Id):=fun y hy=>by
   rcases ZOu.1 hy with h | h
   ·obtain ⟨d,hd,rfl⟩:=ZOr.1 h;exact ZP1 (hP d hd)
   ·obtain ⟨d,hd,rfl⟩:=hL y h;exact ZP1 hd
  have hlen:=ZF6 _ _ hn hsub;simp only [ZOj,ZO3,ZOg] at hlen;obtain ⟨d,hd,hid⟩:=hL x ZOv;obtain ⟨k,hk⟩:=ZOZ hd;have hf:pfn rE 54 [stA s,.str x]=some (I k):=by
   rw [find_ok s hs.sizes x,ZEz,←hid,Zi1 (ZEF hp) hk]
  cases n with
  | zero=>omega
  | succ n=>
   obtain ⟨new,w1,w2,w3,w4⟩:=ZF7 d.After.l (P.map (·.Id)++x::r) (x::r);have eK:(P++[d]).map (·.Id)++(r++new)=P.map (·.Id)++x::r++new:=by simp [hid]
   obtain ⟨Q,q1,q2,q3,q4,q5,q6⟩:=ZG0 s hp hs hN id0 n (P++[d]) (r++new) (by simp;omega)
    (fun e he=>by
     rcases ZOu.1 he with h | h
     ·exact hP e h
     ·rw [ZOi.1 h];exact hd)
    (by rw [eK];exact w4 hn)
    (fun y hy=>by
     rcases ZOu.1 hy with h | h
     ·exact hL y (ZOP _ h)
     ·exact ZHn hp hd (w2 y h))
    (fun y hy=>by
     rw [eK] at hy;rcases ZOu.1 hy with h | h
     ·exact hR y h
     ·exact Reach.step id0 x y d (hR x (by simp)) hd hid (w2 y h))
    (fun e he y hy=>by
     rw [eK];rcases ZOu.1 he with h | h
     ·exact ZPm _ (hA e h y hy)
     ·rw [ZOi.1 h] at hy;exact w3 y hy)
   refine ⟨Q,?_,q2,q3,q4,q5,fun y hy=>q6 y (by rw [eK];exact ZPm _ hy)⟩
   refine Runs.step _ x r _ _ _ _ k d hk hf ?_ ?_ ?_ ?_
   ·unfold ZEc;rw [ZO3];have:=ZPf (fun d:Door=>decide (d.Ended < 0)) P;omega
   ·unfold ZEd;rw [ZO3];have:=ZPf (fun d:Door=>!decide (d.Ended < 0)&&d.After.l.isEmpty) P;omega
   ·have:=(hs.doors d hd).after;simp only [ZOg];omega
   ·rw [w1,ZFY,ZFZ,←eK];exact q1
theorem ZHo (s:Sta) (hp:Prop' s) (hs:StE s) (hN:s.Doors.length≤500) (id:Str) (hid:decide (Zn s id < 0)=false):
 ∃ Q,Runs s [id] [id] [] [] (ZEc Q) (ZEd Q)∧(Q.map (·.Id)).Nodup∧(∀ d∈Q,d∈s.Doors)∧(∀ d∈Q,Reach s id d.Id)∧(∀ x,Reach s id x→x∈Q.map (·.Id)):=by
 rw [ZEz] at hid;obtain ⟨j,e,_,h4,h5⟩:=ZcU hid;obtain ⟨Q,q1,q2,q3,q4,q5,q6⟩:=ZG0 s hp hs hN id s.Doors.length [] [id] (by simp) (fun d hd=>by cases hd) (by simp) (fun x hx=>⟨e,ZOh h4,by rw [ZOi.1 hx];exact h5⟩)
  (fun x hx=>by rw [ZOi.1 hx];exact Reach.refl id) (fun d hd=>by cases hd)
 refine ⟨Q,q1,q2,q3,q4,fun x hx=>?_⟩
 clear hid;induction hx with
 | refl=>exact q6 id (by simp)
 | step y z d h hd hi hz ih=>
  obtain ⟨d',hd',he⟩:=ZOr.1 ih;rw [←ZFX (ZEF hp) (q3 d' hd') hd (he.trans hi.symm)] at hz;exact q5 d' hd' z hz
end Go.AM
namespace Go.AM
open Go
def toL (x:Str):List UInt8:=x.data.toList
def ofL (l:List UInt8):Str:=⟨l.toArray⟩
theorem ZER (x:Str):ofL (toL x)=x:=by unfold ofL toL;simp
theorem ZG1 (l:List UInt8):toL (ofL l)=l:=by unfold ofL toL;simp
theorem ZHp {x y:Str} (h:toL x=toL y):x=y:=by rw [←ZER x,h,ZER]
def ZEi (l:List Str):List Str:=(WD (l.map toL)).map ofL
theorem ZHq (l:List Str):Yk (l.map encS)=(ZEi l).map encS:=by
 have e:l.map encS=(l.map toL).map Qd:=by
  rw [ZOU];exact ZPD fun x _=>congrArg AV.str (ZER x).symm
 rw [e,D4];unfold ZEi;rw [ZOU];rfl
theorem ZES (l:List Str):(ZEi l).Perm l:=by
 have h:=(RS (l.map toL)).map ofL;rw [ZOU] at h;have e:l.map (ofL ∘ toL)=l:=by
  conv=>rhs;rw [←List.map_id l]
  exact ZPD fun x _=>ZER x
 rwa [e] at h
def ltS (a b:Str):Prop:=toL a < toL b
theorem ZHr (l:List Str) (hn:l.Nodup):(ZEi l).Pairwise ltS:=by
 have h1:=D8 (l.map toL);have h2:(ZEi l).Nodup:=(ZES l).nodup_iff.2 hn;unfold ZEi at h2 ⊢;rw [ZQk];rw [ZQC,ZQk] at h2;refine (h1.and h2).imp ?_;intro a b hab;unfold ltS;rw [ZG1,ZG1];refine Decidable.byContradiction fun h=>hab.2 ?_
 rw [List.le_antisymm (of_decide_eq_true hab.1) (List.not_lt.1 h)]
theorem ZHs (a b:Str):lexB (ZE4 a) (ZE4 b)=true↔ltS a b:=by
 unfold ZE4 ltS toL;rw [ZEM,decide_eq_true_iff]
theorem ZHt {a b:Str} (h:ZE4 a=ZE4 b):a=b:=by
 unfold ZE4 at h;apply ZHp;unfold toL;have:∀ x y:List UInt8,(x.map fun b=>(b.toNat:Int))=(y.map fun b=>(b.toNat:Int))→x=y:=by
  intro x;induction x with
  | nil=>intro y h;cases y with
   | nil=>rfl
   | cons=>simp at h
  | cons a r ih=>intro y h;cases y with
   | nil=>simp at h
   | cons c t=>
    simp only [ZOb,List.cons.injEq] at h;have hc:a=c:=UInt8.toNat_inj.1 (by omega)
    rw [ih t h.2,hc]
 exact this _ _ h
def gK (e:Endz):List Int×AV:=(ZE4 e.Id,e.enc)
def ZEy (x:Endz):List Endz→List Endz
 | []=>[x]
 | y::r=>bif lexB (ZE4 x.Id) (ZE4 y.Id) then x::y::r else y::ZEy x r
def ZEj:List Endz→List Endz
 | []=>[]
 | x::r=>ZEy x (ZEj r)
theorem ZG2 (x:Endz):∀ l:List Endz,ZvI (gK x) (l.map gK)=(ZEy x l).map gK
 | []=>rfl
 | y::r=>by
  rw [ZOb];unfold ZvI ZEy;rw [show lexB (gK x).1 (gK y).1=lexB (ZE4 x.Id) (ZE4 y.Id) from rfl]
  cases lexB (ZE4 x.Id) (ZE4 y.Id) with
  | true=>rfl
  | false=>simp only [cond_false,ZG2 x r,ZOb]
theorem ZF8:∀ l:List Endz,ZvN (l.map gK)=(ZEj l).map gK
 | []=>rfl
 | x::r=>by
  rw [ZOb];unfold ZvN ZEj;rw [ZF8 r,ZG2]
theorem ZG3 (x:Endz):∀ l,(ZEy x l).Perm (x::l)
 | []=>.refl _
 | y::r=>by
  unfold ZEy;cases lexB (ZE4 x.Id) (ZE4 y.Id) with
  | true=>exact .refl _
  | false=>exact ((ZG3 x r).cons y).trans (.swap x y r)
theorem ZF9:∀ l,(ZEj l).Perm l
 | []=>.refl _
 | x::r=>(ZG3 x (ZEj r)).trans ((ZF9 r).cons x)
theorem ZG4:∀ l:List Endz,keysOf ZEf (l.map Endz.enc)=some (l.map gK)
 | []=>rfl
 | x::r=>by
  rw [ZOb,ZOb];unfold keysOf;rw [ZG4 r];rfl
theorem ZFa:∀ l:List Endz,(l.map (·.Id)).Nodup→ZvJ (l.map gK)=true
 | [],_=>rfl
 | x::r,h=>by
  rw [ZOb,ZOL] at h;rw [ZOb];unfold ZvJ;rw [ZFa r h.2,ZOD,ZO8];intro y hy;obtain ⟨z,hz,rfl⟩:=ZOr.1 hy;have:((gK x).1==(gK z).1)=false:=by
   rw [beq_eq_false_iff_ne];intro e;exact h.1 (ZOr.2 ⟨z,hz,(ZHt e).symm⟩)
  rw [this];rfl
theorem ZHu (l:List Endz) (h:(l.map (·.Id)).Nodup):(ZEj l).Pairwise fun a b=>ltS a.Id b.Id:=by
 have h1:=ZwI (l.map gK) (ZFa l h);rw [ZF8,ZQk] at h1;exact h1.imp fun {a b} hab=>(ZHs a.Id b.Id).1 hab
theorem ZET:∀ l:List Str,Z4 (l.map encS)=true
 | []=>rfl
 | x::r=>by rw [ZOb];unfold Z4;rw [ZET r];rfl
theorem ZEU:∀ l:List Endz,Z4 (l.map Endz.enc)=true
 | []=>rfl
 | x::r=>by rw [ZOb];unfold Z4;rw [ZEU r];rfl
theorem ZFb (l:List Str) (hl:l.length≤1000):ZE7 69 [ZEa 69] 1 (l.map encS)=some ((ZEi l).map encS):=by
 unfold ZE7 ZEa;have h1:(l.map encS).all WB=true:=by rw [ZO8];intro x hx;obtain ⟨y,_,rfl⟩:=ZOr.1 hx;rfl
 have h2:Nat.ble (l.map encS).length 1000000=true:=ZP0 (by rw [ZO3];omega)
 simp only [h1,h2,ZHq];rfl
theorem ZG5 (l:List Endz) (hl:l.length≤1000) (hn:(l.map (·.Id)).Nodup):ZEe 71 3 ZEf [ZEa 71] 3 (l.map Endz.enc)=some ((ZEj l).map Endz.enc):=by
 unfold ZEe ZEa;have h1:(l.map Endz.enc).all Zwl=true:=by rw [ZO8];intro x hx;obtain ⟨y,_,rfl⟩:=ZOr.1 hx;rfl
 have h2:Nat.ble (l.map Endz.enc).length 1000000=true:=ZP0 (by rw [ZO3];omega)
 have h3:(l.map Endz.enc).all (fits 3)=true:=by rw [ZO8];intro x hx;obtain ⟨y,_,rfl⟩:=ZOr.1 hx;rfl
 simp only [ZG4,h1,h2,h3,ZEU,ZFa l hn,ZF8,ZOU];rfl
def ZEk (d:Door):Endz:=⟨d.Id,d.Why,d.Ended⟩
structure IsFate (s:Sta) (id:Str) (D:List Str) (E:List Endz):Prop where
 dn:D.Nodup
 ds:D.Pairwise ltS
 es:E.Pairwise fun a b=>ltS a.Id b.Id
 dm:∀ x,x∈D↔∃ d∈s.Doors,d.Id=x∧d.Ended < 0∧Reach s id d.Id
 em:∀ e,e∈E↔∃ d∈s.Doors,e=ZEk d∧¬ d.Ended < 0∧d.After.l=[]∧Reach s id d.Id
 dl:D.length≤500
 el:E.length≤500
theorem ZHv (s:Sta) (hp:Jx s=true) (hs:StE s) (hN:s.Doors.length≤500) (id:Str) (hid:decide (Zn s id < 0)=false):∃ D E,pfn rE 31 [stA s,.str id]=some (.tup [ftA false false D E,I 0])∧IsFate s id D E:=by
 have hp':=((Zdb s).1 hp).1;obtain ⟨Q,q1,q2,q3,q4,q5⟩:=ZHo s hp' hs hN id hid;have hQ:Q.length≤500:=by
  have:=ZF6 (Q.map (·.Id)) (s.Doors.map (·.Id)) q2 (fun x hx=>by obtain ⟨d,hd,rfl⟩:=ZOr.1 hx;exact ZP1 (q3 d hd))
  simp only [ZO3] at this;omega
 have hin:∀ d,d∈Q↔d∈s.Doors∧Reach s id d.Id:=fun d=>⟨fun h=>⟨q3 d h,q4 d h⟩,fun ⟨h1,h2⟩=>by
  obtain ⟨d',h3,h4⟩:=ZOr.1 (q5 _ h2)
  rwa [←ZFX (ZEF hp') (q3 d' h3) h1 h4]⟩
 have eD:ZEc Q=((Q.filter fun d=>decide (d.Ended < 0)).map (·.Id)).map encS:=by unfold ZEc;rw [ZOU];rfl
 have eE:ZEd Q=((Q.filter fun d=>!decide (d.Ended < 0)&&d.After.l.isEmpty).map ZEk).map Endz.enc:=by unfold ZEd;rw [ZOU];rfl
 have nD:((Q.filter fun d=>decide (d.Ended < 0)).map (·.Id)).Nodup:=q2.sublist ((ZQD).map _)
 have nE:(((Q.filter fun d=>!decide (d.Ended < 0)&&d.After.l.isEmpty).map ZEk).map (·.Id)).Nodup:=by
  rw [ZOU];exact q2.sublist ((ZQD).map _)
 have lD:((Q.filter fun d=>decide (d.Ended < 0)).map (·.Id)).length≤500:=by rw [ZO3];have:=ZPf (fun d:Door=>decide (d.Ended < 0)) Q;omega
 have lE:((Q.filter fun d=>!decide (d.Ended < 0)&&d.After.l.isEmpty).map ZEk).length≤500:=by rw [ZO3];have:=ZPf (fun d:Door=>!decide (d.Ended < 0)&&d.After.l.isEmpty) Q;omega
 have mD:∀ x,x∈((Q.filter fun d=>decide (d.Ended < 0)).map (·.Id))↔∃ d∈s.Doors,d.Id=x∧d.Ended < 0∧Reach s id d.Id:=fun x=>by
  rw [ZOr];constructor
  ·rintro ⟨d,hd,rfl⟩;rw [ZPQ] at hd;exact ⟨d,q3 d hd.1,rfl,of_decide_eq_true hd.2,q4 d hd.1⟩
  ·rintro ⟨d,h1,h2,h3,h4⟩;exact ⟨d,ZPQ.2 ⟨(hin d).2 ⟨h1,h4⟩,decide_eq_true h3⟩,h2⟩
 have mE:∀ e,e∈((Q.filter fun d=>!decide (d.Ended < 0)&&d.After.l.isEmpty).map ZEk)↔∃ d∈s.Doors,e=ZEk d∧¬ d.Ended < 0∧d.After.l=[]∧Reach s id d.Id:=fun e=>by
  rw [ZOr];constructor
  ·rintro ⟨d,hd,rfl⟩;simp only [ZPQ,ZO2,ZOn,decide_eq_false_iff_not,ZPZ] at hd;exact ⟨d,q3 d hd.1,rfl,hd.2.1,hd.2.2,q4 d hd.1⟩
  ·rintro ⟨d,h1,h2,h3,h4,h5⟩;refine ⟨d,?_,h2.symm⟩;simp only [ZPQ,ZO2,ZOn,decide_eq_false_iff_not,ZPZ];exact ⟨(hin d).2 ⟨h1,h5⟩,h3,h4⟩
 rw [eD,eE] at q1;generalize (Q.filter fun d=>decide (d.Ended < 0)).map (·.Id)=D0 at *
 generalize (Q.filter fun d=>!decide (d.Ended < 0)&&d.After.l.isEmpty).map ZEk=E0 at *
 have hc:pfn rE 65 [stA s,.str id]=some (I 0):=by
  rw [Zpq s hs id];unfold ZEb;rw [hp,hid];rfl
 have pD:=ZES D0;have pE:=ZF9 E0;refine ⟨ZEi D0,ZEj E0,?_,pD.nodup_iff.2 nD,ZHr D0 nD,ZHu E0 nE,fun x=>by rw [pD.mem_iff,mD],fun e=>by rw [pE.mem_iff,mE],by rw [pD.length_eq];exact lD,by rw [pE.length_eq];exact lE⟩
 exact ZFW s id _ _ _ _ hc q1 (ZFb D0 (by omega)) (ZG5 E0 (by omega) nE) (by simp [pD.length_eq]) (by simp [pE.length_eq]) (ZET _) (ZEU _)
end Go.AM
namespace Go.AM
open Go
def lkV (p:Pt):AV:=.iptr false [I p.X,I p.Y]
def ZLc (p:Pt) (t:AV):Fr:=[(5,lkV p),(6,.isl false false 1 []),(7,.bool false),(8,I 0),(9,.ptr 1 0 0 1),(10,.ptr 2 0 0 1),(28,t)]
def lkH (st:LoopState) (p:Pt) (t:AV) (q:List Str×Bool):Hp:=[.row 1 (q.1.map encS),.row 1 [.sl 0 q.1.length 0 q.1.length false],.row 1 [.bool q.2],.loop st .normal (ZLc p t) [29] c175R0a c175R0b]
def lkS (p:Pt) (q:List Str×Bool) (x:Region):List Str×Bool:=(bif decide (ZoY x.Ring.l p ≥ 0) then q.1++[x.Id] else q.1,q.2||decide (ZoY x.Ring.l p > 0))
theorem ZMe (p:Pt) (t:AV) (ht:∀ n,bel n t=true) (q:List Str×Bool) (hq:q.1.length≤1000000) (x:Region) (hr:x.Ring.l.length≤1000000) (o:AObj) (ho:∀ n,Zj n o=true):
 U4 rE 3 [arA x] (lkH .ready p t q++[o])=some (.bool true,lkH .ready p t (lkS p q x)++[o,.row 3 [arA x]]):=by
 have hW:=Zqn x.Ring.l x.Ring.ex hr p;have hbS:∀ n (K:List Str),Zd n (K.map encS)=true:=fun n K=>ZN _ (Zw (fun t=>rfl) K)
 have ha:=fun (r1 r2 r3 r4 r5:AObj)=>XC (h:=[.row 1 (q.1.map encS),r1,r2,r3,r4,r5]) (fz:=false) (b:=0) (g:=q.1.length) (sz:=1) (es:=q.1.map encS) (bw:=false) (ex:=false) (ys:=[.str x.Id]) (bytes:=16) (by unfold rowAt;simp) rfl (by rfl) (by omega) (by omega) (by simp;omega)
 have h:=Ss (E:=rE) (b:=3) (args:=[arA x]) (h:=lkH .ready p t q++[o]) (fr:=ZLc p t) (ps:=[29]) (assign:=c175R0a) (body:=c175R0b)
  (fr0:=(29,arA x)::ZLc p t) rfl rfl (by simp only [go_sem,qy,qq,qx,qz,qv,qk,reduceIte,c175R0a,lkH,ZLc,lkV,arA]<;>rfl) (h1:=lkH .ready p t q++[o,.row 3 [arA x]]) (by rfl)
  (e:=.normal) (fr2:=[]) (h2:=lkH .busy p t (lkS p q x)++[o,.row 3 [arA x]])
  (by
   show Zb rE c175R0b [(11,.ptr 5 0 0 1),(29,arA x),(5,lkV p),(6,.isl false false 1 []),(7,.bool false),(8,I 0),(9,.ptr 1 0 0 1),(10,.ptr 2 0 0 1),(28,t)]
    [.row 1 (q.1.map encS),.row 1 [.sl 0 q.1.length 0 q.1.length false],.row 1 [.bool q.2],.loop .busy .normal (ZLc p t) [29] c175R0a c175R0b,o,.row 3 [arA x]]=_
   have hlp:∀ n,3≤n→Zj n (.loop .busy .normal (ZLc p t) [29] c175R0a c175R0b)=true:=fun n hn=>by
    have d1:decide (1 < n)=true:=decide_eq_true (by omega)
    have d2:decide (2 < n)=true:=decide_eq_true (by omega)
    simp only [go_sem,qy,qq,qx,qz,qv,qk,reduceIte,ZLc,lkV,ht,d1,d2]
   have hl6:=hlp 6 (by omega)
   unfold lkS lkH;generalize AObj.loop .busy .normal (ZLc p t) [29] c175R0a c175R0b=lo at hl6 ⊢;cases c:decide (ZoY x.Ring.l p ≥ 0) with
   | true=>
    have hap:=ha (.row 1 [.sl 0 q.1.length 0 q.1.length false]) (.row 1 [.bool q.2]) lo o (.row 3 [arA x]);simp only [arA] at hap;cases c2:q.2 with
    | true=>
     rw [c2] at hap;simp only [go_sem,qy,qq,qx,qz,qv,qk,reduceIte,c175R0b,lkV,arA,hW,c,hap,hbS,ho,hl6,ZOj,ZPg,ZOk,ZON,cond_true,encS]
    | false=>
     rw [c2] at hap;simp only [go_sem,qy,qq,qx,qz,qv,qk,reduceIte,c175R0b,lkV,arA,hW,c,hap,hbS,ho,hl6,ZOj,ZPg,ZOk,ZPB,cond_true,encS]
   | false=>
    cases c2:q.2 with
    | true=>simp only [go_sem,qy,qq,qx,qz,qv,qk,reduceIte,c175R0b,lkV,arA,hW,c,hbS,ho,hl6,ZON,cond_false]
    | false=>simp only [go_sem,qy,qq,qx,qz,qv,qk,reduceIte,c175R0b,lkV,arA,hW,c,hbS,ho,hl6,ZPB,cond_false]) (by rfl)
 exact h
end Go.AM
namespace Go.AM
open Go
def lkT (k:Int) (p:Pt) (L:List Region):List Str×Bool:=(L.filter fun x=>x.Kind==k).foldl (lkS p) ([],false)
theorem ZMf {k:Int} {p:Pt} {L:List Region} {i:Nat} {x:Region} (h:L[i]? = some x):lkT k p (L.take (i+1))=bif x.Kind==k then lkS p (lkT k p (L.take i)) x else lkT k p (L.take i):=by
 have hi:=ZO7.1 h;unfold lkT;rw [ZPu hi.1,ZPP,ZQa,hi.2];cases c:x.Kind==k<;>simp [List.filter,c]
theorem ZLX (p:Pt):∀ (l:List Region) (q:List Str×Bool),(l.foldl (lkS p) q).1.length≤q.1.length+l.length
 | [],q=>ZO4 _
 | x::l,q=>by
  have:=ZLX p l (lkS p q x);have h2:(lkS p q x).1.length≤q.1.length+1:=by
   unfold lkS;dsimp only;cases decide (ZoY x.Ring.l p ≥ 0) with
   | true=>rw [cond_true,ZOj];exact ZO4 _
   | false=>rw [cond_false];omega
  rw [ZPl,ZOg];omega
theorem ZLY (k:Int) (p:Pt) (L:List Region):(lkT k p L).1.length≤L.length:=by
 unfold lkT;have:=ZLX p (L.filter fun x=>x.Kind==k) ([],false)
 have h2:=ZPf (fun x:Region=>x.Kind==k) L
 simp only [ZOp] at this;omega
def lkC (k:Int) (L:List Region):AV:=.clo (.func 254) [] [.iptr false [.isl false false 3 (L.map arA)],.iptr false [I k]]
theorem ZMg (k:Int) (p:Pt) (L:List Region) (hl:L.length≤1000) (hr:∀ x∈L,x.Ring.l.length≤1000000):
 ∃ fr',Zg rE [0,2,6,7,8] c254L0b [(0,.yld 3),(2,.iptr false [I k]),(6,.isl false false 3 (L.map arA)),(7,I L.length),(8,.int .i64 0)] (lkH .ready p (lkC k L) ([],false))=some (.exit 0,fr',lkH .ready p (lkC k L) (lkT k p L)):=by
 have ht:∀ n,bel n (lkC k L)=true:=fun n=>rfl
 have hb4:Zd 4 (frV (ZLc p (lkC k L)))=true:=rfl;have hbS:∀ n (K:List Str),Zd n (K.map encS)=true:=fun n K=>ZN _ (Zw (fun t=>rfl) K)
 have Q:=Y8 (E:=rE) (live:=[0,2,6,7,8]) (b:=c254L0b) L.length (fun i=>[(0,.yld 3),(2,.iptr false [I k]),(6,.isl false false 3 (L.map arA)),(7,I L.length),(8,I i)])
  (fun i=>lkH .ready p (lkC k L) (lkT k p (L.take i))) (fun i=>rfl)
  (fun i hi=>by
   obtain ⟨x,hx⟩:∃ x,L[i]? = some x:=⟨_,ZO6 hi⟩;have hg:=Z6 (f:=arA) hx;have hi':=Zh hi;have hw:=Zx (n:=i) (by omega)
   have hs:=ZMf (k:=k) (p:=p) hx;have hq:(lkT k p (L.take i)).1.length≤1000000:=by
    have:=ZLY k p (L.take i);rw [ZOY] at this;omega
   have hy:=ZMe p (lkC k L) ht (lkT k p (L.take i)) hq x (hr x (ZOh hx)) (.row 3 [arA x]) (fun n=>rfl)
   rw [hs];generalize lkT k p (L.take i)=q at *;cases c:x.Kind==k with
   | true=>
    rw [cond_true];generalize lkS p q x=q2 at *;unfold lkH at hy ⊢;have hlo:Zj 4 (.loop .ready .normal (ZLc p (lkC k L)) [29] c175R0a c175R0b)=true:=hb4;have hlo5:Zj 5 (.loop .ready .normal (ZLc p (lkC k L)) [29] c175R0a c175R0b)=true:=rfl;generalize AObj.loop .ready .normal (ZLc p (lkC k L)) [29] c175R0a c175R0b=lo at *;simp only [arA,ZOa,ZOl] at hy hg;refine ⟨_,by simp only [go_sem,qy,qq,qx,qz,qv,qk,reduceIte,c254L0b,S3,hg,arA,hi',hw,c,hy,hbS,hlo,hlo5];rfl,?_⟩
    simp only [go_sem,qy,qq,qx,qz,qv,qk,reduceIte]
   | false=>
    rw [cond_false];unfold lkH;have hlo:Zj 4 (.loop .ready .normal (ZLc p (lkC k L)) [29] c175R0a c175R0b)=true:=hb4;generalize AObj.loop .ready .normal (ZLc p (lkC k L)) [29] c175R0a c175R0b=lo at *;simp only [arA] at hg;refine ⟨_,by simp only [go_sem,qy,qq,qx,qz,qv,qk,reduceIte,c254L0b,hg,arA,hi',hw,c,hbS,hlo];rfl,?_⟩
    simp only [go_sem,qy,qq,qx,qz,qv,qk,reduceIte])
  (e:=.exit 0) (by simp only [go_sem,qy,qq,qx,qz,qv,qk,reduceIte,lkH,c254L0b,ZG];rfl) (by simp)
 rw [ZOE] at Q;exact ⟨_,Q⟩
end Go.AM
namespace Go.AM
open Go
theorem ZMh (k:Int) (p:Pt) (L:List Region) (hl:L.length≤1000) (hr:∀ x∈L,x.Ring.l.length≤1000000):
 rf rE (lkC k L) [29] c175R0a c175R0b (ZLc p (lkC k L)) [.row 1 [],.row 1 [.sl 0 0 0 0 false],.row 1 [.bool false]] =
  some (.normal,ZLc p (lkC k L),[.row 1 ((lkT k p L).1.map encS),.row 1 [.sl 0 (lkT k p L).1.length 0 (lkT k p L).1.length false],.row 1 [.bool (lkT k p L).2],.loop .exhausted .normal (ZLc p (lkC k L)) [29] c175R0a c175R0b]):=by
 have hb4:Zd 4 (frV (ZLc p (lkC k L)))=true:=rfl;have hbS:∀ n (K:List Str),Zd n (K.map encS)=true:=fun n K=>ZN _ (Zw (fun t=>rfl) K)
 obtain ⟨fr',h1⟩:=ZMg k p L hl hr;have hlo:Zj 4 (.loop .ready .normal (ZLc p (lkC k L)) [29] c175R0a c175R0b)=true:=hb4;unfold lkH at h1;simp only [ZOy,ZOp] at h1;generalize lkT k p L=q at *;unfold lkC at h1 ⊢;rw [Z1k (c:=c254) rfl];unfold lkC at hlo;simp only [go_sem,qy,qq,qx,qz,qv,qk,reduceIte,c254,c254L0,ZO3,h1,hbS,hlo];rfl
theorem look_ok (L:List Region) (hl:L.length≤400) (hn:(L.map (·.Id)).Nodup) (hv:∀ x∈L,ZZ x.Id=true∧ZD x.Kind 1 3=true∧Vh x.Ring.l=true∧x.Ring.l.length≤1000000) (k:Int) (hk:ZD k 1 3=true) (p:Pt):
 pfn rE 175 [.isl false false 3 (L.map arA),I k,.agg [I p.X,I p.Y]]=some (.tup (bif gOn p then [.isl false false 1 ((ZEi (lkT k p L).1).map encS),.bool (lkT k p L).2,I 0] else [.isl false false 1 [],.bool false,I 1])):=by
 have h1:=Zib L hl hn hv;have h2:=Zi9 k;have h3:=W8 p;rw [hk] at h2;rw [Z5 (f:=175) rfl rfl];cases c:gOn p with
 | false=>
  rw [c] at h3;simp only [go_sem,qy,qq,qx,qz,qv,qk,reduceIte,c175,h1,h2,h3,ZO9,ZOm,cond_false]
 | true=>
  rw [c] at h3;have hr:=ZMh k p L (by omega) (fun x hx=>(hv x hx).2.2.2)
  have hlen:=ZLY k p L;generalize lkT k p L=q at *;have hbS:∀ n (K:List Str),Zd n (K.map encS)=true:=fun n K=>ZN _ (Zw (fun t=>rfl) K)
  have hcS:∀ (K:List Str),Z4 (K.map encS)=true:=fun K=>Zw (fun t=>rfl) K
  have hof:∀ h,fnV rE 208 [.isl false false 3 (L.map arA),I k] h=some (lkC k L,h):=fun h=>by
   have hcl:Z4 (L.map arA)=true:=Zw (fun _=>rfl) _
   rw [Q6 (f:=208) rfl rfl];simp only [go_sem,qy,qq,qx,qz,qv,qk,reduceIte,c208,lkC,GH]
  have hso:∀ r1 r2,fnV rE 116 [.sl 0 q.1.length 0 q.1.length false] [.row 1 (q.1.map encS),r1,r2]=some (.tup [],[.row 1 ((ZEi q.1).map encS),r1,r2]):=fun r1 r2=>by
   have hstr:(q.1.map encS).all WB=true:=by rw [List.all_map,ZO8];intro x _;rfl
   have hble:Nat.ble q.1.length 1000000=true:=ZP0 (by omega)
   rw [V8 (s:=J7) rfl];simp only [J7,ZOC,ZO3,beq_self_eq_true,hstr,hble,ZOD,cond_true,GM,ZHq]
  have hsl:(ZEi q.1).length=q.1.length:=(ZES q.1).length_eq;simp only [ZLc,lkV,lkC] at hr;have htk:((ZEi q.1).map encS).take q.1.length=(ZEi q.1).map encS:=ZOs (by rw [ZO3,hsl];exact ZO4 _)
  simp only [go_sem,qy,qq,qx,qz,qv,qk,reduceIte,put,c175,h1,h2,h3,hof,Sr,hr,hso,hsl,hbS,hcS,htk,lkC,beq_self_eq_true,ZP8,ZO9,cond_true]
end Go.AM
namespace Go.AM
open Go
def ZLf (k:Int) (p:Pt) (L:List Region):Str×Int:=
 bif gOn p then
  match ZEi (lkT k p L).1 with
  | []=>(emp,10)
  | x::r=>bif !r.isEmpty&&(lkT k p L).2 then (emp,8) else (x,0)
 else (emp,1)
structure RgOk (L:List Region):Prop where
 len:L.length≤400
 ids:(L.map (·.Id)).Nodup
 ok:∀ x∈L,ZZ x.Id=true∧ZD x.Kind 1 3=true∧Vh x.Ring.l=true∧x.Ring.l.length≤1000000
theorem ZMi (L:List Region) (hL:RgOk L) (k:Int) (hk:ZD k 1 3=true) (p:Pt):pfn rE 114 [.isl false false 3 (L.map arA),I k,.agg [I p.X,I p.Y]]=some (.tup [.str (ZLf k p L).1,I (ZLf k p L).2]):=by
 have h:=look_ok L hL.len hL.ids hL.ok k hk p;unfold ZLf;rw [Z5 (f:=114) rfl rfl];cases c:gOn p with
 | false=>
  rw [c,cond_false] at h;have z1:((1:Int) != 0)=true:=rfl;simp only [go_sem,qy,qq,qx,qz,qv,qk,reduceIte,c114,h,z1,cond_false]
 | true=>
  rw [c,cond_true] at h;have z0:((0:Int) != 0)=false:=rfl;rw [cond_true];cases hs:ZEi (lkT k p L).1 with
  | nil=>
   rw [hs] at h;have z2:(((0:Nat):Int)==0)=true:=rfl;simp only [ZOy] at h;simp only [go_sem,qy,qq,qx,qz,qv,qk,reduceIte,c114,h,z0,z2,ZOp]
  | cons x r=>
   rw [hs] at h;have z3:(((r.length+1:Nat):Int)==0)=false:=by rw [beq_eq_false_iff_ne];omega
   have hix:ixG (.str x::r.map encS) 0=some (.str x):=rfl;simp only [ZOb,encS] at h;cases r with
   | nil=>
    have z4:decide (((0+1:Nat):Int) > 1)=false:=rfl;simp only [ZOp] at z3;simp only [ZOy] at h hix;simp only [go_sem,qy,qq,qx,qz,qv,qk,reduceIte,c114,h,z0,z3,z4,hix,ZOg,ZOp,List.isEmpty_nil,ZO9,ZOG,cond_false]
   | cons y r=>
    have z4:decide (((r.length+1+1:Nat):Int) > 1)=true:=decide_eq_true (by omega)
    simp only [ZOg] at z3;simp only [ZOb,encS] at h hix;cases c2:(lkT k p L).2 with
    | true=>
     rw [c2] at h;simp only [go_sem,qy,qq,qx,qz,qv,qk,reduceIte,c114,h,z0,z3,z4,ZOg,ZO3,ZQ8,ZOm,ZOD,cond_true]
    | false=>
     rw [c2] at h;simp only [go_sem,qy,qq,qx,qz,qv,qk,reduceIte,c114,h,z0,z3,z4,hix,ZOg,ZO3,ZQ8,ZOm,ZPv,cond_false]
structure Plc where
 Door:Str
 Street:Str
 Code:Str
 District:Str
 City:Str
 Number:HN
 Point:Pt
def Plc.enc (a:Plc):AV:=.agg [.str a.Door,.str a.Street,.str a.Code,.str a.District,.str a.City,I a.Number.N,.str a.Number.Letter,I a.Number.Num,I a.Number.Den,I a.Point.X,I a.Point.Y]
def zP:Plc:=⟨emp,emp,emp,emp,emp,⟨0,emp,0,0⟩,⟨0,0⟩⟩
def ZLs (s:Sta) (d:Door):Plc:=⟨d.Id,d.Street,(ZLf 3 d.Point (lvR s.Regions)).1,(ZLf 2 d.Point (lvR s.Regions)).1,(ZLf 1 d.Point (lvR s.Regions)).1,d.Number,d.Point⟩
def dI (d:Door):AV:=match d.enc with | .agg cs=>.iptr false cs | v=>v
theorem ZLt (L:List Region) (hL:RgOk L) (k:Int) (hk:ZD k 1 3=true) (d:Door):pfn rE 113 [I k,.iptr true [.isl false false 3 (L.map arA)],dI d]=some (.str (ZLf k d.Point L).1):=by
 have h:=ZMi L hL k hk d.Point;have hc:Z4 (L.map arA)=true:=Zw (fun _=>rfl) _
 rw [Z5 (f:=113) rfl rfl];simp only [go_sem,qy,qq,qx,qz,qv,qk,reduceIte,c113,dI,Door.enc,NL.enc,h]
theorem ZMj (s:Sta) (hs:StS s) (hL:RgOk (lvR s.Regions)) (d:Door):pfn rE 55 [stA s,d.enc]=some (ZLs s d).enc:=by
 have h0:=Zi3 s hs;have h3:=ZLt (lvR s.Regions) hL 3 rfl d;have h2:=ZLt (lvR s.Regions) hL 2 rfl d;have h1:=ZLt (lvR s.Regions) hL 1 rfl d;simp only [stA] at h0;unfold ZLs Plc.enc;generalize (ZLf 3 d.Point (lvR s.Regions)).1=x3 at *;generalize (ZLf 2 d.Point (lvR s.Regions)).1=x2 at *;generalize (ZLf 1 d.Point (lvR s.Regions)).1=x1 at *;have hc:Z4 ((lvR s.Regions).map arA)=true:=Zw (fun _=>rfl) _
 generalize hM:(lvR s.Regions).map arA=M at *;simp only [dI,Door.enc,NL.enc] at h3 h2 h1;rw [Z5 (f:=55) rfl rfl];simp only [go_sem,qy,qq,qx,qz,qv,qk,reduceIte,c55,stA,Door.enc,NL.enc,h0,h1,h2,h3,hc]
theorem ZMk {s:Sta} (hp:Prop' s) (hs:StE s) (hl:s.Regions.length≤400):RgOk (lvR s.Regions):=
 ⟨ZOX (Zi0 _) hl,by
  have h1:=hp.ids;unfold Qp at h1;exact (ZPi.1 h1).1.sublist (ZQD.map _),fun x hx=>by
  have hm:x∈s.Regions:=(ZPQ.1 hx).1;have h1:=hp.rg x hm;unfold Vo at h1;rw [Zdu] at h1;simp only [ZO2] at h1;exact ⟨h1.2.2.1,h1.2.2.2.1,h1.2.2.2.2,by have:=(hs.regions x hm).2.1;omega⟩⟩
def ZLa (s:Sta) (id:Str):Plc×Int:=
 bif !Jx s then (zP,1) else
 match (bif decide (Zn s id < 0) then none else s.Doors[(Zn s id).toNat]?) with
 | none=>(zP,10)
 | some d=>bif d.Ended != -1 then (zP,11) else bif !Z3 d.Veil emp then (zP,24) else (ZLs s d,0)
theorem ZLu (s:Sta) (hs:StE s) (hl:s.Regions.length≤400) (id:Str):pfn rE 24 [stA s,.str id]=some (.tup [(ZLa s id).1.enc,I (ZLa s id).2]):=by
 have hp:=Z3i s hs;have hf:=find_ok s hs.sizes id;unfold ZLa;cases c1:Jx s with
 | false=>
  rw [c1] at hp;rw [Z5 (f:=24) rfl rfl];simp only [stA] at hp;simp only [go_sem,qy,qq,qx,qz,qv,qk,reduceIte,c24,stA,hp,zP,Plc.enc,ZOm,cond_true]
 | true=>
 rw [c1] at hp;cases c2:decide (Zn s id < 0) with
 | true=>
  rw [Z5 (f:=24) rfl rfl];simp only [stA] at hp hf;simp only [go_sem,qy,qq,qx,qz,qv,qk,reduceIte,c24,stA,hp,hf,c2,zP,Plc.enc,ZO9,cond_true,cond_false]
 | false=>
 have c2':=c2;rw [ZEz] at c2';obtain ⟨k,d,h1,h2,h3⟩:=ZcU c2';have h1':Zn s id=(k:Int):=h1;have hg:=Z6 (f:=Door.enc) h2;have ha:=ZMj s hs.sizes (ZMk ((Zdb s).1 c1).1 hs hl) d;rw [h1'] at hf c2 ⊢;rw [ZQm,h2];simp only [stA] at hp hf ha;simp only [ZO9,cond_false];unfold Plc.enc at ha ⊢;cases c3:d.Ended != -1 with
 | true=>
  rw [Z5 (f:=24) rfl rfl];simp only [go_sem,qy,qq,qx,qz,qv,qk,reduceIte,c24,stA,hp,hf,c2,hg,Door.enc,c3,zP,ZO9,cond_true]
 | false=>
 cases c4:Z3 d.Veil emp with
 | false=>
  rw [Z5 (f:=24) rfl rfl];simp only [go_sem,qy,qq,qx,qz,qv,qk,reduceIte,c24,stA,hp,hf,c2,hg,Door.enc,c3,c4,zP,ZO9,ZOm,cond_true,cond_false]
 | true=>
  rw [Z5 (f:=24) rfl rfl];simp only [Door.enc] at ha;simp only [go_sem,qy,qq,qx,qz,qv,qk,reduceIte,c24,stA,hp,hf,c2,hg,Door.enc,c3,c4,ha,ZO9,cond_false]
end Go.AM
namespace Go.AM
open Go
theorem ZLo (s:Str):pfn rE 61 [.str s]=some (.bool (ZZ s)):=by
 have h:=Z1W s;unfold ZZ;generalize Up s=x at h ⊢;obtain ⟨ts,err,pos⟩:=x;unfold Lx.val at h;simp only at h ⊢;rw [Z5 (f:=61) rfl rfl];cases h0:err==0 with
 | false=>simp only [go_sem,qy,qq,qx,qz,qv,qk,reduceIte,c61,h,h0]
 | true=>
  rcases ts with _ | ⟨⟨tk,ta,tn,tt⟩,_ | ⟨t2,ts⟩⟩
  ·have e:(((0:Nat):Int)==1)=false:=rfl;simp only [go_sem,qy,qq,qx,qz,qv,qk,reduceIte,c61,h,h0,e]
  ·have e:(((0+1:Nat):Int)==1)=true:=rfl;have e1:ixG [.agg [I tk,I ta,I tn,.str tt]] 0=some (.agg [I tk,I ta,I tn,.str tt]):=rfl;have e2:(((1:Nat):Int)==1)=true:=rfl;cases h1:tk==1<;>simp only [go_sem,qy,qq,qx,qz,qv,qk,reduceIte,c61,h,h0,e,e1,e2,h1,Tok.enc]
  ·have e:(((ts.length+1+1:Nat):Int)==1)=false:=by
    rw [beq_eq_false_iff_ne];omega
   simp only [go_sem,qy,qq,qx,qz,qv,qk,reduceIte,c61,h,h0,e]
structure Wch where
 Id:Str
 Door:Str
def Wch.enc (w:Wch):AV:=.agg [.str w.Id,.str w.Door]
def wpP (l:List Wch) (i:Nat) (w:Wch):Bool:=ZZ w.Id&&(ZZ w.Door&&!((l.take i).map (·.Id)).any (Z3 w.Id))
def wpB (l:List Wch):Bool:=Zu (wpP l) 0 l&&decide ((l.length:Int)≤1000)
theorem ZLZ (bw ex:Bool) (l:List Wch) (hl:l.length≤100000):pfn rE 26 [.isl bw ex 2 (l.map Wch.enc)]=some (.bool (wpB l)):=by
 have hb2:∀ n (K:List Str),Zd n (K.map encS)=true:=fun n K=>ZN _ (Zw (fun t=>rfl) K)
 have hb3:∀ n k,Zd n (ZO k)=true:=fun n k=>ZN _ (Ut k)
 obtain ⟨fr',h',L1,L2,L3⟩:=Jk (E:=rE) (live:=[0,3,7,8,9]) (b:=c26L0b) l (wpP l) (fun i=>[(0,.isl bw ex 2 (l.map Wch.enc)),(3,.mp 0),(7,.isl bw ex 2 (l.map Wch.enc)),(8,I l.length),(9,I i)])
  (fun i=>[.map (((l.take i).map (·.Id)).map encS) (ZO ((l.take i).map (·.Id)).length)]) 0 (fun fr _=>get fr 0=.isl bw ex 2 (l.map Wch.enc)∧get fr 2=.bot) (fun fr _=>get fr 2=.bool false) (fun i=>rfl)
  (fun i x hx hP=>by
   have hg:=Z6 (f:=Wch.enc) hx;have hi':=Zh (Z7 hx);have hw:=Zx (n:=i) (by have:=Z7 hx;omega)
   have k1:=ZLo x.Id;have k2:=ZLo x.Door;have ht:=YW (fun x:Wch=>x.Id) hx
   unfold wpP at hP;simp only [ZO2,ZOn] at hP;obtain ⟨p1,p2,p3⟩:=hP;rw [p1] at k1;rw [p2] at k2;rw [ht];generalize (l.take i).map (·.Id)=K at p3 ⊢;have hf:Qi Z3 K x.Id=K++[x.Id]:=by unfold Qi;rw [p3];rfl
   have hp:=fun hh=>Ur (ag:=false) (kk:=[2]) (enc:=encS) (eq:=Z3) Z1Y K x.Id (h:=.map (K.map encS) (ZO K.length)::hh) (b:=0) rfl
   have hq:=fun hh=>H5 (ag:=false) (kk:=[2]) (enc:=encS) (eq:=Z3) Z1Y K x.Id (h:=.map (K.map encS) (ZO K.length)::hh) (b:=0) rfl
   rw [hf] at hp;rw [p3] at hq;simp only [encS] at hp hq;simp only [Wch.enc] at hg;refine ⟨_,by simp only [go_sem,qy,qq,qx,qz,qv,qk,reduceIte,c26L0b,hg,hi',hw,k1,k2,hp,hq,hb2,hb3,ZO9];rfl,?_⟩
   simp only [go_sem,qy,qq,qx,qz,qv,qk,reduceIte])
  (fun i x hx hP=>by
   have hg:=Z6 (f:=Wch.enc) hx;have hi':=Zh (Z7 hx);have k1:=ZLo x.Id;have k2:=ZLo x.Door;unfold wpP at hP;generalize (l.take i).map (·.Id)=K at hP ⊢;have hq:=fun hh=>H5 (ag:=false) (kk:=[2]) (enc:=encS) (eq:=Z3) Z1Y K x.Id (h:=.map (K.map encS) (ZO K.length)::hh) (b:=0) rfl
   simp only [encS] at hq;simp only [Wch.enc] at hg;cases p1:ZZ x.Id with
   | false=>
    rw [p1] at k1;exact ⟨_,_,by simp only [go_sem,qy,qq,qx,qz,qv,qk,reduceIte,c26L0b,hg,hi',k1,hb2,hb3,ZOm];rfl,by simp only [go_sem,qy,qq,qx,qz,qv,qk,reduceIte]⟩
   | true=>
   rw [p1] at k1;cases p2:ZZ x.Door with
   | false=>
    rw [p2] at k2;exact ⟨_,_,by simp only [go_sem,qy,qq,qx,qz,qv,qk,reduceIte,c26L0b,hg,hi',k1,k2,hb2,hb3,ZO9,ZOm];rfl,by simp only [go_sem,qy,qq,qx,qz,qv,qk,reduceIte]⟩
   | true=>
   rw [p2] at k2;have p3:K.any (Z3 x.Id)=true:=by rw [p1,p2] at hP;simpa using hP
   rw [p3] at hq;exact ⟨_,_,by simp only [go_sem,qy,qq,qx,qz,qv,qk,reduceIte,c26L0b,hg,hi',k1,k2,hq,hb2,hb3,ZO9];rfl,by simp only [go_sem,qy,qq,qx,qz,qv,qk,reduceIte]⟩)
  (⟨_,_,by simp only [go_sem,qy,qq,qx,qz,qv,qk,reduceIte,c26L0b,ZG];rfl,by simp only [go_sem,qy,qq,qx,qz,qv,qk,reduceIte],by simp only [go_sem,qy,qq,qx,qz,qv,qk,reduceIte]⟩)
 have L1':Zg rE [0,3,7,8,9] c26L0b [(0,.isl bw ex 2 (l.map Wch.enc)),(3,.mp 0),(7,.isl bw ex 2 (l.map Wch.enc)),(8,I l.length),(9,.int .i64 0)] [.map [] []]=_:=L1;rw [Z5 (f:=26) rfl rfl];unfold wpB;cases e:Zu (wpP l) 0 l with
 | true=>
  obtain ⟨q1,q2⟩:=L2 e;rw [e] at L1';have q1b:=q1;simp only [go_sem,qy,qq,qx,qz,qv,qk,reduceIte,c26,c26L0,ZO3,L1',q1,q2,if_true,ZOq]
 | false=>
  have q1:=L3 e;rw [e] at L1';simp only [go_sem,qy,qq,qx,qz,qv,qk,reduceIte,c26,c26L0,ZO3,L1',q1,ZOd,ZOG]
end Go.AM
namespace Go.AM
open Go
theorem ZFi (s:Sta) (hs:StE s) (id:Str) (h:ZEb s id≠0):pfn rE 31 [stA s,.str id]=some (.tup [ftA false false [] [],I (ZEb s id)]):=by
 have hc:=Zpq s hs id;simp only [stA] at hc;have h0:(ZEb s id != 0)=true:=by rw [bne_iff_ne];exact h
 rw [Z5 (f:=31) rfl rfl];generalize ZEb s id=e at hc h0 ⊢;simp only [go_sem,qy,qq,qv,qk,reduceIte,c31,stA,hc,h0,ftA,List.map]
theorem ZJc {a b c:Str} (h1:ltS a b) (h2:ltS b c):ltS a c:=List.lt_trans h1 h2
theorem ZIV (a:Str):¬ ltS a a:=List.lt_irrefl _
theorem ZIS {α:Type} {f:α→Str}:∀ {a b:List α},a.Pairwise (fun x y=>ltS (f x) (f y))→b.Pairwise (fun x y=>ltS (f x) (f y))→(∀ x,x∈a↔x∈b)→a=b
 | [],[],_,_,_=>rfl
 | [],y::s,_,_,h=>by have:=(h y).2 ZOv;cases this
 | x::r,[],_,_,h=>by have:=(h x).1 ZOv;cases this
 | x::r,y::s,ha,hb,h=>by
  rw [ZPa] at ha hb;have hxy:x=y:=by
   rcases ZOt.1 ((h x).1 ZOv) with e | hx
   ·exact e
   ·rcases ZOt.1 ((h y).2 ZOv) with e | hy
    ·exact e.symm
    ·exact absurd (ZJc (hb.1 x hx) (ha.1 y hy)) (ZIV _)
  subst hxy;rw [ZIS ha.2 hb.2 (fun z=>?_)]
  have hz:=h z;simp only [ZOt] at hz;constructor
  ·intro hr;rcases hz.1 (.inr hr) with e | hs
   ·subst e;exact absurd (ha.1 z hr) (ZIV _)
   ·exact hs
  ·intro hr;rcases hz.2 (.inr hr) with e | hs
   ·subst e;exact absurd (hb.1 z hr) (ZIV _)
   ·exact hs
theorem ZKB {s t:Sta} {id id':Str} {D D':List Str} {E E':List Endz} (h:IsFate s id D E) (h':IsFate t id' D' E') (hD:∀ x,x∈D↔x∈D') (hE:∀ e,e∈E↔e∈E'):D=D'∧E=E':=
 ⟨ZIS (f:=fun x=>x) h.ds h'.ds hD,ZIS (f:=fun e:Endz=>e.Id) h.es h'.es hE⟩
theorem ZGg {a b:Endz}:ZEq a b=true↔a=b:=by
 unfold ZEq;rw [ZO2,ZO2,Ky,beq_iff_eq,beq_iff_eq];constructor
 ·rintro ⟨h1,h2,h3⟩;cases a;cases b;simp_all
 ·rintro rfl;exact ⟨rfl,rfl,rfl⟩
theorem ZaX (l:List Str):HK l l=true:=by
 unfold HK;rw [beq_self_eq_true,ZOq,Zda];intro j x hx;rw [ZOf,hx];exact (Ky _ _).2 rfl
theorem ZIe (D:List Str) (E:List Endz):HL D D E E=true:=by
 unfold HL;rw [beq_self_eq_true,ZaX,ZOq,ZOq,Zda];intro j x hx;rw [ZOf,hx];exact ZGg.2 rfl
end Go.AM
namespace Go.AM
open Go
def Zvh (a b:Plc):Bool:=Z3 a.Door b.Door&&(Z3 a.Street b.Street&&(Z3 a.Code b.Code&&(Z3 a.District b.District&&(Z3 a.City b.City&&(a.Number.N==b.Number.N&&(Z3 a.Number.Letter b.Number.Letter&&(a.Number.Num==b.Number.Num&&(a.Number.Den==b.Number.Den&&(a.Point.X==b.Point.X&&a.Point.Y==b.Point.Y)))))))))
theorem Zwt {a b:Plc}:Zvh a b=true↔a=b:=by
 unfold Zvh;simp only [ZO2,Ky,beq_iff_eq];constructor
 ·obtain ⟨a1,a2,a3,a4,a5,⟨b1,b2,b3,b4⟩,⟨c1,c2⟩⟩:=a;obtain ⟨d1,d2,d3,d4,d5,⟨e1,e2,e3,e4⟩,⟨f1,f2⟩⟩:=b;rintro ⟨rfl,rfl,rfl,rfl,rfl,rfl,rfl,rfl,rfl,rfl,rfl⟩;rfl
 ·rintro rfl;simp
def ZLd {α:Type} (f:α→α→Bool) (b:List α) (i:Nat) (x:α):Bool:=match b[i]? with | some y=>f x y | none=>false
def eqL {α:Type} (f:α→α→Bool) (a b:List α):Bool:=a.length==b.length&&Zu (ZLd f b) 0 a
theorem ZLj {α:Type} {f:α→α→Bool} (hf:∀ x y,f x y=true↔x=y) {a b:List α}:eqL f a b=true↔a=b:=by
 unfold eqL;rw [ZO2,beq_iff_eq,Zda];constructor
 ·rintro ⟨h1,h2⟩;refine List.ext_getElem h1 fun i hi hj=>?_
  have:=h2 i a[i] (ZO6 hi);unfold ZLd at this;rw [ZOf,ZO6 hj] at this;exact (hf _ _).1 this
 ·rintro rfl;refine ⟨rfl,fun i x hx=>?_⟩
  unfold ZLd;rw [ZOf,hx];exact (hf x x).2 rfl
theorem neL {α:Type} {a b:List α}:((a.length:Int) != (b.length:Int)) = !(a.length==b.length):=by
 cases h:a.length==b.length with
 | true=>rw [eq_of_beq h];simp
 | false=>
  have:a.length≠b.length:=by simpa using h
  simp;omega
theorem ZMl (ba ea bb eb:Bool) (a b:List Str) (hl:a.length≤100000):pfn rE 119 [.isl ba ea 1 (a.map encS),.isl bb eb 1 (b.map encS)]=some (.bool (eqL Z3 a b)):=by
 have hne:=neL (a:=a) (b:=b);rw [Z5 (f:=119) rfl rfl];unfold eqL;cases c:a.length==b.length with
 | false=>
  rw [c] at hne;simp only [go_sem,qy,qq,qx,qz,qv,qk,reduceIte,c119,ZO3,hne,ZOm,ZOG]
 | true=>
 rw [c] at hne;have hlen:a.length=b.length:=eq_of_beq c;have L:=QT (E:=rE) (live:=[0,1,12,13]) (b:=c119L0b) (h:=[]) a (ZLd Z3 b) (fun i=>[(0,.isl ba ea 1 (a.map encS)),(1,.isl bb eb 1 (b.map encS)),(12,I a.length),(13,I i)]) 0 (fun fr=>get fr 4=.bot) (fun fr=>get fr 4=.bool false) (fun i=>rfl)
  (fun i x hx hP=>by
   have hg:=Z6 (f:=encS) hx;have hi:=Zh (Z7 hx);have hw:=Zx (n:=i) (by have:=Z7 hx;omega)
   obtain ⟨y,hy⟩:∃ y,b[i]? = some y:=⟨_,ZO6 (by rw [←hlen];exact Z7 hx)⟩
   have hgy:=Z6 (f:=encS) hy;unfold ZLd at hP;rw [hy] at hP;dsimp only at hP;simp only [encS] at hg hgy;refine ⟨_,by simp only [go_sem,qy,qq,qx,qz,qv,qk,reduceIte,c119L0b,hg,hgy,hi,hw,hP,ZO9];rfl,?_⟩
   simp only [go_sem,qy,qq,qx,qz,qv,qk,reduceIte])
  (fun i x hx hP=>by
   have hg:=Z6 (f:=encS) hx;have hi:=Zh (Z7 hx);obtain ⟨y,hy⟩:∃ y,b[i]? = some y:=⟨_,ZO6 (by rw [←hlen];exact Z7 hx)⟩
   have hgy:=Z6 (f:=encS) hy;unfold ZLd at hP;rw [hy] at hP;dsimp only at hP;simp only [encS] at hg hgy;refine ⟨_,by simp only [go_sem,qy,qq,qx,qz,qv,qk,reduceIte,c119L0b,hg,hgy,hi,hP,ZOm];rfl,?_⟩
   simp only [go_sem,qy,qq,qx,qz,qv,qk,reduceIte])
  (⟨_,by simp only [go_sem,qy,qq,qx,qz,qv,qk,reduceIte,c119L0b,ZG,ZO3];rfl,by simp only [go_sem,qy,qq,qx,qz,qv,qk,reduceIte]⟩)
 obtain ⟨fr',h1,h2,h3⟩:=L;have h1':Zg rE [0,1,12,13] c119L0b [(0,.isl ba ea 1 (a.map encS)),(1,.isl bb eb 1 (b.map encS)),(12,I a.length),(13,.int .i64 0)] []=_:=h1;cases e:Zu (ZLd Z3 b) 0 a with
 | true=>
  rw [e] at h1';simp only [go_sem,qy,qq,qx,qz,qv,qk,reduceIte,c119,c119L0,ZO3,hne,h1',h2 e,if_true,ZO9,ZOq]
 | false=>
  rw [e] at h1';simp only [go_sem,qy,qq,qx,qz,qv,qk,reduceIte,c119,c119L0,ZO3,hne,h1',h3 e,ZOd,ZO9,ZOq]
theorem ZMm (ba ea bb eb:Bool) (a b:List Endz) (hl:a.length≤100000):pfn rE 120 [.isl ba ea 3 (a.map Endz.enc),.isl bb eb 3 (b.map Endz.enc)]=some (.bool (eqL ZEq a b)):=by
 have hne:=neL (a:=a) (b:=b);rw [Z5 (f:=120) rfl rfl];unfold eqL;cases c:a.length==b.length with
 | false=>
  rw [c] at hne;simp only [go_sem,qy,qq,qx,qz,qv,qk,reduceIte,c120,ZO3,hne,ZOm,ZOG]
 | true=>
 rw [c] at hne;have hlen:a.length=b.length:=eq_of_beq c;have L:=QT (E:=rE) (live:=[0,1,12,13]) (b:=c120L0b) (h:=[]) a (ZLd ZEq b) (fun i=>[(0,.isl ba ea 3 (a.map Endz.enc)),(1,.isl bb eb 3 (b.map Endz.enc)),(12,I a.length),(13,I i)]) 0 (fun fr=>get fr 4=.bot) (fun fr=>get fr 4=.bool false) (fun i=>rfl)
  (fun i x hx hP=>by
   have hg:=Z6 (f:=Endz.enc) hx;have hi:=Zh (Z7 hx);have hw:=Zx (n:=i) (by have:=Z7 hx;omega)
   obtain ⟨y,hy⟩:∃ y,b[i]? = some y:=⟨_,ZO6 (by rw [←hlen];exact Z7 hx)⟩
   have hgy:=Z6 (f:=Endz.enc) hy;unfold ZLd at hP;rw [hy] at hP;dsimp only at hP;unfold ZEq at hP;simp only [Endz.enc] at hg hgy;refine ⟨_,by simp only [go_sem,qy,qq,qx,qz,qv,qk,reduceIte,c120L0b,hg,hgy,hi,hw,hP,ZO9];rfl,?_⟩
   simp only [go_sem,qy,qq,qx,qz,qv,qk,reduceIte])
  (fun i x hx hP=>by
   have hg:=Z6 (f:=Endz.enc) hx;have hi:=Zh (Z7 hx);obtain ⟨y,hy⟩:∃ y,b[i]? = some y:=⟨_,ZO6 (by rw [←hlen];exact Z7 hx)⟩
   have hgy:=Z6 (f:=Endz.enc) hy;unfold ZLd at hP;rw [hy] at hP;dsimp only at hP;unfold ZEq at hP;simp only [Endz.enc] at hg hgy;refine ⟨_,by simp only [go_sem,qy,qq,qx,qz,qv,qk,reduceIte,c120L0b,hg,hgy,hi,hP,ZOm];rfl,?_⟩
   simp only [go_sem,qy,qq,qx,qz,qv,qk,reduceIte])
  (⟨_,by simp only [go_sem,qy,qq,qx,qz,qv,qk,reduceIte,c120L0b,ZG,ZO3];rfl,by simp only [go_sem,qy,qq,qx,qz,qv,qk,reduceIte]⟩)
 obtain ⟨fr',h1,h2,h3⟩:=L;have h1':Zg rE [0,1,12,13] c120L0b [(0,.isl ba ea 3 (a.map Endz.enc)),(1,.isl bb eb 3 (b.map Endz.enc)),(12,I a.length),(13,.int .i64 0)] []=_:=h1;cases e:Zu (ZLd ZEq b) 0 a with
 | true=>
  rw [e] at h1';simp only [go_sem,qy,qq,qx,qz,qv,qk,reduceIte,c120,c120L0,ZO3,hne,h1',h2 e,if_true,ZO9,ZOq]
 | false=>
  rw [e] at h1';simp only [go_sem,qy,qq,qx,qz,qv,qk,reduceIte,c120,c120L0,ZO3,hne,h1',h3 e,ZOd,ZO9,ZOq]
theorem ZMn (ba ea bb eb:Bool) (a b:List Plc) (hl:a.length≤100000):pfn rE 64 [.isl ba ea 11 (a.map Plc.enc),.isl bb eb 11 (b.map Plc.enc)]=some (.bool (eqL Zvh a b)):=by
 have hne:=neL (a:=a) (b:=b);rw [Z5 (f:=64) rfl rfl];unfold eqL;cases c:a.length==b.length with
 | false=>
  rw [c] at hne;simp only [go_sem,qy,qq,qx,qz,qv,qk,reduceIte,c64,ZO3,hne,ZOm,ZOG]
 | true=>
 rw [c] at hne;have hlen:a.length=b.length:=eq_of_beq c;have L:=QT (E:=rE) (live:=[0,1,12,13]) (b:=c64L0b) (h:=[]) a (ZLd Zvh b) (fun i=>[(0,.isl ba ea 11 (a.map Plc.enc)),(1,.isl bb eb 11 (b.map Plc.enc)),(12,I a.length),(13,I i)]) 0 (fun fr=>get fr 4=.bot) (fun fr=>get fr 4=.bool false) (fun i=>rfl)
  (fun i x hx hP=>by
   have hg:=Z6 (f:=Plc.enc) hx;have hi:=Zh (Z7 hx);have hw:=Zx (n:=i) (by have:=Z7 hx;omega)
   obtain ⟨y,hy⟩:∃ y,b[i]? = some y:=⟨_,ZO6 (by rw [←hlen];exact Z7 hx)⟩
   have hgy:=Z6 (f:=Plc.enc) hy;unfold ZLd at hP;rw [hy] at hP;dsimp only at hP;unfold Zvh at hP;simp only [Plc.enc] at hg hgy;refine ⟨_,by simp only [go_sem,qy,qq,qx,qz,qv,qk,reduceIte,c64L0b,hg,hgy,hi,hw,hP,ZO9];rfl,?_⟩
   simp only [go_sem,qy,qq,qx,qz,qv,qk,reduceIte])
  (fun i x hx hP=>by
   have hg:=Z6 (f:=Plc.enc) hx;have hi:=Zh (Z7 hx);obtain ⟨y,hy⟩:∃ y,b[i]? = some y:=⟨_,ZO6 (by rw [←hlen];exact Z7 hx)⟩
   have hgy:=Z6 (f:=Plc.enc) hy;unfold ZLd at hP;rw [hy] at hP;dsimp only at hP;unfold Zvh at hP;simp only [Plc.enc] at hg hgy;refine ⟨_,by simp only [go_sem,qy,qq,qx,qz,qv,qk,reduceIte,c64L0b,hg,hgy,hi,hP,ZOm];rfl,?_⟩
   simp only [go_sem,qy,qq,qx,qz,qv,qk,reduceIte])
  (⟨_,by simp only [go_sem,qy,qq,qx,qz,qv,qk,reduceIte,c64L0b,ZG,ZO3];rfl,by simp only [go_sem,qy,qq,qx,qz,qv,qk,reduceIte]⟩)
 obtain ⟨fr',h1,h2,h3⟩:=L;have h1':Zg rE [0,1,12,13] c64L0b [(0,.isl ba ea 11 (a.map Plc.enc)),(1,.isl bb eb 11 (b.map Plc.enc)),(12,I a.length),(13,.int .i64 0)] []=_:=h1;cases e:Zu (ZLd Zvh b) 0 a with
 | true=>
  rw [e] at h1';simp only [go_sem,qy,qq,qx,qz,qv,qk,reduceIte,c64,c64L0,ZO3,hne,h1',h2 e,if_true,ZO9,ZOq]
 | false=>
  rw [e] at h1';simp only [go_sem,qy,qq,qx,qz,qv,qk,reduceIte,c64,c64L0,ZO3,hne,h1',h3 e,ZOd,ZO9,ZOq]
theorem ZMo (ea eb:Bool) (a b:List Str) (hl:a.length≤100000):pfn rE 62 [.isl false ea 1 (a.map encS),.isl false eb 1 (b.map encS)]=some (.bool (!eqL Z3 a b)):=by
 have h:=ZMl false ea false eb a b hl;rw [Z5 (f:=62) rfl rfl];cases c:eqL Z3 a b<;>rw [c] at h<;>simp only [go_sem,qy,qq,qx,qz,qv,qk,reduceIte,c62,h,ZO9,ZOm]
theorem ZMp (ea eb:Bool) (a b:List Endz) (hl:a.length≤100000):pfn rE 63 [.isl false ea 3 (a.map Endz.enc),.isl false eb 3 (b.map Endz.enc)]=some (.bool (!eqL ZEq a b)):=by
 have h:=ZMm false ea false eb a b hl;rw [Z5 (f:=63) rfl rfl];cases c:eqL ZEq a b<;>rw [c] at h<;>simp only [go_sem,qy,qq,qx,qz,qv,qk,reduceIte,c63,h,ZO9,ZOm]
theorem ZM0 (ea eb:Bool) (a b:List Plc) (hl:a.length≤100000):pfn rE 30 [.isl false ea 11 (a.map Plc.enc),.isl false eb 11 (b.map Plc.enc)]=some (.bool (!eqL Zvh a b)):=by
 have h:=ZMn false ea false eb a b hl;rw [Z5 (f:=30) rfl rfl];cases c:eqL Zvh a b<;>rw [c] at h<;>simp only [go_sem,qy,qq,qx,qz,qv,qk,reduceIte,c30,h,ZO9,ZOm]
structure Knw where
 D:List Str
 E:List Endz
 P:List Plc
def Knw.enc (k:Knw):AV:=.agg [.isl false false 1 (k.D.map encS),.isl false false 3 (k.E.map Endz.enc),.isl false false 11 (k.P.map Plc.enc)]
def ZLb (k m:Knw):Bool:=eqL Z3 k.D m.D&&(eqL ZEq k.E m.E&&eqL Zvh k.P m.P)
theorem ZLw {k m:Knw}:ZLb k m=true↔k=m:=by
 unfold ZLb;rw [ZO2,ZO2,ZLj (fun x y=>Ky x y),ZLj (fun x y=>ZGg),ZLj (fun x y=>Zwt)]
 cases k;cases m;simp
structure KnS (k:Knw):Prop where
 d:k.D.length≤1000
 e:k.E.length≤1000
 p:k.P.length≤1000
theorem ZoJ (k m:Knw) (hk:KnS k):pfn rE 29 [k.enc,m.enc]=some (.bool (ZLb k m)):=by
 have h1:=ZMo false false k.D m.D (by have:=hk.d;omega)
 have h2:=ZMp false false k.E m.E (by have:=hk.e;omega)
 have h3:=ZM0 false false k.P m.P (by have:=hk.p;omega)
 unfold ZLb Knw.enc;rw [Z5 (f:=29) rfl rfl];cases c1:eqL Z3 k.D m.D with
 | false=>
  rw [c1] at h1;simp only [go_sem,qy,qq,qx,qz,qv,qk,reduceIte,c29,h1,ZOm,ZO9,ZOG]
 | true=>
 rw [c1] at h1;cases c2:eqL ZEq k.E m.E with
 | false=>
  rw [c2] at h2;simp only [go_sem,qy,qq,qx,qz,qv,qk,reduceIte,c29,h1,h2,ZOm,ZO9,ZOG,ZOq]
 | true=>
 rw [c2] at h2;cases c3:eqL Zvh k.P m.P<;>rw [c3] at h3<;>simp only [go_sem,qy,qq,qx,qz,qv,qk,reduceIte,c29,h1,h2,h3,ZOm,ZO9,ZOq]
end Go.AM
namespace Go.AM
open Go
def ZL7 (s:Sta) (D:List Str):List Plc:=(D.filter fun x=>(ZLa s x).2==0).map fun x=>(ZLa s x).1
theorem ZM1 {s:Sta} {D:List Str} {i:Nat} {x:Str} (h:D[i]? = some x):ZL7 s (D.take (i+1))=ZL7 s (D.take i)++(bif (ZLa s x).2==0 then [(ZLa s x).1] else []):=by
 have hi:=ZO7.1 h;unfold ZL7;rw [ZPu hi.1,ZPP,ZOk,hi.2];cases c:(ZLa s x).2==0<;>simp [List.filter,c]
theorem ZLx (s:Sta) (D:List Str):(ZL7 s D).length≤D.length:=by
 unfold ZL7;rw [ZO3];exact ZPf _ _
def kwH (D:List Str) (E:List Endz) (P:List Plc):Hp:=[.row 3 [.agg [.isl false false 1 [],.isl false false 3 [],.isl false false 11 []]],.row 11 (P.map Plc.enc),.row 3 [.agg [.isl false false 1 (D.map encS),.isl false false 3 (E.map Endz.enc),.sl 1 P.length 0 P.length false]]]
def stC (s:Sta):AV:=match stA s with | .agg cs=>.iptr false cs | v=>v
theorem ZMq (s:Sta) (hA:∀ x,pfn rE 24 [stA s,.str x]=some (.tup [(ZLa s x).1.enc,I (ZLa s x).2])) (D:List Str) (E:List Endz) (hD:D.length≤500):
 ∃ fr',Zg rE [2,4,5,19,20,21] c28L0b [(2,stC s),(4,.ptr 0 0 0 1),(5,.ptr 2 0 0 1),(19,.isl false false 1 (D.map encS)),(20,I D.length),(21,.int .i64 0)] (kwH D E [])=some (.exit 0,fr',kwH D E (ZL7 s D))∧get fr' 4=.ptr 0 0 0 1∧get fr' 5=.ptr 2 0 0 1:=by
 have hbS:∀ n (K:List Str),Zd n (K.map encS)=true:=fun n K=>ZN _ (Zw (fun t=>rfl) K)
 have hbP:∀ n (K:List Plc),Zd n (K.map Plc.enc)=true:=fun n K=>ZN _ (Zw (fun t=>rfl) K)
 have L:=Y8 (E:=rE) (live:=[2,4,5,19,20,21]) (b:=c28L0b) D.length (fun i=>[(2,stC s),(4,.ptr 0 0 0 1),(5,.ptr 2 0 0 1),(19,.isl false false 1 (D.map encS)),(20,I D.length),(21,I i)]) (fun i=>kwH D E (ZL7 s (D.take i))) (fun i=>rfl)
  (fun i hi=>by
   obtain ⟨x,hx⟩:∃ x,D[i]? = some x:=⟨_,ZO6 hi⟩;have hg:=Z6 (f:=encS) hx;have hi':=Zh hi;have hw:=Zx (n:=i) (by omega)
   have ha:=hA x;have hs:=ZM1 (s:=s) hx;have hle:(ZL7 s (D.take i)).length≤500:=by
    have h1:=ZLx s (D.take i);rw [ZOY] at h1;omega
   rw [hs];generalize ZL7 s (D.take i)=P at hle ⊢;have hap:=fun (r0 r2 r3:AObj) (ys:AV) (hy:fits 11 ys=true)=>XC (h:=[r0,.row 11 (P.map Plc.enc),r2,r3]) (fz:=false) (b:=1) (g:=P.length) (sz:=11) (es:=P.map Plc.enc) (bw:=false) (ex:=false) (ys:=[ys]) (bytes:=136) (by unfold rowAt;simp) rfl (by simp [hy]) (by omega) (by omega) (by simp;omega)
   generalize hq:ZLa s x=q at ha ⊢;obtain ⟨⟨a1,a2,a3,a4,a5,⟨b1,b2,b3,b4⟩,⟨e1,e2⟩⟩,er⟩:=q;have hap:=fun r0 r2 r3=>hap r0 r2 r3 (Plc.enc ⟨a1,a2,a3,a4,a5,⟨b1,b2,b3,b4⟩,⟨e1,e2⟩⟩) rfl
   simp only [Plc.enc] at ha hap;simp only [stA] at ha;simp only [stC,stA];cases c:er==0 with
   | true=>
    refine ⟨_,by simp only [go_sem,qy,qq,qx,qz,qv,qk,reduceIte,c28L0b,kwH,hg,encS,hi',hw,ha,hap,c,hbS,hbP,ZOj,ZPg,ZOk,Plc.enc,cond_true];rfl,?_⟩
    simp only [go_sem,qy,qq,qx,qz,qv,qk,reduceIte]
   | false=>
    refine ⟨_,by simp only [go_sem,qy,qq,qx,qz,qv,qk,reduceIte,c28L0b,kwH,hg,encS,hi',hw,ha,c,hbS,hbP,ZOc,cond_false];rfl,?_⟩
    simp only [go_sem,qy,qq,qx,qz,qv,qk,reduceIte])
  (e:=.exit 0) (by simp only [go_sem,qy,qq,qx,qz,qv,qk,reduceIte,kwH,c28L0b,ZG];rfl) (by simp)
 rw [ZOE] at L;exact ⟨_,L,by simp only [go_sem,qy,qq,qx,qz,qv,qk,reduceIte],by simp only [go_sem,qy,qq,qx,qz,qv,qk,reduceIte]⟩
theorem ZLh (s:Sta) (hA:∀ x,pfn rE 24 [stA s,.str x]=some (.tup [(ZLa s x).1.enc,I (ZLa s x).2])) (id:Str) (D:List Str) (E:List Endz) (e:Int) (hf:pfn rE 31 [stA s,.str id]=some (.tup [ftA false false D E,I e])) (hD:D.length≤500):
 pfn rE 28 [stA s,.str id]=some (Knw.enc ⟨D,E,ZL7 s D⟩):=by
 obtain ⟨fr',l1,q4,q5⟩:=ZMq s hA D E hD;have hcP:Z4 ((ZL7 s D).map Plc.enc)=true:=Zw (fun t=>rfl) _
 generalize ZL7 s D=P at *;have htk:List.take P.length (P.map Plc.enc)=P.map Plc.enc:=ZOs (by simp)
 simp only [ftA] at hf;simp only [stA] at hf;simp only [kwH,stC,stA,ZOy,ZOp] at l1;unfold Knw.enc;rw [Z5 (f:=28) rfl rfl];simp only [go_sem,qy,qq,qx,qz,qv,qk,reduceIte,put,c28,c28L0,stA,hf,ZO3,l1,q4,q5,hcP,htk,ZP8,beq_self_eq_true]
end Go.AM
namespace Go.AM
open Go
def kvH (D:List Str) (E:List Endz) (P:List Plc):Hp:=[.row 2 [.agg [.isl false false 1 [],.isl false false 3 []]],.row 2 [ftA false false D E],.row 11 (P.map Plc.enc)]
structure StK (s:Sta):Prop where
 e:StE s
 doors:s.Doors.length≤500
 regions:s.Regions.length≤400
structure IsKn (s:Sta) (id:Str) (k:Knw):Prop where
 no:Zn s id < 0→k=⟨[],[],[]⟩
 at':¬ Zn s id < 0→IsFate s id k.D k.E
 P:k.P=ZL7 s k.D
theorem IsKn.sz {s:Sta} {id:Str} {k:Knw} (h:IsKn s id k):KnS k:=by
 by_cases c:Zn s id < 0
 ·rw [h.no c];exact ⟨ZO5 _,ZO5 _,ZO5 _⟩
 ·have hf:=h.at' c;have hl:=ZLx s k.D;rw [←h.P] at hl;have h1:=hf.dl;have h2:=hf.el;exact ⟨by omega,by omega,by omega⟩
theorem ZM2 (s:Sta) (hp:Jx s=true) (hs:StK s) (id:Str):∃ k:Knw,IsKn s id k∧pfn rE 28 [stA s,.str id]=some k.enc∧True:=by
 have hA:=ZLu s hs.e hs.regions;cases c:decide (Zn s id < 0) with
 | true=>
  have hk:ZEb s id=10:=by unfold ZEb;rw [hp,c];rfl
  have hf:=ZFi s hs.e id (by rw [hk];decide)
  rw [hk] at hf;exact ⟨⟨[],[],[]⟩,⟨fun _=>rfl,fun h=>absurd (of_decide_eq_true c) h,rfl⟩,ZLh s hA id [] [] 10 hf (ZO5 _),trivial⟩
 | false=>
  obtain ⟨D,E,hf,hF⟩:=ZHv s hp hs.e hs.doors id c;exact ⟨⟨D,E,ZL7 s D⟩,⟨fun h=>absurd h (of_decide_eq_false c),fun _=>hF,rfl⟩,ZLh s hA id D E 0 hf hF.dl,trivial⟩
theorem ZLp (s:Sta) (hp:Jx s=true) (hs:StK s):∃ K:Str→Knw,∀ id,IsKn s id (K id)∧pfn rE 28 [stA s,.str id]=some (K id).enc∧True:=
 ⟨fun id=>(ZM2 s hp hs id).choose,fun id=>(ZM2 s hp hs id).choose_spec⟩
end Go.AM
namespace Go.AM
open Go
structure Ntc where
 W:Str
 Od:List Str
 Oe:List Endz
 Nd:List Str
 Ne:List Endz
 Moved:Bool
 Oa:List Plc
 Na:List Plc
def Ntc.enc (n:Ntc):AV:=.agg [.str n.W,.isl false false 1 (n.Od.map encS),.isl false false 3 (n.Oe.map Endz.enc),.isl false false 1 (n.Nd.map encS),.isl false false 3 (n.Ne.map Endz.enc),.bool n.Moved,.isl false false 11 (n.Oa.map Plc.enc),.isl false false 11 (n.Na.map Plc.enc)]
def ntc (Ka Kb:Str→Knw) (w:Wch):Ntc:=⟨w.Id,(Ka w.Door).D,(Ka w.Door).E,(Kb w.Door).D,(Kb w.Door).E,!eqL Zvh (Ka w.Door).P (Kb w.Door).P,(Ka w.Door).P,(Kb w.Door).P⟩
def ZL6 (Ka Kb:Str→Knw) (l:List Wch):List Ntc:=(l.filter fun w=>!ZLb (Ka w.Door) (Kb w.Door)).map (ntc Ka Kb)
theorem ZLy (Ka Kb:Str→Knw) {l:List Wch} {i:Nat} {w:Wch} (h:l[i]? = some w):ZL6 Ka Kb (l.take (i+1))=ZL6 Ka Kb (l.take i)++(bif ZLb (Ka w.Door) (Kb w.Door) then [] else [ntc Ka Kb w]):=by
 have hi:=ZO7.1 h;unfold ZL6;rw [ZPu hi.1,ZPP,ZOk,hi.2];cases c:ZLb (Ka w.Door) (Kb w.Door)<;>simp [List.filter,c]
theorem ZM3 (Ka Kb:Str→Knw) (l:List Wch):(ZL6 Ka Kb l).length≤l.length:=by
 unfold ZL6;rw [ZO3];exact ZPf _ _
def cmH (N:List Ntc):Hp:=[.row 8 (N.map Ntc.enc),.row 1 [.sl 0 N.length 0 N.length false]]
theorem ZMt (a b:Sta) (w:Wch) (k m:Knw) (hk:pfn rE 28 [stA a,.str w.Door]=some k.enc) (hm:pfn rE 28 [stA b,.str w.Door]=some m.enc) (sk:KnS k) (N:List Ntc) (hN:N.length≤1000) (o:AObj) (ho:∀ n,Zj n o=true):
 fnV rE 27 [w.enc,stC a,stC b,.ptr 1 0 0 1] (cmH N++[o])=some (.tup [],cmH (N++(bif ZLb k m then [] else [⟨w.Id,k.D,k.E,m.D,m.E,!eqL Zvh k.P m.P,k.P,m.P⟩]))++[o,.row 3 [k.enc],.row 3 [m.enc]]):=by
 have hi:=ZoJ k m sk;have hd:=ZM0 false false k.P m.P (by have:=sk.p;omega)
 have hbN:∀ n (K:List Ntc),Zd n (K.map Ntc.enc)=true:=fun n K=>ZN _ (Zw (fun t=>by
  unfold Ntc.enc;simp [clean,Z4,ZET,ZEU,show ∀ K:List Plc,Z4 (K.map Plc.enc)=true from fun K=>Zw (fun t=>rfl) K]) K)
 unfold Knw.enc at hk hm hi;unfold Wch.enc Knw.enc;simp only [stA] at hk hm;cases c:ZLb k m with
 | true=>
  rw [c] at hi;rw [cond_true,ZOc];rw [Q6 (f:=27) rfl rfl];simp only [go_sem,qy,qq,qx,qz,qv,qk,reduceIte,c27,stC,stA,cmH,hk,hm,hi,hbN,ho]
 | false=>
  rw [c] at hi;rw [cond_false];rw [Q6 (f:=27) rfl rfl];have hap:=fun (r1 r3 r4 r5:AObj) (ys:AV) (hy:fits 8 ys=true)=>XC (h:=[.row 8 (N.map Ntc.enc),r1,r3,r4,r5]) (fz:=false) (b:=0) (g:=N.length) (sz:=8) (es:=N.map Ntc.enc) (bw:=false) (ex:=false) (ys:=[ys]) (bytes:=168) (by unfold rowAt;simp) rfl (by simp [hy]) (by omega) (by omega) (by simp;omega)
  have hap:=fun r1 r3 r4 r5=>hap r1 r3 r4 r5 (Ntc.enc ⟨w.Id,k.D,k.E,m.D,m.E,!eqL Zvh k.P m.P,k.P,m.P⟩) rfl
  simp only [Ntc.enc] at hap;simp only [go_sem,qy,qq,qx,qz,qv,qk,reduceIte,c27,stC,stA,cmH,hk,hm,hi,hd,hap,hbN,ho,Ntc.enc,ZOk,ZOj,ZPg]
theorem ZM4 (N:List Ntc):Z4 (N.map Ntc.enc)=true:=Zw (fun t=>by
 unfold Ntc.enc;simp [clean,Z4,ZET,ZEU,show ∀ K:List Plc,Z4 (K.map Plc.enc)=true from fun K=>Zw (fun t=>rfl) K]) N
theorem ZMu (a b:Sta) (Ka Kb:Str→Knw) (bw ex:Bool) (l:List Wch) (hk:∀ w∈l,pfn rE 28 [stA a,.str w.Door]=some (Ka w.Door).enc) (hm:∀ w∈l,pfn rE 28 [stA b,.str w.Door]=some (Kb w.Door).enc) (sk:∀ w∈l,KnS (Ka w.Door)) (hl:l.length≤1000):
 ∃ fr',Zg rE [8,9,26,27,28] c11L0b [(8,.ptr 1 0 0 1),(9,.clo (.func 27) [] [stC a,stC b,.ptr 1 0 0 1]),(26,.isl bw ex 2 (l.map Wch.enc)),(27,I l.length),(28,.int .i64 0)] (cmH [])=some (.exit 0,fr',cmH (ZL6 Ka Kb l))∧get fr' 8=.ptr 1 0 0 1:=by
 have hbN:∀ n (K:List Ntc),Zd n (K.map Ntc.enc)=true:=fun n K=>ZN _ (ZM4 K)
 have L:=Y8 (E:=rE) (live:=[8,9,26,27,28]) (b:=c11L0b) l.length (fun i=>[(8,.ptr 1 0 0 1),(9,.clo (.func 27) [] [stC a,stC b,.ptr 1 0 0 1]),(26,.isl bw ex 2 (l.map Wch.enc)),(27,I l.length),(28,I i)]) (fun i=>cmH (ZL6 Ka Kb (l.take i))) (fun i=>rfl)
  (fun i hi=>by
   obtain ⟨x,hx⟩:∃ x,l[i]? = some x:=⟨_,ZO6 hi⟩;have hg:=Z6 (f:=Wch.enc) hx;have hi':=Zh hi;have hw:=Zx (n:=i) (by omega)
   have hs:=ZLy Ka Kb hx;have hle:(ZL6 Ka Kb (l.take i)).length≤1000:=by
    have h1:=ZM3 Ka Kb (l.take i);rw [ZOY] at h1;omega
   have hxm:=ZOh hx;have h1:=ZMt a b x (Ka x.Door) (Kb x.Door) (hk x hxm) (hm x hxm) (sk x hxm) (ZL6 Ka Kb (l.take i)) hle;rw [hs];unfold ntc;generalize (bif ZLb (Ka x.Door) (Kb x.Door) then [] else [(⟨x.Id,(Ka x.Door).D,(Ka x.Door).E,(Kb x.Door).D,(Kb x.Door).E,!eqL Zvh (Ka x.Door).P (Kb x.Door).P,(Ka x.Door).P,(Kb x.Door).P⟩:Ntc)])=M at *;generalize ZL6 Ka Kb (l.take i)=N at *;have h2:=h1 (.row 2 [x.enc]) (fun n=>rfl)
   simp only [Wch.enc,cmH,ZOa,ZOl,stC,stA] at h2 hg;refine ⟨_,by simp only [go_sem,qy,qq,qx,qz,qv,qk,reduceIte,RL,c11L0b,cmH,stC,stA,hg,hi',hw,h2,hbN];rfl,?_⟩
   simp only [go_sem,qy,qq,qx,qz,qv,qk,reduceIte,stC,stA])
  (e:=.exit 0) (by simp only [go_sem,qy,qq,qx,qz,qv,qk,reduceIte,cmH,c11L0b,ZG];rfl) (by simp)
 rw [ZOE] at L;exact ⟨_,L,by simp only [go_sem,qy,qq,qx,qz,qv,qk,reduceIte]⟩
def ZLq (N:List Ntc):AV:=.tup [.isl false false 8 (N.map Ntc.enc),I 0]
theorem ZLk (a b:Sta) (ha:StE a) (hb:StE b) (ex:Bool) (bw:Bool) (l:List Wch) (pa:Jx a=true) (pb:Jx b=true) (pl:wpB l=true) (Ka Kb:Str→Knw) (hk:∀ w∈l,pfn rE 28 [stA a,.str w.Door]=some (Ka w.Door).enc) (hm:∀ w∈l,pfn rE 28 [stA b,.str w.Door]=some (Kb w.Door).enc) (sk:∀ w∈l,KnS (Ka w.Door)):pfn rE 11 [stA a,stA b,.isl bw ex 2 (l.map Wch.enc)]=some (ZLq (ZL6 Ka Kb l)):=by
 have hl:l.length≤1000:=by
  have h1:=pl;unfold wpB at h1;rw [ZO2] at h1;have:=of_decide_eq_true h1.2;omega
 have h1:=Z3i a ha;have h2:=Z3i b hb;have h3:=ZLZ bw ex l (by omega)
 obtain ⟨fr',l1,q8⟩:=ZMu a b Ka Kb bw ex l hk hm sk hl;have hcN:=ZM4 (ZL6 Ka Kb l);rw [pa] at h1;rw [pb] at h2;rw [pl] at h3;generalize ZL6 Ka Kb l=N at *;have htk:List.take N.length (N.map Ntc.enc)=N.map Ntc.enc:=ZOs (by simp)
 simp only [stA] at h1 h2;simp only [stC,stA,cmH,ZOy,ZOp] at l1;unfold ZLq;rw [Z5 (f:=11) rfl rfl];simp only [go_sem,qy,qq,qx,qz,qv,qk,reduceIte,put,c11,c11L0,stA,h1,h2,h3,ZO3,l1,q8,hcN,htk,ZP8,beq_self_eq_true,ZO9]
end Go.AM
namespace Go.AM
open Go
structure NtS (n:Ntc):Prop where
 od:n.Od.length≤1000
 oe:n.Oe.length≤1000
 nd:n.Nd.length≤1000
 ne:n.Ne.length≤1000
 oa:n.Oa.length≤1000
 na:n.Na.length≤1000
theorem ZLr {s:Sta} (h:YQ s=true):StK s:=by
 have hs:=Kl s h;simp only [YQ,M3,ZO2,ZOn] at h;have h1:=h.1;simp only [decide_eq_false_iff_not] at h1;exact ⟨hs.e,by omega,by omega⟩
end Go.AM
namespace Go.AM
open Go
def ZLl (n:Ntc):Knw:=⟨n.Od,n.Oe,n.Oa⟩
def ZLm (n:Ntc):Knw:=⟨n.Nd,n.Ne,n.Na⟩
def kAt (k:Knw) (N:List Ntc):Knw:=N.foldl (fun _ n=>ZLm n) k
theorem ZMA (k:Knw) {N:List Ntc} {i:Nat} {n:Ntc} (h:N[i]? = some n):kAt k (N.take (i+1))=ZLm n:=by
 have hi:=ZO7.1 h;unfold kAt;rw [ZPu hi.1,ZQa,hi.2];rfl
theorem ZLA {k:Knw} (hk:KnS k):∀ {N:List Ntc},(∀ n∈N,NtS n)→KnS (kAt k N)
 | [],_=>hk
 | n::r,h=>by
  have h1:=h n ZOv;exact ZLA (k:=ZLm n) ⟨h1.nd,h1.ne,h1.na⟩ fun m hm=>h m (ZOP _ hm)
def rpP (k:Knw) (N:List Ntc) (i:Nat) (n:Ntc):Bool:=ZLb (kAt k (N.take i)) (ZLl n)
def rpH (k:Knw):Hp:=[.row 2 [.agg [.isl false false 1 [],.isl false false 3 []]],.row 3 [k.enc]]
def rpV (k:Knw):AV:=.tup [ftA false false k.D k.E,.isl false false 11 (k.P.map Plc.enc),I 0]
theorem ZM7 (k:Knw) (hk:KnS k) (bw ex:Bool) (N:List Ntc) (hN:∀ n∈N,NtS n) (hl:N.length≤1000):
 pfn rE 17 [ftA false false k.D k.E,.isl false false 11 (k.P.map Plc.enc),.isl bw ex 8 (N.map Ntc.enc)]=some (bif Zu (rpP k N) 0 N then rpV (kAt k N) else .tup [ftA false false [] [],.isl false false 11 [],I 11]):=by
 have hbS:∀ n (K:List Str),Zd n (K.map encS)=true:=fun n K=>ZN _ (Zw (fun t=>rfl) K)
 have hbE:∀ n (K:List Endz),Zd n (K.map Endz.enc)=true:=fun n K=>ZN _ (Zw (fun t=>rfl) K)
 have hbP:∀ n (K:List Plc),Zd n (K.map Plc.enc)=true:=fun n K=>ZN _ (Zw (fun t=>rfl) K)
 obtain ⟨fr',h',L1,L2,L3⟩:=Jk (E:=rE) (live:=[6,9,15,16,17]) (b:=c17L0b) N (rpP k N) (fun i=>[(6,.ptr 0 0 0 1),(9,.ptr 1 0 0 1),(15,.isl bw ex 8 (N.map Ntc.enc)),(16,I N.length),(17,I i)])
  (fun i=>rpH (kAt k (N.take i))) 0 (fun fr h=>get fr 6=.ptr 0 0 0 1∧get fr 9=.ptr 1 0 0 1∧get fr 7=.bot∧get fr 8=.bot∧h=rpH (kAt k N)) (fun fr h=>get fr 6=.ptr 0 0 0 1∧get fr 7=.isl false false 11 []∧get fr 8=.int .i64 11∧get fr 9=.bot∧∃ m,h=rpH m) (fun i=>rfl)
  (fun i x hx hP=>by
   have hg:=Z6 (f:=Ntc.enc) hx;have hi':=Zh (Z7 hx);have hw:=Zx (n:=i) (by have:=Z7 hx;omega)
   have hs:=ZMA k hx;have hz:=ZLA hk (N:=N.take i) fun n hn=>hN n (ZPp hn)
   have hi:=ZoJ (kAt k (N.take i)) (ZLl x) hz;unfold rpP at hP;rw [hP] at hi;rw [hs];generalize kAt k (N.take i)=m at hi ⊢;simp only [Knw.enc,ZLl] at hi;simp only [Ntc.enc] at hg;refine ⟨_,by simp only [go_sem,qy,qq,qx,qz,qv,qk,reduceIte,c17L0b,rpH,Knw.enc,ZLm,hg,hi',hw,hi,hbS,hbE,hbP,ZO9];rfl,?_⟩
   simp only [go_sem,qy,qq,qx,qz,qv,qk,reduceIte])
  (fun i x hx hP=>by
   have hg:=Z6 (f:=Ntc.enc) hx;have hi':=Zh (Z7 hx);have hz:=ZLA hk (N:=N.take i) fun n hn=>hN n (ZPp hn)
   have hi:=ZoJ (kAt k (N.take i)) (ZLl x) hz;unfold rpP at hP;rw [hP] at hi;generalize kAt k (N.take i)=m at hi ⊢;simp only [Knw.enc,ZLl] at hi;simp only [Ntc.enc] at hg;refine ⟨_,_,by simp only [go_sem,qy,qq,qx,qz,qv,qk,reduceIte,c17L0b,rpH,Knw.enc,hg,hi',hi,hbS,hbE,hbP,ZOm];rfl,?_⟩
   simp only [go_sem,qy,qq,qx,qz,qv,qk,reduceIte];exact ⟨trivial,trivial,trivial,trivial,m,rfl⟩)
  (⟨_,_,by simp only [go_sem,qy,qq,qx,qz,qv,qk,reduceIte,c17L0b,rpH,ZG];rfl,by simp only [go_sem,qy,qq,qx,qz,qv,qk,reduceIte],by simp only [go_sem,qy,qq,qx,qz,qv,qk,reduceIte],by simp only [go_sem,qy,qq,qx,qz,qv,qk,reduceIte],by simp only [go_sem,qy,qq,qx,qz,qv,qk,reduceIte],by rw [ZOE];rfl⟩)
 have L1':Zg rE [6,9,15,16,17] c17L0b [(6,.ptr 0 0 0 1),(9,.ptr 1 0 0 1),(15,.isl bw ex 8 (N.map Ntc.enc)),(16,I N.length),(17,.int .i64 0)] (rpH k)=_:=L1;unfold ftA;rw [Z5 (f:=17) rfl rfl];simp only [rpH,Knw.enc] at L1';cases e:Zu (rpP k N) 0 N with
 | true=>
  obtain ⟨q6,q9,q7,q8,rfl⟩:=L2 e;rw [e] at L1';unfold rpV ftA;generalize kAt k N=m at *;simp only [rpH,Knw.enc] at L1';simp only [go_sem,qy,qq,qx,qz,qv,qk,reduceIte,c17,c17L0,ZO3,L1',q6,q9,q7,q8,if_true,cond_true]
 | false=>
  obtain ⟨q6,q7,q8,q9,m,rfl⟩:=L3 e;rw [e] at L1';simp only [rpH,Knw.enc] at L1';simp only [go_sem,qy,qq,qx,qz,qv,qk,reduceIte,c17,c17L0,ZO3,L1',q6,q7,q8,q9,hbS,hbE,hbP,ZOd,cond_false]
end Go.AM
namespace Go.AM
open Go
instance iEnEq:DecidableEq Endz:=fun a b=>decidable_of_iff (ZEq a b=true) ZGg
def ZEh (s:Sta) (aft:Door→List Str):Nat→List Str→List Str→List Door→Option (List Door)
 | 0,_,_,_=>none
 | _+1,_,[],Q=>some Q
 | n+1,K,id::r,Q=>
  match (bif decide (Zn s id < 0) then none else s.Doors[(Zn s id).toNat]?) with
  | none=>none
  | some d=>bif decide (Q.length≤1000)&&decide ((id::r).length+(aft d).length≤1000) then ZEh s aft n ((aft d).foldl wkS (K,id::r)).1 ((aft d).foldl wkS (K,id::r)).2.tail (Q++[d]) else none
theorem ZGh {s:Sta} (hs:StE s) {id:Str} {d:Door} (h:(bif decide (Zn s id < 0) then none else s.Doors[(Zn s id).toNat]?)=some d):∃ k:Nat,s.Doors[k]? = some d∧pfn rE 54 [stA s,.str id]=some (I k):=by
 cases c:decide (Zn s id < 0) with
 | true=>rw [c] at h;cases h
 | false=>
  rw [c] at h;have h0:0≤Zn s id:=by have:=of_decide_eq_false c;omega
  refine ⟨(Zn s id).toNat,h,?_⟩;rw [find_ok s hs.sizes id,Int.toNat_of_nonneg h0]
theorem ZGi {s:Sta} (hs:StE s):∀ (n:Nat) (K L:List Str) (Q Q':List Door),ZEh s (fun d=>d.After.l) n K L Q=some Q'→Runs s K L (ZEc Q) (ZEd Q) (ZEc Q') (ZEd Q')
 | 0,_,_,_,_,h=>by cases h
 | _+1,K,[],Q,Q',h=>by
  rw [ZEh] at h;cases h;exact Runs.stop _ _ _
 | n+1,K,id::r,Q,Q',h=>by
  rw [ZEh] at h;cases hd:(bif decide (Zn s id < 0) then none else s.Doors[(Zn s id).toNat]?) with
  | none=>rw [hd] at h;cases h
  | some d=>
   rw [hd] at h;dsimp only at h;cases c:decide (Q.length≤1000)&&decide ((id::r).length+d.After.l.length≤1000) with
   | false=>rw [c] at h;cases h
   | true=>
    rw [c,cond_true] at h;simp only [ZO2,decide_eq_true_eq] at c;obtain ⟨k,hk,hf⟩:=ZGh hs hd;have ih:=ZGi hs n _ _ _ _ h;refine Runs.step _ id r _ _ _ _ k d hk hf ?_ ?_ c.2 ?_
    ·unfold ZEc;rw [ZO3];have:=ZPf (fun d:Door=>decide (d.Ended < 0)) Q;omega
    ·unfold ZEd;rw [ZO3];have:=ZPf (fun d:Door=>!decide (d.Ended < 0)&&d.After.l.isEmpty) Q;omega
    ·rw [ZFY,ZFZ];exact ih
def dOf (Q:List Door):List Str:=(Q.filter fun d=>decide (d.Ended < 0)).map (·.Id)
def eOf (Q:List Door):List Endz:=(Q.filter fun d=>!decide (d.Ended < 0)&&d.After.l.isEmpty).map ZEk
def ZEK (s:Sta) (id:Str) (D:List Str) (E:List Endz):Bool:=ZEb s id==0&&
 match ZEh s (fun d=>d.After.l) 100 [id] [id] [] with
 | some Q=>(decide (ZEi (dOf Q)=D)&&decide (ZEj (eOf Q)=E))&&(decide ((eOf Q).map (·.Id)).Nodup&&(decide ((dOf Q).length≤1000)&&decide ((eOf Q).length≤1000)))
 | none=>false
theorem ZFj {s:Sta} (hs:StE s) {id:Str} {D:List Str} {E:List Endz} (h:ZEK s id D E=true):pfn rE 31 [stA s,.str id]=some (.tup [ftA false false D E,I 0]):=by
 unfold ZEK at h;rw [ZO2,beq_iff_eq] at h;obtain ⟨h0,h⟩:=h;cases hq:ZEh s (fun d=>d.After.l) 100 [id] [id] [] with
 | none=>rw [hq] at h;cases h
 | some Q=>
  rw [hq] at h;simp only [ZO2,decide_eq_true_eq] at h;obtain ⟨⟨rfl,rfl⟩,h3,h4,h5⟩:=h;have hr:=ZGi hs _ _ _ _ _ hq;have eD:ZEc Q=(dOf Q).map encS:=by unfold ZEc dOf;rw [ZOU];rfl
  have eE:ZEd Q=(eOf Q).map Endz.enc:=by unfold ZEd eOf;rw [ZOU];rfl
  rw [eD,eE] at hr;have pD:=ZES (dOf Q);have pE:=ZF9 (eOf Q);have hc:=Zpq s hs id;rw [h0] at hc;exact ZFW s id _ _ _ _ hc hr (ZFb _ h4) (ZG5 _ h5 h3) (by simp [pD.length_eq]) (by simp [pE.length_eq]) (ZET _) (ZEU _)
def zE:Event:=⟨0,0,0,0,0,emp,emp,emp,⟨false,[]⟩,⟨false,[]⟩,⟨0,emp,0,0⟩,⟨0,0⟩,⟨false,[]⟩,⟨false,[]⟩⟩
def nU (n:Int):HN:=⟨n,emp,0,0⟩
def zD:Door:=⟨emp,emp,emp,0,nU 0,⟨0,0⟩,0,-1,⟨false,[]⟩,0,0,emp⟩
def ZL9:Str:=B [101,49]
def ZL8:Str:=B [101,50]
def ZLe:Str:=B [101,51]
def idh:Str:=B [104]
def exA:Sta:=⟨[],[⟨B [115],0,⟨false,[⟨0,0⟩,⟨9,0⟩]⟩,⟨false,[]⟩,-1⟩],[⟨B [98],0,⟨false,[⟨0,0⟩,⟨9,0⟩,⟨9,9⟩,⟨0,9⟩]⟩,-1⟩],
 [{ zD with Id:=ZL9,Street:=B [115],Building:=B [98],Number:=nU 1 },{ zD with Id:=idh,Veil:=B [120] }],[],[],[]⟩
def exE:Event:={ zE with Kind:=9,Id:=ZL9,Lst:=⟨false,[⟨ZL8,nU 1,⟨0,0⟩⟩,⟨ZLe,nU 2,⟨0,0⟩⟩]⟩ }
def exB:Sta:=ZP exA 0 exE
def ZLg:List Wch:=[⟨B [119,49],ZL9⟩,⟨B [119,50],ZL8⟩,⟨B [119,51],idh⟩]
def ZM8:Bool:=(YQ exA&&(Xn exE&&Qk exA 0 exE==0))&&((YQ exB&&(Jx exA&&Jx exB))&&wpB ZLg)
theorem ZMB:ZM8=true:=by decide +kernel
theorem ZMC:pfn rE 22 []=some (.tup [stA exA,stA exB]):=by
 have h:=ZMB;unfold ZM8 at h;simp only [ZO2,beq_iff_eq] at h;have ha:=JJ exA (Kl _ h.1.1) 0 exE (JL _ h.1.2.1);rw [h.1.2.2] at ha;have hB:ZP exA 0 exE=exB:=rfl;rw [hB] at ha;generalize exB=S at ha ⊢;simp only [exA,exE,zE,zD,nU,ZL9,ZL8,ZLe,idh,evA,stA,ZOb,ZOy,Region.enc,Street.enc,Building.enc,Door.enc,NL.enc,Pt.enc,Ent.enc,encS] at ha ⊢;have hbd:bounds none (some (AV.int IntKind.i64 2)) none 4=some (0,2,none):=rfl;rw [Z5 (f:=22) rfl rfl];simp only [go_sem,qy,qq,qx,qz,qv,qk,reduceIte,c22,hbd,ha]
theorem ZMD:pfn rE 23 []=some (.isl false false 2 (ZLg.map Wch.enc)):=by
 rw [Z5 (f:=23) rfl rfl];simp only [go_sem,qy,qq,qx,qz,qv,qk,reduceIte,c23,ZLg,Wch.enc,ZL9,ZL8,idh,ZOb,ZOy]
end Go.AM
namespace Go.AM
open Go
def ZM9 (A B:Sta):Bool:=((YQ A&&YQ B)&&((Jx A&&Jx B)&&wpB ZLg))&&((ZEK A ZL9 [ZL9] []&&(ZEK B ZL9 [ZL8,ZLe] []&&(ZEb A ZL8==10&&(ZEK B ZL8 [ZL8] []&&(ZEK A idh [idh] []&&ZEK B idh [idh] [])))))&&
 ((ZLa A ZL9).2==0&&((ZLa B ZL8).2==0&&((ZLa B ZLe).2==0&&((ZLa A idh).2==24&&(ZLa B idh).2==24)))))
theorem ZME:ZM9 exA exB=true:=by decide +kernel
def hK (p q r:Knw) (x:Str):Knw:=if x=ZL9 then p else if x=ZL8 then q else r
theorem ZMF (p q r p' q' r':Knw):ZL6 (hK p q r) (hK p' q' r') ZLg=(bif ZLb p p' then [] else [⟨B [119,49],p.D,p.E,p'.D,p'.E,!eqL Zvh p.P p'.P,p.P,p'.P⟩])++((bif ZLb q q' then [] else [⟨B [119,50],q.D,q.E,q'.D,q'.E,!eqL Zvh q.P q'.P,q.P,q'.P⟩])++(bif ZLb r r' then [] else [⟨B [119,51],r.D,r.E,r'.D,r'.E,!eqL Zvh r.P r'.P,r.P,r'.P⟩])):=by
 have h1:∀ a b c:Knw,hK a b c ZL9=a:=fun a b c=>rfl
 have h2:∀ a b c:Knw,hK a b c ZL8=b:=fun a b c=>rfl
 have h3:∀ a b c:Knw,hK a b c idh=c:=fun a b c=>rfl
 unfold ZL6 ZLg;cases c1:ZLb p p'<;>cases c2:ZLb q q'<;>cases c3:ZLb r r'<;>simp only [List.filter,h1,h2,h3,c1,c2,c3,ZO9,ZOm,ZOb,ZOy,ntc,cond_true,cond_false,ZOl,ZOc,ZOa]
theorem ZLi {P:Str→Knw→Prop} {p q r:Knw} (h1:P ZL9 p) (h2:P ZL8 q) (h3:P idh r):∀ w∈ZLg,P w.Door (hK p q r w.Door):=by
 intro w hw;unfold ZLg at hw;simp only [ZOt,List.not_mem_nil,or_false] at hw;rcases hw with rfl | rfl | rfl
 ·exact h1
 ·exact h2
 ·exact h3
theorem ZMG:pfn rE 9 []=some (.bool true):=by
 have h:=ZME;have hs:=ZMC;have hw:=ZMD;generalize exA=A at h hs;generalize exB=S at h hs;unfold ZM9 at h;simp only [ZO2,beq_iff_eq] at h;obtain ⟨⟨⟨fA,fB⟩,⟨pA,pB⟩,pw⟩,⟨t1,t2,t3,t4,t5,t6⟩,r1,r2,r3,r4,r5⟩:=h;have SA:=Kl A fA;have SB:=Kl S fB;have hAA:=ZLu A SA.e (ZLr fA).regions;have hAB:=ZLu S SB.e (ZLr fB).regions;have a1:=hAA ZL9;generalize ha1:(ZLa A ZL9).1=p1 at a1;generalize ha2:(ZLa S ZL8).1=p2;generalize ha3:(ZLa S ZLe).1=p3;have u1:ZL7 A [ZL9]=[p1]:=by unfold ZL7;simp [List.filter,r1,ha1]
 have u2:ZL7 S [ZL8,ZLe]=[p2,p3]:=by unfold ZL7;simp [List.filter,r2,r3,ha2,ha3]
 have u3:ZL7 S [ZL8]=[p2]:=by unfold ZL7;simp [List.filter,r2,ha2]
 have u4:ZL7 A [idh]=[]:=by unfold ZL7;simp [List.filter,r4]
 have u5:ZL7 S [idh]=[]:=by unfold ZL7;simp [List.filter,r5]
 have u6:ZL7 A []=[]:=rfl;have k1:=ZLh A hAA ZL9 [ZL9] [] 0 (ZFj SA.e t1) (by decide)
 have k2:=ZLh S hAB ZL9 [ZL8,ZLe] [] 0 (ZFj SB.e t2) (by decide)
 have k3:=ZLh A hAA ZL8 [] [] 10 (by have:=ZFi A SA.e ZL8 (by rw [t3];decide);rw [t3] at this;exact this) (by decide)
 have k4:=ZLh S hAB ZL8 [ZL8] [] 0 (ZFj SB.e t4) (by decide)
 have k5:=ZLh A hAA idh [idh] [] 0 (ZFj SA.e t5) (by decide)
 have k6:=ZLh S hAB idh [idh] [] 0 (ZFj SB.e t6) (by decide)
 rw [u1] at k1;rw [u2] at k2;rw [u6] at k3;rw [u3] at k4;rw [u4] at k5;rw [u5] at k6;rw [r1] at a1;have c1:=ZLk A S SA.e SB.e false false ZLg pA pB pw _ _ (ZLi (P:=fun x k=>pfn rE 28 [stA A,.str x]=some k.enc) k1 k3 k5) (ZLi (P:=fun x k=>pfn rE 28 [stA S,.str x]=some k.enc) k2 k4 k6) (ZLi (P:=fun _ k=>KnS k) ⟨by simp,by simp,by simp⟩ ⟨by simp,by simp,by simp⟩ ⟨by simp,by simp,by simp⟩)
 have c2:=ZLk S S SB.e SB.e false false ZLg pB pB pw _ _ (ZLi (P:=fun x k=>pfn rE 28 [stA S,.str x]=some k.enc) k2 k4 k6) (ZLi (P:=fun x k=>pfn rE 28 [stA S,.str x]=some k.enc) k2 k4 k6) (ZLi (P:=fun _ k=>KnS k) ⟨by simp,by simp,by simp⟩ ⟨by simp,by simp,by simp⟩ ⟨by simp,by simp,by simp⟩)
 rw [ZMF] at c1 c2;have e0:∀ k,ZLb k k=true:=fun k=>ZLw.2 rfl
 have e1:ZLb ⟨[ZL9],[],[p1]⟩ ⟨[ZL8,ZLe],[],[p2,p3]⟩=false:=rfl;have e2:ZLb ⟨[],[],[]⟩ ⟨[ZL8],[],[p2]⟩=false:=rfl;have e3:eqL Zvh [p1] [p2,p3]=false:=rfl;have e4:eqL Zvh [] [p2]=false:=rfl;rw [e1,e2,e0] at c1;rw [e0,e0,e0] at c2;simp only [e3,e4,cond_true,cond_false,ZOl,ZOc,ZOa,ZOm] at c1 c2;have q1:=ZM7 ⟨[ZL9],[],[p1]⟩ ⟨by simp,by simp,by simp⟩ false false [⟨B [119,49],[ZL9],[],[ZL8,ZLe],[],true,[p1],[p2,p3]⟩] (by intro n hn;rw [ZOi] at hn;subst hn;exact ⟨by simp,by simp,by simp,by simp,by simp,by simp⟩) (by simp)
 have q2:=ZM7 ⟨[],[],[]⟩ ⟨by simp,by simp,by simp⟩ false false [⟨B [119,49],[ZL9],[],[ZL8,ZLe],[],true,[p1],[p2,p3]⟩] (by intro n hn;rw [ZOi] at hn;subst hn;exact ⟨by simp,by simp,by simp,by simp,by simp,by simp⟩) (by simp)
 have w1:Zu (rpP ⟨[ZL9],[],[p1]⟩ [⟨B [119,49],[ZL9],[],[ZL8,ZLe],[],true,[p1],[p2,p3]⟩]) 0 [⟨B [119,49],[ZL9],[],[ZL8,ZLe],[],true,[p1],[p2,p3]⟩]=true:=by
  rw [Zda];intro i x hx;cases i with
  | zero=>cases hx;exact e0 _
  | succ i=>cases hx
 have w2:Zu (rpP ⟨[],[],[]⟩ [⟨B [119,49],[ZL9],[],[ZL8,ZLe],[],true,[p1],[p2,p3]⟩]) 0 [⟨B [119,49],[ZL9],[],[ZL8,ZLe],[],true,[p1],[p2,p3]⟩]=false:=rfl;rw [w1,cond_true] at q1;rw [w2,cond_false] at q2;have s1:=ZF5 false false false false [ZL9] [ZL9] [] [] (by decide) (by decide)
 have s2:=ZF5 false false false false [ZL8,ZLe] [ZL8,ZLe] [] [] (by decide) (by decide)
 have s3:=ZF5 false false false false [] [] [] [] (by decide) (by decide)
 rw [ZIe] at s1 s2 s3;have hbd:bounds none (some (AV.int IntKind.i64 1)) none 2=some (0,1,none):=rfl;have z0:((0:Int) != 0)=false:=rfl;have z1:((0:Int)==0)=true:=rfl;have z2:(((0:Nat):Int) != 0)=false:=rfl;have z3:(((0+1+1:Nat):Int) != 2)=false:=rfl;have z4:(((0+1+1:Nat):Int)==2)=true:=rfl;have z5:((11:Int)==11)=true:=rfl;have z6:(((2:Nat):Int) != 2)=false:=rfl;have z7:(((2:Nat):Int)==2)=true:=rfl;have x0:∀ (a:AV) (l:List AV),ixG (a::l) 0=some a:=fun a l=>rfl
 have x1:∀ (a b:AV) (l:List AV),ixG (a::b::l) 1=some b:=fun a b l=>rfl
 have y1:Z3 (B [119,49]) (B [119,49])=true:=(Ky _ _).2 rfl;have y2:Z3 (B [119,50]) (B [119,50])=true:=(Ky _ _).2 rfl;obtain ⟨a11,a12,a13,a14,a15,⟨a16,a17,a18,a19⟩,⟨a1a,a1b⟩⟩:=p1;obtain ⟨a21,a22,a23,a24,a25,⟨a26,a27,a28,a29⟩,⟨a2a,a2b⟩⟩:=p2;obtain ⟨a31,a32,a33,a34,a35,⟨a36,a37,a38,a39⟩,⟨a3a,a3b⟩⟩:=p3;simp only [ZLq,rpV,kAt,ZLm,List.foldl,ftA,Ntc.enc,Plc.enc,Wch.enc,ZL9,ZL8,ZLe,encS,ZOb,ZOy,stA] at a1 c1 c2 q1 q2 s1 s2 s3 hs hw;rw [Z5 (f:=9) rfl rfl];simp only [go_sem,qy,qq,qx,qz,qv,qk,reduceIte,c9,hs,hw,a1,c1,c2,q1,q2,s1,s2,s3,hbd,z0,z1,z2,z3,z4,z5,z6,z7,x0,x1,y1,y2,ZOg,ZOp]
end Go.AM
namespace Go.AM
open Go
end Go.AM
namespace Go.AM
open Go
theorem ZN6 {l:List Wch}:wpB l=true↔(∀ i w,l[i]? = some w→ZZ w.Id=true∧ZZ w.Door=true∧∀ v∈l.take i,¬ Z3 w.Id v.Id=true)∧l.length≤1000:=by
 unfold wpB;rw [ZO2,Zda,decide_eq_true_eq];constructor
 ·rintro ⟨h1,h2⟩;refine ⟨fun i w hw=>?_,by omega⟩
  have:=h1 i w hw;rw [ZOf] at this;unfold wpP at this;simp only [ZO2,ZOn,List.any_map,ZPb,Function.comp] at this;exact ⟨this.1,this.2.1,this.2.2⟩
 ·rintro ⟨h1,h2⟩;refine ⟨fun i w hw=>?_,by omega⟩
  rw [ZOf];unfold wpP;simp only [ZO2,ZOn,List.any_map,ZPb,Function.comp];exact h1 i w hw
end Go.AM
namespace Go.AM
open Go
end Go.AM
namespace Go.AM
open Go
def wW (d:Str):Wch:=⟨B [119],d⟩
theorem ZN7 (Ka Kb:Str→Knw) (w:Wch):ZL6 Ka Kb [w]=bif ZLb (Ka w.Door) (Kb w.Door) then [] else [ntc Ka Kb w]:=by
 unfold ZL6;cases c:ZLb (Ka w.Door) (Kb w.Door)<;>simp [List.filter,c]
end Go.AM
namespace Go.AM
open Go
end Go.AM
namespace Go.AM
open Go
end Go.AM
namespace Go.AM
open Go
end Go.AM
namespace Go.AM
open Go
end Go.AM
namespace Go.AM
open Go
structure Dst (R:Door→Door→Prop) (s t:Sta) (N:List Door):Prop where
 fw:∀ x∈s.Doors,∃ y∈t.Doors,R x y
 bw:∀ y∈t.Doors,(∃ x∈s.Doors,R x y)∨y∈N
 nw:∀ y∈N,y∈t.Doors
 dj:∀ x∈s.Doors,∀ y∈N,y.Id≠x.Id
 ln:t.Doors.length=s.Doors.length+N.length
 nd:(N.map (·.Id)).Nodup
theorem ZJX {α:Type} {l m:List α} {G:Nat→α→α} (h:∀ i,m[i]? = (l[i]?).map (G i)):m.length=l.length:=by
 have h1:=h m.length;have h2:=h l.length;rw [ZOI (ZO4 _)] at h1 h2;have h3:l[m.length]? = none:=by
  cases c:l[m.length]? with
  | none=>rfl
  | some x=>rw [c] at h1;cases h1
 rw [ZQj] at h3;have h4:m[l.length]? = none:=h2;rw [ZQj] at h4;omega
theorem ZJY {R:Door→Door→Prop} {s t:Sta} {N:List Door} (ht:(t.Doors.map (·.Id)).Nodup) (hid:∀ x y,R x y→y.Id=x.Id) (G:Nat→Door→Door) (h:∀ i,t.Doors[i]? = ((s.Doors++N)[i]?).map (G i))
 (hR:∀ i x,s.Doors[i]? = some x→R x (G i x)) (hN:∀ j x,N[j]? = some x→G (s.Doors.length+j) x=x):Dst R s t N:=by
 have hnew:∀ j y,N[j]? = some y→t.Doors[s.Doors.length+j]? = some y:=fun j y hj=>by
  have:=h (s.Doors.length+j);rw [ZOA (by omega),Nat.add_sub_cancel_left,hj] at this
  simp only [ZOB] at this;rw [hN j y hj] at this;exact this
 have hold:∀ i x,s.Doors[i]? = some x→t.Doors[i]? = some (G i x):=fun i x hi=>by
  have:=h i;rw [ZOz (ZO7.1 hi).1,hi] at this;exact this
 refine ⟨fun x hx=>?_,fun y hy=>?_,fun y hy=>?_,fun x hx y hy he=>?_,by rw [ZJX h,ZOj],?_⟩
 ·obtain ⟨i,hi⟩:=ZOZ hx;exact ⟨_,ZOh (hold i x hi),hR i x hi⟩
 ·obtain ⟨i,hi⟩:=ZOZ hy;have:=h i;rw [hi] at this;by_cases hl:i < s.Doors.length
  ·rw [ZOz hl,ZO6 hl] at this;simp only [ZOB,Option.some.injEq] at this;exact .inl ⟨_,ZPy hl,this▸hR i _ (ZO6 hl)⟩
  ·rw [ZOA (by omega)] at this
   cases hz:N[i - s.Doors.length]? with
   | none=>rw [hz] at this;cases this
   | some z=>
    rw [hz] at this;simp only [ZOB,Option.some.injEq] at this;have hG:=hN _ z hz;rw [show s.Doors.length+(i - s.Doors.length)=i by omega] at hG
    rw [hG] at this;exact .inr (this▸ZOh hz)
 ·obtain ⟨j,hj⟩:=ZOZ hy;exact ZOh (hnew j y hj)
 ·obtain ⟨j,hj⟩:=ZOZ hy;obtain ⟨i,hi⟩:=ZOZ hx;have h1:=Zi1 (f:=fun x:Door=>x.Id) ht (hnew j y hj)
  have h2:=Zi1 (f:=fun x:Door=>x.Id) ht (hold i x hi)
  have h3:=hid _ _ (hR i x hi);simp only [he,h3] at h1 h2;rw [h1] at h2;have:=(ZO7.1 hi).1;omega
 ·have e:t.Doors.drop s.Doors.length=N:=ZPj fun j=>by
   rw [ZPt];cases hj:N[j]? with
   | some x=>exact hnew j x hj
   | none=>
    have:=ZJX h;rw [ZOj] at this;rw [ZQj] at hj ⊢;omega
  rw [←e];exact ht.sublist ((List.drop_sublist _ _).map _)
theorem ZKa {α:Type} (l:List α) (k:Nat) (f:α→α) (i:Nat):(ZK l k f)[i]? = (l[i]?).map fun d=>bif k==i then f d else d:=by
 unfold ZK;cases hk:l[k]? with
 | none=>
  dsimp only;cases c:k==i with
  | false=>simp
  | true=>
   have:k=i:=by simpa using c
   subst this;rw [hk];rfl
 | some x=>
  dsimp only;rw [ZQn];by_cases c:k=i
  ·subst c;obtain ⟨this,hx⟩:=ZO7.1 hk;simp [this,hx]
  ·have c':(k==i)=false:=by simpa using c
   simp [c,c']
end Go.AM
namespace Go.AM
open Go
theorem ZK1 {s:Sta} (hp:Prop' s) {x y:Str} (hx:∃ d∈s.Doors,d.Id=x) (h:Reach s x y):∃ d∈s.Doors,d.Id=y:=by
 induction h with
 | refl=>exact hx
 | step y z d h hd hi hz ih=>exact ZHn hp hd hz
theorem ZKw {R:Door→Door→Prop} {s t:Sta} {N:List Door} (hs:Prop' s) (ht:Prop' t) (H:Dst R s t N) (hR:∀ x y,R x y→y.Id=x.Id∧y.After.l=x.After.l) {x:Str} (hx:∃ d∈s.Doors,d.Id=x) (z:Str):Reach t x z↔Reach s x z:=by
 constructor
 ·intro h;induction h with
  | refl=>exact Reach.refl _
  | step y z d h hd hi hz ih=>
   obtain ⟨c,hc,hci⟩:=ZK1 hs hx ih;obtain ⟨c',hc',hcR⟩:=H.fw c hc;obtain ⟨e1,e2⟩:=hR _ _ hcR;have:c'=d:=ZFX (ZEF ht) hc' hd (by rw [e1,hci,hi])
   subst this;exact Reach.step _ _ _ c ih hc hci (e2▸hz)
 ·intro h;induction h with
  | refl=>exact Reach.refl _
  | step y z d h hd hi hz ih=>
   obtain ⟨d',hd',hdR⟩:=H.fw d hd;obtain ⟨e1,e2⟩:=hR _ _ hdR;exact Reach.step _ _ _ d' ih hd' (e1.trans hi) (e2▸hz)
def ZKs (x y:Door):Prop:=y.Id=x.Id∧y.Ended=x.Ended∧y.Why=x.Why∧y.After.l=x.After.l
theorem ZKC {s t:Sta} {N:List Door} (hs:Prop' s) (ht:Prop' t) (H:Dst ZKs s t N) {x:Str} (hx:∃ d∈s.Doors,d.Id=x)
 {D D':List Str} {E E':List Endz} (h:IsFate s x D E) (h':IsFate t x D' E'):D'=D∧E'=E:=by
 have hr:=ZKw hs ht H (fun _ _ h=>⟨h.1,h.2.2.2⟩) hx
 have hbw:∀ d'∈t.Doors,Reach t x d'.Id→∃ c∈s.Doors,ZKs c d':=fun d' hd' hR=>by
  rcases H.bw d' hd' with h1 | hn
  ·exact h1
  ·obtain ⟨c,hc,hci⟩:=ZK1 hs hx ((hr _).1 hR);exact absurd hci.symm (H.dj c hc d' hn)
 refine ZKB h' h (fun y=>?_) (fun e0=>?_)
 ·rw [h'.dm,h.dm];constructor
  ·rintro ⟨d',hd',hi,hE,hR⟩;obtain ⟨c,hc,h1,h2,h3,h4⟩:=hbw d' hd' hR;exact ⟨c,hc,h1▸hi,h2▸hE,(hr _).1 (h1▸hR)⟩
  ·rintro ⟨d,hd,hi,hE,hR⟩;obtain ⟨d',hd',h1,h2,h3,h4⟩:=H.fw d hd;exact ⟨d',hd',h1.trans hi,h2.symm▸hE,(hr _).2 (h1.symm▸hR)⟩
 ·have heq:∀ c d',ZKs c d'→ZEk d'=ZEk c:=fun c d' hk=>by unfold ZEk;rw [hk.1,hk.2.1,hk.2.2.1]
  rw [h'.em,h.em];constructor
  ·rintro ⟨d',hd',he,hE,hA,hR⟩;obtain ⟨c,hc,hk⟩:=hbw d' hd' hR;refine ⟨c,hc,he.trans (heq c d' hk),?_,?_,?_⟩
   ·rw [←hk.2.1];exact hE
   ·rw [←hk.2.2.2];exact hA
   ·rw [←hk.1];exact (hr _).1 hR
  ·rintro ⟨d,hd,he,hE,hA,hR⟩;obtain ⟨d',hd',hk⟩:=H.fw d hd;refine ⟨d',hd',he.trans (heq d d' hk).symm,?_,?_,?_⟩
   ·rw [hk.2.1];exact hE
   ·rw [hk.2.2.2];exact hA
   ·rw [hk.1];exact (hr _).2 hR
end Go.AM
namespace Go.AM
open Go
theorem ZKr (x:Door):ZKs x x:=⟨rfl,rfl,rfl,rfl⟩
theorem ZKu {R:Door→Door→Prop} {s t:Sta} (hs:(s.Doors.map (·.Id)).Nodup) (hid:∀ x y,R x y→y.Id=x.Id) (hR:∀ x,R x x) (h:t.Doors=s.Doors):Dst R s t []:=
 ZJY (by rw [h];exact hs) hid (fun _ x=>x) (fun i=>by rw [h];simp) (fun i x _=>hR x) (fun _ _ _=>rfl)
end Go.AM
namespace Go.AM
open Go
theorem ZN4 {s:Sta} {x:Str} (h:∃ d∈s.Doors,d.Id=x):¬ Zn s x < 0:=by
 obtain ⟨d,hd,rfl⟩:=h;have:=Ze8 (f:=fun d:Door=>d.Id) hd
 rw [←ZEz] at this;exact of_decide_eq_false this
theorem ZN5 {s:Sta} (hp:Jx s=true) {k:Nat} {d:Door} (hk:s.Doors[k]? = some d):ZLa s d.Id=bif d.Ended != -1 then (zP,11) else bif !Z3 d.Veil emp then (zP,24) else (ZLs s d,0):=by
 have hn:=ZEF ((Zdb s).1 hp).1;have hf:Zn s d.Id=(k:Int):=by rw [ZEz];exact Zi1 (f:=fun d:Door=>d.Id) hn hk
 have h0:decide ((k:Int) < 0)=false:=decide_eq_false (by omega)
 unfold ZLa;rw [hp,hf,h0,ZQm,hk];rfl
theorem ZN1 {L M:List Region} (hL:RgOk L) (hM:RgOk M) (h:L.map arA=M.map arA) (k:Int) (hk:ZD k 1 3=true) (p:Pt):ZLf k p L=ZLf k p M:=by
 have h1:=ZMi L hL k hk p;have h2:=ZMi M hM k hk p;rw [h,h2] at h1;simp only [Option.some.injEq,AV.tup.injEq,List.cons.injEq,AV.str.injEq,and_true,I,AV.int.injEq,true_and] at h1;exact (Prod.ext h1.1 h1.2).symm
def RPl (x y:Door):Prop:=ZKs x y∧y.Street=x.Street∧y.Number=x.Number∧y.Point=x.Point∧Z3 y.Veil emp=Z3 x.Veil emp
theorem ZN8 {s t:Sta} (ps:Jx s=true) (pt:Jx t=true) (hs:StK s) (ht:StK t) (hA:(lvR t.Regions).map arA=(lvR s.Regions).map arA) {d d':Door} (hd:d∈s.Doors) (hd':d'∈t.Doors) (hR:RPl d d'):ZLa t d.Id=ZLa s d.Id:=by
 obtain ⟨⟨r1,r2,r3,r4⟩,r5,r6,r7,r8⟩:=hR;obtain ⟨k,hk⟩:=ZOZ hd;obtain ⟨k',hk'⟩:=ZOZ hd';have h1:=ZN5 ps hk;have h2:=ZN5 pt hk';have gs:=ZMk ((Zdb s).1 ps).1 hs.e hs.regions;have gt:=ZMk ((Zdb t).1 pt).1 ht.e ht.regions;rw [r1] at h2;rw [h1,h2,r2,r8];have hp:ZLs t d'=ZLs s d:=by
  unfold ZLs;rw [r1,r5,r6,r7,ZN1 gt gs hA 3 rfl,ZN1 gt gs hA 2 rfl,ZN1 gt gs hA 1 rfl]
 rw [hp]
theorem ZN9 {s t:Sta} {D:List Str} (h:∀ x∈D,ZLa t x=ZLa s x):ZL7 t D=ZL7 s D:=by
 unfold ZL7;have h1:(D.filter fun x=>(ZLa t x).2==0)=D.filter fun x=>(ZLa s x).2==0:=List.filter_congr fun x hx=>by rw [h x hx]
 rw [h1];apply ZPD;intro x hx;rw [h x (ZPQ.1 hx).1]
theorem ZNa {s t:Sta} {N:List Door} (ps:Jx s=true) (pt:Jx t=true) (hs:StK s) (ht:StK t) (hA:(lvR t.Regions).map arA=(lvR s.Regions).map arA) (H:Dst RPl s t N) {x:Str} (hx:∃ d∈s.Doors,d.Id=x) {k m:Knw} (hk:IsKn s x k) (hm:IsKn t x m):m=k:=by
 have qs:=((Zdb s).1 ps).1;have qt:=((Zdb t).1 pt).1;have hK:Dst ZKs s t N:=⟨fun x hx=>by obtain ⟨y,hy,hR⟩:=H.fw x hx;exact ⟨y,hy,hR.1⟩,fun y hy=>by rcases H.bw y hy with ⟨x,hx,hR⟩ | h;exact .inl ⟨x,hx,hR.1⟩;exact .inr h,H.nw,H.dj,H.ln,H.nd⟩
 have hxt:∃ d∈t.Doors,d.Id=x:=by
  obtain ⟨d,hd,rfl⟩:=hx;obtain ⟨y,hy,hR⟩:=H.fw d hd;exact ⟨y,hy,hR.1.1⟩
 have fk:=hk.at' (ZN4 hx);have fm:=hm.at' (ZN4 hxt);obtain ⟨e1,e2⟩:=ZKC qs qt hK hx fk fm;have e3:m.P=k.P:=by
  rw [hm.P,hk.P,e1];refine ZN9 fun y hy=>?_
  obtain ⟨d,hd,rfl,_,_⟩:=(fk.dm y).1 hy;obtain ⟨d',hd',hR⟩:=H.fw d hd;exact ZN8 ps pt hs ht hA hd hd' hR
 cases k;cases m;simp only at e1 e2 e3;rw [e1,e2,e3]
theorem ZNb {l m:List Region} (G:Nat→Region→Region) (h:∀ i,m[i]? = (l[i]?).map (G i)) (hG:∀ i r,(G i r).Ended=r.Ended∧arA (G i r)=arA r):(lvR m).map arA=(lvR l).map arA:=by
 have e:m.map (fun r=>(r.Ended,arA r))=l.map fun r=>(r.Ended,arA r):=ZPj fun i=>by
  rw [ZOF,ZOF,h i,Option.map_map];congr 1
  funext r
  exact Prod.ext (hG i r).1 (hG i r).2
 have q:∀ x:List Region,(lvR x).map arA=((x.map fun r=>(r.Ended,arA r)).filter fun p=>p.1==-1).map (·.2):=fun x=>by
  unfold lvR;rw [List.filter_map,ZOU];rfl
 rw [q,q,e]
theorem ZN2 (x:Door):RPl x x:=⟨ZKr x,rfl,rfl,rfl,rfl⟩
theorem ZN3 (x y:Door) (h:RPl x y):y.Id=x.Id:=h.1.1
theorem ZNc {s:Sta} {a:Int} {e:Event} (hn:(s.Doors.map (·.Id)).Nodup) (h:Qk s a e=0) (hk:e.Kind=2∨e.Kind=3∨e.Kind=4∨e.Kind=5∨e.Kind=6∨e.Kind=7∨e.Kind=13∨e.Kind=14∨e.Kind=15):
 ∃ N,Dst RPl s (ZP s a e) N∧N.length≤1∧(lvR (ZP s a e).Regions).map arA=(lvR s.Regions).map arA∧(ZP s a e).Regions.length=s.Regions.length:=by
 have htn:=ZEF ((Zdb _).1 (ZeC h)).1;obtain ⟨h1,h2,h3,h4⟩:=ZbV h;rw [h4] at htn ⊢;have hap:∀ d:Door,∀ t:Sta,t.Doors=s.Doors++[d]→t.Regions=s.Regions→(t.Doors.map (·.Id)).Nodup→∃ N,Dst RPl s t N∧N.length≤1∧(lvR t.Regions).map arA=(lvR s.Regions).map arA∧t.Regions.length=s.Regions.length:=fun d t ht hr hd=>⟨[d],ZJY hd ZN3 (fun _ x=>x) (fun i=>by rw [ht];simp) (fun i x _=>ZN2 x) (fun i x _=>rfl),ZO4 _,by rw [hr],by rw [hr]⟩
 have hsm:∀ t:Sta,t.Doors=s.Doors→t.Regions=s.Regions→∃ N,Dst RPl s t N∧N.length≤1∧(lvR t.Regions).map arA=(lvR s.Regions).map arA∧t.Regions.length=s.Regions.length:=fun t hd hr=>⟨[],ZKu hn ZN3 ZN2 hd,ZO5 _,by rw [hr],by rw [hr]⟩
 unfold stepW at htn ⊢;rcases hk with hk | hk | hk | hk | hk | hk | hk | hk | hk<;>rw [show (wk0 s a e).e.Kind=_ from hk] at htn ⊢
 ·exact hsm _ rfl rfl
 ·have key:∃ N,Dst RPl s (Hl (wk0 s a e)).s N∧N.length≤1∧(lvR (Hl (wk0 s a e)).s.Regions).map arA=(lvR s.Regions).map arA∧(Hl (wk0 s a e)).s.Regions.length=s.Regions.length:=by
   unfold Hl;cases c:decide (Qo (wk0 s a e).s (wk0 s a e).e.Id ≥ 0) with
   | false=>exact hsm _ rfl rfl
   | true=>
    refine ⟨[],ZKu hn ZN3 ZN2 rfl,ZO5 _,ZNb _ (fun i=>ZKa s.Regions _ _ i) (fun i r=>?_),ZJX (G:=fun i d=>bif (Qo (wk0 s a e).s (wk0 s a e).e.Id).toNat==i then NT (wk0 s a e).e.Names d else d) fun i=>ZKa s.Regions _ _ i⟩
    cases (Qo (wk0 s a e).s (wk0 s a e).e.Id).toNat==i<;>exact ⟨rfl,rfl⟩
  exact key
 ·exact hsm _ rfl rfl
 ·exact hsm _ rfl rfl
 ·exact hap _ _ rfl rfl htn
 ·exact hsm _ rfl rfl
 ·exact hsm _ rfl rfl
 ·exact hsm _ rfl rfl
 ·exact hap _ _ rfl rfl htn
end Go.AM
namespace Go.AM
open Go
theorem ZNd {e:Event} (h:Xn e=true):∀ x∈e.Lst.l,x.Id.size≤1000:=by
 simp only [Xn,ZO2] at h;obtain ⟨h1,_,_,_,_,_,h6⟩:=h;have k6:=of_decide_eq_true h6;unfold FT at h1;rw [ZOs (by omega)] at h1
 intro x hx;have:=ZO8.1 h1 x hx;unfold M2 at this;simp [ZU] at this;omega
theorem ZNe {s:Sta} (hs:Prop' s) {d:Door} (hd:d∈s.Doors):ZZ d.Id=true:=by
 obtain ⟨i,hi⟩:=ZOZ hd;obtain ⟨_,_,_,h4,h5⟩:=(Zd0 s i d).1 (hs.dr i d hi);cases c:Z3 d.Veil emp with
 | true=>
  have h:=(h4 c).2;rw [Zdm] at h;unfold Qv at h;simp only [ZO2,List.any_cons,ZPs,ZOn] at h;have:=h.1.2.1;unfold Ha at this;simpa using this
 | false=>
  have h:=h5 c;unfold NN at h;simp only [ZO2,Ze9] at h
  simp_all
theorem ZNf {s:Sta} (h:YQ s=true):s.Doors.length≤16:=by
 simp only [YQ,M3,ZO2,ZOn] at h;obtain ⟨⟨_,_,_,d3,_⟩,_⟩:=h;have:=of_decide_eq_false d3;omega
theorem ZNg {d:Str} (hd:ZZ d=true):wpB [wW d]=true:=by
 have hw:ZZ (B [119])=true:=by decide +kernel
 rw [ZN6];refine ⟨fun i w hw'=>?_,by simp⟩
 cases i with
 | zero=>cases hw';exact ⟨hw,hd,fun v hv=>by cases hv⟩
 | succ i=>cases hw'
def qK (k:Int):Bool:=k==3||(k==4||(k==2||(k==5||(k==6||(k==7||(k==13||(k==14||k==15)))))))
theorem ZNh (s t:Sta) (e:Event) (n:Nat) (hn:n < 256) (d:Door) (hd:s.Doors[n % s.Doors.length]? = some d) (hpos:0 < s.Doors.length) (hup:pfn rE 9 []=some (.bool true)) (hf:pfn rE 16 [stA s]=some (.bool true)) (he:pfn rE 20 [evA e]=some (.bool true)) (hap:pfn rE 21 [stA s,I 1,evA e]=some (.tup [stA t,I 0]))
 (hc:pfn rE 11 [stA s,stA t,.isl false false 2 [(wW d.Id).enc]]=some (.tup [.isl false false 8 [],I 0])) (hk:qK e.Kind=true):pfn rE 8 [stA s,evA e,.int .u8 n]=some (.bool true):=by
 have hz:((s.Doors.length:Int)==0)=false:=by rw [beq_eq_false_iff_ne];omega
 have hg:=Z6 (f:=Door.enc) hd;have hw:IntKind.i64.wrap (n:Int)=n:=YM (by omega) (by omega)
 have hnz:=nat_ne hpos;have hi1:(0≤((n % s.Doors.length:Nat):Int))=True:=eq_true (Int.natCast_nonneg _);have hi2:((n % s.Doors.length:Nat):Int).toNat=n % s.Doors.length:=ZQm _;have h00:((0:Int) != 0)=false:=rfl;have h01:((0:Int)==0)=true:=rfl;have h02:(((0:Nat):Int)==0)=true:=rfl;simp only [wW,Wch.enc] at hc;simp only [Door.enc] at hg;simp only [evA] at he hap;simp only [stA] at hf hap hc ⊢;rw [Z5 (f:=8) rfl rfl];unfold qK at hk;cases k1:e.Kind==3 with
 | true=>simp only [go_sem,qy,qq,qx,qz,qv,qk,reduceIte,c8,hup,hf,he,hz,hap,h00,h01,h02,k1,hc,hg,hw,hnz,hi1,hi2,if_true,Jc,evA,ZO3,ZOp,ZO9]
 | false=>
 cases k2:e.Kind==4 with
 | true=>simp only [go_sem,qy,qq,qx,qz,qv,qk,reduceIte,c8,hup,hf,he,hz,hap,h00,h01,h02,k1,k2,hc,hg,hw,hnz,hi1,hi2,if_true,Jc,evA,ZO3,ZOp,ZO9]
 | false=>
 cases k3:e.Kind==2 with
 | true=>simp only [go_sem,qy,qq,qx,qz,qv,qk,reduceIte,c8,hup,hf,he,hz,hap,h00,h01,h02,k1,k2,k3,hc,hg,hw,hnz,hi1,hi2,if_true,Jc,evA,ZO3,ZOp,ZO9]
 | false=>
 cases k4:e.Kind==5 with
 | true=>simp only [go_sem,qy,qq,qx,qz,qv,qk,reduceIte,c8,hup,hf,he,hz,hap,h00,h01,h02,k1,k2,k3,k4,hc,hg,hw,hnz,hi1,hi2,if_true,Jc,evA,ZO3,ZOp,ZO9]
 | false=>
 cases k5:e.Kind==6 with
 | true=>simp only [go_sem,qy,qq,qx,qz,qv,qk,reduceIte,c8,hup,hf,he,hz,hap,h00,h01,h02,k1,k2,k3,k4,k5,hc,hg,hw,hnz,hi1,hi2,if_true,Jc,evA,ZO3,ZOp,ZO9]
 | false=>
 cases k6:e.Kind==7 with
 | true=>simp only [go_sem,qy,qq,qx,qz,qv,qk,reduceIte,c8,hup,hf,he,hz,hap,h00,h01,h02,k1,k2,k3,k4,k5,k6,hc,hg,hw,hnz,hi1,hi2,if_true,Jc,evA,ZO3,ZOp,ZO9]
 | false=>
 cases k7:e.Kind==13 with
 | true=>simp only [go_sem,qy,qq,qx,qz,qv,qk,reduceIte,c8,hup,hf,he,hz,hap,h00,h01,h02,k1,k2,k3,k4,k5,k6,k7,hc,hg,hw,hnz,hi1,hi2,if_true,Jc,evA,ZO3,ZOp,ZO9]
 | false=>
 cases k8:e.Kind==14 with
 | true=>simp only [go_sem,qy,qq,qx,qz,qv,qk,reduceIte,c8,hup,hf,he,hz,hap,h00,h01,h02,k1,k2,k3,k4,k5,k6,k7,k8,hc,hg,hw,hnz,hi1,hi2,if_true,Jc,evA,ZO3,ZOp,ZO9]
 | false=>
 have k9:(e.Kind==15)=true:=by rw [k1,k2,k3,k4,k5,k6,k7,k8] at hk;simpa using hk
 simp only [go_sem,qy,qq,qx,qz,qv,qk,reduceIte,c8,hup,hf,he,hz,hap,h00,h01,h02,k1,k2,k3,k4,k5,k6,k7,k8,k9,hc,hg,hw,hnz,hi1,hi2,if_true,Jc,evA,ZO3,ZOp,ZO9]
theorem Z5t (s:Sta) (e:Event) (n:Nat) (hn:n < 256):pfn rE 8 [stA s,evA e,.int .u8 n]=some (.bool true):=by
 have hup:=ZMG;have hf:=Z4F s;have he:=Z4z e;cases c1:YQ s with
 | false=>
  rw [c1] at hf;simp only [stA] at hf ⊢;rw [Z5 (f:=8) rfl rfl];simp only [go_sem,qy,qq,qx,qz,qv,qk,reduceIte,c8,hup,hf,evA,ZOm]
 | true=>
 rw [c1] at hf;cases c2:Xn e with
 | false=>
  rw [c2] at he;simp only [evA] at he;simp only [stA] at hf ⊢;rw [Z5 (f:=8) rfl rfl];simp only [go_sem,qy,qq,qx,qz,qv,qk,reduceIte,c8,hup,hf,he,evA,ZOm,ZO9]
 | true=>
 rw [c2] at he;cases c3:s.Doors.length==0 with
 | true=>
  have hz:((s.Doors.length:Int)==0)=true:=by rw [beq_iff_eq] at c3 ⊢;omega
  simp only [evA] at he;simp only [stA] at hf ⊢;rw [Z5 (f:=8) rfl rfl];simp only [go_sem,qy,qq,qx,qz,qv,qk,reduceIte,c8,hup,hf,he,hz,evA,ZO3,ZO9]
 | false=>
 have hz:((s.Doors.length:Int)==0)=false:=by rw [beq_eq_false_iff_ne] at c3 ⊢;omega
 have hpos:0 < s.Doors.length:=by rw [beq_eq_false_iff_ne] at c3;omega
 have hs:=Kl s c1;have hap:=JJ s hs 1 e (JL e c2);cases c4:Qk s 1 e != 0 with
 | true=>
  generalize Qk s 1 e=er at hap c4;generalize ZP s 1 e=t at hap;simp only [evA] at he hap;simp only [stA] at hf hap ⊢;rw [Z5 (f:=8) rfl rfl];simp only [go_sem,qy,qq,qx,qz,qv,qk,reduceIte,c8,hup,hf,he,hz,hap,c4,evA,ZO3,ZO9]
 | false=>
 have h0:Qk s 1 e=0:=by simpa using c4
 rw [h0] at hap;have h00:((0:Int) != 0)=false:=rfl;cases c5:qK e.Kind with
 | false=>
  unfold qK at c5;simp only [ZPs] at c5;obtain ⟨k1,k2,k3,k4,k5,k6,k7,k8,k9⟩:=c5;generalize ZP s 1 e=t at hap;simp only [evA] at he hap;simp only [stA] at hf hap ⊢;rw [Z5 (f:=8) rfl rfl];simp only [go_sem,qy,qq,qx,qz,qv,qk,reduceIte,c8,hup,hf,he,hz,hap,h00,k1,k2,k3,k4,k5,k6,k7,k8,k9,evA,ZO3,ZO9]
 | true=>
  obtain ⟨d,hd⟩:∃ d,s.Doors[n % s.Doors.length]? = some d:=⟨_,ZO6 (ZP7 _ hpos)⟩;have hdm:=ZOh hd;have hk:e.Kind=2∨e.Kind=3∨e.Kind=4∨e.Kind=5∨e.Kind=6∨e.Kind=7∨e.Kind=13∨e.Kind=14∨e.Kind=15:=by
   unfold qK at c5;simp only [ZPq,beq_iff_eq] at c5;omega
  have ps:=(ZbX (ZbV h0).1).1;have pt:=ZeC h0;have hp:=((Zdb s).1 ps).1;obtain ⟨N,H,hl,hA,hr⟩:=ZNc (ZEF hp) h0 hk;have hS:=ZLr c1;have hT:StK (ZP s 1 e):=⟨ZeH s hs 1 e (JL e c2) (ZNd c2),by have:=H.ln;have:=ZNf c1;omega,by rw [hr];exact hS.regions⟩
  obtain ⟨Ka,hKa⟩:=ZLp s ps hS;obtain ⟨Kb,hKb⟩:=ZLp _ pt hT;have hc:=ZLk s _ hS.e hT.e false false [wW d.Id] ps pt (ZNg (ZNe hp hdm)) Ka Kb (fun w _=>(hKa _).2.1) (fun w _=>(hKb _).2.1) (fun w _=>(hKa _).1.sz)
  have hsame:Kb d.Id=Ka d.Id:=ZNa ps pt hS hT hA H ⟨d,hdm,rfl⟩ (hKa d.Id).1 (hKb d.Id).1;have hnil:ZL6 Ka Kb [wW d.Id]=[]:=by
   rw [ZN7];show (bif ZLb (Ka d.Id) (Kb d.Id) then [] else _)=[]
   rw [hsame,ZLw.2 rfl];rfl
  rw [hnil] at hc;exact ZNh s _ e n hn d hd hpos hup hf he hap hc c5
end Go.AM
namespace Go.AM
open Go
end Go.AM
namespace Go.AM
open Go
end Go.AM
