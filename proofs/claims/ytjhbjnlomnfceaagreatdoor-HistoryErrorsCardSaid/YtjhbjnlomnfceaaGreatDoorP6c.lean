/- What the functions of the program compute, part 3, for HistoryErrors. No condition. -/
import Derived.Test.YtjhbjnlomnfceaaGreatDoorP6b
set_option linter.unusedVariables false
set_option linter.unusedSimpArgs false
set_option linter.unusedSectionVars false
open Nat renaming reduceAdd → qq, reduceSub → qx, reduceMul → qz, reduceLT → qv, reduceLeDiff → qk, reduceBEq → qy
namespace Go.AM
open Go
theorem Zqr (l:List Str) (hl:l.length≤100000) (id:Str) (bw ex:Bool):pfn rE 180 [.isl bw ex 1 (l.map encS),.str id]=some (.bool (l.any (fun x=>Z3 id x))):=by
 have h:=Nz (f:=232) (enc:=encS) (p:=fun x=>Z3 id x) (v:=.str id) rfl rfl l (by omega) (fun x _=>rfl) rfl (fun x _=>rfl) bw ex
 rw [Z5 (f:=180) rfl rfl,←Vg];unfold WG;cases bw<;>simp only [go_sem,qy,qq,qk,reduceIte,c180,h]
def ZoM (e:Event):List Pt:=
 bif !Q9 e then [] else
 bif e.Kind==1||(e.Kind==2||e.Kind==5) then e.Path.l.take 1 else
 bif e.Kind==6||e.Kind==10 then [e.Point] else
 bif e.Kind==9 then e.Lst.l.map (·.Point) else []
theorem Zqs {e:Event} (h:Q9 e=true) (hk:(e.Kind==1||(e.Kind==2||e.Kind==5))=true):0 < e.Path.l.length:=by
 have hn:=ZcV h;have hp:Vh e.Path.l=true∨Ul e.Path.l=true:=by
  rcases (by simpa using hk:e.Kind=1∨e.Kind=2∨e.Kind=5) with k | k | k
  ·rw [ZcW k] at hn;have hn':(ZZ e.Id&&(ZD e.A 1 3&&Vh e.Path.l))=true:=hn;simp only [ZE0] at hn';exact Or.inl hn'.2.2
  ·rw [ZcW k] at hn;have hn':(ZZ e.Id&&Ul e.Path.l)=true:=hn;simp only [ZE0] at hn';exact Or.inr hn'.2
  ·rw [ZcW k] at hn;have hn':(ZZ e.Id&&Vh e.Path.l)=true:=hn;simp only [ZE0] at hn';exact Or.inl hn'.2
 rcases hp with hp | hp
 ·unfold Vh at hp;rw [ZE0] at hp;have:=of_decide_eq_true hp.1;omega
 ·unfold Ul at hp;simp only [ZE0] at hp;have:=of_decide_eq_true hp.2.1;omega
theorem Zqt (e:Event) (hl:e.Lst.l.length≤1000):Zg rE [3,28,29,30] c103L0b [(3,.sl 0 0 0 0 false),(28,.isl false e.Lst.ex 7 (e.Lst.l.map Ent.enc)),(29,I e.Lst.l.length),(30,.int .i64 0)] [.row 2 []] =
 some (.exit 1,[(3,.sl 0 e.Lst.l.length 0 e.Lst.l.length false),(28,.isl false e.Lst.ex 7 (e.Lst.l.map Ent.enc)),(29,I e.Lst.l.length),(30,I e.Lst.l.length)],[.row 2 ((e.Lst.l.map (·.Point)).map Pt.enc)]):=by
 have hbP:∀ (D:List Pt) n,Zd n (D.map Pt.enc)=true:=fun D n=>ZN _ (Zw (fun t=>rfl) D)
 have L:=Y8 (E:=rE) (live:=[3,28,29,30]) (b:=c103L0b) e.Lst.l.length (fun i=>[(3,.sl 0 i 0 i false),(28,.isl false e.Lst.ex 7 (e.Lst.l.map Ent.enc)),(29,I e.Lst.l.length),(30,I i)])
  (fun i=>[.row 2 (((e.Lst.l.take i).map (·.Point)).map Pt.enc)]) (fun i=>rfl)
  (fun i hi=>by
   obtain ⟨x,hx⟩:∃ x,e.Lst.l[i]? = some x:=⟨_,ZDZ hi⟩;have hlen:(e.Lst.l.take i).length=i:=by rw [ZEs];omega
   have hg:=Z6 (f:=Ent.enc) hx;have hi':=Zh hi;have hwr:=Zx (n:=i) (by omega)
   have htk:(e.Lst.l.take (i+1)).map (·.Point)=(e.Lst.l.take i).map (·.Point)++[x.Point]:=by
    rw [ZED,hx,ZE8];rfl
   have ha:=fun (q:AObj)=>XC (h:=[.row 2 (((e.Lst.l.take i).map (·.Point)).map Pt.enc),q]) (fz:=false) (b:=0) (g:=i) (sz:=2) (bytes:=16) (es:=((e.Lst.l.take i).map (·.Point)).map Pt.enc) (bw:=false) (ex:=false) (ys:=[.agg [I x.Point.X,I x.Point.Y]]) (by show (bif (((e.Lst.l.take i).map (·.Point)).map Pt.enc).length==i then _ else none)=_;rw [ZDY,ZDY,hlen,beq_self_eq_true];rfl) rfl rfl (by decide) (by decide) (by simp;omega)
   have hma:((e.Lst.l.take i).map (·.Point)++[x.Point]).map Pt.enc=((e.Lst.l.take i).map (·.Point)).map Pt.enc++[.agg [I x.Point.X,I x.Point.Y]]:=by rw [ZE8];rfl
   rw [htk,hma];have hb2:∀ n,Zd n (((e.Lst.l.take i).map (·.Point)).map Pt.enc++[.agg [I x.Point.X,I x.Point.Y]])=true:=fun n=>by rw [←hma];exact hbP _ n
   generalize ((e.Lst.l.take i).map (·.Point)).map Pt.enc=es at *;refine ⟨[(3,.sl 0 (i+1) 0 (i+1) false),(28,.isl false e.Lst.ex 7 (e.Lst.l.map Ent.enc)),(29,I e.Lst.l.length),(30,I (i+1:Nat))],?_,rfl⟩;simp only [go_sem,qy,qq,qv,qk,reduceIte,c103L0b,hg,hi',hwr,ha,hb2,Ent.enc])
  (e:=.exit 1) (fr:=[(3,.sl 0 e.Lst.l.length 0 e.Lst.l.length false),(28,.isl false e.Lst.ex 7 (e.Lst.l.map Ent.enc)),(29,I e.Lst.l.length),(30,I e.Lst.l.length)]) (h:=[.row 2 ((e.Lst.l.map (·.Point)).map Pt.enc)]) (by
   rw [ZEj];simp only [go_sem,qy,qq,qv,reduceIte,c103L0b,ZG,hbP]) (by simp)
 exact L
theorem Zqu (l:List Pt) (ex:Bool) (h0:0 < l.length) (hl:l.length≤1000000):pfn rE 182 [.isl false ex 2 (l.map Pt.enc)]=some (.isl false false 2 (l.map Pt.enc)):=by
 have hfit:(l.map Pt.enc).all (fits 2)=true:=by
  rw [ZEA,ZEd];intro x _;rfl
 have hne:(l.map Pt.enc).isEmpty=false:=by
  cases l with
  | nil=>exact absurd h0 (Nat.not_lt_zero _)
  | cons x r=>rfl
 have hble:Nat.ble l.length 1000000=true:=ZEu hl;have hc:Z4 (l.map Pt.enc)=true:=Zw (fun t=>rfl) _
 have htk:List.take l.length (l.map Pt.enc)=l.map Pt.enc:=ZEc (by simp)
 have h1:fnV rE 182 [.isl false ex 2 (l.map Pt.enc)] []=some (.sl 0 l.length 0 l.length false,[.row 2 (l.map Pt.enc)]):=by
  rw [V8 (s:=YL 2) rfl];simp only [YL,Q2,Qq,hfit,hne,ZDY,hble,beq_self_eq_true,ZE5,ZEm,ZEk,cond_true,ZE1,ZEl]
 unfold pfn;rw [h1,ZM];simp only [go_sem,hc,htk,ZDY,ZEi,beq_self_eq_true]
theorem Zqv (e:Event) (he:EvS e):pfn rE 103 [evA e]=some (.isl false false 2 ((ZoM e).map Pt.enc)):=by
 have hF:=NH e he;have hL:=Zqt e (by have:=he.lst;omega)
 have hcP:∀ D:List Pt,Z4 (D.map Pt.enc)=true:=fun D=>Zw (fun t=>rfl) _
 have htk:List.take e.Lst.l.length ((e.Lst.l.map (·.Point)).map Pt.enc)=(e.Lst.l.map (·.Point)).map Pt.enc:=ZEc (by simp)
 have hpos:=Zqs (e:=e);rw [Z5 (f:=103) rfl rfl];unfold ZoM;simp only [evA] at hF;cases c0:Q9 e with
 | false=>
  rw [c0] at hF;simp only [go_sem,qy,qq,qk,c103,hF,ZEk,cond_true,ZEb]
 | true=>
 rw [c0] at hF;have hcl:(e.Kind==1||(e.Kind==2||e.Kind==5))=true→∀ x,pfn rE 182 [.isl false x 2 ((e.Path.l.take 1).map Pt.enc)]=some (.isl false false 2 ((e.Path.l.take 1).map Pt.enc)):=fun hk x=>Zqu _ _ (by have:=hpos c0 hk;rw [ZEs];omega) (by rw [ZEs];omega)
 have hp1:(e.Kind==1||(e.Kind==2||e.Kind==5))=true→bounds none (some (I 1)) none e.Path.l.length=some (0,1,none):=fun hk=>by
  have h1:=hpos c0 hk;have h2:Nat.ble 1 e.Path.l.length=true:=ZEu h1;simp [bounds,Vz,Wl,VA,numOf,VB,h2];rfl
 have hm:List.take 1 (e.Path.l.map Pt.enc)=(e.Path.l.take 1).map Pt.enc:=ZF7.symm;cases k1:e.Kind==1 with
 | true=>
  rw [k1] at hcl hp1;have hcl:=hcl rfl;have hp1:=hp1 rfl;simp only [go_sem,qy,qq,qk,c103,c103L0,hF,k1,hp1,hm,hcl,ZEe,cond_false,cond_true,ZE5,if_true]
 | false=>
 cases k2:e.Kind==2 with
 | true=>
  rw [k1,k2] at hcl hp1;have hcl:=hcl rfl;have hp1:=hp1 rfl;simp only [go_sem,qy,qq,qk,c103,c103L0,hF,k1,k2,hp1,hm,hcl,ZEe,cond_false,cond_true,ZE5,ZEp,if_true]
 | false=>
 cases k5:e.Kind==5 with
 | true=>
  rw [k1,k2,k5] at hcl hp1;have hcl:=hcl rfl;have hp1:=hp1 rfl;simp only [go_sem,qy,qq,qk,c103,c103L0,hF,k1,k2,k5,hp1,hm,hcl,ZEe,cond_false,cond_true,ZEp,if_true]
 | false=>
 cases k6:e.Kind==6 with
 | true=>simp only [go_sem,qy,qq,qv,qk,reduceIte,c103,c103L0,hF,k1,k2,k5,k6,ZEe,cond_false,cond_true,ZE5,ZEa,ZE7,ZEb,Pt.enc]
 | false=>
 cases k10:e.Kind==10 with
 | true=>simp only [go_sem,qy,qq,qv,qk,reduceIte,c103,c103L0,hF,k1,k2,k5,k6,k10,ZEe,cond_false,cond_true,ZEp,ZEa,ZE7,ZEb,Pt.enc]
 | false=>
 cases k9:e.Kind==9 with
 | true=>simp only [go_sem,qy,qq,qv,qk,reduceIte,c103,c103L0,hF,hL,k1,k2,k5,k6,k10,k9,ZEe,cond_false,cond_true,ZEa,hcP,htk,ZDY,ZEi,beq_self_eq_true]
 | false=>simp only [go_sem,qy,qq,qk,reduceIte,c103,c103L0,hF,k1,k2,k5,k6,k10,k9,ZEe,cond_false,cond_true,ZEa,ZEb]
end Go.AM
namespace Go.AM
open Go
abbrev rqL (s:Sta) (e:Event) (a m:Int):List AV:=[ldI s,I e.Kind,I e.Day,I e.A,I e.B,I e.Office,.str e.Id,.str e.Other,.str e.Text,.isl false e.Ids.ex 1 (e.Ids.l.map encS),.isl false e.Names.ex 3 (e.Names.l.map Nm.enc),
 I e.Number.N,.str e.Number.Letter,I e.Number.Num,I e.Number.Den,I e.Point.X,I e.Point.Y,.isl false e.Path.ex 2 (e.Path.l.map Pt.enc),.isl false e.Lst.ex 7 (e.Lst.l.map Ent.enc),I a,I m]
abbrev rqI (s:Sta) (e:Event) (a m:Int):AV:=.iptr false (rqL s e a m)
structure RqS (s:Sta) (e:Event) (m:Int):Prop where
 c:ClS s
 ev:EvS e
 f:Q9 e=true
 m:0≤m∧m≤63
def Zp0 (s:Sta) (e:Event) (a m:Int):Int:=bif (e.Kind==14&&a != 0)||(e.Kind==13&&Zoq s e.B != m) then 18 else 0
theorem Zqw (s:Sta) (e:Event) (a m:Int) (h:RqS s e m):pfn rE 54 [rqI s e a m]=some (I (Zp0 s e a m)):=by
 have hM:(e.Kind==13)=true→pfn rE 53 [ldI s,I e.B]=some (I (Zoq s e.B)):=fun hk=>by
  have hn:=ZcV h.f;rw [ZcW (k:=13) (by simpa using hk)] at hn
  have hn':K5 e.A e.B=true:=hn;unfold K5 ZD at hn';simp only [ZE0,decide_eq_true_eq] at hn';exact h.c.mst (by omega)
 have hcl:=Zow s;have hbl:=Zot s;rw [Z5 (f:=54) rfl rfl];unfold Zp0;cases c1:e.Kind==14 with
 | true=>
  have c5003:(e.Kind==13)=false:=by
   rw [(by simpa using c1:e.Kind=14)]
   rfl
  cases c2:a != 0 with
  | true=>simp only [go_sem,qy,qq,reduceIte,c54,c1,c2,c5003,ZE4,ZE5,cond_true]
  | false=>simp only [go_sem,qy,qq,reduceIte,c54,c1,c2,c5003,ZE4,ZE9,ZEa,cond_false]
 | false=>
  cases c5003:e.Kind==13 with
  | false=>simp only [go_sem,qy,qq,reduceIte,c54,c1,c5003,ZE9,ZEa,cond_false]
  | true=>
   have hM:=hM c5003;cases c5004:Zoq s e.B != m<;>simp only [go_sem,qy,qq,reduceIte,c54,c1,c5003,c5004,hM,hcl,ZE4,ZE9,ZEa,cond_true,cond_false]
def Zp5 (s:Sta) (e:Event) (m:Int):Int:=bif e.Kind==15&&!s.Regions.any (fun x=>ZoG x&&Zoq s x.Owner==m) then 18 else 0
theorem Zqx (s:Sta) (e:Event) (a m:Int) (h:RqS s e m) (x:Region) (hx:x∈s.Regions):pfn rE 99 [x.enc,.iptr false [rqI s e a m]]=some (.bool (ZoG x&&Zoq s x.Owner==m)):=by
 have hT:=ZpM x;have hM:=h.c.mst (h.c.reg hx).1;have hcl:=Zow s;have hbl:=Zot s;simp only [Region.enc,NL.enc] at hT;rw [Z5 (f:=99) rfl rfl];cases c:ZoG x with
 | false=>
  rw [c] at hT;simp only [go_sem,qy,qq,qk,c99,Region.enc,NL.enc,hT,ZE9]
 | true=>
  rw [c] at hT;simp only [go_sem,qy,qq,qk,reduceIte,c99,Region.enc,NL.enc,hT,hM,ZE4]
theorem ZpP (l:List Region) (hl:l.length≤1000000) (p:Region→Bool) (g:Nat) (cap:List AV) (hc:Z4 cap=true) (hp:∀ x∈l,pfn rE g (x.enc::cap)=some (.bool (p x))):pfn rE 101 [.isl false false 6 (l.map Region.enc),.clo (.func g) [] cap]=some (.bool (l.any p)):=by
 have h:=WF (E:=rE) (f:=181) (sz:=6) (n:=some 6) (enc:=Region.enc) (p:=p) (g:=g) (cap:=cap) rfl rfl hc l (by omega) (fun x _=>x.el) hp false false
 rw [Z5 (f:=101) rfl rfl,←Vg];unfold WG;simp only [go_sem,qy,qq,reduceIte,c101,h,hc]
theorem Zqy (s:Sta) (e:Event) (a m:Int) (h:RqS s e m):pfn rE 56 [rqI s e a m]=some (I (Zp5 s e m)):=by
 have hcl:=Zow s;have hbl:=Zot s;have hc:Z4 [.iptr false [rqI s e a m]]=true:=by simp only [go_sem]
 have hA:=ZpP s.Regions (by have:=h.c.E.sizes.regions;omega) (fun x=>ZoG x&&Zoq s x.Owner==m) 99 [.iptr false [rqI s e a m]] hc (Zqx s e a m h)
 rw [Z5 (f:=56) rfl rfl];unfold Zp5;cases c1:e.Kind==15 with
 | false=>simp only [go_sem,qy,qq,reduceIte,c56,c1,ZE9,cond_false]
 | true=>
  generalize s.Regions.any (fun x=>ZoG x&&Zoq s x.Owner==m)=b at *
  cases b<;>simp only [go_sem,qy,qq,reduceIte,c56,c1,hA,ZE4,ZEe,ZEk,cond_true,cond_false]
end Go.AM
namespace Go.AM
open Go
def plE (s:Sta) (m:Int):List Pt→Int
 | []=>0
 | p::r=>bif !(ZoH s p).any (fun x=>m==x) then 18 else bif (ZoH s p).any (fun c=>c != m&&!ZoW s m c) then 19 else plE s m r
def Zp1 (s:Sta) (e:Event) (a m:Int):Int:=
 bif e.Kind==1 then bif s.Regions.any (fun x=>Z3 x.Id e.Id) then 0 else bif e.A==1&&a==0 then 18 else bif e.A==1 then 0 else plE s m (ZoM e)
 else plE s m (ZoM e)
theorem ZpQ {s:Sta} (h:ClS s):∀ p∈s.Rulings,pfn rE 53 [ldI s,I p.a]=some (I (Zoq s p.a))∧pfn rE 53 [ldI s,I p.b]=some (I (Zoq s p.b)):=by
 intro p hp;have hpa:=h.prop.pa;unfold WK at hpa;simp only [ZE0] at hpa;have:=Zpo (ZEd.1 hpa.2.1 p hp);exact ⟨h.mst this.1.1,h.mst this.2.1⟩
theorem Zqz (l:List Int) (hl:l.length≤1000000) (p:Int→Bool) (g:Nat) (cap:List AV) (hc:Z4 cap=true) (hp:∀ x∈l,pfn rE g (I x::cap)=some (.bool (p x))):pfn rE 106 [.isl false false 1 (l.map I),.clo (.func g) [] cap]=some (.bool (l.any p)):=by
 have h:=WF (E:=rE) (f:=187) (sz:=1) (n:=none) (enc:=I) (p:=p) (g:=g) (cap:=cap) rfl rfl hc l (by omega) (fun x _=>⟨rfl,rfl⟩) hp false false
 rw [Z5 (f:=106) rfl rfl,←Vg];unfold WG;simp only [go_sem,qy,qq,reduceIte,c106,h,hc]
theorem ZqA (s:Sta) (e:Event) (a m:Int) (x:Region):pfn rE 102 [x.enc,.iptr false [rqI s e a m]]=some (.bool (Z3 x.Id e.Id)):=by
 have hcl:=Zow s;have hbl:=Zot s;rw [Z5 (f:=102) rfl rfl];simp only [go_sem,qy,qq,c102,Region.enc,NL.enc]
theorem ZqB (s:Sta) (e:Event) (a m:Int) (h:RqS s e m) (c:Int):pfn rE 107 [I c,.iptr false [rqI s e a m]]=some (.bool (c != m&&!ZoW s m c)):=by
 have hP:=ZpL s m c h.c.E.sizes.rulings (ZpQ h.c);have hcl:=Zow s;have hbl:=Zot s;rw [Z5 (f:=107) rfl rfl];cases c1:c != m with
 | false=>simp only [go_sem,qy,qq,reduceIte,c107,c1,ZE9]
 | true=>simp only [go_sem,qy,qq,reduceIte,c107,c1,hP,hcl,ZE4]
theorem ZqC (s:Sta) (h:ClS s) (p:Pt):(ZoH s p).length≤100000:=by
 unfold ZoH;rw [(Zp3 _).length_eq];have G:∀ (l:List Region) (K:List Int),(l.foldl (ZoF s p) K).length≤K.length+l.length:=by
  intro l;induction l with
  | nil=>intro K;exact ZEo _
  | cons x r ih=>
   intro K;rw [ZEv,ZEn];refine ZEt (ih _) ?_;have:(ZoF s p K x).length≤K.length+1:=by
    unfold ZoF Qi;cases ZoG x&&decide (ZoY x.Ring.l p ≥ 0) with
    | false=>exact ZEH _
    | true=>
     rw [cond_true];cases K.any (Vm (Zoq s x.Owner)) with
     | true=>exact ZEH _
     | false=>rw [cond_false,ZEh];exact ZEo _
   omega
 have:=G s.Regions [];have hl:=h.E.sizes.regions;unfold Zoy;simp only [ZEl] at this;omega
theorem ZpR (s:Sta) (e:Event) (a m:Int) (h:RqS s e m) (l:List Pt) (hl:l.length≤1000):∀ (k i:Nat),i+k=l.length→
 ∃ fr',(plE s m (l.drop i)=0→Zg rE [1,50,51,52] c57L0b [(1,.iptr false [rqI s e a m]),(50,.isl false false 2 (l.map Pt.enc)),(51,I l.length),(52,I i)] []=some (.exit 1,fr',[]))∧
  (plE s m (l.drop i)≠0→Zg rE [1,50,51,52] c57L0b [(1,.iptr false [rqI s e a m]),(50,.isl false false 2 (l.map Pt.enc)),(51,I l.length),(52,I i)] []=some (.ret,fr',[])∧get fr' 2=I (plE s m (l.drop i)))
 | 0,i,hi=>by
  have hd:l.drop i=[]:=List.drop_eq_nil_of_le (by omega)
  have hi':i=l.length:=by omega
  refine ⟨[(1,.iptr false [rqI s e a m]),(2,.bot),(50,.isl false false 2 (l.map Pt.enc)),(51,I l.length),(52,I i)],fun _=>?_,fun hc=>?_⟩
  ·rw [hi'];refine Q7 rfl ?_ (by simp)
   simp only [go_sem,qy,reduceIte,c57L0b,ZG]
  ·rw [hd] at hc;exact absurd rfl hc
 | k+1,i,hi=>by
  obtain ⟨x,hx⟩:∃ x,l[i]? = some x:=⟨_,ZDZ (by omega)⟩
  have hg:=Z6 (f:=Pt.enc) hx;have hi':=Zh (Z7 hx);have hwr:=Zx (n:=i) (by omega)
  have hd:l.drop i=x::l.drop (i+1):=by
   rw [ZEC (Z7 hx)];congr 1;have:=ZDZ (Z7 hx);rw [hx] at this;exact (Option.some.inj this).symm
  have hcl:=Zow s;have hbl:=Zot s;have hc:Z4 [.iptr false [rqI s e a m]]=true:=by simp only [go_sem]
  have hC:=ZpO s h.c x;have hlen:=ZqC s h.c x;have hI:=DR (ZoH s x) false m (by omega)
  have hA:=Zqz (ZoH s x) (by omega) (fun c=>c != m&&!ZoW s m c) 107 [.iptr false [rqI s e a m]] hc (fun c _=>ZqB s e a m h c)
  rw [hd];unfold plE;cases c1:(ZoH s x).any (fun y=>m==y) with
  | false=>
   rw [c1] at hI;refine ⟨[(1,.iptr false [rqI s e a m]),(2,I 18),(50,.isl false false 2 (l.map Pt.enc)),(51,I l.length),(52,I i)],fun hq=>?_,fun _=>⟨?_,by simp only [go_sem,qy,ZEk,cond_true]⟩⟩
   ·exact absurd (show (18:Int)=0 from hq) (by decide)
   ·refine Q7 rfl ?_ (by simp)
    simp only [go_sem,qy,qq,qv,qk,reduceIte,c57L0b,hg,hi',Pt.enc,hC,hI]
  | true=>
  rw [c1] at hI;cases c2:(ZoH s x).any (fun c=>c != m&&!ZoW s m c) with
  | true=>
   rw [c2] at hA;refine ⟨[(1,.iptr false [rqI s e a m]),(2,I 19),(50,.isl false false 2 (l.map Pt.enc)),(51,I l.length),(52,I i)],fun hq=>?_,fun _=>⟨?_,by simp only [go_sem,qy,ZEe,cond_false,cond_true]⟩⟩
   ·exact absurd (show (19:Int)=0 from hq) (by decide)
   ·refine Q7 rfl ?_ (by simp)
    simp only [go_sem,qy,qq,qv,qk,reduceIte,c57L0b,hg,hi',Pt.enc,hC,hI,hA]
  | false=>
  rw [c2] at hA;obtain ⟨fr',h1,h2⟩:=ZpR s e a m h l hl k (i+1) (by omega)
  have hstep:Zb rE c57L0b [(1,.iptr false [rqI s e a m]),(50,.isl false false 2 (l.map Pt.enc)),(51,I l.length),(52,I i)] []=some (.normal,[(1,.iptr false [rqI s e a m]),(2,.bot),(50,.isl false false 2 (l.map Pt.enc)),(51,I l.length),(52,I (i+1:Nat))],[]):=by
   simp only [go_sem,qy,qq,qv,qk,reduceIte,c57L0b,hg,hi',hwr,Pt.enc,hC,hI,hA]
  rw [Yt rfl hstep];exact ⟨fr',h1,h2⟩
theorem ZqD (s:Sta) (e:Event) (a m:Int) (h:RqS s e m):pfn rE 57 [rqI s e a m]=some (I (Zp1 s e a m)):=by
 have hcl:=Zow s;have hbl:=Zot s;have hc:Z4 [.iptr false [rqI s e a m]]=true:=by simp only [go_sem]
 have hA:=ZpP s.Regions (by have:=h.c.E.sizes.regions;omega) (fun x=>Z3 x.Id e.Id) 102 [.iptr false [rqI s e a m]] hc (fun x _=>ZqA s e a m x)
 have hP:=Zqv e h.ev;have hlen:(ZoM e).length≤1000:=by
  unfold ZoM;have h1:=h.ev.lst;cases Q9 e with
  | false=>exact ZDX _
  | true=>
  cases e.Kind==1||(e.Kind==2||e.Kind==5) with
  | true=>show (e.Path.l.take 1).length≤1000;rw [ZEs];omega
  | false=>
  cases e.Kind==6||e.Kind==10 with
  | true=>show 1≤1000;omega
  | false=>
  cases e.Kind==9 with
  | true=>show (e.Lst.l.map (·.Point)).length≤1000;rw [ZDY];omega
  | false=>exact ZDX _
 have L:=ZpR s e a m h (ZoM e) hlen (ZoM e).length 0 (by omega)
 rw [ZEi] at L;obtain ⟨fr',l1,l2⟩:=L;simp only [evA] at hP;rw [Z5 (f:=57) rfl rfl];unfold Zp1;have z0:((0:Nat):Int)=0:=rfl;rw [z0] at l1 l2;by_cases hz:plE s m (ZoM e)=0
 ·have l1:=l1 hz;rw [hz];cases k1:e.Kind==1 with
  | false=>simp only [go_sem,qy,qq,qk,reduceIte,c57,c57L0,k1,hP,l1,cond_false,ZDY]
  | true=>
   cases k2:s.Regions.any (fun x=>Z3 x.Id e.Id) with
   | true=>
    rw [k2] at hA;simp only [go_sem,qy,qq,reduceIte,c57,c57L0,k1,hA,cond_true]
   | false=>
   rw [k2] at hA;cases k3:e.A==1 with
   | false=>simp only [go_sem,qy,qq,qk,reduceIte,c57,c57L0,k1,k3,hA,hP,l1,cond_true,cond_false,ZE9,ZDY]
   | true=>cases k4:a==0<;>simp only [go_sem,qy,qq,reduceIte,c57,c57L0,k1,k3,k4,hA,cond_true,cond_false,ZE4]
 ·obtain ⟨l2,l3⟩:=l2 hz;cases k1:e.Kind==1 with
  | false=>simp only [go_sem,qy,qq,qk,reduceIte,c57,c57L0,k1,hP,l2,l3,cond_false,ZDY]
  | true=>
   cases k2:s.Regions.any (fun x=>Z3 x.Id e.Id) with
   | true=>
    rw [k2] at hA;simp only [go_sem,qy,qq,reduceIte,c57,c57L0,k1,hA,cond_true]
   | false=>
   rw [k2] at hA;cases k3:e.A==1 with
   | false=>simp only [go_sem,qy,qq,qk,reduceIte,c57,c57L0,k1,k3,hA,hP,l2,l3,cond_true,cond_false,ZE9,ZDY]
   | true=>cases k4:a==0<;>simp only [go_sem,qy,qq,reduceIte,c57,c57L0,k1,k3,k4,hA,cond_true,cond_false,ZE4]
end Go.AM
namespace Go.AM
open Go
def ZU (s:Str):Bool:=!decide ((s.size:Int) > 100)
theorem Vv (bw ex:Bool) (l:List Str) (hl:l.length < 9223372036854775807):pfn rE 44 [.isl bw ex 1 (l.map encS)]=some (.bool (l.all ZU)):=by
 have L:=Uf (E:=rE) (live:=[0,3]) (b:=c44L0b) (h:=[]) l (fun _ x=>ZU x) (fun i=>[(0,.isl bw ex 1 (l.map encS)),(3,I i)]) 0 (fun fr=>get fr 2=.bool false) (fun i=>rfl)
  (fun i x hx hP=>by
   have hg:=Z6 (f:=encS) hx;have hi:=Zh (Z7 hx);have hw:=Zx (n:=i) (by have:=Z7 hx;omega)
   have hP':decide ((x.size:Int) > 100)=false:=by simpa [ZU] using hP
   refine ⟨_,by simp only [go_sem,qy,reduceIte,c44L0b,hg,hi,hw,hP',encS];rfl,?_⟩
   simp only [go_sem,qy])
  (fun i x hx hP=>by
   have hg:=Z6 (f:=encS) hx;have hi:=Zh (Z7 hx);have hP':decide ((x.size:Int) > 100)=true:=by simpa [ZU] using hP
   refine ⟨_,by simp only [go_sem,qy,reduceIte,c44L0b,hg,hi,hP',encS];rfl,?_⟩
   simp only [go_sem,qy])
  (⟨_,by simp only [go_sem,qy,reduceIte,c44L0b,ZG];rfl⟩)
 rw [Z5 (f:=44) rfl rfl];rw [QE] at L;obtain ⟨fr',h1,h2⟩:=L;have h1':Zg rE [0,3] c44L0b [(0,.isl bw ex 1 (l.map encS)),(3,.int .i64 0)] []=_:=h1;cases hc:l.all ZU with
 | true=>rw [hc] at h1';simp only [go_sem,qy,qq,reduceIte,c44,c44L0,h1']
 | false=>
  rw [hc] at h1';have h2':=h2 hc;simp only [go_sem,qy,qq,reduceIte,c44,c44L0,h1',h2',ZEf]
theorem HG (a b:Str):pfn rE 44 [.isl false false 1 [.str a,.str b]]=some (.bool ([a,b].all ZU)):=Vv false false [a,b] (by simp)
theorem Z4y (a b c d:Str):pfn rE 44 [.isl false false 1 [.str a,.str b,.str c,.str d]]=some (.bool ([a,b,c,d].all ZU)):=Vv false false [a,b,c,d] (by simp)
theorem HH {α:Type} {l:List α} {n i:Nat} {x:α} (h:(l.take n)[i]? = some x):l[i]? = some x∧i < n:=by
 have hi:=Z7 h;rw [ZEs] at hi;rw [ZF0 (by omega)] at h
 exact ⟨h,by omega⟩
theorem FR {α:Type} (l:List α):(decide ((((l.take 10).length:Nat):Int) < (l.length:Int))=true→decide ((((l.take 10).length:Nat):Int) < 10)=false):=by
 intro h;have:=of_decide_eq_true h;rw [ZEs] at *;exact decide_eq_false (by omega)
def M1 (x:Nm):Bool:=[x.Lang,x.Text].all ZU
def XQ (l:List Nm):Bool:=(l.take 10).all M1&&decide ((l.length:Int)≤10)
theorem UQ (ex:Bool) (l:List Nm):pfn rE 45 [.isl false ex 3 (l.map Nm.enc)]=some (.bool (XQ l)):=by
 have L:=QT (E:=rE) (live:=[0,3]) (b:=c45L0b) (h:=[]) (l.take 10) (fun _ x=>M1 x) (fun i=>[(0,.isl false ex 3 (l.map Nm.enc)),(3,I i)]) 0 (fun fr=>get fr 0=.isl false ex 3 (l.map Nm.enc)∧get fr 2=.bot) (fun fr=>get fr 2=.bool false) (fun i=>rfl)
  (fun i x hx hP=>by
   obtain ⟨hx',hi10⟩:=HH hx;have hg:=Z6 (f:=Nm.enc) hx';have hi:=Zh (Z7 hx');have hw:=Zx (n:=i) (by omega)
   have h10:decide ((i:Int) < 10)=true:=decide_eq_true (by omega)
   have hS:=HG x.Lang x.Text;have hP':[x.Lang,x.Text].all ZU=true:=hP;rw [hP'] at hS;refine ⟨_,by simp only [go_sem,qy,qq,qv,qk,reduceIte,c45L0b,hg,hi,hw,h10,Nm.enc,hS];rfl,?_⟩
   simp only [go_sem,qy])
  (fun i x hx hP=>by
   obtain ⟨hx',hi10⟩:=HH hx;have hg:=Z6 (f:=Nm.enc) hx';have hi:=Zh (Z7 hx');have h10:decide ((i:Int) < 10)=true:=decide_eq_true (by omega)
   have hS:=HG x.Lang x.Text;have hP':[x.Lang,x.Text].all ZU=false:=hP;rw [hP'] at hS;refine ⟨_,by simp only [go_sem,qy,qq,qv,qk,reduceIte,c45L0b,hg,hi,h10,Nm.enc,hS];rfl,?_⟩
   simp only [go_sem,qy])
  (by
   cases c:decide ((((l.take 10).length:Nat):Int) < (l.length:Int)) with
   | true=>
    have h10:=FR l c;exact ⟨_,by simp only [go_sem,qy,reduceIte,c45L0b,c,h10];rfl,by simp only [go_sem,qy],by simp only [go_sem,qy]⟩
   | false=>exact ⟨_,by simp only [go_sem,qy,reduceIte,c45L0b,c];rfl,by simp only [go_sem,qy],by simp only [go_sem,qy]⟩)
 rw [Z5 (f:=45) rfl rfl];rw [QE] at L;obtain ⟨fr',h1,h3,h2⟩:=L;have h1':Zg rE [0,3] c45L0b [(0,.isl false ex 3 (l.map Nm.enc)),(3,.int .i64 0)] []=_:=h1;unfold XQ;cases hc:(l.take 10).all M1 with
 | true=>
  rw [hc] at h1';obtain ⟨q0,q2⟩:=h3 hc;simp only [go_sem,qy,qq,reduceIte,c45,c45L0,h1',q0,q2]
 | false=>
  rw [hc] at h1';have h2':=h2 hc;simp only [go_sem,qy,qq,reduceIte,c45,c45L0,h1',h2',ZEf]
def M2 (x:Ent):Bool:=[x.Id,x.Number.Letter].all ZU
def FT (l:List Ent):Bool:=(l.take 10).all M2
abbrev evI (e:Event):AV:=.iptr false [I e.Kind,I e.Day,I e.A,I e.B,I e.Office,.str e.Id,.str e.Other,.str e.Text,.isl false e.Ids.ex 1 (e.Ids.l.map encS),.isl false e.Names.ex 3 (e.Names.l.map Nm.enc),
 I e.Number.N,.str e.Number.Letter,I e.Number.Num,I e.Number.Den,I e.Point.X,I e.Point.Y,.isl false e.Path.ex 2 (e.Path.l.map Pt.enc),.isl false e.Lst.ex 7 (e.Lst.l.map Ent.enc)]
def Xn (e:Event):Bool:=
 FT e.Lst.l&&([e.Id,e.Other,e.Text,e.Number.Letter].all ZU&&(decide ((e.Ids.l.length:Int)≤10)&&(e.Ids.l.all ZU&&(XQ e.Names.l&&(decide ((e.Path.l.length:Int)≤12)&&decide ((e.Lst.l.length:Int)≤10))))))
theorem Z4z (e:Event):pfn rE 20 [evA e]=some (.bool (Xn e)):=by
 have L:=QT (E:=rE) (live:=[1,3]) (b:=c20L0b) (h:=[]) (e.Lst.l.take 10) (fun _ x=>M2 x) (fun i=>[(1,evI e),(3,I i)]) 0 (fun fr=>get fr 1=evI e∧get fr 2=.bot) (fun fr=>get fr 2=.bool false) (fun i=>rfl)
  (fun i x hx hP=>by
   obtain ⟨hx',hi10⟩:=HH hx;have hg:=Z6 (f:=Ent.enc) hx';have hi:=Zh (Z7 hx');have hw:=Zx (n:=i) (by omega)
   have h10:decide ((i:Int) < 10)=true:=decide_eq_true (by omega)
   have hS:=HG x.Id x.Number.Letter;have hP':[x.Id,x.Number.Letter].all ZU=true:=hP;rw [hP'] at hS;refine ⟨_,by simp only [go_sem,qy,qq,qv,qk,reduceIte,c20L0b,hg,hi,hw,h10,Ent.enc,hS];rfl,?_⟩
   simp only [go_sem,qy])
  (fun i x hx hP=>by
   obtain ⟨hx',hi10⟩:=HH hx;have hg:=Z6 (f:=Ent.enc) hx';have hi:=Zh (Z7 hx');have h10:decide ((i:Int) < 10)=true:=decide_eq_true (by omega)
   have hS:=HG x.Id x.Number.Letter;have hP':[x.Id,x.Number.Letter].all ZU=false:=hP;rw [hP'] at hS;refine ⟨_,by simp only [go_sem,qy,qq,qv,qk,reduceIte,c20L0b,hg,hi,h10,Ent.enc,hS];rfl,?_⟩
   simp only [go_sem,qy])
  (by
   cases c:decide ((((e.Lst.l.take 10).length:Nat):Int) < (e.Lst.l.length:Int)) with
   | true=>
    have h10:=FR e.Lst.l c;exact ⟨_,by simp only [go_sem,qy,reduceIte,c20L0b,c,h10];rfl,by simp only [go_sem,qy],by simp only [go_sem,qy]⟩
   | false=>exact ⟨_,by simp only [go_sem,qy,reduceIte,c20L0b,c];rfl,by simp only [go_sem,qy],by simp only [go_sem,qy]⟩)
 rw [Z5 (f:=20) rfl rfl];rw [QE] at L;obtain ⟨fr',h1,h3,h2⟩:=L;have h1':Zg rE [1,3] c20L0b [(1,evI e),(3,.int .i64 0)] []=_:=h1;have hS:=Z4y e.Id e.Other e.Text e.Number.Letter;have hN:=UQ e.Names.ex e.Names.l;unfold Xn FT;cases hc:(e.Lst.l.take 10).all M2 with
 | false=>
  rw [hc] at h1';have h2':=h2 hc;simp only [evI] at h1';simp only [go_sem,qy,qq,reduceIte,c20,c20L0,h1',h2',ZEf]
 | true=>
  rw [hc] at h1';obtain ⟨q1,q2⟩:=h3 hc;simp only [evI] at h1' q1;cases c1:[e.Id,e.Other,e.Text,e.Number.Letter].all ZU with
  | false=>rw [c1] at hS;simp only [go_sem,qy,qq,qv,qk,reduceIte,c20,c20L0,h1',q1,q2,hS]
  | true=>
  rw [c1] at hS;cases c2:decide ((e.Ids.l.length:Int)≤10) with
  | false=>simp only [go_sem,qy,qq,qv,qk,reduceIte,c20,c20L0,h1',q1,q2,hS,c2]
  | true=>
  have hI:=Vv false e.Ids.ex e.Ids.l (by have:=of_decide_eq_true c2;omega)
  cases c5003:e.Ids.l.all ZU with
  | false=>rw [c5003] at hI;simp only [go_sem,qy,qq,qv,qk,reduceIte,c20,c20L0,h1',q1,q2,hS,c2,hI]
  | true=>
  rw [c5003] at hI;cases c5004:XQ e.Names.l with
  | false=>rw [c5004] at hN;simp only [go_sem,qy,qq,qv,qk,reduceIte,c20,c20L0,h1',q1,q2,hS,c2,hI,hN]
  | true=>
  rw [c5004] at hN;cases c5005:decide ((e.Path.l.length:Int)≤12) with
  | false=>simp only [go_sem,qy,qq,qv,qk,reduceIte,c20,c20L0,h1',q1,q2,hS,c2,hI,hN,c5005]
  | true=>simp only [go_sem,qy,qq,qv,qk,reduceIte,c20,c20L0,h1',q1,q2,hS,c2,hI,hN,c5005]
theorem JL (e:Event) (h:Xn e=true):EvS e:=by
 simp only [Xn,ZE0] at h;obtain ⟨_,h1,h2,h3,h4,h5,h6⟩:=h;have k2:=of_decide_eq_true h2;have k5:=of_decide_eq_true h5;have k6:=of_decide_eq_true h6;have k4:(e.Names.l.length:Int)≤10:=by
  simp only [XQ,ZE0] at h4;exact of_decide_eq_true h4.2
 simp [ZU] at h1;exact ⟨by omega,by omega,by omega,by omega,by omega,by omega,by omega⟩
end Go.AM
namespace Go.AM
open Go
def kOf (ks:List Int) (e:Event):Bool:=ks.any (fun x=>e.Kind==x)
theorem ZoJ (e:Event) (ks:List Int) (ex:Bool) (hl:ks.length≤1000):pfn rE 178 [.isl false ex 1 (ks.map I),evI e]=some (.bool (kOf ks e)):=by
 have h:=DR ks ex e.Kind (by omega)
 rw [Z5 (f:=178) rfl rfl];unfold kOf;simp only [go_sem,qy,qq,qx,qz,qv,qk,reduceIte,c178,h]
def Zor (s:Sta) (e:Event):List Str:=
 (((e.Ids.l++bif kOf [9,12] e then [e.Id] else [])++bif kOf [7] e then [e.Other] else [])++bif kOf [8] e then e.Lst.l.map (·.Id) else [])++bif kOf [12] e then (s.Units.filter (fun u=>Z3 u.Id e.Id)).map (·.Door) else []
def ZoQ (e:Event) (x:Region):Bool:=kOf [1,3,12] e&&Z3 x.Id e.Id
def ZoR (e:Event) (x:Street):Bool:=(kOf [3,4,8,12] e&&Z3 x.Id e.Id)||((kOf [4] e&&Z3 x.Id e.Other)||(kOf [6] e&&Z3 x.Id e.Text))
def ZoS (e:Event) (x:Building):Bool:=(kOf [11] e&&Z3 x.Id e.Id)||(kOf [6] e&&Z3 x.Id e.Other)
def ZoT (l:List Str) (x:Door):Bool:=l.any (fun y=>Z3 x.Id y)
def Zou (s:Sta) (m o:Int):Bool:=Zoq s o==m
def Zpb (s:Sta) (e:Event) (m:Int):Bool:=
 s.Regions.all (fun x=>!ZoQ e x||Zou s m x.Owner)&&(s.Streets.all (fun x=>!ZoR e x||Zou s m x.Owner)&&(s.Buildings.all (fun x=>!ZoS e x||Zou s m x.Owner)&&s.Doors.all (fun x=>!ZoT (Zor s e) x||Zou s m x.Owner)))
def Zp6 (s:Sta) (e:Event) (m:Int):Int:=bif Zpb s e m then 0 else 18
def ZoA (s:Sta) (e:Event) (a m:Int):Fr:=[(1,.iptr false [rqI s e a m]),(2,.ptr 0 0 0 1),(12,.clo (.func 179) [] [.iptr false [ldI s],.ptr 1 0 0 1,evI e,.ptr 3 0 0 1])]
def thX (s:Sta) (e:Event) (a m:Int) (n:Int) (st:LoopState) (ex:AExit) (l:List Str):Hp:=[.row 1 [I n],.row 1 [.clo (.func 178) [] [evI e]],.row 1 (l.map encS),.row 1 [.sl 2 l.length 0 l.length false],.loop st ex (ZoA s e a m) [13] c55R0a c55R0b]
abbrev thH (s:Sta) (e:Event) (a m:Int):Hp:=thX s e a m 0 .ready .normal (Zor s e)
abbrev thD (s:Sta) (e:Event) (a m:Int):Hp:=thX s e a m 18 .done .ret (Zor s e)
theorem ZoI (s:Sta) (e:Event) (a m:Int):Zd 5 (frV (ZoA s e a m))=true∧Zd 6 (frV (ZoA s e a m))=true:=by
 have hbl:=Zot s;have hcl:=Zow s;have hc:Z4 [rqI s e a m,ldI s,evI e]=true:=by simp only [go_sem,qy,qq,qx,qz,qv,qk,reduceIte,hcl]
 have hb:=fun n=>ZN (n:=n) _ hc
 simp only [Zd,ZE0] at hb;constructor
 ·obtain ⟨h1,h2,h3,_⟩:=hb 5;simp only [go_sem,qy,qq,qx,qz,qv,qk,reduceIte,ZoA,h1,h2,h3,hbl]
 ·obtain ⟨h1,h2,h3,_⟩:=hb 6;simp only [go_sem,qy,qq,qx,qz,qv,qk,reduceIte,ZoA,h1,h2,h3,hbl]
theorem Zpc (s:Sta) (e:Event) (a m:Int) (o:Int) (q:AObj) (hq:∀ n,Zj n q=true) (hM:pfn rE 53 [ldI s,I o]=some (I (Zoq s o))):
 U4 rE 4 [I o] (thH s e a m++[q])=some (bif Zou s m o then (.bool true,thH s e a m++[q]) else (.bool false,thD s e a m++[q])):=by
 have hcl:=Zow s;have hbl:=Zot s;obtain ⟨hf4,hf5⟩:=ZoI s e a m;unfold Zou;have hS:∀ n,Zd n ((Zor s e).map encS)=true:=fun n=>ZN _ (Zw (fun t=>rfl) _)
 cases c:Zoq s o==m with
 | true=>
  have h:=Ss (E:=rE) (b:=4) (args:=[I o]) (h:=thH s e a m++[q]) (fr:=ZoA s e a m) (ps:=[13]) (assign:=c55R0a) (body:=c55R0b)
   (fr0:=(13,I o)::ZoA s e a m) rfl rfl (by simp only [go_sem,qy,qq,qx,qz,qv,qk,reduceIte,c55R0a,thX,ZoA,ZE3,ZE1]<;>rfl) (by rfl)
   (e:=.normal) (fr2:=[]) (h2:=thX s e a m 0 .busy .normal (Zor s e)++[q])
   (by
    have hne:(Zoq s o != m)=false:=by rw [bne,c];rfl
    simp only [go_sem,qy,qq,qx,qz,qv,qk,reduceIte,c55R0b,thX,ZoA,ZE3,ZE1,hM,hne,hcl,hbl,hq,hS]<;>rfl) (by rfl)
  exact h
 | false=>
  have h:=Ss (E:=rE) (b:=4) (args:=[I o]) (h:=thH s e a m++[q]) (fr:=ZoA s e a m) (ps:=[13]) (assign:=c55R0a) (body:=c55R0b)
   (fr0:=(13,I o)::ZoA s e a m) rfl rfl (by simp only [go_sem,qy,qq,qx,qz,qv,qk,reduceIte,c55R0a,thX,ZoA,ZE3,ZE1]<;>rfl) (by rfl)
   (e:=.ret) (fr2:=[]) (h2:=thX s e a m 18 .busy .normal (Zor s e)++[q])
   (by
    have hne:(Zoq s o != m)=true:=by rw [bne,c];rfl
    simp only [go_sem,qy,qq,qx,qz,qv,qk,reduceIte,c55R0b,thX,ZoA,ZE3,ZE1,hM,hne,hcl,hbl,hq,hS]<;>rfl) (by rfl)
  exact h
theorem ZpS (s:Sta) (e:Event) (a m:Int) (h:RqS s e m) (i:Nat) (x:Region) (hx:s.Regions[i]? = some x) (hl:s.Regions.length≤1000) (ho:0≤x.Owner):
 Zb rE c179L0b [(0,.yld 4),(1,.iptr false [ldI s]),(2,.ptr 1 0 0 1),(3,evI e),(4,.ptr 3 0 0 1),(20,.isl false false 6 (s.Regions.map Region.enc)),(21,I s.Regions.length),(22,I i)] (thH s e a m)=bif !ZoQ e x||Zou s m x.Owner then some (.normal,[(0,.yld 4),(1,.iptr false [ldI s]),(2,.ptr 1 0 0 1),(3,evI e),(4,.ptr 3 0 0 1),(20,.isl false false 6 (s.Regions.map Region.enc)),(21,I s.Regions.length),(22,I (i+1:Nat))],thH s e a m) else some (.ret,[(0,.yld 4),(1,.iptr false [ldI s]),(2,.ptr 1 0 0 1),(3,evI e),(4,.ptr 3 0 0 1),(20,.isl false false 6 (s.Regions.map Region.enc)),(21,I s.Regions.length),(22,I i)],thD s e a m):=by
 have hg:=Z6 (f:=Region.enc) hx;have hi':=Zh (Z7 hx);have hwr:=Zx (n:=i) (by have:=Z7 hx;omega)
 have hcl:=Zow s;have hbl:=Zot s;obtain ⟨hf4,hf5⟩:=ZoI s e a m;have hS:∀ n,Zd n ((Zor s e).map encS)=true:=fun n=>ZN _ (Zw (fun t=>rfl) _)
 have hq:∀ n,Zj n (.row 6 [x.enc])=true:=fun n=>ZN (n:=n) [x.enc] (Zw (f:=Region.enc) (fun t=>rfl) [x])
 have hy:=Zpc s e a m x.Owner (.row 6 [x.enc]) hq (h.c.mst ho);simp only [thX,ZE3,ZE1,Region.enc,NL.enc] at hy;simp only [Region.enc,NL.enc] at hq;have hk0:=ZoJ e [1,3,12] false (by decide)
 simp only [ZE7,ZEb] at hk0;unfold ZoQ;cases c1:kOf [1,3,12] e with
 | false=>
  rw [c1] at hk0;simp only [go_sem,qy,qq,qx,qz,qv,qk,reduceIte,c179L0b,thX,S3,hg,hi',hwr,hcl,hbl,hf4,hf5,hq,hS,hy,Region.enc,NL.enc,ZEe,ZEk,ZEa,ZE5,ZEz,ZEp,ZE4,ZE9,cond_true,cond_false,hk0]
 | true=>
 rw [c1] at hk0;cases c2:Z3 x.Id e.Id with
 | false=>simp only [go_sem,qy,qq,qx,qz,qv,qk,reduceIte,c179L0b,thX,S3,hg,hi',hwr,hcl,hbl,hf4,hf5,hq,hS,hy,Region.enc,NL.enc,ZEe,ZEk,ZEa,ZE5,ZEz,ZEp,ZE4,ZE9,cond_true,cond_false,hk0,c2]
 | true=>cases c5009:Zou s m x.Owner<;>rw [c5009] at hy<;>simp only [cond_true,cond_false] at hy<;>simp only [go_sem,qy,qq,qx,qz,qv,qk,reduceIte,c179L0b,thX,S3,hg,hi',hwr,hcl,hbl,hf4,hf5,hq,hS,hy,Region.enc,NL.enc,ZEe,ZEk,ZEa,ZE5,ZEz,ZEp,ZE4,ZE9,cond_true,cond_false,hk0,c2]
set_option maxHeartbeats 4000000 in
theorem ZpT (s:Sta) (e:Event) (a m:Int) (h:RqS s e m) (i:Nat) (x:Street) (hx:s.Streets[i]? = some x) (hl:s.Streets.length≤1000) (ho:0≤x.Owner):
 Zb rE c179L1b [(0,.yld 4),(1,.iptr false [ldI s]),(2,.ptr 1 0 0 1),(3,evI e),(4,.ptr 3 0 0 1),(48,.isl false false 5 (s.Streets.map Street.enc)),(49,I s.Streets.length),(50,I i)] (thH s e a m)=bif !ZoR e x||Zou s m x.Owner then some (.normal,[(0,.yld 4),(1,.iptr false [ldI s]),(2,.ptr 1 0 0 1),(3,evI e),(4,.ptr 3 0 0 1),(48,.isl false false 5 (s.Streets.map Street.enc)),(49,I s.Streets.length),(50,I (i+1:Nat))],thH s e a m) else some (.ret,[(0,.yld 4),(1,.iptr false [ldI s]),(2,.ptr 1 0 0 1),(3,evI e),(4,.ptr 3 0 0 1),(48,.isl false false 5 (s.Streets.map Street.enc)),(49,I s.Streets.length),(50,I i)],thD s e a m):=by
 have hg:=Z6 (f:=Street.enc) hx;have hi':=Zh (Z7 hx);have hwr:=Zx (n:=i) (by have:=Z7 hx;omega)
 have hcl:=Zow s;have hbl:=Zot s;obtain ⟨hf4,hf5⟩:=ZoI s e a m;have hS:∀ n,Zd n ((Zor s e).map encS)=true:=fun n=>ZN _ (Zw (fun t=>rfl) _)
 have hq:∀ n,Zj n (.row 5 [x.enc])=true:=fun n=>ZN (n:=n) [x.enc] (Zw (f:=Street.enc) (fun t=>rfl) [x])
 have hy:=Zpc s e a m x.Owner (.row 5 [x.enc]) hq (h.c.mst ho);simp only [thX,ZE3,ZE1,Street.enc,NL.enc] at hy;simp only [Street.enc,NL.enc] at hq;have hk0:=ZoJ e [3,4,8,12] false (by decide)
 simp only [ZE7,ZEb] at hk0;have hk1:=ZoJ e [4] false (by decide)
 simp only [ZE7,ZEb] at hk1;have hk2:=ZoJ e [6] false (by decide)
 simp only [ZE7,ZEb] at hk2;unfold ZoR;cases c1:kOf [3,4,8,12] e<;>cases c5004:kOf [4] e<;>cases c5006:kOf [6] e<;>rw [c1] at hk0<;>rw [c5004] at hk1<;>rw [c5006] at hk2<;>cases d1:Z3 x.Id e.Id<;>cases d2:Z3 x.Id e.Other<;>cases d3:Z3 x.Id e.Text<;>
  (first | (simp only [go_sem,qy,qq,qx,qz,qv,qk,reduceIte,c179L1b,thX,S3,hg,hi',hwr,hcl,hbl,hf4,hf5,hq,hS,hy,Street.enc,NL.enc,ZEe,ZEk,ZEa,ZE5,ZEz,ZEp,ZE4,ZE9,cond_true,cond_false,hk0,hk1,hk2,d1,d2,d3];done) | (cases c5009:Zou s m x.Owner<;>rw [c5009] at hy<;>simp only [cond_true,cond_false] at hy<;>simp only [go_sem,qy,qq,qx,qz,qv,qk,reduceIte,c179L1b,thX,S3,hg,hi',hwr,hcl,hbl,hf4,hf5,hq,hS,hy,Street.enc,NL.enc,ZEe,ZEk,ZEa,ZE5,ZEz,ZEp,ZE4,ZE9,cond_true,cond_false,hk0,hk1,hk2,d1,d2,d3]))
set_option maxHeartbeats 1000000 in
theorem ZpU (s:Sta) (e:Event) (a m:Int) (h:RqS s e m) (i:Nat) (x:Building) (hx:s.Buildings[i]? = some x) (hl:s.Buildings.length≤1000) (ho:0≤x.Owner):
 Zb rE c179L2b [(0,.yld 4),(1,.iptr false [ldI s]),(2,.ptr 1 0 0 1),(3,evI e),(4,.ptr 3 0 0 1),(102,.isl false false 4 (s.Buildings.map Building.enc)),(103,I s.Buildings.length),(104,I i)] (thH s e a m)=bif !ZoS e x||Zou s m x.Owner then some (.normal,[(0,.yld 4),(1,.iptr false [ldI s]),(2,.ptr 1 0 0 1),(3,evI e),(4,.ptr 3 0 0 1),(102,.isl false false 4 (s.Buildings.map Building.enc)),(103,I s.Buildings.length),(104,I (i+1:Nat))],thH s e a m) else some (.ret,[(0,.yld 4),(1,.iptr false [ldI s]),(2,.ptr 1 0 0 1),(3,evI e),(4,.ptr 3 0 0 1),(102,.isl false false 4 (s.Buildings.map Building.enc)),(103,I s.Buildings.length),(104,I i)],thD s e a m):=by
 have hg:=Z6 (f:=Building.enc) hx;have hi':=Zh (Z7 hx);have hwr:=Zx (n:=i) (by have:=Z7 hx;omega)
 have hcl:=Zow s;have hbl:=Zot s;obtain ⟨hf4,hf5⟩:=ZoI s e a m;have hS:∀ n,Zd n ((Zor s e).map encS)=true:=fun n=>ZN _ (Zw (fun t=>rfl) _)
 have hq:∀ n,Zj n (.row 4 [x.enc])=true:=fun n=>ZN (n:=n) [x.enc] (Zw (f:=Building.enc) (fun t=>rfl) [x])
 have hy:=Zpc s e a m x.Owner (.row 4 [x.enc]) hq (h.c.mst ho);simp only [thX,ZE3,ZE1,Building.enc,NL.enc] at hy;simp only [Building.enc,NL.enc] at hq;have hk0:=ZoJ e [11] false (by decide)
 simp only [ZE7,ZEb] at hk0;have hk1:=ZoJ e [6] false (by decide)
 simp only [ZE7,ZEb] at hk1;unfold ZoS;cases c1:kOf [11] e<;>cases c5006:kOf [6] e<;>rw [c1] at hk0<;>rw [c5006] at hk1<;>cases d1:Z3 x.Id e.Id<;>cases d2:Z3 x.Id e.Other<;>
  (first | (simp only [go_sem,qy,qq,qx,qz,qv,qk,reduceIte,c179L2b,thX,S3,hg,hi',hwr,hcl,hbl,hf4,hf5,hq,hS,hy,Building.enc,NL.enc,ZEe,ZEk,ZEa,ZE5,ZEz,ZEp,ZE4,ZE9,cond_true,cond_false,hk0,hk1,d1,d2];done) | (cases c5009:Zou s m x.Owner<;>rw [c5009] at hy<;>simp only [cond_true,cond_false] at hy<;>simp only [go_sem,qy,qq,qx,qz,qv,qk,reduceIte,c179L2b,thX,S3,hg,hi',hwr,hcl,hbl,hf4,hf5,hq,hS,hy,Building.enc,NL.enc,ZEe,ZEk,ZEa,ZE5,ZEz,ZEp,ZE4,ZE9,cond_true,cond_false,hk0,hk1,d1,d2]))
theorem ZpV (s:Sta) (e:Event) (a m:Int) (h:RqS s e m) (i:Nat) (x:Door) (hx:s.Doors[i]? = some x) (hl:s.Doors.length≤1000) (ho:0≤x.Owner) (hd:(Zor s e).length≤100000):
 Zb rE c179L3b [(0,.yld 4),(4,.ptr 3 0 0 1),(142,.isl false false 16 (s.Doors.map Door.enc)),(143,I s.Doors.length),(144,I i)] (thH s e a m)=bif !ZoT (Zor s e) x||Zou s m x.Owner then some (.normal,[(0,.yld 4),(4,.ptr 3 0 0 1),(142,.isl false false 16 (s.Doors.map Door.enc)),(143,I s.Doors.length),(144,I (i+1:Nat))],thH s e a m) else some (.ret,[(0,.yld 4),(4,.ptr 3 0 0 1),(142,.isl false false 16 (s.Doors.map Door.enc)),(143,I s.Doors.length),(144,I i)],thD s e a m):=by
 have hg:=Z6 (f:=Door.enc) hx;have hi':=Zh (Z7 hx);have hwr:=Zx (n:=i) (by have:=Z7 hx;omega)
 have hcl:=Zow s;have hbl:=Zot s;obtain ⟨hf4,hf5⟩:=ZoI s e a m;have hS:∀ n,Zd n ((Zor s e).map encS)=true:=fun n=>ZN _ (Zw (fun t=>rfl) _)
 have hq:∀ n,Zj n (.row 16 [x.enc])=true:=fun n=>ZN (n:=n) [x.enc] (Zw (f:=Door.enc) (fun t=>rfl) [x])
 have hy:=Zpc s e a m x.Owner (.row 16 [x.enc]) hq (h.c.mst ho);simp only [thX,ZE3,ZE1,Door.enc,NL.enc] at hy;simp only [Door.enc,NL.enc] at hq;unfold ZoT;have hD:=Zqr (Zor s e) hd x.Id true false;have hcS:Z4 ((Zor s e).map encS)=true:=Zw (fun t=>rfl) _
 have htk:List.take (Zor s e).length ((Zor s e).map encS)=(Zor s e).map encS:=ZEc (by simp)
 cases c1:(Zor s e).any (fun y=>Z3 x.Id y) with
 | false=>
  rw [c1] at hD;simp only [go_sem,qy,qq,qx,qz,qv,qk,reduceIte,c179L3b,thX,S3,hg,hi',hwr,hcl,hbl,hf4,hf5,hq,hS,hy,Door.enc,NL.enc,ZEe,ZEk,ZEa,ZE5,ZEz,ZEp,ZE4,ZE9,cond_true,cond_false,hD,hcS,htk,ZDY,ZEi,beq_self_eq_true]
 | true=>
  rw [c1] at hD;cases c5009:Zou s m x.Owner<;>rw [c5009] at hy<;>simp only [cond_true,cond_false] at hy<;>simp only [go_sem,qy,qq,qx,qz,qv,qk,reduceIte,c179L3b,thX,S3,hg,hi',hwr,hcl,hbl,hf4,hf5,hq,hS,hy,Door.enc,NL.enc,ZEe,ZEk,ZEa,ZE5,ZEz,ZEp,ZE4,ZE9,cond_true,cond_false,hD,hcS,htk,ZDY,ZEi,beq_self_eq_true]
end Go.AM
namespace Go.AM
open Go
theorem ZqE (s:Sta) (e:Event) (a m:Int) (h:RqS s e m) (hl:s.Regions.length≤1000) (ho:∀ x∈s.Regions,0≤x.Owner):
 ∃ fr' h',Zg rE [0,1,2,3,4,20,21,22] c179L0b [(0,.yld 4),(1,.iptr false [ldI s]),(2,.ptr 1 0 0 1),(3,evI e),(4,.ptr 3 0 0 1),(20,.isl false false 6 (s.Regions.map Region.enc)),(21,I s.Regions.length),(22,.int .i64 0)] (thH s e a m)=some (if s.Regions.all (fun x=>!ZoQ e x||Zou s m x.Owner)=true then .exit 0 else .ret,fr',h')∧
  (s.Regions.all (fun x=>!ZoQ e x||Zou s m x.Owner)=true→fr'=[(0,.yld 4),(1,.iptr false [ldI s]),(2,.ptr 1 0 0 1),(3,evI e),(4,.ptr 3 0 0 1),(20,.isl false false 6 (s.Regions.map Region.enc)),(21,I s.Regions.length),(22,I s.Regions.length)]∧h'=thH s e a m)∧(s.Regions.all (fun x=>!ZoQ e x||Zou s m x.Owner)=false→h'=thD s e a m):=by
 have hbl:=Zot s;have hcl:=Zow s;obtain ⟨hf4,hf5⟩:=ZoI s e a m;have hS:∀ n,Zd n ((Zor s e).map encS)=true:=fun n=>ZN _ (Zw (fun t=>rfl) _)
 have L:=Jk (E:=rE) (live:=[0,1,2,3,4,20,21,22]) (b:=c179L0b) s.Regions (fun _ x=>!ZoQ e x||Zou s m x.Owner) (fun i=>[(0,.yld 4),(1,.iptr false [ldI s]),(2,.ptr 1 0 0 1),(3,evI e),(4,.ptr 3 0 0 1),(20,.isl false false 6 (s.Regions.map Region.enc)),(21,I s.Regions.length),(22,I i)]) (fun _=>thH s e a m) 0
  (fun fr h'=>fr=[(0,.yld 4),(1,.iptr false [ldI s]),(2,.ptr 1 0 0 1),(3,evI e),(4,.ptr 3 0 0 1),(20,.isl false false 6 (s.Regions.map Region.enc)),(21,I s.Regions.length),(22,I s.Regions.length)]∧h'=thH s e a m) (fun _ h'=>h'=thD s e a m) (fun i=>rfl)
  (fun i x hx hP=>by
   have:=ZpS s e a m h i x hx hl (ho x (ZE6 hx));rw [hP,cond_true] at this;exact ⟨_,this,rfl⟩)
  (fun i x hx hP=>by
   have:=ZpS s e a m h i x hx hl (ho x (ZE6 hx));rw [hP,cond_false] at this;exact ⟨_,_,this,rfl⟩)
  ⟨[(0,.yld 4),(1,.iptr false [ldI s]),(2,.ptr 1 0 0 1),(3,evI e),(4,.ptr 3 0 0 1),(20,.isl false false 6 (s.Regions.map Region.enc)),(21,I s.Regions.length),(22,I s.Regions.length)],thH s e a m,by simp only [go_sem,qy,qq,reduceIte,c179L0b,thX,ZG,hf4,hS],rfl,rfl⟩
 rw [QE] at L;exact L
theorem ZqF (s:Sta) (e:Event) (a m:Int) (h:RqS s e m) (hl:s.Streets.length≤1000) (ho:∀ x∈s.Streets,0≤x.Owner):
 ∃ fr' h',Zg rE [0,1,2,3,4,48,49,50] c179L1b [(0,.yld 4),(1,.iptr false [ldI s]),(2,.ptr 1 0 0 1),(3,evI e),(4,.ptr 3 0 0 1),(48,.isl false false 5 (s.Streets.map Street.enc)),(49,I s.Streets.length),(50,.int .i64 0)] (thH s e a m)=some (if s.Streets.all (fun x=>!ZoR e x||Zou s m x.Owner)=true then .exit 2 else .ret,fr',h')∧
  (s.Streets.all (fun x=>!ZoR e x||Zou s m x.Owner)=true→fr'=[(0,.yld 4),(1,.iptr false [ldI s]),(2,.ptr 1 0 0 1),(3,evI e),(4,.ptr 3 0 0 1),(48,.isl false false 5 (s.Streets.map Street.enc)),(49,I s.Streets.length),(50,I s.Streets.length)]∧h'=thH s e a m)∧(s.Streets.all (fun x=>!ZoR e x||Zou s m x.Owner)=false→h'=thD s e a m):=by
 have hbl:=Zot s;have hcl:=Zow s;obtain ⟨hf4,hf5⟩:=ZoI s e a m;have hS:∀ n,Zd n ((Zor s e).map encS)=true:=fun n=>ZN _ (Zw (fun t=>rfl) _)
 have L:=Jk (E:=rE) (live:=[0,1,2,3,4,48,49,50]) (b:=c179L1b) s.Streets (fun _ x=>!ZoR e x||Zou s m x.Owner) (fun i=>[(0,.yld 4),(1,.iptr false [ldI s]),(2,.ptr 1 0 0 1),(3,evI e),(4,.ptr 3 0 0 1),(48,.isl false false 5 (s.Streets.map Street.enc)),(49,I s.Streets.length),(50,I i)]) (fun _=>thH s e a m) 2
  (fun fr h'=>fr=[(0,.yld 4),(1,.iptr false [ldI s]),(2,.ptr 1 0 0 1),(3,evI e),(4,.ptr 3 0 0 1),(48,.isl false false 5 (s.Streets.map Street.enc)),(49,I s.Streets.length),(50,I s.Streets.length)]∧h'=thH s e a m) (fun _ h'=>h'=thD s e a m) (fun i=>rfl)
  (fun i x hx hP=>by
   have:=ZpT s e a m h i x hx hl (ho x (ZE6 hx));rw [hP,cond_true] at this;exact ⟨_,this,rfl⟩)
  (fun i x hx hP=>by
   have:=ZpT s e a m h i x hx hl (ho x (ZE6 hx));rw [hP,cond_false] at this;exact ⟨_,_,this,rfl⟩)
  ⟨[(0,.yld 4),(1,.iptr false [ldI s]),(2,.ptr 1 0 0 1),(3,evI e),(4,.ptr 3 0 0 1),(48,.isl false false 5 (s.Streets.map Street.enc)),(49,I s.Streets.length),(50,I s.Streets.length)],thH s e a m,by simp only [go_sem,qy,qq,reduceIte,c179L1b,thX,ZG,hf4,hS],rfl,rfl⟩
 rw [QE] at L;exact L
theorem ZqG (s:Sta) (e:Event) (a m:Int) (h:RqS s e m) (hl:s.Buildings.length≤1000) (ho:∀ x∈s.Buildings,0≤x.Owner):
 ∃ fr' h',Zg rE [0,1,2,3,4,102,103,104] c179L2b [(0,.yld 4),(1,.iptr false [ldI s]),(2,.ptr 1 0 0 1),(3,evI e),(4,.ptr 3 0 0 1),(102,.isl false false 4 (s.Buildings.map Building.enc)),(103,I s.Buildings.length),(104,.int .i64 0)] (thH s e a m)=some (if s.Buildings.all (fun x=>!ZoS e x||Zou s m x.Owner)=true then .exit 4 else .ret,fr',h')∧
  (s.Buildings.all (fun x=>!ZoS e x||Zou s m x.Owner)=true→fr'=[(0,.yld 4),(1,.iptr false [ldI s]),(2,.ptr 1 0 0 1),(3,evI e),(4,.ptr 3 0 0 1),(102,.isl false false 4 (s.Buildings.map Building.enc)),(103,I s.Buildings.length),(104,I s.Buildings.length)]∧h'=thH s e a m)∧(s.Buildings.all (fun x=>!ZoS e x||Zou s m x.Owner)=false→h'=thD s e a m):=by
 have hbl:=Zot s;have hcl:=Zow s;obtain ⟨hf4,hf5⟩:=ZoI s e a m;have hS:∀ n,Zd n ((Zor s e).map encS)=true:=fun n=>ZN _ (Zw (fun t=>rfl) _)
 have L:=Jk (E:=rE) (live:=[0,1,2,3,4,102,103,104]) (b:=c179L2b) s.Buildings (fun _ x=>!ZoS e x||Zou s m x.Owner) (fun i=>[(0,.yld 4),(1,.iptr false [ldI s]),(2,.ptr 1 0 0 1),(3,evI e),(4,.ptr 3 0 0 1),(102,.isl false false 4 (s.Buildings.map Building.enc)),(103,I s.Buildings.length),(104,I i)]) (fun _=>thH s e a m) 4
  (fun fr h'=>fr=[(0,.yld 4),(1,.iptr false [ldI s]),(2,.ptr 1 0 0 1),(3,evI e),(4,.ptr 3 0 0 1),(102,.isl false false 4 (s.Buildings.map Building.enc)),(103,I s.Buildings.length),(104,I s.Buildings.length)]∧h'=thH s e a m) (fun _ h'=>h'=thD s e a m) (fun i=>rfl)
  (fun i x hx hP=>by
   have:=ZpU s e a m h i x hx hl (ho x (ZE6 hx));rw [hP,cond_true] at this;exact ⟨_,this,rfl⟩)
  (fun i x hx hP=>by
   have:=ZpU s e a m h i x hx hl (ho x (ZE6 hx));rw [hP,cond_false] at this;exact ⟨_,_,this,rfl⟩)
  ⟨[(0,.yld 4),(1,.iptr false [ldI s]),(2,.ptr 1 0 0 1),(3,evI e),(4,.ptr 3 0 0 1),(102,.isl false false 4 (s.Buildings.map Building.enc)),(103,I s.Buildings.length),(104,I s.Buildings.length)],thH s e a m,by simp only [go_sem,qy,qq,reduceIte,c179L2b,thX,ZG,hf4,hS],rfl,rfl⟩
 rw [QE] at L;exact L
theorem ZqH (s:Sta) (e:Event) (a m:Int) (h:RqS s e m) (hl:s.Doors.length≤1000) (ho:∀ x∈s.Doors,0≤x.Owner) (hd:(Zor s e).length≤100000):
 ∃ fr' h',Zg rE [0,4,142,143,144] c179L3b [(0,.yld 4),(4,.ptr 3 0 0 1),(142,.isl false false 16 (s.Doors.map Door.enc)),(143,I s.Doors.length),(144,.int .i64 0)] (thH s e a m)=some (if s.Doors.all (fun x=>!ZoT (Zor s e) x||Zou s m x.Owner)=true then .exit 6 else .ret,fr',h')∧
  (s.Doors.all (fun x=>!ZoT (Zor s e) x||Zou s m x.Owner)=true→fr'=[(0,.yld 4),(4,.ptr 3 0 0 1),(142,.isl false false 16 (s.Doors.map Door.enc)),(143,I s.Doors.length),(144,I s.Doors.length)]∧h'=thH s e a m)∧(s.Doors.all (fun x=>!ZoT (Zor s e) x||Zou s m x.Owner)=false→h'=thD s e a m):=by
 have hbl:=Zot s;have hcl:=Zow s;obtain ⟨hf4,hf5⟩:=ZoI s e a m;have hS:∀ n,Zd n ((Zor s e).map encS)=true:=fun n=>ZN _ (Zw (fun t=>rfl) _)
 have L:=Jk (E:=rE) (live:=[0,4,142,143,144]) (b:=c179L3b) s.Doors (fun _ x=>!ZoT (Zor s e) x||Zou s m x.Owner) (fun i=>[(0,.yld 4),(4,.ptr 3 0 0 1),(142,.isl false false 16 (s.Doors.map Door.enc)),(143,I s.Doors.length),(144,I i)]) (fun _=>thH s e a m) 6
  (fun fr h'=>fr=[(0,.yld 4),(4,.ptr 3 0 0 1),(142,.isl false false 16 (s.Doors.map Door.enc)),(143,I s.Doors.length),(144,I s.Doors.length)]∧h'=thH s e a m) (fun _ h'=>h'=thD s e a m) (fun i=>rfl)
  (fun i x hx hP=>by
   have:=ZpV s e a m h i x hx hl (ho x (ZE6 hx)) hd;rw [hP,cond_true] at this;exact ⟨_,this,rfl⟩)
  (fun i x hx hP=>by
   have:=ZpV s e a m h i x hx hl (ho x (ZE6 hx)) hd;rw [hP,cond_false] at this;exact ⟨_,_,this,rfl⟩)
  ⟨[(0,.yld 4),(4,.ptr 3 0 0 1),(142,.isl false false 16 (s.Doors.map Door.enc)),(143,I s.Doors.length),(144,I s.Doors.length)],thH s e a m,by simp only [go_sem,qy,qq,reduceIte,c179L3b,thX,ZG,hf4,hS],rfl,rfl⟩
 rw [QE] at L;exact L
def owH (e:Event) (l:List Str):Hp:=[.row 1 [I 0],.row 1 [.clo (.func 178) [] [evI e]],.row 1 (l.map encS),.row 1 [.sl 2 l.length 0 l.length false]]
theorem Zpd (e:Event) (l:List Str) (x:Str) (hl:l.length≤1000000) (r:List AObj):appW (owH e l++r) true 1 16 (.sl 2 l.length 0 l.length false) (.isl false false 1 [.str x]) =
 some (.sl 2 (l.length+1) 0 (l.length+1) false,[.row 1 [I 0],.row 1 [.clo (.func 178) [] [evI e]],.row 1 ((l++[x]).map encS),.row 1 [.sl 2 l.length 0 l.length false]]++r):=by
 have:=XC (h:=owH e l++r) (fz:=true) (b:=2) (g:=l.length) (sz:=1) (bytes:=16) (es:=l.map encS) (bw:=false) (ex:=false) (ys:=[.str x]) (by
  show (bif (l.map encS).length==l.length then some (1,l.map encS) else none)=_
  rw [ZDY,beq_self_eq_true];rfl) rfl rfl (by decide) (by decide) (by simp;omega)
 rw [this,ZE8];rfl
theorem ZoU (e:Event) (n:Nat):bel n (evI e)=true:=by
 have hc:Z4 [evI e]=true:=by simp only [go_sem]
 have:=ZN (n:=n) [evI e] hc;unfold Zd at this;rw [ZE0] at this;exact this.1
theorem ZqI (s:Sta) (e:Event) (l:List Str) (hl:l.length+e.Lst.l.length≤100000):Zg rE [2,3,5,6,35,36,37] c98L0b [(2,.iptr false [ldI s]),(3,evI e),(5,.ptr 1 0 0 1),(6,.ptr 3 0 0 1),(35,.isl false e.Lst.ex 7 (e.Lst.l.map Ent.enc)),(36,I e.Lst.l.length),(37,.int .i64 0)] (owH e l) =
 some (.exit 0,[(2,.iptr false [ldI s]),(3,evI e),(5,.ptr 1 0 0 1),(6,.ptr 3 0 0 1),(35,.isl false e.Lst.ex 7 (e.Lst.l.map Ent.enc)),(36,I e.Lst.l.length),(37,I e.Lst.l.length)],owH e (l++e.Lst.l.map (·.Id))):=by
 have hbl:=Zot s;have hbe:=ZoU e;have hS:∀ (D:List Str) n,Zd n (D.map encS)=true:=fun D n=>ZN _ (Zw (fun t=>rfl) _)
 have L:=Y8 (E:=rE) (live:=[2,3,5,6,35,36,37]) (b:=c98L0b) e.Lst.l.length (fun i=>[(2,.iptr false [ldI s]),(3,evI e),(5,.ptr 1 0 0 1),(6,.ptr 3 0 0 1),(35,.isl false e.Lst.ex 7 (e.Lst.l.map Ent.enc)),(36,I e.Lst.l.length),(37,I i)])
  (fun i=>owH e (l++(e.Lst.l.take i).map (·.Id))) (fun i=>rfl)
  (fun i hi=>by
   obtain ⟨x,hx⟩:∃ x,e.Lst.l[i]? = some x:=⟨_,ZDZ hi⟩;have hg:=Z6 (f:=Ent.enc) hx;have hi':=Zh hi;have hwr:=Zx (n:=i) (by omega)
   have htk:l++(e.Lst.l.take (i+1)).map (·.Id)=(l++(e.Lst.l.take i).map (·.Id))++[x.Id]:=by
    rw [ZED,hx,ZE8,ZEy];rfl
   have hlen:(l++(e.Lst.l.take i).map (·.Id)).length≤1000000:=by rw [ZEh,ZDY,ZEs];omega
   rw [htk];generalize l++(e.Lst.l.take i).map (·.Id)=D at *;have ha:=fun q=>Zpd e D x.Id hlen [q]
   simp only [owH,ZE3,ZE1] at ha;have hl1:(D++[x.Id]).length=D.length+1:=by simp
   refine ⟨[(2,.iptr false [ldI s]),(3,evI e),(5,.ptr 1 0 0 1),(6,.ptr 3 0 0 1),(35,.isl false e.Lst.ex 7 (e.Lst.l.map Ent.enc)),(36,I e.Lst.l.length),(37,I (i+1:Nat))],?_,rfl⟩;unfold owH;rw [hl1];simp only [go_sem,qy,qq,qv,qk,reduceIte,c98L0b,hg,hi',hwr,ha,Ent.enc,hbe,hS])
  (e:=.exit 0) (fr:=[(2,.iptr false [ldI s]),(3,evI e),(5,.ptr 1 0 0 1),(6,.ptr 3 0 0 1),(35,.isl false e.Lst.ex 7 (e.Lst.l.map Ent.enc)),(36,I e.Lst.l.length),(37,I e.Lst.l.length)]) (h:=owH e (l++e.Lst.l.map (·.Id))) (by
   rw [ZEj];simp only [go_sem,qy,qq,qv,reduceIte,c98L0b,owH,ZG,hbe,hS]) (by simp)
 have e0:l++(e.Lst.l.take 0).map (·.Id)=l:=by simp
 rw [e0] at L;exact L
theorem ZqJ (s:Sta) (e:Event) (l:List Str) (hl:l.length+s.Units.length≤100000):Zg rE [2,3,5,6,54,55,56] c98L1b [(2,.iptr false [ldI s]),(3,evI e),(5,.ptr 1 0 0 1),(6,.ptr 3 0 0 1),(54,.isl false false 6 (s.Units.map Unit'.enc)),(55,I s.Units.length),(56,.int .i64 0)] (owH e l) =
 some (.exit 2,[(2,.iptr false [ldI s]),(3,evI e),(5,.ptr 1 0 0 1),(6,.ptr 3 0 0 1),(54,.isl false false 6 (s.Units.map Unit'.enc)),(55,I s.Units.length),(56,I s.Units.length)],owH e (l++(s.Units.filter (fun u=>Z3 u.Id e.Id)).map (·.Door))):=by
 have hbl:=Zot s;have hbe:=ZoU e;have hS:∀ (D:List Str) n,Zd n (D.map encS)=true:=fun D n=>ZN _ (Zw (fun t=>rfl) _)
 have L:=Y8 (E:=rE) (live:=[2,3,5,6,54,55,56]) (b:=c98L1b) s.Units.length (fun i=>[(2,.iptr false [ldI s]),(3,evI e),(5,.ptr 1 0 0 1),(6,.ptr 3 0 0 1),(54,.isl false false 6 (s.Units.map Unit'.enc)),(55,I s.Units.length),(56,I i)])
  (fun i=>owH e (l++((s.Units.take i).filter (fun u=>Z3 u.Id e.Id)).map (·.Door))) (fun i=>rfl)
  (fun i hi=>by
   obtain ⟨x,hx⟩:∃ x,s.Units[i]? = some x:=⟨_,ZDZ hi⟩;have hg:=Z6 (f:=Unit'.enc) hx;have hi':=Zh hi;have hwr:=Zx (n:=i) (by omega)
   have htk:l++((s.Units.take (i+1)).filter (fun u=>Z3 u.Id e.Id)).map (·.Door)=(l++((s.Units.take i).filter (fun u=>Z3 u.Id e.Id)).map (·.Door))++bif Z3 x.Id e.Id then [x.Door] else []:=by
    rw [ZED,hx,List.filter_append,ZE8,ZEy];congr 2;show ([x].filter _).map _=_
    cases hc:Z3 x.Id e.Id<;>simp [hc]
   have hlen:(l++((s.Units.take i).filter (fun u=>Z3 u.Id e.Id)).map (·.Door)).length≤1000000:=by
    rw [ZEh,ZDY];have:=ZES (fun u:Unit'=>Z3 u.Id e.Id) (s.Units.take i)
    rw [ZEs] at this;omega
   rw [htk];generalize l++((s.Units.take i).filter (fun u=>Z3 u.Id e.Id)).map (·.Door)=D at *
   refine ⟨[(2,.iptr false [ldI s]),(3,evI e),(5,.ptr 1 0 0 1),(6,.ptr 3 0 0 1),(54,.isl false false 6 (s.Units.map Unit'.enc)),(55,I s.Units.length),(56,I (i+1:Nat))],?_,rfl⟩;cases c:Z3 x.Id e.Id with
   | false=>
    rw [cond_false,ZE2];simp only [go_sem,qy,qq,qv,qk,reduceIte,c98L1b,owH,hg,hi',hwr,Unit'.enc,c,hbe,hS]
   | true=>
    rw [cond_true];have ha:=fun q=>Zpd e D x.Door hlen [q]
    simp only [owH,ZE3,ZE1] at ha;have hl1:(D++[x.Door]).length=D.length+1:=by simp
    unfold owH;rw [hl1];simp only [go_sem,qy,qq,qv,qk,reduceIte,c98L1b,hg,hi',hwr,ha,Unit'.enc,c,hbe,hS])
  (e:=.exit 2) (fr:=[(2,.iptr false [ldI s]),(3,evI e),(5,.ptr 1 0 0 1),(6,.ptr 3 0 0 1),(54,.isl false false 6 (s.Units.map Unit'.enc)),(55,I s.Units.length),(56,I s.Units.length)]) (h:=owH e (l++(s.Units.filter (fun u=>Z3 u.Id e.Id)).map (·.Door))) (by
   rw [ZEj];simp only [go_sem,qy,qq,qv,reduceIte,c98L1b,owH,ZG,hbe,hS]) (by simp)
 have e0:l++((s.Units.take 0).filter (fun u=>Z3 u.Id e.Id)).map (·.Door)=l:=by simp
 rw [e0] at L;exact L
theorem ZqK (l:List Str) (ex:Bool) (hl:l.length≤1000000) (h:Hp):fnV rE 78 [.isl false ex 1 (l.map encS)] h=some (.sl h.length l.length 0 l.length false,h++[.row 1 (l.map encS)]):=by
 have hble:Nat.ble l.length 1000000=true:=ZEu hl;have hfit:(l.map encS).all (fits 1)=true:=by rw [ZEA,ZEd];intro x _;rfl
 rw [V8 (s:=J9) rfl];simp only [J9,Q2,Qq,hfit,ZDY,hble,beq_self_eq_true,ZE5,ZEm,cond_true]
end Go.AM
namespace Go.AM
open Go
theorem c98_eq:c98=.seq s98p0 (.seq s98p1 (.seq s98p2 (.seq s98p3 (.seq s98p4 (.seq s98p5 (.seq s98p6 (.seq s98p7 .ret))))))):=rfl
def owG (s:Sta) (e:Event) (k:Nat) (b:Bool):Fr:=bif b then [(2,.iptr false [ldI s]),(3,evI e),(5,.ptr 1 0 0 1),(6,.ptr 3 0 0 1)] else [(2,.iptr false [ldI s]),(3,evI e),(5,.ptr 1 0 0 1),(6,.ptr 3 0 0 1),(k,.bool false)]
def ow1 (e:Event) (l:List Str):List Str:=l++bif kOf [9,12] e then [e.Id] else []
def ow2 (e:Event) (l:List Str):List Str:=l++bif kOf [7] e then [e.Other] else []
def ow3 (e:Event) (l:List Str):List Str:=l++bif kOf [8] e then e.Lst.l.map (·.Id) else []
def ow4 (s:Sta) (e:Event) (l:List Str):List Str:=l++bif kOf [12] e then (s.Units.filter (fun u=>Z3 u.Id e.Id)).map (·.Door) else []
theorem ZpW (s:Sta) (e:Event):Zor s e=ow4 s e (ow3 e (ow2 e (ow1 e e.Ids.l))):=rfl
theorem ZqL (s:Sta) (e:Event) (l:List Str) (b:Bool) (hl:l.length≤100000):Zb rE s98p3 (owG s e 0 b) (owH e l)=some (.normal,owG s e 17 (kOf [9,12] e),owH e (ow1 e l)):=by
 have hbl:=Zot s;have hbe:=ZoU e;have hS:∀ (D:List Str) n,Zd n (D.map encS)=true:=fun D n=>ZN _ (Zw (fun t=>rfl) _)
 have hk:=ZoJ e [9,12] false (by decide)
 simp only [ZE7,ZEb] at hk;unfold ow1;cases c:kOf [9,12] e with
 | false=>
  rw [c] at hk;rw [cond_false,ZE2];cases b<;>simp only [go_sem,qy,qq,qv,qk,s98p3,owG,cond_true,cond_false,owH,hk,hbe,hS]
 | true=>
  rw [c] at hk;rw [cond_true];have ha:=Zpd e l e.Id (by omega) []
  have hl1:(l++[e.Id]).length=l.length+1:=by simp
  unfold owH at ha ⊢;rw [hl1];simp only [ZE2] at ha;cases b<;>simp only [go_sem,qy,qq,qv,qk,s98p3,owG,cond_true,cond_false,hk,ha,hbe,hS]
theorem ZqM (s:Sta) (e:Event) (l:List Str) (b:Bool) (hl:l.length≤100000):Zb rE s98p4 (owG s e 17 b) (owH e l)=some (.normal,owG s e 25 (kOf [7] e),owH e (ow2 e l)):=by
 have hbl:=Zot s;have hbe:=ZoU e;have hS:∀ (D:List Str) n,Zd n (D.map encS)=true:=fun D n=>ZN _ (Zw (fun t=>rfl) _)
 have hk:=ZoJ e [7] false (by decide)
 simp only [ZE7,ZEb] at hk;unfold ow2;cases c:kOf [7] e with
 | false=>
  rw [c] at hk;rw [cond_false,ZE2];cases b<;>simp only [go_sem,qy,qq,qv,qk,s98p4,owG,cond_true,cond_false,owH,hk,hbe,hS]
 | true=>
  rw [c] at hk;rw [cond_true];have ha:=Zpd e l e.Other (by omega) []
  have hl1:(l++[e.Other]).length=l.length+1:=by simp
  unfold owH at ha ⊢;rw [hl1];simp only [ZE2] at ha;cases b<;>simp only [go_sem,qy,qq,qv,qk,s98p4,owG,cond_true,cond_false,hk,ha,hbe,hS]
theorem ZqN (s:Sta) (e:Event) (l:List Str) (b:Bool) (hl:l.length+e.Lst.l.length≤100000):Zb rE s98p5 (owG s e 25 b) (owH e l)=some (.normal,owG s e 33 (kOf [8] e),owH e (ow3 e l)):=by
 have hbl:=Zot s;have hbe:=ZoU e;have hS:∀ (D:List Str) n,Zd n (D.map encS)=true:=fun D n=>ZN _ (Zw (fun t=>rfl) _)
 have hE:∀ n,Zd n (e.Lst.l.map Ent.enc)=true:=fun n=>ZN _ (Zw (fun t=>rfl) _)
 have hk:=ZoJ e [8] false (by decide)
 simp only [ZE7,ZEb] at hk;unfold ow3;cases c:kOf [8] e with
 | false=>
  rw [c] at hk;rw [cond_false,ZE2];cases b<;>simp only [go_sem,qy,qq,qv,qk,s98p5,owG,cond_true,cond_false,owH,hk,hbe,hS]
 | true=>
  rw [c] at hk;rw [cond_true];have hL:=ZqI s e l hl;generalize l++e.Lst.l.map (·.Id)=D at *;unfold owH at hL ⊢;cases b<;>simp only [go_sem,qy,qq,qv,qk,s98p5,c98L0,owG,cond_true,cond_false,hk,hL,hbe,hS]
theorem ZqO (s:Sta) (e:Event) (l:List Str) (b:Bool) (hl:l.length+s.Units.length≤100000):Zb rE s98p6 (owG s e 33 b) (owH e l)=some (.normal,owG s e 49 (kOf [12] e),owH e (ow4 s e l)):=by
 have hbl:=Zot s;have hbe:=ZoU e;have hS:∀ (D:List Str) n,Zd n (D.map encS)=true:=fun D n=>ZN _ (Zw (fun t=>rfl) _)
 have hE:∀ n,Zd n (s.Units.map Unit'.enc)=true:=fun n=>ZN _ (Zw (fun t=>rfl) _)
 have hk:=ZoJ e [12] false (by decide)
 simp only [ZE7,ZEb] at hk;unfold ow4;cases c:kOf [12] e with
 | false=>
  rw [c] at hk;rw [cond_false,ZE2];cases b<;>simp only [go_sem,qy,qq,qv,qk,s98p6,owG,cond_true,cond_false,owH,hk,hbe,hS]
 | true=>
  rw [c] at hk;rw [cond_true];have hL:=ZqJ s e l hl;generalize l++(s.Units.filter (fun u=>Z3 u.Id e.Id)).map (·.Door)=D at *
  unfold owH at hL ⊢;cases b<;>simp only [go_sem,qy,qq,qv,qk,s98p6,c98L1,owG,cond_true,cond_false,hk,hL,hbe,hS]
theorem ZqP (s:Sta) (e:Event) (hl:e.Ids.l.length≤1000000):Zb rE s98p2 [(2,.iptr false [ldI s]),(3,evI e),(5,.ptr 1 0 0 1)] [.row 1 [I 0],.row 1 [.clo (.func 178) [] [evI e]]]=some (.normal,owG s e 0 true,owH e e.Ids.l):=by
 have hC:=ZqK e.Ids.l e.Ids.ex hl [.row 1 [I 0],.row 1 [.clo (.func 178) [] [evI e]]];have hbl:=Zot s;have hbe:=ZoU e;have hS:∀ (D:List Str) n,Zd n (D.map encS)=true:=fun D n=>ZN _ (Zw (fun t=>rfl) _)
 unfold owH owG;simp only [go_sem,qy,qq,qv,s98p2,cond_true,hC,hbe]
theorem ZpX (s:Sta) (e:Event) (h1:e.Ids.l.length≤1000) (h2:e.Lst.l.length≤1000) (h3:s.Units.length≤1000):(ow1 e e.Ids.l).length≤1001∧(ow2 e (ow1 e e.Ids.l)).length≤1002∧(ow3 e (ow2 e (ow1 e e.Ids.l))).length≤2002∧(Zor s e).length≤3002:=by
 have a1:(ow1 e e.Ids.l).length≤1001:=by
  unfold ow1;cases kOf [9,12] e<;>simp<;>omega
 have a2:(ow2 e (ow1 e e.Ids.l)).length≤1002:=by
  unfold ow2;cases kOf [7] e<;>simp<;>omega
 have a3:(ow3 e (ow2 e (ow1 e e.Ids.l))).length≤2002:=by
  rw [ow3];cases kOf [8] e<;>simp<;>omega
 refine ⟨a1,a2,a3,?_⟩;rw [ZpW,ow4];have:=ZES (fun u:Unit'=>Z3 u.Id e.Id) s.Units
 cases kOf [12] e<;>simp<;>omega
theorem ZqQ (s:Sta) (e:Event) (h1:e.Ids.l.length≤1000) (h2:e.Lst.l.length≤1000) (h3:s.Units.length≤1000):fnV rE 98 [ldI s,evA e] [.row 1 [I 0]]=some (.clo (.func 179) [] [.iptr false [ldI s],.ptr 1 0 0 1,evI e,.ptr 3 0 0 1],owH e (Zor s e)):=by
 obtain ⟨a1,a2,a3,a4⟩:=ZpX s e h1 h2 h3;have q2:=ZqP s e (by omega)
 have q3:=ZqL s e e.Ids.l true (by omega)
 have q4:=ZqM s e (ow1 e e.Ids.l) (kOf [9,12] e) (by omega)
 have q5:=ZqN s e (ow2 e (ow1 e e.Ids.l)) (kOf [7] e) (by omega)
 have q6:=ZqO s e (ow3 e (ow2 e (ow1 e e.Ids.l))) (kOf [8] e) (by omega)
 rw [←ZpW] at q6;have hbl:=Zot s;have hcl:=Zow s;have hbe:=ZoU e;have hS:∀ (D:List Str) n,Zd n (D.map encS)=true:=fun D n=>ZN _ (Zw (fun t=>rfl) _)
 have q0:Zb rE s98p0 [(0,ldI s),(1,evA e)] [.row 1 [I 0]]=some (.normal,[(2,.iptr false [ldI s]),(3,evI e)],[.row 1 [I 0]]):=by
  simp only [go_sem,qy,qq,s98p0,hcl,hbe]
 have q1:Zb rE s98p1 [(2,.iptr false [ldI s]),(3,evI e)] [.row 1 [I 0]]=some (.normal,[(2,.iptr false [ldI s]),(3,evI e),(5,.ptr 1 0 0 1)],[.row 1 [I 0],.row 1 [.clo (.func 178) [] [evI e]]]):=by
  simp only [go_sem,qy,qq,qv,s98p1,hbe]
 generalize Zor s e=D at *;have q7:∀ b,∃ fr,Zb rE s98p7 (owG s e 49 b) (owH e D)=some (.normal,fr,owH e D)∧get fr 4=.clo (.func 179) [] [.iptr false [ldI s],.ptr 1 0 0 1,evI e,.ptr 3 0 0 1]:=by
  intro b;cases b
  ·exact ⟨_,by simp only [go_sem,qy,s98p7,owG,owH,cond_true,cond_false]<;>rfl,rfl⟩
  ·exact ⟨_,by simp only [go_sem,qy,s98p7,owG,owH,cond_true,cond_false]<;>rfl,rfl⟩
 obtain ⟨fr,q7,g7⟩:=q7 (kOf [12] e);rw [Q6 (f:=98) rfl rfl,c98_eq];simp only [go_sem,qq,q0,q1,q2,q3,q4,q5,q6,q7,g7]
end Go.AM
namespace Go.AM
open Go
theorem ClS.str {s:Sta} (h:ClS s) {x:Street} (hx:x∈s.Streets):0≤x.Owner∧x.Owner≤63:=by
 have:=h.prop.st x hx;unfold Vp at this;simp only [ZE0] at this;exact Zpa this.1
theorem ClS.bld {s:Sta} (h:ClS s) {x:Building} (hx:x∈s.Buildings):0≤x.Owner∧x.Owner≤63:=by
 have:=h.prop.bu x hx;unfold Vq at this;simp only [ZE0] at this;exact Zpa this.1
theorem ClS.dor {s:Sta} (h:ClS s) {x:Door} (hx:x∈s.Doors):0≤x.Owner∧x.Owner≤63:=by
 obtain ⟨i,hi⟩:=List.getElem?_of_mem hx;have:=h.prop.dr i x hi;unfold Vr at this;simp only [ZE0] at this;exact Zpa this.1
theorem ZqR (s:Sta) (e:Event) (a m:Int) (h:RqS s e m):
 rf rE (.clo (.func 179) [] [.iptr false [ldI s],.ptr 1 0 0 1,evI e,.ptr 3 0 0 1]) [13] c55R0a c55R0b (ZoA s e a m) (owH e (Zor s e))=bif Zpb s e m
  then some (.normal,ZoA s e a m,thX s e a m 0 .exhausted .normal (Zor s e)) else some (.ret,ZoA s e a m,thX s e a m 18 .exhausted .ret (Zor s e)):=by
 have hz:=h.c.E.sizes;have hd:=(ZpX s e (by have:=h.ev.ids;omega) (by have:=h.ev.lst;omega) hz.units).2.2.2
 obtain ⟨f1,h1,L1,A1,B1⟩:=ZqE s e a m h hz.regions (fun x hx=>(h.c.reg hx).1)
 obtain ⟨f2,h2,L2,A2,B2⟩:=ZqF s e a m h hz.streets (fun x hx=>(h.c.str hx).1)
 obtain ⟨f3,h3,L3,A3,B3⟩:=ZqG s e a m h hz.buildings (fun x hx=>(h.c.bld hx).1)
 obtain ⟨f4,h4,L4,A4,B4⟩:=ZqH s e a m h hz.doors (fun x hx=>(h.c.dor hx).1) (by omega)
 have hbl:=Zot s;have hcl:=Zow s;obtain ⟨hf4,hf5⟩:=ZoI s e a m;have hS:∀ n,Zd n ((Zor s e).map encS)=true:=fun n=>ZN _ (Zw (fun t=>rfl) _)
 unfold Zpb;rw [Z1k (c:=c179) rfl];cases c1:s.Regions.all (fun x=>!ZoQ e x||Zou s m x.Owner) with
 | false=>
  have e1:=B1 c1;subst e1;rw [c1] at L1;simp only [thX,ZEf,if_false] at L1;rw [ZE9,cond_false];simp only [go_sem,qy,qq,c179,c179L0,owH,thX,ZE3,ZE1,L1,hf4,hS];rfl
 | true=>
 obtain ⟨e1,e1'⟩:=A1 c1;subst e1;subst e1';rw [c1] at L1;simp only [thX,if_true] at L1;cases c2:s.Streets.all (fun x=>!ZoR e x||Zou s m x.Owner) with
 | false=>
  have e1:=B2 c2;subst e1;rw [c2] at L2;simp only [thX,ZEf,if_false] at L2;rw [ZE4,ZE9,cond_false];simp only [go_sem,qy,qq,c179,c179L0,c179L1,owH,thX,ZE3,ZE1,L1,L2,hf4,hS];rfl
 | true=>
 obtain ⟨e1,e1'⟩:=A2 c2;subst e1;subst e1';rw [c2] at L2;simp only [thX,if_true] at L2;cases c5003:s.Buildings.all (fun x=>!ZoS e x||Zou s m x.Owner) with
 | false=>
  have e1:=B3 c5003;subst e1;rw [c5003] at L3;simp only [thX,ZEf,if_false] at L3;rw [ZE4,ZE4,ZE9,cond_false];simp only [go_sem,qy,qq,c179,c179L0,c179L1,c179L2,owH,thX,ZE3,ZE1,L1,L2,L3,hf4,hS];rfl
 | true=>
 obtain ⟨e1,e1'⟩:=A3 c5003;subst e1;subst e1';rw [c5003] at L3;simp only [thX,if_true] at L3;cases c5004:s.Doors.all (fun x=>!ZoT (Zor s e) x||Zou s m x.Owner) with
 | false=>
  have e1:=B4 c5004;subst e1;rw [c5004] at L4;simp only [thX,ZEf,if_false] at L4;rw [ZE4,ZE4,ZE4,cond_false];simp only [go_sem,qy,qq,c179,c179L0,c179L1,c179L2,c179L3,owH,thX,ZE3,ZE1,L1,L2,L3,L4,hf4,hS];rfl
 | true=>
 obtain ⟨e1,e1'⟩:=A4 c5004;subst e1;subst e1';rw [c5004] at L4;simp only [thX,if_true] at L4;rw [ZE4,ZE4,ZE4,cond_true];simp only [go_sem,qy,qq,c179,c179L0,c179L1,c179L2,c179L3,owH,thX,ZE3,ZE1,L1,L2,L3,L4,hf4,hS];rfl
theorem ZqS (s:Sta) (e:Event) (a m:Int) (h:RqS s e m):pfn rE 55 [rqI s e a m]=some (I (Zp6 s e m)):=by
 have hrf:=ZqR s e a m h;have hO:=ZqQ s e (by have:=h.ev.ids;omega) (by have:=h.ev.lst;omega) h.c.E.sizes.units
 have hcl:=Zow s;have hbl:=Zot s;have hS:∀ n,Zd n ((Zor s e).map encS)=true:=fun n=>ZN _ (Zw (fun t=>rfl) _)
 obtain ⟨hf4,hf5⟩:=ZoI s e a m;generalize Zor s e=D at *;unfold Zp6;rw [Z5 (f:=55) rfl rfl];unfold owH at hrf hO;cases c:Zpb s e m with
 | true=>
  rw [c,cond_true] at hrf;simp only [ZoA] at hrf;simp only [go_sem,qy,qq,qv,qk,c55,hO,Sr,hrf,hS,thX,ZoA]
 | false=>
  rw [c,cond_false] at hrf;simp only [ZoA] at hrf;simp only [go_sem,qy,qq,qv,qk,c55,hO,Sr,hrf,hS,thX,ZoA]
end Go.AM
namespace Go.AM
open Go
theorem Zpf {a:Int} (h:Zoz a=true):0≤a∧a≤63:=by
 unfold Zoz at h;simpa using h
def cvV:List (Nat×Int)→Int
 | []=>0
 | x::l=>bif x.2==0 then cvV l else x.2
abbrev cvF (R:AV) (L:List (Nat×Int)) (i:Nat):Fr:=[(46,.isl false false 1 (L.map fun x=>.clo (.func x.1) [R] [])),(47,I L.length),(48,I i)]
theorem ZpY (R:AV) (hc:clean R=true) (L:List (Nat×Int)) (hl:L.length≤1000) (hp:∀ x∈L,pfn rE x.1 [R]=some (I x.2)):∀ (k i:Nat),i+k=L.length→
 ∃ fr',Zg rE [46,47,48] c26L0b (cvF R L i) []=some (bif cvV (L.drop i)==0 then .exit 0 else .ret,fr',[])∧(cvV (L.drop i)≠0→get fr' 6=I (cvV (L.drop i)))
 | 0,i,hk=>by
  have hi:i=L.length:=by omega
  subst hi;refine ⟨_,Q7 rfl (e:=.exit 0) (by simp only [go_sem,qy,reduceIte,c26L0b,ZG]<;>rfl) (by simp) |>.trans (by rw [List.drop_length];rfl),?_⟩
  rw [List.drop_length];exact fun h=>absurd rfl h
 | k+1,i,hk=>by
  obtain ⟨x,hx⟩:∃ x,L[i]? = some x:=⟨_,ZDZ (by omega)⟩
  have hg:=Z6 (f:=fun x:Nat×Int=>AV.clo (.func x.1) [R] []) hx
  have hi':=Zh (Z7 hx);have hwr:=Zx (n:=i) (by have:=Z7 hx;omega)
  have hy:=hp x (ZE6 hx);have hd:L.drop i=x::L.drop (i+1):=by
   have h1:=ZEC (Z7 hx);rw [h1];congr 1;have:=ZDZ (Z7 hx);rw [this] at hx;exact Option.some.inj hx
  rw [hd,cvV];cases c:x.2==0 with
  | true=>
   have hn:(x.2 != 0)=false:=by rw [bne,c];rfl
   obtain ⟨fr',h1,h2⟩:=ZpY R hc L hl hp k (i+1) (by omega)
   refine ⟨fr',?_,h2⟩;rw [cond_true,Yt rfl (fr':=(6,.bot)::cvF R L (i+1)) (h':=[]) (by
    simp only [go_sem,qy,reduceIte,c26L0b,hg,hi',hwr,hy,hn,hc])]
   exact h1
  | false=>
   have hn:(x.2 != 0)=true:=by rw [bne,c];rfl
   rw [cond_false,c,cond_false];refine ⟨_,Q7 rfl (e:=.ret) (fr':=[(6,I x.2),(46,.isl false false 1 (L.map fun x=>.clo (.func x.1) [R] [])),(47,I L.length),(48,I i)]) (by
    simp only [go_sem,qy,reduceIte,c26L0b,hg,hi',hy,hn,hc]) (by simp),fun _=>rfl⟩
def ZoN (s:Sta) (a:Int) (e:Event):Int:=bif !Jx s||(!Zoz a||!Q9 e) then 1 else
 cvV [(54,Zp0 s e a (Zoq s a)),(55,Zp6 s e (Zoq s a)),(56,Zp5 s e (Zoq s a)),(57,Zp1 s e a (Zoq s a))]
theorem Zpq (s:Sta) (hE:StE s) (a:Int) (e:Event) (hv:EvS e):pfn rE 26 [stA s,I a,evA e]=some (I (ZoN s a e)):=by
 have hO:=Zp7 s hE;have hA:=Zp8 a;have hF:=NH e hv;have hcl:=Zow s;have hbl:=Zot s;unfold ZoN;rw [Z5 (f:=26) rfl rfl];cases c:Jx s with
 | false=>
  rw [c] at hO;simp only [go_sem,qy,qq,qk,c26,hO,ZEk,ZE5]
 | true=>
 rw [c] at hO;cases c1:Zoz a with
 | false=>
  rw [c1] at hA;simp only [go_sem,qy,qq,qk,c26,hO,hA,ZEk,ZE5,ZEe,ZEa]
 | true=>
 rw [c1] at hA;cases c2:Q9 e with
 | false=>
  rw [c2] at hF;simp only [go_sem,qy,qq,qk,c26,hO,hA,hF,ZEk,ZEe,ZEa]
 | true=>
 rw [c2] at hF;have h:ClS s:=⟨hE,c⟩;have m1:=h.mst (Zpf c1).1;have hr:0≤Zoq s a∧Zoq s a≤63:=ZpH h.prop.pa (Zpf c1);have hq:RqS s e (Zoq s a):=⟨h,hv,c2,hr⟩;generalize Zoq s a=m at *;have hR:clean (rqI s e a m)=true:=by simp only [go_sem]
 obtain ⟨fr',L1,L2⟩:=ZpY (rqI s e a m) hR [(54,Zp0 s e a m),(55,Zp6 s e m),(56,Zp5 s e m),(57,Zp1 s e a m)] (by simp) (by
  intro x hx;simp only [List.mem_cons,List.not_mem_nil,or_false] at hx;rcases hx with rfl | rfl | rfl | rfl
  ·exact Zqw s e a m hq
  ·exact ZqS s e a m hq
  ·exact Zqy s e a m hq
  ·exact ZqD s e a m hq) 4 0 rfl
 rw [ZEi] at L1 L2;generalize cvV [(54,Zp0 s e a m),(55,Zp6 s e m),(56,Zp5 s e m),(57,Zp1 s e a m)]=v at *;have hbR:∀ n,bel n (rqI s e a m)=true:=fun n=>by
  have:=ZN (n:=n) [rqI s e a m] (by simp only [Z4,hR,ZEm])
  simpa only [Zd,ZEm] using this
 replace L1:Zg rE [46,47,48] c26L0b [(46,.isl false false 1 [.clo (.func 54) [rqI s e a m] [],.clo (.func 55) [rqI s e a m] [],.clo (.func 56) [rqI s e a m] [],.clo (.func 57) [rqI s e a m] []]),(47,.int .i64 ((4:Nat):Int)),(48,.int .i64 0)] []=some (bif v==0 then .exit 0 else .ret,fr',[]):=L1
 cases c5003:v==0 with
 | true=>
  have hv0:v=0:=by simpa using c5003
  subst hv0;rw [c5003,cond_true] at L1;simp only [go_sem,qy,qq,qv,qk,c26,c26L0,hO,hA,hF,m1,hcl,L1,ZEe,ZEa]
 | false=>
  have hv0:v≠0:=by simpa using c5003
  have g:=L2 hv0;rw [c5003,cond_false] at L1;simp only [go_sem,qy,qq,qv,qk,c26,c26L0,hO,hA,hF,m1,hcl,L1,g,ZEe,ZEa]
end Go.AM
namespace Go.AM
open Go
def Zvw (s:Sta) (a:Int) (e:Event):Int:=bif ZoN s a e==0 then Qk s a e else ZoN s a e
def Zvx (s:Sta) (a:Int) (e:Event):Sta:=bif ZoN s a e==0&&Qk s a e==0 then ZP s a e else s
def Zvi (l:List Ver) (st:Sta×List Int) (p:Nat×Nat):Sta×List Int:=match l[p.1]? with
 | some v=>(match v.Events.l[p.2]? with
  | some e=>(Zvx st.1 v.Authority e,st.2++[Zvw st.1 v.Authority e])
  | none=>st)
 | none=>st
def Zr5 (l:List Ver) (valid known:Int):Sta×List Int:=(Zr3 l valid known).foldl (Zvi l) (Yh,[])
theorem ZyC {l:List Ver} {p:Nat×Nat} {v:Ver} {e:Event} (h1:l[p.1]? = some v) (h2:v.Events.l[p.2]? = some e) (st:Sta×List Int):Zvi l st p=(Zvx st.1 v.Authority e,st.2++[Zvw st.1 v.Authority e]):=by
 unfold Zvi;rw [h1];simp only [h2]
theorem ZeI {e:Event} (h:Xn e=true):∀ x∈e.Lst.l,x.Id.size≤1000:=by
 simp only [Xn,ZE0] at h;obtain ⟨h1,_,_,_,_,_,h6⟩:=h;have k6:=of_decide_eq_true h6;unfold FT at h1;rw [ZEc (by omega)] at h1
 intro x hx;have:=ZEd.1 h1 x hx;unfold M2 at this;simp [ZU] at this;omega
structure VsF (V:NL Ver):Prop where
 s:VsS V
 few:∀ v∈V.l,∀ e∈v.Events.l,Xn e=true
structure StN (n:Nat) (s:Sta):Prop where
 e:StE s
 regions:s.Regions.length≤10 * n
 streets:s.Streets.length≤10 * n
 buildings:s.Buildings.length≤10 * n
 doors:s.Doors.length≤10 * n
 units:s.Units.length≤10 * n
 merged:s.Merged.length≤10 * n
 rulings:s.Rulings.length≤10 * n
theorem StN.f {n:Nat} {s:Sta} (h:StN n s) (hn:n≤50):StF s:=by
 obtain ⟨a,b1,b2,b3,b4,b5,b6,b7⟩:=h;exact ⟨a,by omega,by omega,by omega,by omega,by omega,by omega,by omega⟩
theorem Zx2:StE Yh:=by
 refine ⟨⟨ZDX _,ZDX _,ZDX _,ZDX _,ZDX _,ZDX _,ZDX _⟩,?_,?_,?_,?_,?_⟩
 all_goals (intro x hx;cases hx)
theorem StN.zero (n:Nat):StN n Yh:=⟨Zx2,ZDX _,ZDX _,ZDX _,ZDX _,ZDX _,ZDX _,ZDX _⟩
theorem StN.mono {n m:Nat} {s:Sta} (h:StN n s) (hm:n≤m):StN m s:=by
 obtain ⟨a,b1,b2,b3,b4,b5,b6,b7⟩:=h;exact ⟨a,by omega,by omega,by omega,by omega,by omega,by omega,by omega⟩
theorem StN.apply {n:Nat} {s:Sta} (h:StN n s) (hn:n≤50) (a:Int) {e:Event} (he:Xn e=true):StN (n+1) (ZP s a e):=by
 have hE:=ZeH s (h.f hn) a e (JL e he) (ZeI he);have key:∀ t:Sta,t=ZP s a e→(t.Regions.length≤10 * (n+1)∧t.Streets.length≤10 * (n+1)∧t.Buildings.length≤10 * (n+1)∧t.Doors.length≤10 * (n+1)∧t.Units.length≤10 * (n+1)∧t.Merged.length≤10 * (n+1)∧t.Rulings.length≤10 * (n+1)):=by
  intro t ht;unfold ZP at ht;cases c:okB s a e&&(Q1 (wk0 s a e)==0&&Wh (stepW (wk0 s a e)).s.Doors) with
  | true=>
   rw [c,cond_true] at ht;subst ht;obtain ⟨h1,h2,h3,h4,h5,h6,h7⟩:=Z4u (wk0 s a e) (JL e he).lst;have e0:(wk0 s a e).s=s:=rfl;rw [e0] at h1 h2 h3 h4 h5 h6 h7;obtain ⟨_,b1,b2,b3,b4,b5,b6,b7⟩:=h;exact ⟨by omega,by omega,by omega,by omega,by omega,by omega,by omega⟩
  | false=>
   rw [c,cond_false] at ht;subst ht;exact ⟨ZDX _,ZDX _,ZDX _,ZDX _,ZDX _,ZDX _,ZDX _⟩
 obtain ⟨k1,k2,k3,k4,k5,k6,k7⟩:=key _ rfl;exact ⟨hE,k1,k2,k3,k4,k5,k6,k7⟩
theorem StN.sta {n:Nat} {s:Sta} (h:StN n s) (hn:n≤50) (a:Int) {e:Event} (he:Xn e=true):StN (n+1) (Zvx s a e):=by
 unfold Zvx;cases ZoN s a e==0&&Qk s a e==0 with
 | true=>exact h.apply hn a he
 | false=>exact h.mono (ZEH _)
theorem ZyD {V:NL Ver} (hV:VsF V) {p:Nat×Nat} {v:Ver} {e:Event} (h1:V.l[p.1]? = some v) (h2:v.Events.l[p.2]? = some e):Xn e=true:=hV.few v (ZE6 h1) e (ZE6 h2)
theorem Zx3 {V:NL Ver} (hV:VsF V):∀ (O:List (Nat×Nat)) (n:Nat) (st:Sta×List Int),StN n st.1→n+O.length≤50→StN (n+O.length) (O.foldl (Zvi V.l) st).1∧(O.foldl (Zvi V.l) st).2.length≤st.2.length+O.length
 | [],n,st,h,_=>⟨h,ZEo _⟩
 | p::r,n,st,h,hl=>by
  rw [ZEn] at hl ⊢;rw [ZEv];have h1:StN (n+1) (Zvi V.l st p).1∧(Zvi V.l st p).2.length≤st.2.length+1:=by
   unfold Zvi;cases hv:V.l[p.1]? with
   | none=>exact ⟨h.mono (ZEH _),ZEH _⟩
   | some v=>
    dsimp only;cases he:v.Events.l[p.2]? with
    | none=>exact ⟨h.mono (ZEH _),ZEH _⟩
    | some e=>exact ⟨h.sta (by omega) _ (ZyD hV hv he),by simp⟩
  obtain ⟨h2,h3⟩:=Zx3 hV r (n+1) _ h1.1 (by omega)
  rw [show n+(r.length+1)=n+1+r.length by omega]
  exact ⟨h2,by omega⟩
theorem ZsZ (s:Sta):Z4 [stA s]=true:=by
 have h1:Z4 (s.Regions.map Region.enc)=true:=Zw (fun t=>rfl) _
 have h2:Z4 (s.Streets.map Street.enc)=true:=Zw (fun t=>rfl) _
 have h3:Z4 (s.Buildings.map Building.enc)=true:=Zw (fun t=>rfl) _
 have h4:Z4 (s.Doors.map Door.enc)=true:=Zw (fun t=>rfl) _
 have h5:Z4 (s.Units.map Unit'.enc)=true:=Zw (fun t=>rfl) _
 have h6:Z4 (s.Merged.map Pair.enc)=true:=Zw (fun t=>rfl) _
 have h7:Z4 (s.Rulings.map Pair.enc)=true:=Zw (fun t=>rfl) _
 simp only [go_sem,qy,qq,qx,qz,qv,qk,reduceIte,h1,h2,h3,h4,h5,h6,h7]
abbrev asF (V:NL Ver) (O:List (Nat×Nat)) (n i:Nat):Fr:=[(0,vsA V),(6,.ptr 0 0 0 1),(8,.ptr 1 0 0 1),(9,.sl 2 n 0 n false),(19,.isl false false 2 (O.map prA)),(20,I O.length),(21,I i)]
abbrev asH (s:Sta) (errs:List Int):Hp:=[.row 7 [stA Yh],.row 7 [stA s],.row 1 (errs.map I)]
theorem ZyE (s:Sta) (errs:List Int) (x:Int) (hl:errs.length≤100000) (r:List AObj):appW (.row 7 [stA Yh]::.row 7 [stA s]::.row 1 (errs.map I)::r) false 1 8 (.sl 2 errs.length 0 errs.length false) (.isl false false 1 [I x])=some (.sl 2 (errs.length+1) 0 (errs.length+1) false,.row 7 [stA Yh]::.row 7 [stA s]::.row 1 ((errs++[x]).map I)::r):=by
 have:=XC (h:=.row 7 [stA Yh]::.row 7 [stA s]::.row 1 (errs.map I)::r) (fz:=false) (b:=2) (g:=errs.length) (sz:=1) (bytes:=8) (es:=errs.map I) (bw:=false) (ex:=false) (ys:=[I x]) (by simp [rowAt]) rfl rfl (by decide) (by decide) (by simp;omega)
 rw [this,ZE8];rfl
theorem ZAh (V:NL Ver) (hV:VsF V) (O:List (Nat×Nat)) (hO:∀ p∈O,InL V.l p) (hl:O.length≤40):
 Zg rE [0,6,8,9,19,20,21] c11L0b (asF V O 0 0) (asH Yh []) =
  some (.exit 0,asF V O (O.foldl (Zvi V.l) (Yh,[])).2.length O.length,asH (O.foldl (Zvi V.l) (Yh,[])).1 (O.foldl (Zvi V.l) (Yh,[])).2):=by
 have hq:∀ (t:Sta) n,Zj n (.row 7 [stA t])=true:=fun t n=>ZN (n:=n) [stA t] (ZsZ t)
 have hqe:∀ (e:Event) n,Zj n (.row 18 [evA e])=true:=fun e n=>ZN (n:=n) [evA e] (ZwW e)
 have hqp:∀ (a b:Nat) n,Zj n (.row 2 [.agg [I a,I b]])=true:=fun a b n=>rfl
 have hqi:∀ (l:List Int) n,Zd n (l.map I)=true:=fun l n=>ZN _ (Zw (fun t=>rfl) l)
 have z0:((0:Int)≤0∧(0:Int) < ((2:Nat):Int))=True:=by simp
 have z1:((0:Int)≤1∧(1:Int) < ((2:Nat):Int))=True:=by simp
 have t0:Int.toNat 0 * 1=0:=rfl;have t1:Int.toNat 1 * 1=1:=rfl;have L:=Y8 (E:=rE) (live:=[0,6,8,9,19,20,21]) (b:=c11L0b) O.length (fun i=>asF V O ((O.take i).foldl (Zvi V.l) (Yh,[])).2.length i) (fun i=>asH ((O.take i).foldl (Zvi V.l) (Yh,[])).1 ((O.take i).foldl (Zvi V.l) (Yh,[])).2) (fun i=>rfl)
  (fun i hi=>by
   obtain ⟨p,hp⟩:∃ p,O[i]? = some p:=⟨_,ZDZ hi⟩;obtain ⟨v,e,h1,h2⟩:=hO p (ZE6 hp);have hg:=Z6 (f:=prA) hp;have hg1:=Z6 (f:=Ver.enc) h1;have hg2:=Z6 (f:=fun e=>evA e) h2
   have hi':=Zh hi;have hwr:=Zx (n:=i) (by omega)
   have hfe:=ZyD hV h1 h2;have hz:=Zx3 hV (O.take i) 0 (Yh,[]) (StN.zero 0) (by simp;omega)
   rw [Us _ _ hp,ZyC h1 h2];have hle:(O.take i).length≤i:=by simp;omega
   generalize hst:(O.take i).foldl (Zvi V.l) (Yh,[])=st at *;obtain ⟨s,errs⟩:=st;have hs:StF s:=hz.1.f (by omega)
   have he2:errs.length≤100:=by have:errs.length≤0+(O.take i).length:=hz.2;omega
   have hC:=Zpq s hs.e v.Authority e (JL e hfe);have hY:=JJ s hs v.Authority e (JL e hfe);refine ⟨asF V O (errs++[Zvw s v.Authority e]).length (i+1),?_,rfl⟩;show Zb rE c11L0b (asF V O errs.length i) (asH s errs)=some (.normal,asF V O (errs++[Zvw s v.Authority e]).length (i+1),asH (Zvx s v.Authority e) (errs++[Zvw s v.Authority e]))
   have hA:=fun x r=>ZyE s errs x (by omega) r
   have hA2:=fun x r=>ZyE (ZP s v.Authority e) errs x (by omega) r
   unfold Zvx Zvw;have hqs:=hq s;have hqz:=hq Yh;have hqa:=hq (ZP s v.Authority e);have hqe':=hqe e;have hE:=hqi errs;have hE2:=fun x=>hqi (errs++[x])
   generalize ZP s v.Authority e=t at *;generalize Qk s v.Authority e=f at *;generalize ZoN s v.Authority e=c at *;have hv:v.enc=.agg [I v.Authority,I v.Number,I v.At,.str v.Prev,.isl false v.Events.ex 18 (v.Events.l.map fun e=>evA e),I v.Index,.isl false v.Sig.ex 1 (v.Sig.l.map encS),.isl false v.Path.ex 1 (v.Path.l.map encS)]:=rfl
   rw [hv] at hg1;cases c1:c==0 with
   | false=>
    rw [ZE9,cond_false,cond_false];simp only [go_sem,qy,qq,qx,qz,qv,qk,reduceIte,c11L0b,asF,asH,prA,hg,hg1,hg2,hi',hwr,hC,c1,hA,hqs,hqz,hqe',hqp,hE,hE2,z0,z1,t0,t1,if_true,ZEh,ZEI]
   | true=>
    rw [ZE4,cond_true];cases c2:f==0 with
    | false=>
     rw [cond_false];simp only [go_sem,qy,qq,qx,qz,qv,qk,reduceIte,c11L0b,asF,asH,prA,hg,hg1,hg2,hi',hwr,hC,hY,c1,c2,hA,hqs,hqz,hqa,hqe',hqp,hE,hE2,z0,z1,t0,t1,if_true,ZEh,ZEI]
    | true=>
     rw [cond_true];simp only [go_sem,qy,qq,qx,qz,qv,qk,reduceIte,c11L0b,asF,asH,prA,hg,hg1,hg2,hi',hwr,hC,hY,c1,c2,hA2,hqs,hqz,hqa,hqe',hqp,hE,hE2,z0,z1,t0,t1,if_true,ZEh,ZEI])
  (e:=.exit 0) (fr:=asF V O (O.foldl (Zvi V.l) (Yh,[])).2.length O.length) (h:=asH (O.foldl (Zvi V.l) (Yh,[])).1 (O.foldl (Zvi V.l) (Yh,[])).2) (by
   rw [ZEj];generalize O.foldl (Zvi V.l) (Yh,[])=st;obtain ⟨s,errs⟩:=st;have hqs:=hq s;have hqz:=hq Yh;have hE:=hqi errs;simp only [go_sem,qy,qq,qx,qz,qv,qk,reduceIte,c11L0b,asF,asH,ZG,hqs,hqz,hE]) (by simp)
 exact L
theorem Zwd (l:List Ver) (valid known:Int):∀ p∈Zr3 l valid known,InL l p:=fun p hp=>ZyB l valid known _ p ((Zwc l _).mem_iff.1 hp)
theorem ZyF (V:NL Ver) (hV:VsF V) (valid known:Int) (hl:(Zr3 V.l valid known).length≤40):pfn rE 11 [vsA V,I valid,I known]=some (.tup [stA (Zr5 V.l valid known).1,.isl false false 1 ((Zr5 V.l valid known).2.map I)]):=by
 have hO:=Zx1 V hV.s valid known;have L:=ZAh V hV (Zr3 V.l valid known) (Zwd V.l valid known) hl;unfold Zr5;have hq:∀ (t:Sta) n,Zj n (.row 7 [stA t])=true:=fun t n=>ZN (n:=n) [stA t] (ZsZ t)
 have hqi:∀ (l:List Int) n,Zd n (l.map I)=true:=fun l n=>ZN _ (Zw (fun t=>rfl) l)
 have hci:∀ (l:List Int),Z4 (l.map I)=true:=fun l=>Zw (fun t=>rfl) l
 generalize Zr3 V.l valid known=O at *;generalize O.foldl (Zvi V.l) (Yh,[])=st at *;obtain ⟨s,errs⟩:=st;have L':Zg rE [0,6,8,9,19,20,21] c11L0b [(0,vsA V),(6,.ptr 0 0 0 1),(8,.ptr 1 0 0 1),(9,.sl 2 0 0 0 false),(19,.isl false false 2 (O.map prA)),(20,I O.length),(21,.int .i64 0)] [.row 7 [.agg HE],.row 7 [.agg HE],.row 1 []]=_:=L;have hz:∀ n,Zj n (.row 7 [.agg HE])=true:=fun n=>rfl
 have hqs:=hq s;have hc:=ZsZ s;have hE:=hqi errs;have hcE:=hci errs;have htk:List.take errs.length (errs.map I)=errs.map I:=ZEc (by simp)
 simp only [HE] at hz L';rw [Z5 (f:=11) rfl rfl];simp only [stA] at hc;simp only [go_sem,qy,qq,qx,qz,qv,qk,reduceIte,c11,c11L0,hO,L',hz,hqs,hE,hc,hcE,htk,ZEi,ZDY,beq_self_eq_true]
end Go.AM
namespace Go.AM
open Go
def HK (a b:List Str):Bool:=a.length==b.length&&Zu (fun i x=>match b[i]? with | some y=>Z3 x y | none=>false) 0 a
theorem Z4L (ea eb:Bool) (a b:List Str) (ha:a.length≤1000):pfn rE 84 [.isl false ea 1 (a.map encS),.isl false eb 1 (b.map encS)]=some (.bool (HK a b)):=by
 rw [Z5 (f:=84) rfl rfl];unfold HK;have hne:((a.length:Int) != (b.length:Int)) = !(a.length==b.length):=by
  cases h:a.length==b.length with
  | true=>have:a.length=b.length:=by simpa using h
          rw [this];simp
  | false=>have:a.length≠b.length:=by simpa using h
           simp;omega
 cases c:a.length==b.length with
 | false=>
  rw [c] at hne;simp only [go_sem,qy,qq,reduceIte,c84,hne]
 | true=>
 rw [c] at hne;have hlen:a.length=b.length:=by simpa using c
 have L:=QT (E:=rE) (live:=[0,1,5]) (b:=c84L0b) (h:=[]) a (fun i x=>match b[i]? with | some y=>Z3 x y | none=>false) (fun i=>[(0,.isl false ea 1 (a.map encS)),(1,.isl false eb 1 (b.map encS)),(5,I i)]) 0 (fun fr=>get fr 4=.bot) (fun fr=>get fr 4=.bool false) (fun i=>rfl)
  (fun i x hx hP=>by
   have hg:=Z6 (f:=encS) hx;have hi:=Zh (Z7 hx);have hw:=Zx (n:=i) (by have:=Z7 hx;omega)
   obtain ⟨y,hy⟩:∃ y,b[i]? = some y:=⟨_,ZDZ (by rw [←hlen];exact Z7 hx)⟩
   have hgy:=Z6 (f:=encS) hy;rw [hy] at hP;dsimp only at hP;refine ⟨_,by simp only [go_sem,qy,qq,reduceIte,c84L0b,hg,hgy,hi,hw,encS,hP];rfl,?_⟩
   simp only [go_sem,qy,qq,reduceIte])
  (fun i x hx hP=>by
   have hg:=Z6 (f:=encS) hx;have hi:=Zh (Z7 hx);obtain ⟨y,hy⟩:∃ y,b[i]? = some y:=⟨_,ZDZ (by rw [←hlen];exact Z7 hx)⟩
   have hgy:=Z6 (f:=encS) hy;rw [hy] at hP;dsimp only at hP;refine ⟨_,by simp only [go_sem,qy,qq,reduceIte,c84L0b,hg,hgy,hi,encS,hP];rfl,?_⟩
   simp only [go_sem,qy,qq,reduceIte])
  (⟨_,by simp only [go_sem,qy,qq,reduceIte,c84L0b,ZG];rfl,by simp only [go_sem,qy,qq,reduceIte]⟩)
 obtain ⟨fr',h1,h2,h3⟩:=L;have h1':Zg rE [0,1,5] c84L0b [(0,.isl false ea 1 (a.map encS)),(1,.isl false eb 1 (b.map encS)),(5,.int .i64 0)] []=_:=h1;cases e:Zu (fun i x=>match b[i]? with | some y=>Z3 x y | none=>false) 0 a with
 | true=>
  rw [e] at h1';simp only [go_sem,qy,qq,reduceIte,c84,c84L0,hne,h1',h2 e,if_true]
 | false=>
  rw [e] at h1';simp only [go_sem,qy,qq,reduceIte,c84,c84L0,hne,h1',h3 e,ZEf]
end Go.AM
namespace Go.AM
open Go
def FU (a b:Door):Bool:=((((!Z3 a.Id b.Id||!Z3 a.Building b.Building)||!Z3 a.Street b.Street)||a.Owner != b.Owner)||!QL a.Number b.Number)||!QK a.Point b.Point
def HL (a b:Door):Bool:=!FU a b&&(((((a.From==b.From&&a.Ended==b.Ended)&&HK a.After.l b.After.l)&&a.Why==b.Why)&&a.Office==b.Office)&&Z3 a.Veil b.Veil)
theorem Z4M (a b:Door) (ha:a.After.l.length≤1000):pfn rE 41 [a.enc,b.enc]=some (.bool (HL a b)):=by
 have hT:=Z4L a.After.ex b.After.ex a.After.l b.After.l ha;have hn:(a.Number.N==b.Number.N&&(Z3 a.Number.Letter b.Number.Letter&&(a.Number.Num==b.Number.Num&&a.Number.Den==b.Number.Den)))=QL a.Number b.Number:=rfl;have hp:(a.Point.X==b.Point.X&&a.Point.Y==b.Point.Y)=QK a.Point b.Point:=rfl;rw [Z5 (f:=41) rfl rfl];unfold HL FU;cases c0:Z3 a.Id b.Id with
 | false=>simp only [go_sem,qy,qq,reduceIte,c41,Door.enc,NL.enc,c0,ZE5]
 | true=>
 cases c1:Z3 a.Building b.Building with
 | false=>simp only [go_sem,qy,qq,reduceIte,c41,Door.enc,NL.enc,c0,c1,ZE5,ZEa]
 | true=>
 cases c2:Z3 a.Street b.Street with
 | false=>simp only [go_sem,qy,qq,reduceIte,c41,Door.enc,NL.enc,c0,c1,c2,ZE5,ZEa]
 | true=>
 cases c5003:a.Owner != b.Owner with
 | true=>simp only [go_sem,qy,qq,reduceIte,c41,Door.enc,NL.enc,c0,c1,c2,c5003,ZE5,ZEa]
 | false=>
 cases c5004:QL a.Number b.Number with
 | false=>simp only [go_sem,qy,qq,qv,qk,reduceIte,c41,Door.enc,NL.enc,c0,c1,c2,c5003,hn,c5004,ZE5,ZEa]
 | true=>
 cases c5005:QK a.Point b.Point with
 | false=>simp only [go_sem,qy,qq,qv,qk,reduceIte,c41,Door.enc,NL.enc,c0,c1,c2,c5003,hn,c5004,hp,c5005,ZE5,ZEa]
 | true=>
 cases c5006:a.From==b.From with
 | false=>simp only [go_sem,qy,qq,qv,qk,reduceIte,c41,Door.enc,NL.enc,c0,c1,c2,c5003,hn,c5004,hp,c5005,c5006,ZE5,ZEa]
 | true=>
 cases c5007:a.Ended==b.Ended with
 | false=>simp only [go_sem,qy,qq,qv,qk,reduceIte,c41,Door.enc,NL.enc,c0,c1,c2,c5003,hn,c5004,hp,c5005,c5006,c5007,ZE5,ZEa]
 | true=>
 cases c5008:HK a.After.l b.After.l with
 | false=>rw [c5008] at hT;simp only [go_sem,qy,qq,qv,qk,reduceIte,c41,Door.enc,NL.enc,c0,c1,c2,c5003,hn,c5004,hp,c5005,c5006,c5007,hT,ZE5,ZEa]
 | true=>
 rw [c5008] at hT;cases c5009:a.Why==b.Why with
 | false=>simp only [go_sem,qy,qq,qv,qk,reduceIte,c41,Door.enc,NL.enc,c0,c1,c2,c5003,hn,c5004,hp,c5005,c5006,c5007,hT,c5009,ZE5,ZEa]
 | true=>
 cases c5010:a.Office==b.Office with
 | false=>simp only [go_sem,qy,qq,qv,qk,reduceIte,c41,Door.enc,NL.enc,c0,c1,c2,c5003,hn,c5004,hp,c5005,c5006,c5007,hT,c5009,c5010,ZE5,ZEa]
 | true=>simp only [go_sem,qy,qq,qv,qk,reduceIte,c41,Door.enc,NL.enc,c0,c1,c2,c5003,hn,c5004,hp,c5005,c5006,c5007,hT,c5009,c5010,ZE5,ZEa]
def zEv:Event:=⟨0,0,0,0,0,emp,emp,emp,⟨false,[]⟩,⟨false,[]⟩,⟨0,emp,0,0⟩,⟨0,0⟩,⟨false,[]⟩,⟨false,[]⟩⟩
end Go.AM
namespace Go.AM
open Go
theorem Zad (x:Str):Z3 x x=true:=by unfold Z3;exact beq_self_eq_true _
theorem Zat (ex:Bool) (l:List Pt) (hl:l.length≤1000):pfn rE 82 [.isl false ex 2 (l.map Pt.enc),.isl false ex 2 (l.map Pt.enc)]=some (.bool true):=by
 rw [Z5 (f:=82) rfl rfl];have L:=Y8 (E:=rE) (live:=[0,1,5]) (b:=c82L0b) l.length (fun i=>[(0,.isl false ex 2 (l.map Pt.enc)),(1,.isl false ex 2 (l.map Pt.enc)),(5,I i)]) (fun i=>[]) (fun i=>rfl)
  (fun i hi=>by
   obtain ⟨x,hx⟩:∃ x,l[i]? = some x:=⟨_,ZDZ hi⟩;have hg:=Z6 (f:=Pt.enc) hx;have hi':=Zh hi;have hwr:=Zx (n:=i) (by omega)
   refine ⟨[(0,.isl false ex 2 (l.map Pt.enc)),(1,.isl false ex 2 (l.map Pt.enc)),(4,.bot),(5,I (i+1:Nat))],?_,rfl⟩;simp only [go_sem,qy,qq,qv,qk,reduceIte,c82L0b,hg,hi',hwr,Pt.enc,beq_self_eq_true])
  (e:=.exit 0) (fr:=[(0,.isl false ex 2 (l.map Pt.enc)),(1,.isl false ex 2 (l.map Pt.enc)),(4,.bot),(5,I l.length)]) (h:=[]) (by simp only [go_sem,qy,qq,qv,qk,reduceIte,c82L0b,ZG]) (by simp)
 have hne:((l.length:Int) != (l.length:Int))=false:=by simp
 have L':Zg rE [0,1,5] c82L0b [(0,.isl false ex 2 (l.map Pt.enc)),(1,.isl false ex 2 (l.map Pt.enc)),(5,.int .i64 0)] []=_:=L;simp only [go_sem,qy,qq,qv,qk,reduceIte,c82,c82L0,L',hne]
theorem ZaD (ex:Bool) (l:List Nm) (hl:l.length≤1000):pfn rE 83 [.isl false ex 3 (l.map Nm.enc),.isl false ex 3 (l.map Nm.enc)]=some (.bool true):=by
 rw [Z5 (f:=83) rfl rfl];have L:=Y8 (E:=rE) (live:=[0,1,5]) (b:=c83L0b) l.length (fun i=>[(0,.isl false ex 3 (l.map Nm.enc)),(1,.isl false ex 3 (l.map Nm.enc)),(5,I i)]) (fun i=>[]) (fun i=>rfl)
  (fun i hi=>by
   obtain ⟨x,hx⟩:∃ x,l[i]? = some x:=⟨_,ZDZ hi⟩;have hg:=Z6 (f:=Nm.enc) hx;have hi':=Zh hi;have hwr:=Zx (n:=i) (by omega)
   refine ⟨[(0,.isl false ex 3 (l.map Nm.enc)),(1,.isl false ex 3 (l.map Nm.enc)),(4,.bot),(5,I (i+1:Nat))],?_,rfl⟩;simp only [go_sem,qy,qq,qv,qk,reduceIte,c83L0b,hg,hi',hwr,Nm.enc,Zad,beq_self_eq_true])
  (e:=.exit 0) (fr:=[(0,.isl false ex 3 (l.map Nm.enc)),(1,.isl false ex 3 (l.map Nm.enc)),(4,.bot),(5,I l.length)]) (h:=[]) (by simp only [go_sem,qy,qq,qv,qk,reduceIte,c83L0b,ZG]) (by simp)
 have hne:((l.length:Int) != (l.length:Int))=false:=by simp
 have L':Zg rE [0,1,5] c83L0b [(0,.isl false ex 3 (l.map Nm.enc)),(1,.isl false ex 3 (l.map Nm.enc)),(5,.int .i64 0)] []=_:=L;simp only [go_sem,qy,qq,qv,qk,reduceIte,c83,c83L0,L',hne]
theorem ZaU (x:Region) (h1:x.Ring.l.length≤1000) (h2:x.Names.l.length≤1000):pfn rE 38 [x.enc,x.enc]=some (.bool true):=by
 have hp:=Zat x.Ring.ex x.Ring.l h1;have hn:=ZaD x.Names.ex x.Names.l h2;rw [Z5 (f:=38) rfl rfl];simp only [go_sem,qy,qq,reduceIte,c38,Region.enc,NL.enc,Zad,beq_self_eq_true,hp,hn]
theorem ZaV (x:Street) (h1:x.Line.l.length≤1000) (h2:x.Names.l.length≤1000):pfn rE 39 [x.enc,x.enc]=some (.bool true):=by
 have hp:=Zat x.Line.ex x.Line.l h1;have hn:=ZaD x.Names.ex x.Names.l h2;rw [Z5 (f:=39) rfl rfl];simp only [go_sem,qy,qq,reduceIte,c39,Street.enc,NL.enc,Zad,beq_self_eq_true,hp,hn]
theorem ZaW (x:Building) (h1:x.Ring.l.length≤1000):pfn rE 40 [x.enc,x.enc]=some (.bool true):=by
 have hp:=Zat x.Ring.ex x.Ring.l h1;rw [Z5 (f:=40) rfl rfl];simp only [go_sem,qy,qq,reduceIte,c40,Building.enc,NL.enc,Zad,beq_self_eq_true,hp]
theorem ZaX (l:List Str):HK l l=true:=by
 unfold HK;rw [beq_self_eq_true,ZE4];have:∀ (m:List Str) (i:Nat),(∀ j x,m[j]? = some x→l[i+j]? = some x)→Zu (fun i x=>match l[i]? with | some y=>Z3 x y | none=>false) i m=true:=by
  intro m;induction m with
  | nil=>intro i h;rfl
  | cons x r ih=>
   intro i h;have h0:=h 0 x rfl;rw [Nat.add_zero] at h0;unfold Zu;rw [h0];simp only [Zad,ZE4];exact ih (i+1) (fun j y hy=>by rw [ZER,Nat.add_comm 1 j];exact h (j+1) y hy)
 exact this l 0 (fun j x h=>by rw [ZEx];exact h)
theorem ZaY (x:Door) (h:x.After.l.length≤1000):pfn rE 41 [x.enc,x.enc]=some (.bool true):=by
 rw [Z4M x x h];unfold HL FU QL QK;simp only [Zad,ZaX,beq_self_eq_true,bne_self_eq_false,ZEe,ZEz,ZEk,ZEm]
end Go.AM
namespace Go.AM
open Go
theorem ZbL (ex:Bool) (l:List Pair) (hl:l.length≤1000):pfn rE 42 [.isl false ex 2 (l.map Pair.enc),.isl false ex 2 (l.map Pair.enc)]=some (.bool true):=by
 rw [Z5 (f:=42) rfl rfl];have L:=Y8 (E:=rE) (live:=[0,1,5]) (b:=c42L0b) l.length (fun i=>[(0,.isl false ex 2 (l.map Pair.enc)),(1,.isl false ex 2 (l.map Pair.enc)),(5,I i)]) (fun i=>[]) (fun i=>rfl)
  (fun i hi=>by
   obtain ⟨x,hx⟩:∃ x,l[i]? = some x:=⟨_,ZDZ hi⟩;have hg:=Z6 (f:=Pair.enc) hx;have hi':=Zh hi;have hwr:=Zx (n:=i) (by omega)
   refine ⟨[(0,.isl false ex 2 (l.map Pair.enc)),(1,.isl false ex 2 (l.map Pair.enc)),(4,.bot),(5,I (i+1:Nat))],?_,rfl⟩;simp only [go_sem,qy,qq,qv,qk,reduceIte,c42L0b,hg,hi',hwr,Pair.enc,beq_self_eq_true])
  (e:=.exit 0) (fr:=[(0,.isl false ex 2 (l.map Pair.enc)),(1,.isl false ex 2 (l.map Pair.enc)),(4,.bot),(5,I l.length)]) (h:=[]) (by simp only [go_sem,qy,qq,qv,qk,reduceIte,c42L0b,ZG]) (by simp)
 have hne:((l.length:Int) != (l.length:Int))=false:=by simp
 have L':Zg rE [0,1,5] c42L0b [(0,.isl false ex 2 (l.map Pair.enc)),(1,.isl false ex 2 (l.map Pair.enc)),(5,.int .i64 0)] []=_:=L;simp only [go_sem,qy,qq,qv,qk,reduceIte,c42,c42L0,L',hne]
theorem Zc3 (s:Sta) (hE:StE s):Zg rE [2,3,5] c16L0b [(2,stI s),(3,stI s),(5,.int .i64 0)] []=some (.exit 0,[(2,stI s),(3,stI s),(4,.bot),(5,I s.Regions.length)],[]):=by
 have hn:=hE.sizes.regions;have L:=Y8 (E:=rE) (live:=[2,3,5]) (b:=c16L0b) s.Regions.length (fun i=>[(2,stI s),(3,stI s),(5,I i)]) (fun i=>[]) (fun i=>rfl)
  (fun i hi=>by
   obtain ⟨x,hx⟩:∃ x,s.Regions[i]? = some x:=⟨_,ZDZ hi⟩;have hg:=Z6 (f:=Region.enc) hx;have hi':=Zh hi;have hwr:=Zx (n:=i) (by omega)
   have hlt:((i:Int) < (s.Regions.length:Int)):=by omega
   have hm:=ZE6 hx;refine ⟨[(2,stI s),(3,stI s),(4,.bot),(5,I (i+1:Nat))],?_,rfl⟩;have hS:=ZaU x (ZEt (hE.regions x hm).2.1 (by omega)) (ZEt (hE.regions x hm).1 (by omega))
   simp only [Region.enc,NL.enc] at hS;simp only [go_sem,qy,qq,qv,qk,reduceIte,c16L0b,hg,hi',hwr,hlt,if_true,Region.enc,NL.enc,hS])
  (e:=.exit 0) (fr:=[(2,stI s),(3,stI s),(4,.bot),(5,I s.Regions.length)]) (h:=[]) (by simp only [go_sem,qy,qq,qv,qk,reduceIte,c16L0b,ZG]) (by simp)
 exact L
theorem Zc4 (s:Sta) (hE:StE s):Zg rE [2,3,6] c16L1b [(2,stI s),(3,stI s),(6,.int .i64 0)] []=some (.exit 2,[(2,stI s),(3,stI s),(4,.bot),(6,I s.Streets.length)],[]):=by
 have hn:=hE.sizes.streets;have L:=Y8 (E:=rE) (live:=[2,3,6]) (b:=c16L1b) s.Streets.length (fun i=>[(2,stI s),(3,stI s),(6,I i)]) (fun i=>[]) (fun i=>rfl)
  (fun i hi=>by
   obtain ⟨x,hx⟩:∃ x,s.Streets[i]? = some x:=⟨_,ZDZ hi⟩;have hg:=Z6 (f:=Street.enc) hx;have hi':=Zh hi;have hwr:=Zx (n:=i) (by omega)
   have hlt:((i:Int) < (s.Streets.length:Int)):=by omega
   have hm:=ZE6 hx;refine ⟨[(2,stI s),(3,stI s),(4,.bot),(6,I (i+1:Nat))],?_,rfl⟩;have hS:=ZaV x (ZEt (hE.streets x hm).2.1 (by omega)) (ZEt (hE.streets x hm).1 (by omega))
   simp only [Street.enc,NL.enc] at hS;simp only [go_sem,qy,qq,qv,qk,reduceIte,c16L1b,hg,hi',hwr,hlt,if_true,Street.enc,NL.enc,hS])
  (e:=.exit 2) (fr:=[(2,stI s),(3,stI s),(4,.bot),(6,I s.Streets.length)]) (h:=[]) (by simp only [go_sem,qy,qq,qv,qk,reduceIte,c16L1b,ZG]) (by simp)
 exact L
theorem Zc5 (s:Sta) (hE:StE s):Zg rE [2,3,7] c16L2b [(2,stI s),(3,stI s),(7,.int .i64 0)] []=some (.exit 4,[(2,stI s),(3,stI s),(4,.bot),(7,I s.Buildings.length)],[]):=by
 have hn:=hE.sizes.buildings;have L:=Y8 (E:=rE) (live:=[2,3,7]) (b:=c16L2b) s.Buildings.length (fun i=>[(2,stI s),(3,stI s),(7,I i)]) (fun i=>[]) (fun i=>rfl)
  (fun i hi=>by
   obtain ⟨x,hx⟩:∃ x,s.Buildings[i]? = some x:=⟨_,ZDZ hi⟩;have hg:=Z6 (f:=Building.enc) hx;have hi':=Zh hi;have hwr:=Zx (n:=i) (by omega)
   have hlt:((i:Int) < (s.Buildings.length:Int)):=by omega
   have hm:=ZE6 hx;refine ⟨[(2,stI s),(3,stI s),(4,.bot),(7,I (i+1:Nat))],?_,rfl⟩;have hS:=ZaW x (ZEt (hE.buildings x hm).1 (by omega))
   simp only [Building.enc,NL.enc] at hS;simp only [go_sem,qy,qq,qv,qk,reduceIte,c16L2b,hg,hi',hwr,hlt,if_true,Building.enc,NL.enc,hS])
  (e:=.exit 4) (fr:=[(2,stI s),(3,stI s),(4,.bot),(7,I s.Buildings.length)]) (h:=[]) (by simp only [go_sem,qy,qq,qv,qk,reduceIte,c16L2b,ZG]) (by simp)
 exact L
theorem Zc6 (s:Sta) (hE:StE s):Zg rE [2,3,8] c16L3b [(2,stI s),(3,stI s),(8,.int .i64 0)] []=some (.exit 6,[(2,stI s),(3,stI s),(4,.bot),(8,I s.Doors.length)],[]):=by
 have hn:=hE.sizes.doors;have L:=Y8 (E:=rE) (live:=[2,3,8]) (b:=c16L3b) s.Doors.length (fun i=>[(2,stI s),(3,stI s),(8,I i)]) (fun i=>[]) (fun i=>rfl)
  (fun i hi=>by
   obtain ⟨x,hx⟩:∃ x,s.Doors[i]? = some x:=⟨_,ZDZ hi⟩;have hg:=Z6 (f:=Door.enc) hx;have hi':=Zh hi;have hwr:=Zx (n:=i) (by omega)
   have hlt:((i:Int) < (s.Doors.length:Int)):=by omega
   have hm:=ZE6 hx;refine ⟨[(2,stI s),(3,stI s),(4,.bot),(8,I (i+1:Nat))],?_,rfl⟩;have hS:=ZaY x (by have:=(hE.doors x hm).after;omega)
   simp only [Door.enc,NL.enc] at hS;simp only [go_sem,qy,qq,qv,qk,reduceIte,c16L3b,hg,hi',hwr,hlt,if_true,Door.enc,NL.enc,hS])
  (e:=.exit 6) (fr:=[(2,stI s),(3,stI s),(4,.bot),(8,I s.Doors.length)]) (h:=[]) (by simp only [go_sem,qy,qq,qv,qk,reduceIte,c16L3b,ZG]) (by simp)
 exact L
theorem Zc7 (s:Sta) (hE:StE s):Zg rE [2,3,9] c16L4b [(2,stI s),(3,stI s),(9,.int .i64 0)] []=some (.exit 8,[(2,stI s),(3,stI s),(4,.bot),(9,I s.Units.length)],[]):=by
 have hn:=hE.sizes.units;have L:=Y8 (E:=rE) (live:=[2,3,9]) (b:=c16L4b) s.Units.length (fun i=>[(2,stI s),(3,stI s),(9,I i)]) (fun i=>[]) (fun i=>rfl)
  (fun i hi=>by
   obtain ⟨x,hx⟩:∃ x,s.Units[i]? = some x:=⟨_,ZDZ hi⟩;have hg:=Z6 (f:=Unit'.enc) hx;have hi':=Zh hi;have hwr:=Zx (n:=i) (by omega)
   have hlt:((i:Int) < (s.Units.length:Int)):=by omega
   have hm:=ZE6 hx;refine ⟨[(2,stI s),(3,stI s),(4,.bot),(9,I (i+1:Nat))],?_,rfl⟩;simp only [go_sem,qy,qq,qv,qk,reduceIte,c16L4b,hg,hi',hwr,hlt,if_true,Unit'.enc,NL.enc,Zad,beq_self_eq_true])
  (e:=.exit 8) (fr:=[(2,stI s),(3,stI s),(4,.bot),(9,I s.Units.length)]) (h:=[]) (by simp only [go_sem,qy,qq,qv,qk,reduceIte,c16L4b,ZG]) (by simp)
 exact L
theorem ZbM (s:Sta) (hE:StE s):pfn rE 16 [stA s,stA s]=some (.bool true):=by
 have l0:=Zc3 s hE;have l1:=Zc4 s hE;have l2:=Zc5 s hE;have l3:=Zc6 s hE;have l4:=Zc7 s hE;have p1:=ZbL false s.Merged hE.sizes.merged;have p2:=ZbL false s.Rulings hE.sizes.rulings;have hne:∀ n:Nat,((n:Int) != (n:Int))=false:=fun n=>by simp
 simp only [stI] at l0 l1 l2 l3 l4;rw [Z5 (f:=16) rfl rfl];simp only [go_sem,qy,qq,reduceIte,c16,c16L0,c16L1,c16L2,c16L3,c16L4,hne,l0,l1,l2,l3,l4,p1,p2]
end Go.AM
namespace Go.AM
open Go
theorem ZAi (L:List (Nat×Nat)) (hl:L.length≤100000):pfn rE 13 [.isl false false 2 (L.map prA),.isl false false 2 (L.map prA)]=some (.bool true):=by
 have L0:=Y8 (E:=rE) (live:=[0,1,5]) (b:=c13L0b) L.length (fun i=>[(0,.isl false false 2 (L.map prA)),(1,.isl false false 2 (L.map prA)),(5,I i)]) (fun _=>[]) (fun i=>rfl)
  (fun i hi=>by
   obtain ⟨x,hx⟩:∃ x,L[i]? = some x:=⟨_,ZDZ hi⟩;have hg:=Z6 (f:=prA) hx;have hi':=Zh hi;have hwr:=Zx (n:=i) (by omega)
   have e1:(((x.1:Nat):Int)==((x.1:Nat):Int))=true:=by simp
   have e2:(((x.2:Nat):Int)==((x.2:Nat):Int))=true:=by simp
   refine ⟨_,by simp only [go_sem,qy,qq,qx,qz,qv,qk,reduceIte,c13L0b,prA,hg,hi',hwr,e1,e2];rfl,?_⟩
   simp only [go_sem,qy,qq,qx,qz,qv,qk,reduceIte])
  (e:=.exit 0) (by simp only [go_sem,qy,qq,qx,qz,qv,qk,reduceIte,c13L0b,ZG];rfl) (by simp)
 have L':Zg rE [0,1,5] c13L0b [(0,.isl false false 2 (L.map prA)),(1,.isl false false 2 (L.map prA)),(5,.int .i64 0)] []=_:=L0;have hn:((L.length:Int) != (L.length:Int))=false:=by simp
 rw [Z5 (f:=13) rfl rfl];simp only [go_sem,qy,qq,qx,qz,qv,qk,reduceIte,c13,c13L0,hn,L']
theorem ZAj (ex:Bool) (l:List Int) (hl:l.length≤100000):pfn rE 14 [.isl false ex 1 (l.map I),.isl false false 1 (l.map I)]=some (.bool true):=by
 have L:=Y8 (E:=rE) (live:=[0,1,5]) (b:=c14L0b) l.length (fun i=>[(0,.isl false ex 1 (l.map I)),(1,.isl false false 1 (l.map I)),(5,I i)]) (fun _=>[]) (fun i=>rfl)
  (fun i hi=>by
   obtain ⟨x,hx⟩:∃ x,l[i]? = some x:=⟨_,ZDZ hi⟩;have hg:=Z6 (f:=I) hx;have hi':=Zh hi;have hwr:=Zx (n:=i) (by omega)
   have hn:(x != x)=false:=by simp
   refine ⟨_,by simp only [go_sem,qy,qq,qx,qz,qv,qk,reduceIte,c14L0b,hg,hi',hwr,hn];rfl,?_⟩
   simp only [go_sem,qy,qq,qx,qz,qv,qk,reduceIte])
  (e:=.exit 0) (by simp only [go_sem,qy,qq,qx,qz,qv,qk,reduceIte,c14L0b,ZG];rfl) (by simp)
 have L':Zg rE [0,1,5] c14L0b [(0,.isl false ex 1 (l.map I)),(1,.isl false false 1 (l.map I)),(5,.int .i64 0)] []=_:=L;have hn:((l.length:Int) != (l.length:Int))=false:=by simp
 rw [Z5 (f:=14) rfl rfl];simp only [go_sem,qy,qq,qx,qz,qv,qk,reduceIte,c14,c14L0,hn,L']
theorem ZAk (l:List Int) (hl:l.length≤100000):pfn rE 14 [.isl false false 1 (l.map I),.isl false false 1 (l.map I)]=some (.bool true):=ZAj false l hl
theorem ZAl (l:List Int) (hl:l.length≤100000):pfn rE 17 [.isl false false 1 (l.map I),.isl false false 1 (l.map I)]=some (.bool true):=by
 have L:=Y8 (E:=rE) (live:=[0,1,5]) (b:=c17L0b) l.length (fun i=>[(0,.isl false false 1 (l.map I)),(1,.isl false false 1 (l.map I)),(5,I i)]) (fun _=>[]) (fun i=>rfl)
  (fun i hi=>by
   obtain ⟨x,hx⟩:∃ x,l[i]? = some x:=⟨_,ZDZ hi⟩;have hg:=Z6 (f:=I) hx;have hi':=Zh hi;have hwr:=Zx (n:=i) (by omega)
   have hn:(x != x)=false:=by simp
   refine ⟨_,by simp only [go_sem,qy,qq,qx,qz,qv,qk,reduceIte,c17L0b,hg,hi',hwr,hn];rfl,?_⟩
   simp only [go_sem,qy,qq,qx,qz,qv,qk,reduceIte])
  (e:=.exit 0) (by simp only [go_sem,qy,qq,qx,qz,qv,qk,reduceIte,c17L0b,ZG];rfl) (by simp)
 have L':Zg rE [0,1,5] c17L0b [(0,.isl false false 1 (l.map I)),(1,.isl false false 1 (l.map I)),(5,.int .i64 0)] []=_:=L;have hn:((l.length:Int) != (l.length:Int))=false:=by simp
 rw [Z5 (f:=17) rfl rfl];simp only [go_sem,qy,qq,qx,qz,qv,qk,reduceIte,c17,c17L0,hn,L']
end Go.AM
namespace Go.AM
open Go
def Zr8 (l:List Ver) (i:Nat):Nat:=((l.take i).map (fun v=>v.Events.l.length)).sum
theorem Zwe {l:List Ver} {i:Nat} {v:Ver} (h:l[i]? = some v):Zr8 l (i+1)=Zr8 l i+v.Events.l.length:=by
 unfold Zr8;rw [ZED,h];simp
theorem Zx4 {l:List Ver} (h:∀ v∈l,v.Events.l.length≤140737488355328):∀ i,Zr8 l i≤i * 140737488355328
 | 0=>by simp [Zr8]
 | i+1=>by
  have ih:=Zx4 h i;rw [Nat.succ_mul];cases hv:l[i]? with
  | none=>
   have:Zr8 l (i+1)=Zr8 l i:=by unfold Zr8;rw [ZED,hv];simp
   omega
  | some v=>
   have h1:=Zwe hv;have h2:=h v (ZE6 hv);omega
def ZvP (l:List Ver) (most:Int) (i:Nat) (v:Ver):Bool:=!decide (((Zr8 l (i+1):Nat):Int) > most)&&v.Events.l.all Xn
def ZvT (l:List Ver) (most:Int):Bool:=Zu (ZvP l most) 0 (l.take 20)&&decide ((l.length:Int)≤20)
theorem ZyG (V:NL Ver) (most:Int) (n:Nat) (v:Ver) (i:Nat) (hv:V.l[i]? = some v) (hl:v.Events.l.length≤140737488355328):
 ∃ fr',Zg rE [0,1,5,6,7] c9L0b [(0,vsA V),(1,I most),(5,I n),(6,I i),(7,.int .i64 0)] []=some (if v.Events.l.all Xn=true then .exit 2 else .ret,fr',[])∧(v.Events.l.all Xn=true→Z2 [0,1,4,5,6] fr'=[(0,vsA V),(1,I most),(4,.bot),(5,I n),(6,I i)])∧(v.Events.l.all Xn=false→get fr' 4=.bool false):=by
 have hg1:=Z6 (f:=Ver.enc) hv;have hev:v.enc=.agg [I v.Authority,I v.Number,I v.At,.str v.Prev,.isl false v.Events.ex 18 (v.Events.l.map fun e=>evA e),I v.Index,.isl false v.Sig.ex 1 (v.Sig.l.map encS),.isl false v.Path.ex 1 (v.Path.l.map encS)]:=rfl
 rw [hev] at hg1;have L:=QT (E:=rE) (live:=[0,1,5,6,7]) (b:=c9L0b) (h:=[]) v.Events.l (fun _ e=>Xn e) (fun k=>[(0,vsA V),(1,I most),(5,I n),(6,I i),(7,I k)]) 2 (fun fr=>Z2 [0,1,4,5,6] fr=[(0,vsA V),(1,I most),(4,.bot),(5,I n),(6,I i)]) (fun fr=>get fr 4=.bool false) (fun k=>rfl)
  (fun k e he hP=>by
   have hg2:=Z6 (f:=fun e=>evA e) he
   have hi':=Zh (Z7 he);have hwr:=Zx (n:=k) (by have:=Z7 he;omega)
   have hF:=Z4z e;rw [hP] at hF;refine ⟨_,by simp only [go_sem,qy,qq,qx,qz,qv,qk,reduceIte,c9L0b,hg1,hg2,hi',hwr,hF];rfl,?_⟩
   simp only [go_sem,qy,qq,qx,qz,qv,qk,reduceIte])
  (fun k e he hP=>by
   have hg2:=Z6 (f:=fun e=>evA e) he
   have hi':=Zh (Z7 he);have hF:=Z4z e;rw [hP] at hF;refine ⟨_,by simp only [go_sem,qy,qq,qx,qz,qv,qk,reduceIte,c9L0b,hg1,hg2,hi',hF];rfl,?_⟩
   simp only [go_sem,qy,qq,qx,qz,qv,qk,reduceIte])
  ⟨_,by simp only [go_sem,qy,qq,qx,qz,qv,qk,reduceIte,c9L0b,hg1,ZG];rfl,by simp only [go_sem,qy,qq,qx,qz,qv,qk,reduceIte]⟩
 rw [QE] at L;exact L
theorem ZAm (V:NL Ver) (most:Int) (hm:∀ v∈V.l,v.Events.l.length≤140737488355328):pfn rE 9 [vsA V,I most]=some (.bool (ZvT V.l most)):=by
 have L:=QT (E:=rE) (live:=[0,1,5,6]) (b:=c9L1b) (h:=[]) (V.l.take 20) (ZvP V.l most) (fun i=>[(0,vsA V),(1,I most),(5,I (Zr8 V.l i)),(6,I i)]) 0 (fun fr=>get fr 0=vsA V) (fun fr=>get fr 4=.bool false) (fun i=>rfl)
  (fun i v hx hP=>by
   obtain ⟨hv,hi20⟩:V.l[i]? = some v∧i < 20:=by
    have h1:=Z7 hx;rw [ZEs] at h1;rw [ZF0 (by omega)] at hx
    exact ⟨hx,by omega⟩
   have hlt:=Z7 hv;have hi':=Zh hlt;have h20:decide ((i:Int) < 20)=true:=decide_eq_true (by omega)
   have hwr:=Zx (n:=i) (by omega)
   have hs:=Zwe hv;have hle:=Zx4 hm (i+1);have hm1:=hm v (ZE6 hv);have hw2:IntKind.i64.wrap (((Zr8 V.l i:Nat):Int)+((v.Events.l.length:Nat):Int))=((Zr8 V.l (i+1):Nat):Int):=by
    rw [YM (by omega) (by omega)];omega
   have hg1:=Z6 (f:=Ver.enc) hv;have hev:v.enc=.agg [I v.Authority,I v.Number,I v.At,.str v.Prev,.isl false v.Events.ex 18 (v.Events.l.map fun e=>evA e),I v.Index,.isl false v.Sig.ex 1 (v.Sig.l.map encS),.isl false v.Path.ex 1 (v.Path.l.map encS)]:=rfl
   rw [hev] at hg1;unfold ZvP at hP;rw [ZE0] at hP;have hd:decide (((Zr8 V.l (i+1):Nat):Int) > most)=false:=by simpa using hP.1
   obtain ⟨fr',L0,h1,_⟩:=ZyG V most (Zr8 V.l (i+1)) v i hv hm1;rw [if_pos hP.2] at L0;have h1':=h1 hP.2;have L0':Zg rE [0,1,5,6,7] c9L0b [(0,vsA V),(1,I most),(5,I (Zr8 V.l (i+1))),(6,I i),(7,.int .i64 0)] []=_:=L0;refine ⟨_,by simp only [go_sem,qy,qq,qx,qz,qv,qk,reduceIte,c9L1b,c9L0,hg1,hi',h20,hwr,hw2,hd,L0',h1'];rfl,?_⟩
   simp only [go_sem,qy,qq,qx,qz,qv,qk,reduceIte])
  (fun i v hx hP=>by
   obtain ⟨hv,hi20⟩:V.l[i]? = some v∧i < 20:=by
    have h1:=Z7 hx;rw [ZEs] at h1;rw [ZF0 (by omega)] at hx
    exact ⟨hx,by omega⟩
   have hlt:=Z7 hv;have hi':=Zh hlt;have h20:decide ((i:Int) < 20)=true:=decide_eq_true (by omega)
   have hs:=Zwe hv;have hle:=Zx4 hm (i+1);have hm1:=hm v (ZE6 hv);have hw2:IntKind.i64.wrap (((Zr8 V.l i:Nat):Int)+((v.Events.l.length:Nat):Int))=((Zr8 V.l (i+1):Nat):Int):=by
    rw [YM (by omega) (by omega)];omega
   have hg1:=Z6 (f:=Ver.enc) hv;have hev:v.enc=.agg [I v.Authority,I v.Number,I v.At,.str v.Prev,.isl false v.Events.ex 18 (v.Events.l.map fun e=>evA e),I v.Index,.isl false v.Sig.ex 1 (v.Sig.l.map encS),.isl false v.Path.ex 1 (v.Path.l.map encS)]:=rfl
   rw [hev] at hg1;unfold ZvP at hP;cases hd:decide (((Zr8 V.l (i+1):Nat):Int) > most) with
   | true=>
    refine ⟨_,by simp only [go_sem,qy,qq,qx,qz,qv,qk,reduceIte,c9L1b,c9L0,hg1,hi',h20,hw2,hd];rfl,?_⟩
    simp only [go_sem,qy,qq,qx,qz,qv,qk,reduceIte]
   | false=>
    have hP2:v.Events.l.all Xn=false:=by rw [hd] at hP;simpa using hP
    obtain ⟨fr',L0,_,h2⟩:=ZyG V most (Zr8 V.l (i+1)) v i hv hm1;rw [hP2] at L0;have h2':=h2 hP2;have L0':Zg rE [0,1,5,6,7] c9L0b [(0,vsA V),(1,I most),(5,I (Zr8 V.l (i+1))),(6,I i),(7,.int .i64 0)] []=some (.ret,fr',[]):=L0;refine ⟨_,by simp only [go_sem,qy,qq,qx,qz,qv,qk,reduceIte,c9L1b,c9L0,hg1,hi',h20,hw2,hd,L0'];rfl,?_⟩
    simp only [go_sem,qy,qq,qx,qz,qv,qk,reduceIte,h2'])
  (by
   rw [ZEs];rcases Nat.lt_or_ge V.l.length 20 with h | h
   ·rw [Nat.min_eq_right (by omega)]
    exact ⟨_,by simp only [go_sem,qy,qq,qx,qz,qv,qk,reduceIte,c9L1b,ZG];rfl,by simp only [go_sem,qy,qq,qx,qz,qv,qk,reduceIte]⟩
   ·rw [Nat.min_eq_left h];have h20:decide (((20:Nat):Int) < 20)=false:=rfl;cases c:decide (((20:Nat):Int) < ((V.l.length:Nat):Int)) with
    | true=>exact ⟨_,by simp only [go_sem,qy,qq,qx,qz,qv,qk,reduceIte,c9L1b,c,h20];rfl,by simp only [go_sem,qy,qq,qx,qz,qv,qk,reduceIte]⟩
    | false=>exact ⟨_,by simp only [go_sem,qy,qq,qx,qz,qv,qk,reduceIte,c9L1b,c];rfl,by simp only [go_sem,qy,qq,qx,qz,qv,qk,reduceIte]⟩)
 obtain ⟨fr',L1,h0,h1⟩:=L;have L':Zg rE [0,1,5,6] c9L1b [(0,vsA V),(1,I most),(5,.int .i64 0),(6,.int .i64 0)] []=_:=L1;rw [Z5 (f:=9) rfl rfl];unfold ZvT;cases c:Zu (ZvP V.l most) 0 (V.l.take 20) with
 | true=>
  rw [c,if_pos rfl] at L';have h0':=h0 c;simp only [go_sem,qy,qq,qx,qz,qv,qk,reduceIte,c9,c9L1,L',h0']
 | false=>
  rw [c,if_neg Bool.false_ne_true] at L';have h1':=h1 c;simp only [go_sem,qy,qq,qx,qz,qv,qk,reduceIte,c9,c9L1,L',h1']
theorem ZAn (l:List Ver) (i:Nat):Zr8 l i≤Zr8 l l.length:=by
 unfold Zr8;rw [ZEj]
 conv=>rhs;rw [←ZFc i l]
 rw [ZE8,List.sum_append];omega
theorem ZAo (l:List Ver):Zr8 l l.length=(l.map (fun v=>v.Events.l.length)).sum:=by unfold Zr8;rw [ZEj]
theorem ZAp {l:List Ver} {v:Ver} (h:v∈l):v.Events.l.length≤Zr8 l l.length:=by
 obtain ⟨i,hi⟩:=ZEM.1 h;have h1:=Zwe hi;have h2:=ZAn l (i+1);omega
theorem ZyH (l:List Ver) (valid known:Int):∀ i,(Zr7 l valid known i).length≤Zr8 l i
 | 0=>ZDX _
 | i+1=>by
  have ih:=ZyH l valid known i;unfold Zr7;rw [ZEh];cases hv:l[i]? with
  | none=>
   have:Zr8 l (i+1)=Zr8 l i:=by unfold Zr8;rw [ZED,hv];simp
   show _+0≤_
   omega
  | some v=>
   have h1:=Zwe hv;have h2:=Zyu v valid i v.Events.l.length;show _+(bif Zvl l known i v then Zr4 v valid i v.Events.l.length else []).length≤_
   cases Zvl l known i v with
   | true=>rw [cond_true];omega
   | false=>rw [cond_false,ZEl];omega
theorem Zwf (l:List Ver) (valid known:Int):(Zr3 l valid known).length≤Zr8 l l.length:=by
 unfold Zr3;rw [(Zwc l _).length_eq];exact ZyH l valid known l.length
structure FewS (l:List Ver):Prop where
 len:l.length≤20
 few:∀ v∈l,∀ e∈v.Events.l,Xn e=true
 sum:Zr8 l l.length≤16
theorem Zx5 {l:List Ver} (h:ZvT l 16=true):FewS l:=by
 unfold ZvT at h;rw [ZE0] at h;have hl:l.length≤20:=by have:=of_decide_eq_true h.2;omega
 rw [ZEc hl] at h;have hA:∀ (i:Nat) v,l[i]? = some v→ZvP l 16 i v=true:=fun i v hv=>by
  have:=Zda.1 h.1 i v hv;simpa using this
 refine ⟨hl,fun v hv e he=>?_,?_⟩
 ·obtain ⟨i,hi⟩:=ZEM.1 hv;have:=hA i v hi;unfold ZvP at this;rw [ZE0] at this;exact ZEd.1 this.2 e he
 ·rcases Nat.eq_zero_or_pos l.length with h0 | h0
  ·rw [h0];exact ZDX _
  ·obtain ⟨v,hv⟩:∃ v,l[l.length - 1]? = some v:=⟨_,ZDZ (by omega)⟩
   have:=hA _ v hv;unfold ZvP at this;rw [ZE0,ZFj h0] at this;have h1:=of_decide_eq_false (by simpa using this.1:decide (((Zr8 l l.length:Nat):Int) > 16)=false)
   omega
theorem FewS.vs {V:NL Ver} (h:FewS V.l):VsF V:=by
 refine ⟨⟨by have:=h.len;omega,fun v hv=>?_⟩,h.few⟩
 have h1:=ZAp hv;have h2:=h.sum;omega
theorem Zwg (V:NL Ver) (h:FewS V.l) (valid known:Int):pfn rE 11 [vsA V,I valid,I known]=some (.tup [stA (Zr5 V.l valid known).1,.isl false false 1 ((Zr5 V.l valid known).2.map I)]):=by
 have h1:=Zwf V.l valid known;have h2:=h.sum;exact ZyF V h.vs valid known (by omega)
end Go.AM
namespace Go.AM
open Go
def Zvy (l:List Ver) (p:Nat×Nat):Int:=match l[p.1]? with
 | some v=>(match v.Events.l[p.2]? with | some e=>e.Day | none=>0)
 | none=>0
def Zr6 (l:List Ver):List (Nat×Nat)→List Int→List Int
 | p::O,x::E=>(bif x==0 then [Zvy l p] else [])++Zr6 l O E
 | _,_=>[]
def Zr9:List Int→List Int
 | []=>[]
 | a::r=>match Zr9 r with
  | []=>[a]
  | b::s=>bif a==b then b::s else a::b::s
def Zvp (l:List Ver) (known:Int):List Int:=Zr9 (Zr6 l (Zr3 l 100000 known) (Zr5 l 100000 known).2)
theorem ZyI {l:List Ver} {p:Nat×Nat} {v:Ver} {e:Event} (h1:l[p.1]? = some v) (h2:v.Events.l[p.2]? = some e):Zvy l p=e.Day:=by
 unfold Zvy;rw [h1];simp only [h2]
theorem ZyJ (l:List Ver):∀ (O:List (Nat×Nat)) (E:List Int) (i:Nat) (p:Nat×Nat) (x:Int),O[i]? = some p→E[i]? = some x→Zr6 l (O.take (i+1)) (E.take (i+1))=Zr6 l (O.take i) (E.take i)++(bif x==0 then [Zvy l p] else [])
 | p::O,x::E,0,_,_,h1,h2=>by
  simp only [ZEB,Option.some.injEq] at h1 h2;subst h1;subst h2;simp [Zr6]
 | p::O,x::E,i+1,q,y,h1,h2=>by
  simp only [ZET] at h1 h2;have:=ZyJ l O E i q y h1 h2;rw [ZF3,ZF3,ZF3,ZF3,Zr6,Zr6,this,ZEy]
 | [],_,i,_,_,h1,_=>by simp at h1
 | _::_,[],i,_,_,_,h2=>by simp at h2
theorem Zwv (l:List Ver):∀ (O:List (Nat×Nat)) (E:List Int),(Zr6 l O E).length≤O.length
 | [],_=>ZDX _
 | _::_,[]=>ZDX _
 | p::O,x::E=>by
  have:=Zwv l O E;rw [Zr6,ZEh,ZEn];have h2:(bif x==0 then [Zvy l p] else []).length≤1:=by cases x==0<;>simp
  omega
theorem ZyK (l:List Ver):∀ (O:List (Nat×Nat)) (st:Sta×List Int),(∀ p∈O,InL l p)→(O.foldl (Zvi l) st).2.length=st.2.length+O.length
 | [],_,_=>rfl
 | p::r,st,h=>by
  obtain ⟨v,e,h1,h2⟩:=h p (ZEE ..);rw [ZEv,ZyC h1 h2,ZyK l r _ (fun q hq=>h q (ZEY _ hq))]
  simp;omega
theorem Zx6 (l:List Ver) (valid known:Int):(Zr5 l valid known).2.length=(Zr3 l valid known).length:=by
 unfold Zr5;rw [ZyK l _ _ (Zwd l valid known)];simp
theorem ZyL:∀ L:List Int,Ys (L.map I)=(Zr9 L).map I
 | []=>rfl
 | a::r=>by
  have ih:=ZyL r;rw [ZE7,Ys,Zr9,ih];cases Zr9 r with
  | nil=>rfl
  | cons b s=>
   show (bif (a==b) then _ else _)=_
   dsimp only;cases a==b<;>rfl
theorem Zx7:∀ L:List Int,(Zr9 L).length≤L.length
 | []=>ZEo _
 | a::r=>by
  have ih:=Zx7 r;rw [Zr9,ZEn];cases h:Zr9 r with
  | nil=>simp
  | cons b s=>
   rw [h] at ih;simp only [ZEn] at ih;dsimp only;cases a==b<;>simp<;>omega
theorem ZAq (L:List Int) (hl:L.length≤1000):fnV rE 43 [.sl 0 L.length 0 L.length false] [.row 1 (L.map I)]=some (.sl 0 L.length 0 (Zr9 L).length false,[.row 1 ((Zr9 L).map I++List.replicate (L.length - (Zr9 L).length) (I 0))]):=by
 rw [V8 (s:=ZvY) rfl];unfold ZvY;have h1:(L.map I).all ZvX=true:=by rw [ZEA,ZEd];intro x _;rfl
 have h2:Nat.ble L.length 1000000=true:=ZEu (by omega)
 simp only [ZEB,ZyL,ZDY,h1,h2,beq_self_eq_true,ZEw,cond_true];rfl
abbrev dyF (V:NL Ver) (E:List Int) (O:List (Nat×Nat)) (n i:Nat):Fr:=[(0,vsA V),(7,.isl false false 1 (E.map I)),(8,.sl 0 n 0 n false),(20,.isl false false 2 (O.map prA)),(21,I O.length),(22,I i)]
theorem ZAr (V:NL Ver) (O:List (Nat×Nat)) (hO:∀ p∈O,InL V.l p) (E:List Int) (hE:E.length=O.length) (hl:O.length≤1000):
 Zg rE [0,7,8,20,21,22] c18L0b (dyF V E O 0 0) [.row 1 []] =
  some (.exit 0,dyF V E O (Zr6 V.l O E).length O.length,[.row 1 ((Zr6 V.l O E).map I)]):=by
 have hqi:∀ (l:List Int) n,Zd n (l.map I)=true:=fun l n=>ZN _ (Zw (fun t=>rfl) l)
 have z0:((0:Int)≤0∧(0:Int) < ((2:Nat):Int))=True:=by simp
 have z1:((0:Int)≤1∧(1:Int) < ((2:Nat):Int))=True:=by simp
 have t0:Int.toNat 0 * 1=0:=rfl;have t1:Int.toNat 1 * 1=1:=rfl;have L:=Y8 (E:=rE) (live:=[0,7,8,20,21,22]) (b:=c18L0b) O.length (fun i=>dyF V E O (Zr6 V.l (O.take i) (E.take i)).length i) (fun i=>[.row 1 ((Zr6 V.l (O.take i) (E.take i)).map I)]) (fun i=>rfl)
  (fun i hi=>by
   obtain ⟨p,hp⟩:∃ p,O[i]? = some p:=⟨_,ZDZ hi⟩;obtain ⟨x,hx⟩:∃ x,E[i]? = some x:=⟨_,ZDZ (by omega)⟩
   obtain ⟨v,e,h1,h2⟩:=hO p (ZE6 hp);have hg:=Z6 (f:=prA) hp;have hgx:=Z6 (f:=I) hx;have hg1:=Z6 (f:=Ver.enc) h1;have hg2:=Z6 (f:=fun e=>evA e) h2
   have hev:v.enc=.agg [I v.Authority,I v.Number,I v.At,.str v.Prev,.isl false v.Events.ex 18 (v.Events.l.map fun e=>evA e),I v.Index,.isl false v.Sig.ex 1 (v.Sig.l.map encS),.isl false v.Path.ex 1 (v.Path.l.map encS)]:=rfl
   rw [hev] at hg1;have hi':=Zh hi;have hwr:=Zx (n:=i) (by omega)
   have hlen:=Zwv V.l (O.take i) (E.take i);have hlt:(O.take i).length≤i:=by simp;omega
   rw [ZyJ V.l O E i p x hp hx,ZyI h1 h2];generalize Zr6 V.l (O.take i) (E.take i)=D at *;have hD:=hqi D;have hA:=fun (b:Hp)=>XC (h:=.row 1 (D.map I)::b) (fz:=false) (b:=0) (g:=D.length) (sz:=1) (bytes:=8) (es:=D.map I) (bw:=false) (ex:=false) (ys:=[I e.Day]) (by simp [rowAt]) rfl (by rfl) (by decide) (by decide) (by simp;omega)
   have hb2:∀ n,Zj n (.row 2 [.agg [I p.1,I p.2]])=true:=fun n=>rfl
   refine ⟨dyF V E O (D++(bif x==0 then [e.Day] else [])).length (i+1),?_,rfl⟩;show Zb rE c18L0b (dyF V E O D.length i) [.row 1 (D.map I)]=some (.normal,dyF V E O (D++(bif x==0 then [e.Day] else [])).length (i+1),[.row 1 ((D++(bif x==0 then [e.Day] else [])).map I)])
   cases c:x==0 with
   | false=>
    rw [cond_false,ZE2];simp only [go_sem,qy,qq,qx,qz,qv,qk,reduceIte,c18L0b,dyF,prA,hg,hgx,hg1,hg2,hi',hwr,c,hD,hb2,z0,z1,t0,t1,if_true]
   | true=>
    rw [cond_true,ZE8,ZEh];have hD2:∀ n,Zd n (D.map I++[I e.Day])=true:=fun n=>by rw [Z0T,hD];rfl
    simp only [go_sem,qy,qq,qx,qz,qv,qk,reduceIte,c18L0b,dyF,prA,hg,hgx,hg1,hg2,hi',hwr,c,hD,hD2,hA,hb2,z0,z1,t0,t1,if_true,ZEI,ZE7,ZEb])
  (e:=.exit 0) (fr:=dyF V E O (Zr6 V.l O E).length O.length) (h:=[.row 1 ((Zr6 V.l O E).map I)]) (by
   rw [ZEj,ZEc (ZF4 hE)];have hD:=hqi (Zr6 V.l O E);simp only [go_sem,qy,qq,qx,qz,qv,qk,reduceIte,c18L0b,dyF,ZG,hD]) (by simp)
 exact L
theorem ZyM (V:NL Ver) (hV:VsF V) (known:Int) (hl:(Zr3 V.l 100000 known).length≤40):pfn rE 18 [vsA V,I known]=some (.isl false false 1 ((Zvp V.l known).map I)):=by
 have hO:=Zx1 V hV.s 100000 known;have hA:=ZyF V hV 100000 known hl;have hlen:=Zx6 V.l 100000 known;have hc:=ZsZ (Zr5 V.l 100000 known).1;unfold Zvp;have hI:=Zwd V.l 100000 known;generalize Zr3 V.l 100000 known=O at *;generalize Zr5 V.l 100000 known=st at *;obtain ⟨s,E⟩:=st;have hr:∀ n,Zj n (.row 7 [stA s])=true:=fun n=>ZN (n:=n) [stA s] hc
 have hz:∀ n,Zj n (.row 7 [.agg HE])=true:=fun n=>rfl
 have hqi:∀ (l:List Int) n,Zd n (l.map I)=true:=fun l n=>ZN _ (Zw (fun t=>rfl) l)
 have hci:∀ (l:List Int),Z4 (l.map I)=true:=fun l=>Zw (fun t=>rfl) l
 have L:=ZAr V O hI E hlen (by omega)
 have L':Zg rE [0,7,8,20,21,22] c18L0b [(0,vsA V),(7,.isl false false 1 (E.map I)),(8,.sl 0 0 0 0 false),(20,.isl false false 2 (O.map prA)),(21,I O.length),(22,.int .i64 0)] [.row 1 []]=_:=L;have hS:=ZAq (Zr6 V.l O E) (by have:=Zwv V.l O E;omega)
 have hcl:=Zx7 (Zr6 V.l O E);have htk:List.take (Zr9 (Zr6 V.l O E)).length ((Zr9 (Zr6 V.l O E)).map I++List.replicate ((Zr6 V.l O E).length - (Zr9 (Zr6 V.l O E)).length) (I 0))=(Zr9 (Zr6 V.l O E)).map I:=by
  rw [List.take_append_of_le_length (by simp),ZEc (by simp)]
 rw [Z5 (f:=18) rfl rfl];simp only [HE] at hz;have hln:((Zr9 (Zr6 V.l O E)).length+((Zr6 V.l O E).length - (Zr9 (Zr6 V.l O E)).length)==(Zr6 V.l O E).length)=true:=by rw [beq_iff_eq];omega
 have hD:=hqi (Zr6 V.l O E);have hcD:=hci (Zr9 (Zr6 V.l O E));simp only [go_sem,qy,qq,qx,qz,qv,qk,reduceIte,c18,c18L0,hO,hA,hr,hz,L',hD,hS,htk,hcD,hln,ZEh,List.length_replicate,ZDY]
end Go.AM
namespace Go.AM
open Go
def ltE (l:List Ver) (p q:Nat×Nat):Prop:=lexB (evK l p) (evK l q)=true
theorem ZAs {l:List Ver} {L:List (Nat×Nat)} (h:Zwu l L):(ZvG l L).Pairwise (ltE l):=by
 have h1:=ZwI _ (ZyA h);rw [ZwY,ZEZ] at h1;exact h1
theorem ZyN {l:List Ver} {p:Nat×Nat}:¬ ltE l p p:=fun h=>by unfold ltE at h;rw [Zwm] at h;cases h
theorem Zx8 {l:List Ver} {L:List (Nat×Nat)} (h:L.Pairwise (ltE l)):L.Nodup:=by
 refine List.Pairwise.imp (S:=fun a b=>a≠b) ?_ h
 intro a b h e;subst e;exact ZyN h
theorem ZAt {l:List Ver} {a b:List (Nat×Nat)} (hp:a.Perm b) (h1:a.Pairwise (ltE l)) (h2:b.Pairwise (ltE l)):a=b:=
 List.Perm.eq_of_pairwise (le:=ltE l) (fun x y _ _ q1 q2=>(ZyN (l:=l) (ZvZ _ _ _ q1 q2)).elim) h1 h2 hp
theorem ZD1 {l l':List Ver} {C C':List (Nat×Nat)} (φ:Nat×Nat→Nat×Nat) (hd:Zwu l C)
 (mono:∀ p∈C,∀ q∈C,lexB (evK l p) (evK l q)=true→lexB (evK l' (φ p)) (evK l' (φ q))=true)
 (hn:C'.Nodup) (hm:∀ q,q∈C'↔∃ p∈C,φ p=q):ZvG l' C'=(ZvG l C).map φ:=by
 have hdm:(C.map φ).Pairwise (fun p q=>evK l' p≠evK l' q):=by
  rw [ZEZ];refine List.Pairwise.imp_of_mem ?_ hd;intro p q hp hq hne he;cases c:lexB (evK l p) (evK l q) with
  | true=>
   have:=mono p hp q hq c;rw [he,Zwm] at this;cases this
  | false=>
   cases d:lexB (evK l q) (evK l p) with
   | true=>
    have:=mono q hq p hp d;rw [he,Zwm] at this;cases this
   | false=>exact hne (Zwn _ _ c d)
 have hnm:(C.map φ).Nodup:=hdm.imp (fun h e=>h (by rw [e]))
 have hperm:C'.Perm (C.map φ):=(List.perm_ext_iff_of_nodup hn hnm).2 fun q=>by rw [hm,ZEF]
 have hdC':Zwu l' C':=hperm.symm.pairwise hdm (fun h=>h.symm)
 refine ZAt (l:=l') (((Zwc l' C').trans hperm).trans ((Zwc l C).map φ).symm) (ZAs hdC') ?_;rw [ZEZ];refine List.Pairwise.imp_of_mem ?_ (ZAs hd);intro p q hp hq h;exact mono p ((Zwc l C).mem_iff.1 hp) q ((Zwc l C).mem_iff.1 hq) h
theorem ZDJ {l:List Ver} {C:List (Nat×Nat)} (hd:Zwu l C) (P:Nat×Nat→Bool):ZvG l (C.filter P)=(ZvG l C).filter P:=
 ZAt (l:=l) ((Zwc l _).trans ((Zwc l C).filter P).symm) (ZAs (hd.filter P)) ((ZAs hd).filter P)
structure Counts (l:List Ver) (valid known:Int) (p:Nat×Nat) (v:Ver) (e:Event):Prop where
 gv:l[p.1]? = some v
 ge:v.Events.l[p.2]? = some e
 day:e.Day≤valid
 at':v.At≤known
 first:∀ w∈l.take p.1,¬ (w.Authority=v.Authority∧w.Number=v.Number)
theorem ZyO (l:List Ver) (known:Int) (i:Nat) (v:Ver):Zvl l known i v=true↔v.At≤known∧∀ w∈l.take i,¬ (w.Authority=v.Authority∧w.Number=v.Number):=by
 unfold Zvl;rw [Zyw,ZE0,ZEK,ZF5,ZEK,decide_eq_false_iff_not];constructor
 ·intro h;refine ⟨by have:=h.2;omega,fun w hw hc=>h.1 w hw ?_⟩
  rw [Zwt,hc.1,hc.2]
 ·intro h;refine ⟨fun w hw hc=>h.2 w hw ?_,by have:=h.1;omega⟩
  rw [Zwt,Prod.mk.injEq] at hc;exact ⟨hc.1.symm,hc.2.symm⟩
theorem ZyP {v:Ver} {valid:Int} {i n:Nat} {p:Nat×Nat}:p∈Zr4 v valid i n↔p.1=i∧p.2 < n∧ZvS v valid p.2=true:=by
 unfold Zr4;rw [ZEF];constructor
 ·rintro ⟨k,hk,rfl⟩;have:=ZEG.1 hk;exact ⟨rfl,by simpa using this.1,this.2⟩
 ·rintro ⟨h1,h2,h3⟩;exact ⟨p.2,ZEG.2 ⟨by simpa using h2,h3⟩,by rw [←h1]⟩
theorem ZyQ (l:List Ver) (valid known:Int) (p:Nat×Nat):∀ i,p∈Zr7 l valid known i↔p.1 < i∧∃ v e,Counts l valid known p v e
 | 0=>by simp [Zr7]
 | i+1=>by
  unfold Zr7;rw [ZFb,ZyQ l valid known p i];have key:(p∈(match l[i]? with | some v=>bif Zvl l known i v then Zr4 v valid i v.Events.l.length else [] | none=>[]))↔p.1=i∧∃ v e,Counts l valid known p v e:=by
   cases hv:l[i]? with
   | none=>
    constructor
    ·intro h;cases h
    ·rintro ⟨h1,v,e,h2⟩;have:=h2.gv;rw [h1,hv] at this;cases this
   | some v=>
    show p∈(bif Zvl l known i v then Zr4 v valid i v.Events.l.length else [])↔_
    constructor
    ·intro h;cases ht:Zvl l known i v with
     | false=>rw [ht] at h;cases h
     | true=>
      rw [ht,cond_true,ZyP] at h;obtain ⟨h1,h2,h3⟩:=h;obtain ⟨t1,t2⟩:=(ZyO l known i v).1 ht;unfold ZvS at h3;rw [ZDZ h2] at h3;refine ⟨h1,v,_,⟨by rw [h1];exact hv,ZDZ h2,of_decide_eq_true h3,t1,by rw [h1];exact t2⟩⟩
    ·rintro ⟨h1,w,e,h2⟩;have hw:=h2.gv;rw [h1,hv] at hw;cases hw;have ht:Zvl l known i v=true:=(ZyO l known i v).2 ⟨h2.at',by have:=h2.first;rwa [h1] at this⟩
     rw [ht,cond_true,ZyP];refine ⟨h1,Z7 h2.ge,?_⟩;unfold ZvS;rw [h2.ge];exact decide_eq_true h2.day
  refine Iff.trans (or_congr Iff.rfl key) ?_;constructor
  ·rintro (⟨h1,h2⟩ | ⟨h1,h2⟩)
   ·exact ⟨by omega,h2⟩
   ·exact ⟨by omega,h2⟩
  ·rintro ⟨h1,h2⟩;rcases Nat.lt_or_eq_of_le (Nat.le_of_lt_succ h1) with h | h
   ·exact .inl ⟨h,h2⟩
   ·exact .inr ⟨h,h2⟩
theorem ZAu (l:List Ver) (valid known:Int) (p:Nat×Nat):p∈Zr7 l valid known l.length↔∃ v e,Counts l valid known p v e:=by
 rw [ZyQ];exact ⟨fun h=>h.2,fun ⟨v,e,h⟩=>⟨Z7 h.gv,v,e,h⟩⟩
theorem ZD2 (l:List Ver) (valid known:Int) (i:Nat):(Zr7 l valid known i).Nodup:=(Zx0 l valid known i).imp (fun h e=>h (by rw [e]))
theorem ZvQ (l:List Ver) (valid known:Int) (p:Nat×Nat):p∈Zr3 l valid known↔∃ v e,Counts l valid known p v e:=by
 unfold Zr3;rw [(Zwc l _).mem_iff,ZAu]
theorem Zw6 (l:List Ver) (valid known:Int):(Zr3 l valid known).Pairwise (ltE l):=ZAs (Zx0 ..)
theorem Counts.key {l:List Ver} {valid known:Int} {p:Nat×Nat} {v:Ver} {e:Event} (h:Counts l valid known p v e):evK l p=[e.Day,v.At,v.Authority,v.Number,(p.2:Int)]:=Zw4 h.gv h.ge
theorem Counts.dayK {l:List Ver} {valid known:Int} {p:Nat×Nat} {v:Ver} {e:Event} (h:Counts l valid known p v e):Zvy l p=e.Day:=ZyI h.gv h.ge
def Zvu (st:Sta×List Int) (x:Int×Event):Sta×List Int:=(Zvx st.1 x.1 x.2,st.2++[Zvw st.1 x.1 x.2])
def Zvv (l:List Ver) (p:Nat×Nat):Option (Int×Event):=match l[p.1]? with
 | some v=>(match v.Events.l[p.2]? with | some e=>some (v.Authority,e) | none=>none)
 | none=>none
def stD (D:List (Int×Event)):Sta×List Int:=D.foldl Zvu (Yh,[])
theorem ZyU (l:List Ver):∀ (O:List (Nat×Nat)) (st:Sta×List Int),O.foldl (Zvi l) st=(O.filterMap (Zvv l)).foldl Zvu st
 | [],_=>rfl
 | p::r,st=>by
  rw [ZEv,ZF1,ZyU l r];unfold Zvi Zvv;cases l[p.1]? with
  | none=>rfl
  | some v=>
   dsimp only;cases v.Events.l[p.2]? with
   | none=>rfl
   | some e=>rfl
theorem Zww (l:List Ver) (valid known:Int):Zr5 l valid known=stD ((Zr3 l valid known).filterMap (Zvv l)):=ZyU l _ _
theorem ZAv {l:List Ver} {p:Nat×Nat} {v:Ver} {e:Event} (h1:l[p.1]? = some v) (h2:v.Events.l[p.2]? = some e):Zvv l p=some (v.Authority,e):=by
 unfold Zvv;rw [h1];simp only [h2]
theorem Zwx:∀ (D:List (Int×Event)) (s:Sta) (E:List Int),(D.foldl Zvu (s,E)).1=(D.foldl Zvu (s,[])).1∧(D.foldl Zvu (s,E)).2=E++(D.foldl Zvu (s,[])).2
 | [],s,E=>⟨rfl,by simp⟩
 | x::D,s,E=>by
  rw [ZEv,ZEv];unfold Zvu;obtain ⟨h1,h2⟩:=Zwx D (Zvx s x.1 x.2) (E++[Zvw s x.1 x.2]);obtain ⟨h3,h4⟩:=Zwx D (Zvx s x.1 x.2) ([]++[Zvw s x.1 x.2]);dsimp only;unfold Zvu at h1 h2 h3 h4;rw [h1,h2,h3,h4];exact ⟨rfl,by simp⟩
theorem ZyV:∀ (D:List (Int×Event)) (st:Sta×List Int),(D.foldl Zvu st).2.length=st.2.length+D.length
 | [],_=>rfl
 | x::D,st=>by
  rw [ZEv,ZyV D];simp [Zvu];omega
theorem ZAw {s:Sta} {a:Int} {e:Event} (h:Zvw s a e≠0):Zvx s a e=s:=by
 unfold Zvw at h;unfold Zvx;cases c1:ZoN s a e==0 with
 | false=>rfl
 | true=>
  rw [c1,cond_true] at h;cases c2:Qk s a e==0 with
  | false=>rfl
  | true=>exact (h (by simpa using c2)).elim
end Go.AM
namespace Go.AM
open Go
theorem Zxa (D1 D2:List (Int×Event)):(stD (D1++D2)).1=(D2.foldl Zvu ((stD D1).1,[])).1∧(stD (D1++D2)).2=(stD D1).2++(D2.foldl Zvu ((stD D1).1,[])).2:=by
 unfold stD;rw [ZF9];exact Zwx D2 _ _
theorem ZyW (D:List (Int×Event)):(stD D).2.length=D.length:=by
 unfold stD;rw [ZyV];simp
theorem ZDK (D:List (Int×Event)) (k:Nat) (x:Int) (hx:(stD D).2[k]? = some x) (h0:x≠0):(stD (D.eraseIdx k)).1=(stD D).1∧(stD (D.eraseIdx k)).2=(stD D).2.eraseIdx k:=by
 have hk:k < D.length:=by have:=Z7 hx;rwa [ZyW] at this
 have hD:D=D.take k++D[k]::D.drop (k+1):=by rw [←ZEC hk,ZFc]
 have hE:D.eraseIdx k=D.take k++D.drop (k+1):=ZFk D k;have h1:=Zxa (D.take k) (D[k]::D.drop (k+1));have h2:=Zxa (D.take k) (D.drop (k+1));have hl:=ZyW (D.take k);have hlk:(stD (D.take k)).2.length=k:=by rw [hl,ZEs];omega
 rw [←hD] at h1;rw [←hE] at h2;generalize stD (D.take k)=st at *;obtain ⟨s,E⟩:=st;dsimp only at h1 h2 hlk;rw [ZEv] at h1;have hst:Zvu (s,[]) D[k]=(Zvx s D[k].1 D[k].2,[Zvw s D[k].1 D[k].2]):=rfl;rw [hst] at h1;obtain ⟨f1,f2⟩:=Zwx (D.drop (k+1)) (Zvx s D[k].1 D[k].2) [Zvw s D[k].1 D[k].2];rw [f1,f2] at h1;have hxe:x=Zvw s D[k].1 D[k].2:=by
  rw [h1.2,List.getElem?_append_right (by omega),hlk,Nat.sub_self] at hx
  simpa using hx.symm
 have hs:Zvx s D[k].1 D[k].2=s:=ZAw (by rw [←hxe];exact h0)
 rw [hs] at h1;refine ⟨by rw [h1.1,h2.1],?_⟩
 rw [h1.2,h2.2,List.eraseIdx_append_of_length_le (by omega),hlk,Nat.sub_self]
 rfl
def ZDt (v:Ver) (j:Nat):Ver:={ v with Events:=⟨(v.Events.l.eraseIdx j).isEmpty,v.Events.l.eraseIdx j⟩ }
def ZDv (i j:Nat) (p:Nat×Nat):Nat×Nat:=if p.1=i∧j < p.2 then (p.1,p.2 - 1) else p
theorem ZDw {l:List Ver} {i j:Nat} {v:Ver} (hv:l[i]? = some v) (k:Nat):(l.set i (ZDt v j))[k]? = if k=i then some (ZDt v j) else l[k]?:=by
 rw [List.getElem?_set];by_cases h:i=k
 ·subst h;simp [Z7 hv]
 ·rw [if_neg h,if_neg (fun e=>h e.symm)]
theorem ZDy {l:List Ver} {i j:Nat} {v:Ver} (hv:l[i]? = some v) (n:Nat) (a b:Int):(∀ w∈(l.set i (ZDt v j)).take n,¬ (w.Authority=a∧w.Number=b))↔∀ w∈l.take n,¬ (w.Authority=a∧w.Number=b):=by
 have key:((l.set i (ZDt v j)).take n).map (fun w=>(w.Authority,w.Number))=(l.take n).map (fun w=>(w.Authority,w.Number)):=by
  rw [ZF7,ZF7];congr 1;apply List.ext_getElem?;intro k;rw [ZEX,ZEX,ZDw hv];by_cases h:k=i
  ·subst h;rw [if_pos rfl,hv];rfl
  ·rw [if_neg h]
 have aux:∀ L:List Ver,(∀ w∈L,¬ (w.Authority=a∧w.Number=b))↔(a,b) ∉ L.map (fun w=>(w.Authority,w.Number)):=by
  intro L;rw [ZEF];constructor
  ·rintro h ⟨w,hw,he⟩;rw [Prod.mk.injEq] at he;exact h w hw he
  ·intro h w hw hc;exact h ⟨w,hw,by rw [hc.1,hc.2]⟩
 rw [aux,aux,key]
theorem ZDE {l:List Ver} {valid known:Int} {i j:Nat} {v:Ver} {e:Event} (hc:Counts l valid known (i,j) v e):
 Zr3 (l.set i (ZDt v j)) valid known=((Zr3 l valid known).filter (fun p=>p != (i,j))).map (ZDv i j):=by
 have hv:l[i]? = some v:=hc.gv;unfold Zr3;rw [←ZDJ (Zx0 l valid known l.length)];have hC:∀ p,p∈(Zr7 l valid known l.length).filter (fun p=>p != (i,j))↔(∃ w f,Counts l valid known p w f)∧p≠(i,j):=fun p=>by
  rw [ZEG,ZAu];simp
 have hsh:∀ p w f,Counts l valid known p w f→p≠(i,j)→∃ w',Counts (l.set i (ZDt v j)) valid known (ZDv i j p) w' f∧w'.Authority=w.Authority∧w'.Number=w.Number∧w'.At=w.At:=by
  intro p w f h hne;obtain ⟨p1,p2⟩:=p;by_cases hi:p1=i
  ·subst hi;have hvw:v=w:=by have:=h.gv;rw [hv] at this;exact Option.some.inj this
   subst hvw;have hf:=h.ge;have h2:p2≠j:=fun e=>hne (by rw [e])
   refine ⟨ZDt v j,?_,rfl,rfl,rfl⟩;unfold ZDv;by_cases hj:j < p2
   ·rw [if_pos ⟨rfl,hj⟩];refine ⟨by rw [ZDw hv,if_pos rfl],?_,h.day,h.at',(ZDy hv _ _ _).2 h.first⟩
    show (v.Events.l.eraseIdx j)[p2 - 1]? = some f
    rw [ZF8,if_neg (by omega),ZFj (by omega)]
    exact hf
   ·rw [if_neg (fun hh=>hj hh.2)]
    refine ⟨by rw [ZDw hv,if_pos rfl],?_,h.day,h.at',(ZDy hv _ _ _).2 h.first⟩
    show (v.Events.l.eraseIdx j)[p2]? = some f
    rw [ZF8,if_pos (by omega)]
    exact hf
  ·refine ⟨w,?_,rfl,rfl,rfl⟩;unfold ZDv;rw [if_neg (fun hh=>hi hh.1)]
   exact ⟨by rw [ZDw hv,if_neg hi];exact h.gv,h.ge,h.day,h.at',(ZDy hv _ _ _).2 h.first⟩
 refine ZD1 (ZDv i j) ((Zx0 ..).filter _) ?_ (ZD2 ..) ?_
 ·intro p hp q hq h;obtain ⟨⟨w,f,h1⟩,n1⟩:=(hC p).1 hp;obtain ⟨⟨w',f',h2⟩,n2⟩:=(hC q).1 hq;obtain ⟨u,k1,a1,a2,a3⟩:=hsh p w f h1 n1;obtain ⟨u',k2,b1,b2,b3⟩:=hsh q w' f' h2 n2;rw [h1.key,h2.key] at h;rw [k1.key,k2.key,a1,a2,a3,b1,b2,b3];simp only [lexB,Bool.or_eq_true,decide_eq_true_eq,ZE0,beq_iff_eq,ZEz,ZEQ] at h ⊢;rcases h with h | ⟨e1,h⟩
  ·exact .inl h
  refine .inr ⟨e1,?_⟩;rcases h with h | ⟨e2,h⟩
  ·exact .inl h
  refine .inr ⟨e2,?_⟩;rcases h with h | ⟨e3,h⟩
  ·exact .inl h
  refine .inr ⟨e3,?_⟩;rcases h with h | ⟨e4,h⟩
  ·exact .inl h
  refine .inr ⟨e4,?_⟩;have hpq:p.1=q.1:=by
   rcases Nat.lt_trichotomy p.1 q.1 with hlt | he | hlt
   ·exact (h2.first w (by rw [ZEM];exact ⟨p.1,by rw [ZF0 hlt];exact h1.gv⟩) ⟨e3,e4⟩).elim
   ·exact he
   ·exact (h1.first w' (by rw [ZEM];exact ⟨q.1,by rw [ZF0 hlt];exact h2.gv⟩) ⟨e3.symm,e4.symm⟩).elim
  obtain ⟨p1,p2⟩:=p;obtain ⟨q1,q2⟩:=q;dsimp only at hpq h;subst hpq;unfold ZDv;by_cases hi:p1=i
  ·subst hi;have m1:p2≠j:=fun e=>n1 (by rw [e])
   have m2:q2≠j:=fun e=>n2 (by rw [e])
   dsimp only;by_cases c1:j < p2
   ·by_cases c2:j < q2
    ·rw [if_pos ⟨rfl,c1⟩,if_pos ⟨rfl,c2⟩];dsimp only;omega
    ·omega
   ·by_cases c2:j < q2
    ·rw [if_neg (fun hh=>c1 hh.2),if_pos ⟨rfl,c2⟩];dsimp only;omega
    ·rw [if_neg (fun hh=>c1 hh.2),if_neg (fun hh=>c2 hh.2)];exact h
  ·rw [if_neg (fun hh=>hi hh.1),if_neg (fun hh=>hi hh.1)]
   exact h
 ·intro q;rw [ZAu];constructor
  ·rintro ⟨w,f,h⟩;obtain ⟨q1,q2⟩:=q;have hq:=h.gv;rw [ZDw hv] at hq;by_cases hi:q1=i
   ·subst hi;rw [if_pos rfl] at hq;cases hq;have hf:(v.Events.l.eraseIdx j)[q2]? = some f:=h.ge;rw [ZF8] at hf;have hfi:=(ZDy (j:=j) hv _ _ _).1 h.first
    by_cases c:q2 < j
    ·rw [if_pos c] at hf;refine ⟨(q1,q2),(hC _).2 ⟨⟨v,f,hv,hf,h.day,h.at',hfi⟩,fun e=>?_⟩,?_⟩
     ·rw [Prod.mk.injEq] at e;omega
     ·unfold ZDv;rw [if_neg (fun hh=>by have:=hh.2;dsimp only at this;omega)]
    ·rw [if_neg c] at hf;refine ⟨(q1,q2+1),(hC _).2 ⟨⟨v,f,hv,hf,h.day,h.at',hfi⟩,fun e=>?_⟩,?_⟩
     ·rw [Prod.mk.injEq] at e;omega
     ·unfold ZDv;rw [if_pos ⟨rfl,by dsimp only;omega⟩];rfl
   ·rw [if_neg hi] at hq;refine ⟨(q1,q2),(hC _).2 ⟨⟨w,f,hq,h.ge,h.day,h.at',(ZDy hv _ _ _).1 h.first⟩,fun e=>hi (Prod.mk.inj e).1⟩,?_⟩
    unfold ZDv;rw [if_neg (fun hh=>hi hh.1)]
  ·rintro ⟨p,hp,rfl⟩;obtain ⟨⟨w,f,h1⟩,n1⟩:=(hC p).1 hp;obtain ⟨u,k1,_⟩:=hsh p w f h1 n1;exact ⟨u,f,k1⟩
theorem ZDA {α:Type} [BEq α] [LawfulBEq α]:∀ {L:List α} {k:Nat} {x:α},L.Nodup→L[k]? = some x→L.filter (fun p=>p != x)=L.eraseIdx k
 | y::r,0,x,hn,h=>by
  simp only [ZEB,Option.some.injEq] at h;subst h;rw [ZFl,ZFa];simp only [bne_self_eq_false,ZEf,if_false];rw [List.filter_eq_self];intro z hz;rw [ZEU] at hn;simp only [bne_iff_ne,ne_eq];rintro rfl;exact hn.1 hz
 | y::r,k+1,x,hn,h=>by
  simp only [ZET] at h;rw [ZEU] at hn;have hy:(y != x)=true:=by
   simp only [bne_iff_ne,ne_eq];rintro rfl;exact hn.1 (ZE6 h)
  rw [ZFa,hy,if_pos rfl,ZFm,ZDA hn.2 h]
 | [],k,x,_,h=>by simp at h
theorem ZAy (l:List Ver) (valid known:Int):(Zr3 l valid known).Nodup:=Zx8 (Zw6 l valid known)
theorem ZCW {α β:Type} {f g:α→Option β}:∀ {L:List α},(∀ x∈L,f x=g x)→L.filterMap f=L.filterMap g
 | [],_=>rfl
 | x::r,h=>by rw [ZF1,ZF1,h x (ZEE ..),ZCW (fun y hy=>h y (ZEY _ hy))]
theorem ZDF {l l':List Ver} {φ:Nat×Nat→Nat×Nat}:∀ {O:List (Nat×Nat)} {k:Nat},(∀ p∈O,InL l p)→(∀ p∈O.eraseIdx k,Zvv l' (φ p)=Zvv l p)→((O.eraseIdx k).map φ).filterMap (Zvv l')=(O.filterMap (Zvv l)).eraseIdx k
 | [],k,_,_=>by simp
 | p::r,0,h,hd=>by
  rw [ZFl] at hd ⊢;obtain ⟨v,e,h1,h2⟩:=h p (ZEE ..);rw [ZF1,ZAv h1 h2,ZFl,List.filterMap_map];refine ZCW fun q hq=>?_
  exact hd q hq
 | p::r,k+1,h,hd=>by
  rw [ZFm] at hd ⊢;obtain ⟨v,e,h1,h2⟩:=h p (ZEE ..);rw [ZE7,ZF1,hd p (ZEE ..),ZF1,ZAv h1 h2,ZFm];dsimp only;rw [ZDF (fun q hq=>h q (ZEY _ hq)) (fun q hq=>hd q (ZEY _ hq))]
theorem ZDL {l:List Ver} {valid known:Int} {k i j:Nat} {v:Ver} {x:Int} (hk:(Zr3 l valid known)[k]? = some (i,j)) (hv:l[i]? = some v) (hx:(Zr5 l valid known).2[k]? = some x) (h0:x≠0):
 (Zr5 (l.set i (ZDt v j)) valid known).1=(Zr5 l valid known).1∧(Zr5 (l.set i (ZDt v j)) valid known).2=(Zr5 l valid known).2.eraseIdx k:=by
 obtain ⟨w,e,hc⟩:=(ZvQ ..).1 (ZE6 hk);have hw:w=v:=by have:=hc.gv;dsimp only at this;rw [hv] at this;exact (Option.some.inj this).symm
 subst hw;rw [Zww] at hx;have ho:=ZDE hc;rw [ZDA (ZAy ..) hk] at ho;rw [Zww,Zww,ho];have hd:((Zr3 l valid known).eraseIdx k |>.map (ZDv i j)).filterMap (Zvv (l.set i (ZDt w j)))=((Zr3 l valid known).filterMap (Zvv l)).eraseIdx k:=by
  refine ZDF (Zwd l valid known) fun p hp=>?_
  rw [←ZDA (ZAy ..) hk,ZEG] at hp;obtain ⟨u,f,h1⟩:=(ZvQ ..).1 hp.1;have hne:p≠(i,j):=by simpa using hp.2
  rw [ZAv h1.gv h1.ge];obtain ⟨p1,p2⟩:=p;unfold Zvv ZDv;by_cases hi:p1=i
  ·subst hi;have hwu:w=u:=by have:=h1.gv;dsimp only at this;rw [hv] at this;exact Option.some.inj this
   subst hwu;have hf:=h1.ge;dsimp only at hf;have h2:p2≠j:=fun e=>hne (by rw [e])
   by_cases c:j < p2
   ·rw [if_pos ⟨rfl,c⟩];dsimp only;rw [ZDw hv,if_pos rfl];show (match (w.Events.l.eraseIdx j)[p2 - 1]? with | some e=>some (w.Authority,e) | none=>none)=_
    rw [ZF8,if_neg (by omega),ZFj (by omega),hf]
   ·rw [if_neg (fun hh=>c hh.2)]
    dsimp only;rw [ZDw hv,if_pos rfl];show (match (w.Events.l.eraseIdx j)[p2]? with | some e=>some (w.Authority,e) | none=>none)=_
    rw [ZF8,if_pos (by omega),hf]
  ·rw [if_neg (fun hh=>hi hh.1)]
   dsimp only;have hu:=h1.gv;have hf:=h1.ge;dsimp only at hu hf;rw [ZDw hv,if_neg hi,hu];dsimp only;rw [hf]
 rw [hd];exact ZDK _ k x hx h0
end Go.AM
namespace Go.AM
open Go
end Go.AM
namespace Go.AM
open Go
def ZAD (valid:Int) (e:Event):Bool:=decide (e.Day≤valid)
def atP (known:Int) (v:Ver):Bool:=decide (v.At≤known)
def Zxe (valid:Int) (v:Ver):Ver:={ v with Events:=⟨false,v.Events.l.filter (ZAD valid)⟩ }
def Zwh (l:List Ver) (valid known:Int):List Ver:=(l.filter (atP known)).map (Zxe valid)
theorem Zz4 {α:Type} (f g:α→Nat) (P:α→Bool) (hfg:∀ x,g x≤f x):∀ l:List α,((l.filter P).map g).sum≤(l.map f).sum
 | []=>ZEo _
 | x::r=>by
  have ih:=Zz4 f g P hfg r;have:=hfg x;rw [ZFa,ZE7,List.sum_cons];cases P x with
  | true=>rw [if_pos rfl,ZE7,List.sum_cons];omega
  | false=>rw [if_neg Bool.false_ne_true];omega
theorem FewS.known {l:List Ver} (h:FewS l) (valid known:Int):FewS (Zwh l valid known):=by
 have hl:(Zwh l valid known).length≤l.length:=by unfold Zwh;rw [ZDY];exact ZES _ _
 refine ⟨by have:=h.len;omega,fun u hu e he=>?_,?_⟩
 ·unfold Zwh at hu;obtain ⟨v,hv,rfl⟩:=ZEF.1 hu;exact h.few v (ZEG.1 hv).1 e (ZEG.1 he).1
 ·have h1:=h.sum;rw [ZAo] at h1 ⊢;unfold Zwh;rw [List.map_map];have h2:((l.filter (atP known)).map ((fun v:Ver=>v.Events.l.length) ∘ Zxe valid)).sum≤(l.map (fun v=>v.Events.l.length)).sum:=Zz4 (fun v:Ver=>v.Events.l.length) ((fun v:Ver=>v.Events.l.length) ∘ Zxe valid) (atP known) (fun v=>by show (List.filter _ _).length≤_;exact ZES _ _) l
  omega
end Go.AM
namespace Go.AM
open Go
theorem ZAE (L:List Ver):Z4 (L.map Ver.enc)=true:=Zw (fun v=>by have:=Zyt v;unfold Z4 at this;rw [ZE0] at this;exact this.1) L
theorem ZDh (L:List Event):Z4 (L.map fun e=>evA e)=true:=Zw (fun v=>by have:=ZwW v;unfold Z4 at this;rw [ZE0] at this;exact this.1) L
end Go.AM
namespace Go.AM
open Go
def hdA:Event:={ zEv with Kind:=1,Day:=3,A:=1,Id:=B [109,49],Path:=⟨false,[⟨0,0⟩,⟨20,0⟩,⟨20,20⟩,⟨0,20⟩]⟩ }
def hdS (d:Int):Event:={ zEv with Kind:=2,Day:=d,Id:=B [115,49],Path:=⟨false,[⟨2,2⟩,⟨9,2⟩]⟩ }
def hdV (n t:Int) (es:List Event):Ver:=⟨1,n,t,emp,⟨false,es⟩,0,⟨false,[]⟩,⟨false,[]⟩⟩
def hd0:List Ver:=[hdV 1 5 [hdA,hdS 2]]
def hd1:List Ver:=[hdV 1 5 [hdA,hdS 2],hdV 2 7 [hdS 6]]
theorem ZAF:ZvT hd0 16=true:=by decide +kernel
theorem ZAG:ZvT hd1 16=true:=by decide +kernel
theorem ZAH:Zr3 hd0 9 9=[(0,1),(0,0)]:=by decide +kernel
theorem ZAI:(Zr5 hd0 9 9).2=[18,0]:=by decide +kernel
theorem ZAJ:(Zr5 hd0 9 9).1.Regions.map (fun r=>Z3 r.Id (B [109,49]))=[true]:=by decide +kernel
theorem ZAK:(Zr5 hd0 9 9).1.Streets.length=0:=by decide +kernel
theorem ZAL:Zr3 hd0 9 4=[]:=by decide +kernel
theorem ZAM:Zr3 hd0 1 9=[]:=by decide +kernel
theorem ZAN:(Zr5 hd1 6 7).1.Streets.length=1:=by decide +kernel
theorem ZAO:Zvp hd1 9=[3,6]:=by decide +kernel
theorem Zz5 {l:List Ver} {v k:Int} (h:Zr3 l v k=[]):Zr5 l v k=(Yh,[]):=by
 unfold Zr5;rw [h];rfl
end Go.AM
namespace Go.AM
open Go
theorem ZAP {V:NL Ver} (h:FewS V.l) (valid known:Int):StE (Zr5 V.l valid known).1:=by
 have h1:=Zwf V.l valid known;have h2:=h.sum;have:=(Zx3 h.vs (Zr3 V.l valid known) 0 (Yh,[]) (StN.zero 0) (by omega)).1
 exact this.e
theorem ZCo {a:Int} (h0:0≤a) (h1:a≤255):IntKind.i64.wrap a=a:=YM (by omega) (by omega)
end Go.AM
namespace Go.AM
open Go
end Go.AM
namespace Go.AM
open Go
theorem c6_eq:c6=.seq s6p0 (.seq s6p1 (.seq s6p2 (.seq s6p3 (.seq s6p4 (.seq s6p5 (.seq s6p6 (.seq s6p7 (.seq s6p8 (.seq s6p9 (.seq s6p10 (.seq s6p11 (.seq s6p12 (.seq s6p13 (.seq s6p14 (.seq s6p15 .ret))))))))))))))):=rfl
theorem ZDM {h:Hp} {aid b g sz bytes:Nat} {es ys:List AV} {bw ex fz:Bool} (hr:rowAt h b g=some (sz,es)) (hy:ys.isEmpty=false) (hf:ys.all (fits sz)=true) (h0:0 < sz) (h1:0 < bytes) (h2:(g+ys.length) * bytes≤70368744177664):
 Qt h aid fz sz bytes (.sl b g 0 g false) (.isl bw ex sz ys)=some (.sl b (g+ys.length) 0 (g+ys.length) false,[b],some (b,.row sz (es++ys))):=by
 unfold rowAt at hr;cases hb:h[b]? with
 | none=>rw [hb] at hr;cases hr
 | some o=>
  rw [hb] at hr;cases o with
  | row sz' es'=>
   dsimp only at hr;cases hg:(es'.length==g) with
   | false=>rw [hg] at hr;cases hr
   | true=>
    rw [hg] at hr;simp only [cond_true,Option.some.injEq,Prod.mk.injEq] at hr;obtain ⟨rfl,rfl⟩:=hr;have hl:es'.length=g:=by simpa using hg
    have ht:List.take g es'=es':=ZEc (by omega)
    subst hl;simp only [Qt,Q2,hb,hg,cond_true,ZEi,ht,Qq,beq_self_eq_true,ZE5,h0,h1,h2,and_self,if_true,hy,cond_false,hf,ZEw,Zs]
  | _=>cases hr
theorem ZDN {h:Hp} {aid b g sz bytes:Nat} {es:List AV} {bw ex fz:Bool} (hr:rowAt h b g=some (sz,es)) (h0:0 < sz) (h1:0 < bytes) (h2:g * bytes≤70368744177664):
 Qt h aid fz sz bytes (.sl b g 0 g false) (.isl bw ex sz [])=some (.sl b g 0 g false,[b],none):=by
 unfold rowAt at hr;cases hb:h[b]? with
 | none=>rw [hb] at hr;cases hr
 | some o=>
  rw [hb] at hr;cases o with
  | row sz' es'=>
   dsimp only at hr;cases hg:(es'.length==g) with
   | false=>rw [hg] at hr;cases hr
   | true=>
    rw [hg] at hr;simp only [cond_true,Option.some.injEq,Prod.mk.injEq] at hr;obtain ⟨rfl,rfl⟩:=hr;have hl:es'.length=g:=by simpa using hg
    have ht:List.take g es'=es':=ZEc (by omega)
    subst hl;simp only [Qt,Q2,hb,hg,cond_true,ZEi,ht,Qq,beq_self_eq_true,ZE5,h0,h1,h2,and_self,if_true,Zs,ZEl,Nat.add_zero,List.isEmpty_nil,ZE2]
  | _=>cases hr
theorem ZDG {h:Hp} {b g sz bytes:Nat} {es ys:List AV} {bw ex:Bool} (hr:rowAt h b g=some (sz,es)) (hf:ys.all (fits sz)=true) (h0:0 < sz) (h1:0 < bytes) (h2:(g+ys.length) * bytes≤70368744177664) (hc:Z4 (es++ys)=true):
 Zwk h sz bytes (.sl b g 0 g false) (.isl bw ex sz ys)=some (.isl false false sz (es++ys),[b],some (b,.gone)):=by
 unfold Zwk;have hg:∃ z,h[b]? = some (.row sz es)∧es.length=g∧z=0:=by
  unfold rowAt at hr;cases hb:h[b]? with
  | none=>rw [hb] at hr;cases hr
  | some o=>
   rw [hb] at hr;cases o with
   | row sz' es'=>
    dsimp only at hr;cases hg:(es'.length==g) with
    | false=>rw [hg] at hr;cases hr
    | true=>
     rw [hg] at hr;simp only [cond_true,Option.some.injEq,Prod.mk.injEq] at hr;obtain ⟨rfl,rfl⟩:=hr;exact ⟨0,rfl,by simpa using hg,rfl⟩
   | _=>cases hr
 obtain ⟨_,hb,hl,_⟩:=hg;cases ys with
 | nil=>
  rw [ZDN hr h0 h1 (by simpa using h2)]
  rw [ZE2] at hc ⊢;have e1:(es.length==g&&Z4 es)=true:=by rw [hc,hl];simp
  simp only [ZvE,hb,e1,cond_true,ZEi];rw [ZEc (ZF4 hl)]
 | cons y r=>
  rw [ZDM hr rfl hf h0 h1 h2];have e1:((es++y::r).length==g+(y::r).length&&Z4 (es++y::r))=true:=by rw [hc,ZEh,hl];simp
  have e2:(b==b&&((es++y::r).length==g+(y::r).length&&Z4 (es++y::r)))=true:=by rw [e1];simp
  simp only [ZvE,e2,cond_true,ZEi];rw [ZEc (ZF4 (by rw [ZEh,hl]))]
theorem ZDO (L:List Event):(L.map fun e=>evA e).all (fits 18)=true:=by rw [ZEA,ZEd];intro x _;rfl
theorem ZDP (L:List Int):(L.map I).all (fits 1)=true:=by rw [ZEA,ZEd];intro x _;rfl
theorem ZDQ {V:NL Ver} (h:VsF V) {i j:Nat} {v:Ver} (hv:V.l[i]? = some v):VsF ⟨false,V.l.set i (ZDt v j)⟩:=by
 have hmem:∀ w∈V.l.set i (ZDt v j),w∈V.l∨w=ZDt v j:=fun w hw=>List.mem_or_eq_of_mem_set hw
 have hvm:=ZE6 hv;refine ⟨⟨by show (V.l.set i _).length≤100;rw [ZEN];exact h.s.len,fun w hw=>?_⟩,fun w hw e he=>?_⟩
 ·rcases hmem w hw with h1 | rfl
  ·exact h.s.evs w h1
  ·exact ZEt (List.length_eraseIdx_le ..) (h.s.evs v hvm)
 ·rcases hmem w hw with h1 | rfl
  ·exact h.few w h1 e he
  ·exact h.few v hvm e (List.mem_of_mem_eraseIdx he)
theorem ZDz {h:Hp} {aid b sz bytes:Nat} {ys:List AV} {bw ex:Bool} (hr:h[b]? = some (.row sz [])) (hy:ys.isEmpty=false) (h0:0 < sz) (h1:0 < bytes) (h2:ys.length * bytes≤70368744177664):
 Qt h aid false sz bytes (.sl b 0 0 0 true) (.isl bw ex sz ys)=some (.sl aid ys.length 0 ys.length false,[b],some (aid,.row sz ys)):=by
 simp only [Qt,Q2,hr,ZEl,beq_self_eq_true,cond_true,List.drop_nil,List.take_nil,Qq,ZE5,h0,h1,ZEx,h2,and_self,if_true,hy,cond_false,Yp,Zs,ZE1,ZE2]
theorem ZDB {h:Hp} {aid b sz bytes:Nat} {bw ex:Bool} (hr:h[b]? = some (.row sz [])) (h0:0 < sz) (h1:0 < bytes):
 Qt h aid false sz bytes (.sl b 0 0 0 true) (.isl bw ex sz [])=some (.sl b 0 0 0 true,[b],none):=by
 simp [Qt,Q2,hr,Qq,h0,h1,Zs]
theorem ZDH {h:Hp} {b sz bytes:Nat} {bw ex:Bool} (hr:h[b]? = some (.row sz [])) (h0:0 < sz) (h1:0 < bytes):
 Zwk h sz bytes (.sl b 0 0 0 true) (.isl bw ex sz [])=some (.isl false true sz [],[b],some (b,.gone)):=by
 unfold Zwk;rw [ZDB hr h0 h1];simp only [ZvE,hr];rfl
theorem ZDI {h:Hp} {b sz bytes:Nat} {ys:List AV} {bw ex:Bool} (hr:h[b]? = some (.row sz [])) (hy:ys.isEmpty=false) (h0:0 < sz) (h1:0 < bytes) (h2:ys.length * bytes≤70368744177664) (hc:Z4 ys=true):
 Zwk h sz bytes (.sl b 0 0 0 true) (.isl bw ex sz ys)=some (.isl false false sz ys,[b],some (h.length,.gone)):=by
 unfold Zwk;rw [ZDz hr hy h0 h1 h2];have e2:(h.length==h.length&&(ys.length==ys.length&&Z4 ys))=true:=by rw [hc];simp
 simp only [ZvE,e2,cond_true,ZEi,ZEj]
theorem ZDx (o:AObj):setH [] 0 o=[o]:=rfl
theorem ZDC {fr:Fr} {h:Hp}:Za rE (.bsl false false 18 (.agg [.int .i64 0,.int .i64 0,.int .i64 0,.int .i64 0,.int .i64 0,.str emp,.str emp,.str emp,.isl false false 1 [],.isl false false 3 [],.int .i64 0,.str emp,.int .i64 0,.int .i64 0,.int .i64 0,.int .i64 0,.isl false false 2 [],.isl false false 7 []]) 0 []) fr h=⟨false,[],some h.length,none⟩:=rfl
theorem ZDD {fr:Fr} {h:Hp}:Za rE (.bsl false false 1 (.int .i64 0) 0 []) fr h=⟨false,[],some h.length,none⟩:=rfl
abbrev erF (V:NL Ver) (valid known:Int) (E1:List Int) (k:Nat):Fr:=[(1,I valid),(2,I known),(9,.bool true),(11,.ptr 0 0 0 1),(12,.isl false false 1 (E1.map I)),(13,I k),(16,.sl 2 V.l.length 0 V.l.length false)]
theorem ZDR (V:NL Ver) (valid known:Int) (s:Sta) (E1:List Int) (k i j:Nat) (v:Ver) (e:Event) (hv:V.l[i]? = some v) (he:v.Events.l[j]? = some e) (hl:V.l.length≤20) (hve:v.Events.l.length≤50):
 Zb rE s6p13 [(0,vsA V),(1,I valid),(2,I known),(9,.bool true),(11,.ptr 0 0 0 1),(12,.isl false false 1 (E1.map I)),(13,I k),(14,I i),(15,I j),(16,.sl 2 V.l.length 0 V.l.length false)] [.row 7 [stA s],.row 8 [],.row 8 (V.l.map Ver.enc)] =
  some (.normal,erF V valid known E1 k,[.row 7 [stA s],.row 8 [],.row 8 ((V.l.set i (ZDt v j)).map Ver.enc)]):=by
 have hgv:=Z6 (f:=Ver.enc) hv;have hev:v.enc=.agg [I v.Authority,I v.Number,I v.At,.str v.Prev,.isl false v.Events.ex 18 (v.Events.l.map fun e=>evA e),I v.Index,.isl false v.Sig.ex 1 (v.Sig.l.map encS),.isl false v.Path.ex 1 (v.Path.l.map encS)]:=rfl
 rw [hev] at hgv;have il:=Z7 hv;have jl:=Z7 he;have hwj:=Zx (n:=j) (by omega)
 have bj1:bounds none (some (I j)) none v.Events.l.length=some (0,j,none):=DT (by omega)
 have bj2:bounds (some (I ((j+1:Nat):Int))) none none v.Events.l.length=some (j+1,v.Events.l.length,none):=DS (by omega)
 have hX:List.take j (v.Events.l.map fun e=>evA e)=(v.Events.l.take j).map fun e=>evA e:=ZF7.symm
 have hY:List.take (v.Events.l.length - (j+1)) (List.drop (j+1) (v.Events.l.map fun e=>evA e))=(v.Events.l.drop (j+1)).map fun e=>evA e:=by
  rw [←List.map_drop,ZEc (by simp)]
 have hb:∀ n,Zj n (.row 7 [stA s])=true:=fun n=>ZN (n:=n) [_] (ZsZ _)
 have hbL:∀ n,Zd n ((V.l.set i (ZDt v j)).map Ver.enc)=true:=fun n=>ZN _ (ZAE _)
 have hlX:(v.Events.l.take j).length≤50:=by rw [ZEs];omega
 have hlY:(v.Events.l.drop (j+1)).length≤50:=by rw [List.length_drop];omega
 have hrow:(V.l.map Ver.enc).set i (.agg [I v.Authority,I v.Number,I v.At,.str v.Prev,.isl false ((v.Events.l.take j++v.Events.l.drop (j+1))).isEmpty 18 (((v.Events.l.take j).map fun e=>evA e)++((v.Events.l.drop (j+1)).map fun e=>evA e)),I v.Index,.isl false v.Sig.ex 1 (v.Sig.l.map encS),.isl false v.Path.ex 1 (v.Path.l.map encS)])=(V.l.set i (ZDt v j)).map Ver.enc:=by
  rw [ZEg,←ZE8,←ZFk];rfl
 generalize hXX:v.Events.l.take j=X at *;generalize hYY:v.Events.l.drop (j+1)=Y at *;have hn:(V.l.length==V.l.length)=true:=by simp
 have hia:iaP 2 V.l.length 0 8 (i:Int) V.l.length (some (8,V.l.map Ver.enc))=some (.ptr 2 i 0 V.l.length):=by
  rw [VT _ _ _ _ _ _ _ ⟨by omega,by omega⟩];simp
 cases X with
 | nil=>
  have a1:=fun (r0 r1 r2:AObj) (ex:Bool) (aid:Nat)=>ZDB (h:=[r0,r1,r2,.row 18 []]) (aid:=aid) (b:=3) (sz:=18) (bytes:=240) (bw:=false) (ex:=ex) rfl (by decide) (by decide)
  cases Y with
  | nil=>
   have a2:=fun (r0 r1 r2:AObj) (ex:Bool)=>ZDH (h:=[r0,r1,r2,.row 18 []]) (b:=3) (sz:=18) (bytes:=240) (bw:=false) (ex:=ex) rfl (by decide) (by decide)
   simp only [ZEb,ZE1,List.isEmpty_nil] at hX hY hrow;simp only [go_sem,qy,qq,qx,qz,qv,qk,reduceIte,appW,ZwE,ZM,ZH,wrB,ZDY,ZEN,s6p13,hgv,hwj,bj1,bj2,hX,hY,hb,hbL,hrow,a1,a2,hn,hia,ZDx,ZDC,ZEi,ZF2,ZEn,ZEl,List.set]
  | cons y r=>
   have a2:=fun (r0 r1 r2:AObj) (ex:Bool)=>ZDI (h:=[r0,r1,r2,.row 18 []]) (b:=3) (sz:=18) (bytes:=240) (ys:=(y::r).map fun e=>evA e) (bw:=false) (ex:=ex) rfl rfl (by decide) (by decide) (by rw [ZDY];omega) (ZDh _)
   simp only [ZEb,ZE1,List.isEmpty_cons] at hX hrow;generalize (y::r).map (fun e=>evA e)=YY at *
   simp only [go_sem,qy,qq,qx,qz,qv,qk,reduceIte,appW,ZwE,ZM,ZH,wrB,ZDY,ZEN,s6p13,hgv,hwj,bj1,bj2,hX,hY,hb,hbL,hrow,a1,a2,hn,hia,ZDx,ZDC,ZEi,ZF2,ZEn,ZEl,List.set]
 | cons x t=>
  have a1:=fun (r0 r1 r2:AObj) (ex:Bool) (aid:Nat)=>ZDz (h:=[r0,r1,r2,.row 18 []]) (aid:=aid) (b:=3) (sz:=18) (bytes:=240) (ys:=(x::t).map fun e=>evA e) (bw:=false) (ex:=ex) rfl rfl (by decide) (by decide) (by rw [ZDY];omega)
  have a2:=fun (r0 r1 r2 r3:AObj) (ex:Bool)=>ZDG (h:=[r0,r1,r2,r3,.row 18 ((x::t).map fun e=>evA e)]) (b:=4) (g:=((x::t).map fun e=>evA e).length) (sz:=18) (bytes:=240) (es:=(x::t).map fun e=>evA e) (ys:=Y.map fun e=>evA e) (bw:=false) (ex:=ex) (by simp [rowAt]) (ZDO _) (by decide) (by decide) (by rw [ZDY,ZDY];omega) (by rw [←ZE8];exact ZDh _)
  simp only [ZE3,List.isEmpty_cons] at hrow;generalize (x::t).map (fun e=>evA e)=XX at *
  simp only [go_sem,qy,qq,qx,qz,qv,qk,reduceIte,appW,ZwE,ZM,ZH,wrB,ZDY,ZEN,s6p13,hgv,hwj,bj1,bj2,hX,hY,hb,hbL,hrow,a1,a2,hn,hia,ZDx,ZDC,ZEi,ZF2,ZEn,ZEl,List.set]
theorem ZDS (valid known:Int) (s:Sta) (E1:List Int) (k:Nat) (hk:k < E1.length) (hl:E1.length≤100) (hr1:pfn rE 16 [stA s,stA s]=some (.bool true)) (E2:List Int) (hE:E2=E1.eraseIdx k):
 Zb rE s6p15 [(9,.bool true),(11,.ptr 0 0 0 1),(12,.isl false false 1 (E1.map I)),(13,I k),(17,.ptr 3 0 0 1),(18,.isl false false 1 (E2.map I))] [.row 7 [stA s],.row 8 [],.gone,.row 7 [stA s]] =
  some (.normal,[(8,.bool true)],[.row 7 [stA s],.row 8 [],.gone,.row 7 [stA s]]):=by
 subst hE;have hwk:=Zx (n:=k) (by omega)
 have bk1:bounds none (some (I k)) none E1.length=some (0,k,none):=DT (by omega)
 have bk2:bounds (some (I ((k+1:Nat):Int))) none none E1.length=some (k+1,E1.length,none):=DS (by omega)
 have hX:List.take k (E1.map I)=(E1.take k).map I:=ZF7.symm;have hY:List.take (E1.length - (k+1)) (List.drop (k+1) (E1.map I))=(E1.drop (k+1)).map I:=by
  rw [←List.map_drop,ZEc (by simp)]
 have hXY:(E1.eraseIdx k).map I=(E1.take k).map I++(E1.drop (k+1)).map I:=by rw [ZFk,ZE8]
 have hr2:=fun ex=>ZAj ex (E1.eraseIdx k) (by have:=List.length_eraseIdx_le E1 k;omega)
 rw [hXY] at hr2 ⊢;have hb:∀ n,Zj n (.row 7 [stA s])=true:=fun n=>ZN (n:=n) [_] (ZsZ _)
 have hlX:(E1.take k).length≤100:=by rw [ZEs];omega
 have hlY:(E1.drop (k+1)).length≤100:=by rw [List.length_drop];omega
 generalize hXX:E1.take k=X at *;generalize hYY:E1.drop (k+1)=Y at *;cases X with
 | nil=>
  have a1:=fun (r0 r1 r2 r3:AObj) (ex:Bool) (aid:Nat)=>ZDB (h:=[r0,r1,r2,r3,.row 1 []]) (aid:=aid) (b:=4) (sz:=1) (bytes:=8) (bw:=false) (ex:=ex) rfl (by decide) (by decide)
  cases Y with
  | nil=>
   have a2:=fun (r0 r1 r2 r3:AObj) (ex:Bool)=>ZDH (h:=[r0,r1,r2,r3,.row 1 []]) (b:=4) (sz:=1) (bytes:=8) (bw:=false) (ex:=ex) rfl (by decide) (by decide)
   simp only [ZEb,ZE1] at hX hY hr2 ⊢;simp only [go_sem,qy,qq,qx,qz,qv,qk,reduceIte,appW,ZwE,ZM,ZH,wrB,ZDY,s6p15,hwk,bk1,bk2,hX,hY,hb,hr1,hr2,a1,a2,ZDx,ZDD,ZEi,ZF2,ZEn,ZEl]
  | cons y r=>
   have a2:=fun (r0 r1 r2 r3:AObj) (ex:Bool)=>ZDI (h:=[r0,r1,r2,r3,.row 1 []]) (b:=4) (sz:=1) (bytes:=8) (ys:=(y::r).map I) (bw:=false) (ex:=ex) rfl rfl (by decide) (by decide) (by rw [ZDY];omega) (Zw (fun t=>rfl) _)
   simp only [ZEb,ZE1] at hX hr2 ⊢;generalize (y::r).map I=YY at *;simp only [go_sem,qy,qq,qx,qz,qv,qk,reduceIte,appW,ZwE,ZM,ZH,wrB,ZDY,s6p15,hwk,bk1,bk2,hX,hY,hb,hr1,hr2,a1,a2,ZDx,ZDD,ZEi,ZF2,ZEn,ZEl]
 | cons x t=>
  have a1:=fun (r0 r1 r2 r3:AObj) (ex:Bool) (aid:Nat)=>ZDz (h:=[r0,r1,r2,r3,.row 1 []]) (aid:=aid) (b:=4) (sz:=1) (bytes:=8) (ys:=(x::t).map I) (bw:=false) (ex:=ex) rfl rfl (by decide) (by decide) (by rw [ZDY];omega)
  have a2:=fun (r0 r1 r2 r3 r4:AObj) (ex:Bool)=>ZDG (h:=[r0,r1,r2,r3,r4,.row 1 ((x::t).map I)]) (b:=5) (g:=((x::t).map I).length) (sz:=1) (bytes:=8) (es:=(x::t).map I) (ys:=Y.map I) (bw:=false) (ex:=ex) (by simp [rowAt]) (ZDP _) (by decide) (by decide) (by rw [ZDY,ZDY];omega) (by rw [←ZE8];exact Zw (fun t=>rfl) _)
  generalize (x::t).map I=XX at *;simp only [go_sem,qy,qq,qx,qz,qv,qk,reduceIte,appW,ZwE,ZM,ZH,wrB,ZDY,s6p15,hwk,bk1,bk2,hX,hY,hb,hr1,hr2,a1,a2,ZDx,ZDD,ZEi,ZF2,ZEn,ZEl]
theorem ZeL (hup:pfn rE 8 []=some (.bool true)) (V:NL Ver) (hm:∀ v∈V.l,v.Events.l.length≤140737488355328) (valid known which:Int) (h0:0≤which) (h1:which≤255):
 pfn rE 6 [vsA V,I valid,I known,.int .u8 which]=some (.bool true):=by
 have hF:=ZAm V 16 hm;rw [Z5 (f:=6) rfl rfl];cases c1:ZvT V.l 16 with
 | false=>rw [c1] at hF;simp only [go_sem,qy,qq,qx,qz,qv,qk,reduceIte,c6,s6p0,s6p1,s6p2,s6p3,s6p4,s6p5,s6p6,s6p7,s6p8,s6p9,s6p10,s6p11,s6p12,hup,hF]
 | true=>
  rw [c1] at hF;have hfew:=Zx5 c1;have hw0:=ZCo h0 h1;have hO:=Zx1 V hfew.vs.s valid known;have hA:=Zwg V hfew valid known;have n1:=Zx6 V.l valid known;have hs1:=Zwf V.l valid known;have hs2:=hfew.sum;have hls:∀ (k i j:Nat) v x,(Zr3 V.l valid known)[k]? = some (i,j)→V.l[i]? = some v→(Zr5 V.l valid known).2[k]? = some x→x≠0→_:=fun k i j v x a b c d=>ZDL (valid:=valid) (known:=known) a b c d
  have hlo:∀ (i j:Nat) v e,Counts V.l valid known (i,j) v e→(Zr3 (V.l.set i (ZDt v j)) valid known).length≤40:=fun i j v e hc=>by
   rw [ZDE hc,ZDY];exact ZEt (ZES _ _) (by omega)
  have hom:=fun p=>ZvQ V.l valid known p
  have hste:=ZAP hfew valid known;have hz:∀ n,Zj n (.row 7 [.agg HE])=true:=fun n=>rfl
  simp only [HE] at hz;have b1:∀ n,Zj n (.row 7 [stA (Zr5 V.l valid known).1])=true:=fun n=>ZN (n:=n) [_] (ZsZ _)
  generalize Zr3 V.l valid known=O at *;generalize Zr5 V.l valid known=st1 at *;obtain ⟨s1,E1⟩:=st1;dsimp only at *;have m1:((O.length:Int) != (E1.length:Int))=false:=by rw [n1];simp
  cases c2:((O.length:Int)==0) with
  | true=>simp only [go_sem,qy,qq,qx,qz,qv,qk,reduceIte,ZDY,c6,s6p0,s6p1,s6p2,s6p3,s6p4,s6p5,s6p6,s6p7,s6p8,s6p9,s6p10,s6p11,s6p12,hup,hF,hO,hA,hz,b1,m1,c2]
  | false=>
   have hpos:0 < O.length:=by
    have:(O.length:Int)≠0:=by simpa using c2
    omega
   have hne:((O.length:Int)=0)=False:=eq_false (by omega)
   have r0:=Int.tmod_nonneg (O.length:Int) h0;have r1:=Int.tmod_lt_of_pos which (by omega:(0:Int) < (O.length:Int))
   obtain ⟨k,hk⟩:∃ k:Nat,which.tmod (O.length:Int)=(k:Int):=⟨_,(Int.toNat_of_nonneg r0).symm⟩;have hkl:k < O.length:=by omega
   obtain ⟨⟨i,j⟩,hp⟩:∃ p,O[k]? = some p:=⟨_,ZDZ hkl⟩;obtain ⟨x,hx⟩:∃ x,E1[k]? = some x:=⟨_,ZDZ (by omega)⟩
   obtain ⟨v,e,hc⟩:=(hom (i,j)).1 (ZE6 hp);have hv:V.l[i]? = some v:=hc.gv;have he:v.Events.l[j]? = some e:=hc.ge;have hgp:=Z6 (f:=prA) hp;have hgx:=Z6 (f:=I) hx;have hgv:=Z6 (f:=Ver.enc) hv;have hev:v.enc=.agg [I v.Authority,I v.Number,I v.At,.str v.Prev,.isl false v.Events.ex 18 (v.Events.l.map fun e=>evA e),I v.Index,.isl false v.Sig.ex 1 (v.Sig.l.map encS),.isl false v.Path.ex 1 (v.Path.l.map encS)]:=rfl
   rw [hev] at hgv;have z0:((0:Int)≤0∧(0:Int) < ((2:Nat):Int))=True:=by simp
   have z1:((0:Int)≤1∧(1:Int) < ((2:Nat):Int))=True:=by simp
   have t0:Int.toNat 0 * 1=0:=rfl;have t1:Int.toNat 1 * 1=1:=rfl;cases c3:x==0 with
   | true=>simp only [go_sem,qy,qq,qx,qz,qv,qk,reduceIte,ZDY,c6,s6p0,s6p1,s6p2,s6p3,s6p4,s6p5,s6p6,s6p7,s6p8,s6p9,s6p10,s6p11,s6p12,hup,hF,hO,hA,hz,b1,m1,c2,hw0,hne,hk,prA,hgp,hgx,z0,z1,t0,t1,if_true,if_false,c3]
   | false=>
    have hx0:x≠0:=by simpa using c3
    have il:=Z7 hv;have jl:=Z7 he;have d1:decide ((i:Int) < 0)=false:=decide_eq_false (by omega)
    have d2:decide ((i:Int) ≥ (V.l.length:Int))=false:=decide_eq_false (by omega)
    have d3:decide ((j:Int) < 0)=false:=decide_eq_false (by omega)
    have d4:decide ((j:Int) ≥ (v.Events.l.length:Int))=false:=decide_eq_false (by omega)
    have hls':=hls k i j v x hp hv hx hx0;have hlo':=hlo i j v e hc;have hvs:=ZDQ hfew.vs (j:=j) hv;have hA2:=ZyF ⟨false,V.l.set i (ZDt v j)⟩ hvs valid known hlo';have hve:=hfew.vs.s.evs v (ZE6 hv);have hvl:=hfew.len;dsimp only at hA2;rw [hls'.1,hls'.2] at hA2;have hr1:=ZbM _ hste;have P13:=ZDR V valid known s1 E1 k i j v e hv he (by omega) hve
    have P15:=ZDS valid known s1 E1 k (by omega) (by omega) hr1 _ rfl
    have hcL:=ZAE (V.l.set i (ZDt v j));have hbL:∀ n,Zd n ((V.l.set i (ZDt v j)).map Ver.enc)=true:=fun n=>ZN _ hcL
    have hbV:∀ n,Zd n (V.l.map Ver.enc)=true:=fun n=>ZN _ (ZAE _)
    have hne2:(V.l.map Ver.enc).isEmpty=false:=by cases hh:V.l with | nil=>rw [hh] at il;simp at il | cons _ _=>rfl
    have ha0:=fun (r:AObj) (aid:Nat)=>ZDz (h:=[r,.row 8 []]) (aid:=aid) (b:=1) (sz:=8) (bytes:=120) (ys:=V.l.map Ver.enc) (bw:=false) (ex:=V.ex) rfl hne2 (by decide) (by decide) (by rw [ZDY];omega)
    have htn:List.take V.l.length ((V.l.set i (ZDt v j)).map Ver.enc)=(V.l.set i (ZDt v j)).map Ver.enc:=ZEc (by simp)
    rw [c6_eq];simp only [go_sem,qy,qq,qx,qz,qv,qk,reduceIte,appW,ZM,ZH,ZDY,ZEN,ZEn,ZEl,s6p0,s6p1,s6p2,s6p3,s6p4,s6p5,s6p6,s6p7,s6p8,s6p9,s6p10,s6p11,s6p12,s6p14,P13,P15,ha0,ZDx,hup,hF,hO,hA,hz,b1,m1,c2,hw0,hne,hk,prA,hgp,hgx,hgv,z0,z1,t0,t1,if_true,if_false,c3,d1,d2,d3,d4,hcL,hbL,hbV,hA2,htn,ZEi,beq_self_eq_true]
end Go.AM
namespace Go.AM
open Go
theorem c8_eq:c8=.seq s8p0 (.seq s8p1 (.seq s8p2 (.seq s8p3 (.seq s8p4 (.seq s8p5 (.seq s8p6 (.seq s8p7 (.seq s8p8 (.seq s8p9 (.seq s8p10 (.seq s8p11 (.seq s8p12 .ret)))))))))))):=rfl
theorem ZAS {h:Hp} {sz bytes:Nat} {es ys:List AV} {bw ex:Bool} (hy:ys.isEmpty=false) (h0:0 < sz) (h1:0 < bytes) (h2:(es.length+ys.length) * bytes≤70368744177664) (hc:Z4 (es++ys)=true):
 ZwE h sz bytes (.isl bw true sz es) (.isl false ex sz ys)=some (.isl false false sz (es++ys),h++[.gone]):=by
 have e0:Qt h h.length false sz bytes (.isl bw true sz es) (.isl false ex sz ys)=some (.sl h.length (es++ys).length 0 (es++ys).length false,[],some (h.length,.row sz (es++ys))):=by
  simp only [Qt,Q2,Qq,beq_self_eq_true,ZE5,h0,h1,h2,and_self,if_true,hy,cond_false,Yp,Zs,ZE2]
 unfold ZwE Zwk;rw [e0];have e2:(h.length==h.length&&((es++ys).length==(es++ys).length&&Z4 (es++ys)))=true:=by rw [hc];simp
 have e3:setH h h.length .gone=h++[.gone]:=by
  unfold setH;have:Nat.blt h.length h.length=false:=by rw [Bool.eq_false_iff];intro hh;simp at hh
  rw [this,cond_false]
 simp only [ZvE,e2,cond_true,ZEi,ZEj,ZM,ZH,e3]
theorem ZAT:pfn rE 8 []=some (.bool true):=by
 have f0:=Zx5 ZAF;have f1:=Zx5 ZAG;have o1:=Zx1 ⟨true,hd0⟩ f0.vs.s 9 9;have a1:=Zwg ⟨true,hd0⟩ f0 9 9;have a2:=Zwg ⟨true,hd0⟩ f0 9 4;have a3:=Zwg ⟨true,hd0⟩ f0 1 9;have a4:=Zwg ⟨false,hd1⟩ f1 6 7;have a5:=ZyM ⟨false,hd1⟩ f1.vs 9 (by show (Zr3 hd1 100000 9).length≤40;have h3:=Zwf hd1 100000 9;have h4:=f1.sum;omega)
 dsimp only at o1 a1 a2 a3 a4 a5;rw [ZAH] at o1;rw [ZAI] at a1;rw [Zz5 ZAL] at a2;rw [Zz5 ZAM] at a3;rw [ZAO] at a5;have p1:=ZAi [(0,1),(0,0)] (by decide)
 have p2:=ZAk [18,0] (by decide)
 have p3:=ZAl [3,6] (by decide)
 have h16:pfn rE 16 [stA Yh,.agg HE]=some (.bool true):=ZbM Yh Zx2;have hr:=ZAJ;have hs:=ZAK;have ht:=ZAN;have c1:=ZsZ (Zr5 hd0 9 9).1;have c2:=ZsZ (Zr5 hd1 6 7).1;generalize (Zr5 hd0 9 9).1=S at *;generalize Zr5 hd1 6 7=st2 at *;obtain ⟨T,E2⟩:=st2;dsimp only at *;have bS:∀ n,Zj n (.row 7 [stA S])=true:=fun n=>ZN (n:=n) [_] c1
 have bT:∀ n,Zj n (.row 7 [stA T])=true:=fun n=>ZN (n:=n) [_] c2
 have bZ:∀ n,Zj n (.row 7 [.agg HE])=true:=fun n=>rfl
 have bz:∀ n,Zj n (.row 7 [stA Yh])=true:=fun n=>ZN (n:=n) [_] (ZsZ Yh)
 obtain ⟨r,hR,hid⟩:∃ r,S.Regions=[r]∧Z3 r.Id (B [109,49])=true:=by
  cases hh:S.Regions with
  | nil=>rw [hh] at hr;cases hr
  | cons x t=>
   cases t with
   | nil=>rw [hh] at hr;exact ⟨x,rfl,by simpa using hr⟩
   | cons _ _=>rw [hh] at hr;simp at hr
 have hS:S.Streets=[]:=List.eq_nil_of_length_eq_zero hs;have hT:((T.Streets.length:Int)==1)=true:=by rw [ht];rfl
 simp only [HE] at bZ h16;rw [Z5 (f:=8) rfl rfl,c8_eq];have o1':pfn rE 10 [vsA ⟨true,hd0⟩,I 9,I 9]=some (.isl false false 2 [.agg [I 0,I 1],.agg [I 0,I 0]]):=o1;have p1':pfn rE 13 [.isl false false 2 [.agg [I 0,I 1],.agg [I 0,I 0]],.isl false false 2 [.agg [I 0,I 1],.agg [I 0,I 0]]]=some (.bool true):=p1;have hcS:Z4 [stA Yh]=true:=ZsZ Yh;simp only [vsA,hd0,hd1,hdV,hdA,hdS,zEv,Ver.enc,evA,Pt.enc,ZE7,ZEb] at o1' a1 a2 a3 a4 a5 p2 p3;have z0:decide (((0:Nat):Int) > 0)=false:=rfl;have z1:(((1:Nat):Int) != 1)=false:=rfl;have hap:=fun (h:Hp)=>ZAS (h:=h) (sz:=8) (bytes:=120) (es:=[(hdV 1 5 [hdA,hdS 2]).enc]) (ys:=[(hdV 2 7 [hdS 6]).enc]) (bw:=false) (ex:=false) rfl (by decide) (by decide) (by decide) (ZAE [hdV 1 5 [hdA,hdS 2],hdV 2 7 [hdS 6]])
 simp only [hdV,hdA,hdS,zEv,Ver.enc,evA,Pt.enc,ZE7,ZEb,ZE3,ZE1] at hap;have hix:∀ x:AV,ixG [x] 0=some x:=fun _=>rfl
 have y18:((18:Int)==18)=true:=rfl;simp only [go_sem,qy,qq,qx,qz,qv,qk,reduceIte,s8p0,s8p1,s8p2,s8p3,s8p4,s8p5,s8p6,s8p7,s8p8,s8p9,s8p10,s8p11,s8p12,o1',p1',a1,a2,a3,a4,a5,p2,p3,h16,bS,bT,bZ,bz,hap,hR,Region.enc,hix,hid,hS,hT,z0,z1,ZE7,ZEb,ZEn,ZEl]
end Go.AM
