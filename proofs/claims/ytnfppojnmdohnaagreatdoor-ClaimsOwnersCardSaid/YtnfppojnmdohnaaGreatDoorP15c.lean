/- What the functions of the program compute, part 3, for ClaimsOwners. No condition. -/
import Derived.Test.YtnfppojnmdohnaaGreatDoorP15b
set_option linter.unusedVariables false
set_option linter.unusedSimpArgs false
open Nat renaming reduceAdd → qq, reduceSub → qx, reduceMul → qz, reduceLT → qv, reduceLeDiff → qk, reduceBEq → qy
namespace Go.AM
open Go
theorem Zqr (l:List Str) (hl:l.length≤100000) (id:Str) (bw ex:Bool):pfn rE 246 [.isl bw ex 1 (l.map encS),.str id]=some (.bool (l.any (fun x=>Z3 id x))):=by
 have h:=Nz (f:=305) (enc:=encS) (p:=fun x=>Z3 id x) (v:=.str id) rfl rfl l (by omega) (fun x _=>rfl) rfl (fun x _=>rfl) bw ex
 rw [Z5 (f:=246) rfl rfl,←Vg];unfold WG;cases bw<;>simp only [go_sem,qy,qq,qk,reduceIte,c246,h]
def ZoM (e:Event):List Pt:=
 bif !Q9 e then [] else
 bif e.Kind==1||(e.Kind==2||e.Kind==5) then e.Path.l.take 1 else
 bif e.Kind==6||e.Kind==10 then [e.Point] else
 bif e.Kind==9 then e.Lst.l.map (·.Point) else []
theorem Zqs {e:Event} (h:Q9 e=true) (hk:(e.Kind==1||(e.Kind==2||e.Kind==5))=true):0 < e.Path.l.length:=by
 have hn:=ZcV h;have hp:Vh e.Path.l=true∨Ul e.Path.l=true:=by
  rcases (by simpa using hk:e.Kind=1∨e.Kind=2∨e.Kind=5) with k | k | k
  ·rw [ZcW k] at hn;have hn':(ZZ e.Id&&(ZD e.A 1 3&&Vh e.Path.l))=true:=hn;simp only [Ztz] at hn';exact Or.inl hn'.2.2
  ·rw [ZcW k] at hn;have hn':(ZZ e.Id&&Ul e.Path.l)=true:=hn;simp only [Ztz] at hn';exact Or.inr hn'.2
  ·rw [ZcW k] at hn;have hn':(ZZ e.Id&&Vh e.Path.l)=true:=hn;simp only [Ztz] at hn';exact Or.inl hn'.2
 rcases hp with hp | hp
 ·unfold Vh at hp;rw [Ztz] at hp;have:=of_decide_eq_true hp.1;omega
 ·unfold Ul at hp;simp only [Ztz] at hp;have:=of_decide_eq_true hp.2.1;omega
theorem Zqt (e:Event) (hl:e.Lst.l.length≤1000):Zg rE [3,28,29,30] c55L0b [(3,.sl 0 0 0 0 false),(28,.isl false e.Lst.ex 7 (e.Lst.l.map Ent.enc)),(29,I e.Lst.l.length),(30,.int .i64 0)] [.row 2 []] =
 some (.exit 1,[(3,.sl 0 e.Lst.l.length 0 e.Lst.l.length false),(28,.isl false e.Lst.ex 7 (e.Lst.l.map Ent.enc)),(29,I e.Lst.l.length),(30,I e.Lst.l.length)],[.row 2 ((e.Lst.l.map (·.Point)).map Pt.enc)]):=by
 have hbP:∀ (D:List Pt) n,Zd n (D.map Pt.enc)=true:=fun D n=>ZN _ (Zw (fun t=>rfl) D)
 have L:=Y8 (E:=rE) (live:=[3,28,29,30]) (b:=c55L0b) e.Lst.l.length (fun i=>[(3,.sl 0 i 0 i false),(28,.isl false e.Lst.ex 7 (e.Lst.l.map Ent.enc)),(29,I e.Lst.l.length),(30,I i)])
  (fun i=>[.row 2 (((e.Lst.l.take i).map (·.Point)).map Pt.enc)]) (fun i=>rfl)
  (fun i hi=>by
   obtain ⟨x,hx⟩:∃ x,e.Lst.l[i]? = some x:=⟨_,ZtG hi⟩;have hlen:(e.Lst.l.take i).length=i:=by rw [Zu9];omega
   have hg:=Z6 (f:=Ent.enc) hx;have hi':=Zh hi;have hwr:=Zx (n:=i) (by omega)
   have htk:(e.Lst.l.take (i+1)).map (·.Point)=(e.Lst.l.take i).map (·.Point)++[x.Point]:=by
    rw [Zui,hx,ZtM];rfl
   have ha:=fun (q:AObj)=>XC (h:=[.row 2 (((e.Lst.l.take i).map (·.Point)).map Pt.enc),q]) (fz:=false) (b:=0) (g:=i) (sz:=2) (bytes:=16) (es:=((e.Lst.l.take i).map (·.Point)).map Pt.enc) (bw:=false) (ex:=false) (ys:=[.agg [I x.Point.X,I x.Point.Y]]) (by show (bif (((e.Lst.l.take i).map (·.Point)).map Pt.enc).length==i then _ else none)=_;rw [ZtB,ZtB,hlen,beq_self_eq_true];rfl) rfl rfl (by decide) (by decide) (by simp;omega)
   have hma:((e.Lst.l.take i).map (·.Point)++[x.Point]).map Pt.enc=((e.Lst.l.take i).map (·.Point)).map Pt.enc++[.agg [I x.Point.X,I x.Point.Y]]:=by rw [ZtM];rfl
   rw [htk,hma];have hb2:∀ n,Zd n (((e.Lst.l.take i).map (·.Point)).map Pt.enc++[.agg [I x.Point.X,I x.Point.Y]])=true:=fun n=>by rw [←hma];exact hbP _ n
   generalize ((e.Lst.l.take i).map (·.Point)).map Pt.enc=es at *;refine ⟨[(3,.sl 0 (i+1) 0 (i+1) false),(28,.isl false e.Lst.ex 7 (e.Lst.l.map Ent.enc)),(29,I e.Lst.l.length),(30,I (i+1:Nat))],?_,rfl⟩;simp only [go_sem,qy,qq,qv,qk,reduceIte,c55L0b,hg,hi',hwr,ha,hb2,Ent.enc])
  (e:=.exit 1) (fr:=[(3,.sl 0 e.Lst.l.length 0 e.Lst.l.length false),(28,.isl false e.Lst.ex 7 (e.Lst.l.map Ent.enc)),(29,I e.Lst.l.length),(30,I e.Lst.l.length)]) (h:=[.row 2 ((e.Lst.l.map (·.Point)).map Pt.enc)]) (by
   rw [ZtV];simp only [go_sem,qy,qq,qv,reduceIte,c55L0b,ZG,hbP]) (by simp)
 exact L
theorem Zqu (l:List Pt) (ex:Bool) (h0:0 < l.length) (hl:l.length≤1000000):pfn rE 130 [.isl false ex 2 (l.map Pt.enc)]=some (.isl false false 2 (l.map Pt.enc)):=by
 have hfit:(l.map Pt.enc).all (fits 2)=true:=by
  rw [Zun,ZtN];intro x _;rfl
 have hne:(l.map Pt.enc).isEmpty=false:=by
  cases l with
  | nil=>exact absurd h0 (Nat.not_lt_zero _)
  | cons x r=>rfl
 have hble:Nat.ble l.length 1000000=true:=Zu6 hl;have hc:Z4 (l.map Pt.enc)=true:=Zw (fun t=>rfl) _
 have htk:List.take l.length (l.map Pt.enc)=l.map Pt.enc:=ZtU (by simp)
 have h1:fnV rE 130 [.isl false ex 2 (l.map Pt.enc)] []=some (.sl 0 l.length 0 l.length false,[.row 2 (l.map Pt.enc)]):=by
  rw [V8 (s:=YL 2) rfl];simp only [YL,Q2,Qq,hfit,hne,ZtB,hble,beq_self_eq_true,ZtI,ZtS,ZtT,cond_true,ZtD,Zu3]
 unfold pfn;rw [h1,ZM];simp only [go_sem,hc,htk,ZtB,Zu4,beq_self_eq_true]
theorem Zqv (e:Event) (he:EvS e):pfn rE 55 [evA e]=some (.isl false false 2 ((ZoM e).map Pt.enc)):=by
 have hF:=NH e he;have hL:=Zqt e (by have:=he.lst;omega)
 have hcP:∀ D:List Pt,Z4 (D.map Pt.enc)=true:=fun D=>Zw (fun t=>rfl) _
 have htk:List.take e.Lst.l.length ((e.Lst.l.map (·.Point)).map Pt.enc)=(e.Lst.l.map (·.Point)).map Pt.enc:=ZtU (by simp)
 have hpos:=Zqs (e:=e);rw [Z5 (f:=55) rfl rfl];unfold ZoM;simp only [evA] at hF;cases c0:Q9 e with
 | false=>
  rw [c0] at hF;simp only [go_sem,qy,qq,qk,c55,hF,ZtT,cond_true,ZtK]
 | true=>
 rw [c0] at hF;have hcl:(e.Kind==1||(e.Kind==2||e.Kind==5))=true→∀ x,pfn rE 130 [.isl false x 2 ((e.Path.l.take 1).map Pt.enc)]=some (.isl false false 2 ((e.Path.l.take 1).map Pt.enc)):=fun hk x=>Zqu _ _ (by have:=hpos c0 hk;rw [Zu9];omega) (by rw [Zu9];omega)
 have hp1:(e.Kind==1||(e.Kind==2||e.Kind==5))=true→bounds none (some (I 1)) none e.Path.l.length=some (0,1,none):=fun hk=>by
  have h1:=hpos c0 hk;have h2:Nat.ble 1 e.Path.l.length=true:=Zu6 h1;simp [bounds,Vz,Wl,VA,numOf,VB,h2];rfl
 have hm:List.take 1 (e.Path.l.map Pt.enc)=(e.Path.l.take 1).map Pt.enc:=List.map_take.symm;cases k1:e.Kind==1 with
 | true=>
  rw [k1] at hcl hp1;have hcl:=hcl rfl;have hp1:=hp1 rfl;simp only [go_sem,qy,qq,qk,c55,c55L0,hF,k1,hp1,hm,hcl,ZtO,cond_false,cond_true,ZtI,if_true]
 | false=>
 cases k2:e.Kind==2 with
 | true=>
  rw [k1,k2] at hcl hp1;have hcl:=hcl rfl;have hp1:=hp1 rfl;simp only [go_sem,qy,qq,qk,c55,c55L0,hF,k1,k2,hp1,hm,hcl,ZtO,cond_false,cond_true,ZtI,ZtW,if_true]
 | false=>
 cases k5:e.Kind==5 with
 | true=>
  rw [k1,k2,k5] at hcl hp1;have hcl:=hcl rfl;have hp1:=hp1 rfl;simp only [go_sem,qy,qq,qk,c55,c55L0,hF,k1,k2,k5,hp1,hm,hcl,ZtO,cond_false,cond_true,ZtW,if_true]
 | false=>
 cases k6:e.Kind==6 with
 | true=>simp only [go_sem,qy,qq,qv,qk,reduceIte,c55,c55L0,hF,k1,k2,k5,k6,ZtO,cond_false,cond_true,ZtI,ZtR,ZtL,ZtK,Pt.enc]
 | false=>
 cases k10:e.Kind==10 with
 | true=>simp only [go_sem,qy,qq,qv,qk,reduceIte,c55,c55L0,hF,k1,k2,k5,k6,k10,ZtO,cond_false,cond_true,ZtW,ZtR,ZtL,ZtK,Pt.enc]
 | false=>
 cases k9:e.Kind==9 with
 | true=>simp only [go_sem,qy,qq,qv,qk,reduceIte,c55,c55L0,hF,hL,k1,k2,k5,k6,k10,k9,ZtO,cond_false,cond_true,ZtR,hcP,htk,ZtB,Zu4,beq_self_eq_true]
 | false=>simp only [go_sem,qy,qq,qk,reduceIte,c55,c55L0,hF,k1,k2,k5,k6,k10,k9,ZtO,cond_false,cond_true,ZtR,ZtK]
end Go.AM
namespace Go.AM
open Go
abbrev rqL (s:Sta) (e:Event) (a m:Int):List AV:=[ldI s,I e.Kind,I e.Day,I e.A,I e.B,I e.Office,.str e.Id,.str e.Other,.str e.Text,.isl false e.Ids.ex 1 (e.Ids.l.map encS),.isl false e.Names.ex 3 (e.Names.l.map Nm.enc),
 I e.Number.N,.str e.Number.Letter,I e.Number.Num,I e.Number.Den,I e.Point.X,I e.Point.Y,.isl false e.Path.ex 2 (e.Path.l.map Pt.enc),.isl false e.Lst.ex 7 (e.Lst.l.map Ent.enc),I a,I m]
abbrev rqI (s:Sta) (e:Event) (a m:Int):AV:=.iptr false (rqL s e a m)
structure RqS (s:Sta) (e:Event) (m:Int):Prop where
 c:ClS s
 ev:EvS e
 f:Q9 e=true
 m:0≤m∧m≤63
def Zp0 (s:Sta) (e:Event) (a m:Int):Int:=bif (e.Kind==14&&a != 0)||(e.Kind==13&&Zoq s e.B != m) then 18 else 0
theorem Zqw (s:Sta) (e:Event) (a m:Int) (h:RqS s e m):pfn rE 71 [rqI s e a m]=some (I (Zp0 s e a m)):=by
 have hM:(e.Kind==13)=true→pfn rE 66 [ldI s,I e.B]=some (I (Zoq s e.B)):=fun hk=>by
  have hn:=ZcV h.f;rw [ZcW (k:=13) (by simpa using hk)] at hn
  have hn':K5 e.A e.B=true:=hn;unfold K5 ZD at hn';simp only [Ztz,decide_eq_true_eq] at hn';exact h.c.mst (by omega)
 have hcl:=Zow s;have hbl:=Zot s;rw [Z5 (f:=71) rfl rfl];unfold Zp0;cases c1:e.Kind==14 with
 | true=>
  have c3:(e.Kind==13)=false:=by
   rw [(by simpa using c1:e.Kind=14)]
   rfl
  cases c2:a != 0 with
  | true=>simp only [go_sem,qy,qq,reduceIte,c71,c1,c2,c3,ZtC,ZtI,cond_true]
  | false=>simp only [go_sem,qy,qq,reduceIte,c71,c1,c2,c3,ZtC,ZtH,ZtR,cond_false]
 | false=>
  cases c3:e.Kind==13 with
  | false=>simp only [go_sem,qy,qq,reduceIte,c71,c1,c3,ZtH,ZtR,cond_false]
  | true=>
   have hM:=hM c3;cases c4:Zoq s e.B != m<;>simp only [go_sem,qy,qq,reduceIte,c71,c1,c3,c4,hM,hcl,ZtC,ZtH,ZtR,cond_true,cond_false]
def Zp5 (s:Sta) (e:Event) (m:Int):Int:=bif e.Kind==15&&!s.Regions.any (fun x=>ZoG x&&Zoq s x.Owner==m) then 18 else 0
theorem Zqx (s:Sta) (e:Event) (a m:Int) (h:RqS s e m) (x:Region) (hx:x∈s.Regions):pfn rE 141 [x.enc,.iptr false [rqI s e a m]]=some (.bool (ZoG x&&Zoq s x.Owner==m)):=by
 have hT:=ZpM x;have hM:=h.c.mst (h.c.reg hx).1;have hcl:=Zow s;have hbl:=Zot s;simp only [Region.enc,NL.enc] at hT;rw [Z5 (f:=141) rfl rfl];cases c:ZoG x with
 | false=>
  rw [c] at hT;simp only [go_sem,qy,qq,qk,c141,Region.enc,NL.enc,hT,ZtH]
 | true=>
  rw [c] at hT;simp only [go_sem,qy,qq,qk,reduceIte,c141,Region.enc,NL.enc,hT,hM,ZtC]
theorem ZpP (l:List Region) (hl:l.length≤1000000) (p:Region→Bool) (g:Nat) (cap:List AV) (hc:Z4 cap=true) (hp:∀ x∈l,pfn rE g (x.enc::cap)=some (.bool (p x))):pfn rE 142 [.isl false false 6 (l.map Region.enc),.clo (.func g) [] cap]=some (.bool (l.any p)):=by
 have h:=WF (E:=rE) (f:=247) (sz:=6) (n:=some 6) (enc:=Region.enc) (p:=p) (g:=g) (cap:=cap) rfl rfl hc l (by omega) (fun x _=>x.el) hp false false
 rw [Z5 (f:=142) rfl rfl,←Vg];unfold WG;simp only [go_sem,qy,qq,reduceIte,c142,h,hc]
theorem Zqy (s:Sta) (e:Event) (a m:Int) (h:RqS s e m):pfn rE 73 [rqI s e a m]=some (I (Zp5 s e m)):=by
 have hcl:=Zow s;have hbl:=Zot s;have hc:Z4 [.iptr false [rqI s e a m]]=true:=by simp only [go_sem]
 have hA:=ZpP s.Regions (by have:=h.c.E.sizes.regions;omega) (fun x=>ZoG x&&Zoq s x.Owner==m) 141 [.iptr false [rqI s e a m]] hc (Zqx s e a m h)
 rw [Z5 (f:=73) rfl rfl];unfold Zp5;cases c1:e.Kind==15 with
 | false=>simp only [go_sem,qy,qq,reduceIte,c73,c1,ZtH,cond_false]
 | true=>
  generalize s.Regions.any (fun x=>ZoG x&&Zoq s x.Owner==m)=b at *
  cases b<;>simp only [go_sem,qy,qq,reduceIte,c73,c1,hA,ZtC,ZtO,ZtT,cond_true,cond_false]
end Go.AM
namespace Go.AM
open Go
def plE (s:Sta) (m:Int):List Pt→Int
 | []=>0
 | p::r=>bif !(ZoH s p).any (fun x=>m==x) then 18 else bif (ZoH s p).any (fun c=>c != m&&!ZoW s m c) then 19 else plE s m r
def Zp1 (s:Sta) (e:Event) (a m:Int):Int:=
 bif e.Kind==1 then bif s.Regions.any (fun x=>Z3 x.Id e.Id) then 0 else bif e.A==1&&a==0 then 18 else bif e.A==1 then 0 else plE s m (ZoM e)
 else plE s m (ZoM e)
theorem ZpQ {s:Sta} (h:ClS s):∀ p∈s.Rulings,pfn rE 66 [ldI s,I p.a]=some (I (Zoq s p.a))∧pfn rE 66 [ldI s,I p.b]=some (I (Zoq s p.b)):=by
 intro p hp;have hpa:=h.prop.pa;unfold WK at hpa;simp only [Ztz] at hpa;have:=Zpo (ZtN.1 hpa.2.1 p hp);exact ⟨h.mst this.1.1,h.mst this.2.1⟩
theorem Zqz (l:List Int) (hl:l.length≤1000000) (p:Int→Bool) (g:Nat) (cap:List AV) (hc:Z4 cap=true) (hp:∀ x∈l,pfn rE g (I x::cap)=some (.bool (p x))):pfn rE 145 [.isl false false 1 (l.map I),.clo (.func g) [] cap]=some (.bool (l.any p)):=by
 have h:=WF (E:=rE) (f:=249) (sz:=1) (n:=none) (enc:=I) (p:=p) (g:=g) (cap:=cap) rfl rfl hc l (by omega) (fun x _=>⟨rfl,rfl⟩) hp false false
 rw [Z5 (f:=145) rfl rfl,←Vg];unfold WG;simp only [go_sem,qy,qq,reduceIte,c145,h,hc]
theorem ZqA (s:Sta) (e:Event) (a m:Int) (x:Region):pfn rE 143 [x.enc,.iptr false [rqI s e a m]]=some (.bool (Z3 x.Id e.Id)):=by
 have hcl:=Zow s;have hbl:=Zot s;rw [Z5 (f:=143) rfl rfl];simp only [go_sem,qy,qq,c143,Region.enc,NL.enc]
theorem ZqB (s:Sta) (e:Event) (a m:Int) (h:RqS s e m) (c:Int):pfn rE 146 [I c,.iptr false [rqI s e a m]]=some (.bool (c != m&&!ZoW s m c)):=by
 have hP:=ZpL s m c h.c.E.sizes.rulings (ZpQ h.c);have hcl:=Zow s;have hbl:=Zot s;rw [Z5 (f:=146) rfl rfl];cases c1:c != m with
 | false=>simp only [go_sem,qy,qq,reduceIte,c146,c1,ZtH]
 | true=>simp only [go_sem,qy,qq,reduceIte,c146,c1,hP,hcl,ZtC]
theorem ZqC (s:Sta) (h:ClS s) (p:Pt):(ZoH s p).length≤100000:=by
 unfold ZoH;rw [(Zp3 _).length_eq];have G:∀ (l:List Region) (K:List Int),(l.foldl (ZoF s p) K).length≤K.length+l.length:=by
  intro l;induction l with
  | nil=>intro K;exact ZtX _
  | cons x r ih=>
   intro K;rw [Zup,Zu7];refine Nat.le_trans (ih _) ?_;have:(ZoF s p K x).length≤K.length+1:=by
    unfold ZoF Qi;cases ZoG x&&decide (ZoY x.Ring.l p ≥ 0) with
    | false=>exact Nat.le_succ _
    | true=>
     rw [cond_true];cases K.any (Vm (Zoq s x.Owner)) with
     | true=>exact Nat.le_succ _
     | false=>rw [cond_false,ZtZ];exact ZtX _
   omega
 have:=G s.Regions [];have hl:=h.E.sizes.regions;unfold Zoy;simp only [Zu3] at this;omega
theorem ZpR (s:Sta) (e:Event) (a m:Int) (h:RqS s e m) (l:List Pt) (hl:l.length≤1000):∀ (k i:Nat),i+k=l.length→
 ∃ fr',(plE s m (l.drop i)=0→Zg rE [1,50,51,52] c74L0b [(1,.iptr false [rqI s e a m]),(50,.isl false false 2 (l.map Pt.enc)),(51,I l.length),(52,I i)] []=some (.exit 1,fr',[]))∧
  (plE s m (l.drop i)≠0→Zg rE [1,50,51,52] c74L0b [(1,.iptr false [rqI s e a m]),(50,.isl false false 2 (l.map Pt.enc)),(51,I l.length),(52,I i)] []=some (.ret,fr',[])∧get fr' 2=I (plE s m (l.drop i)))
 | 0,i,hi=>by
  have hd:l.drop i=[]:=List.drop_eq_nil_of_le (by omega)
  have hi':i=l.length:=by omega
  refine ⟨[(1,.iptr false [rqI s e a m]),(2,.bot),(50,.isl false false 2 (l.map Pt.enc)),(51,I l.length),(52,I i)],fun _=>?_,fun hc=>?_⟩
  ·rw [hi'];refine Q7 rfl ?_ (by simp)
   simp only [go_sem,qy,reduceIte,c74L0b,ZG]
  ·rw [hd] at hc;exact absurd rfl hc
 | k+1,i,hi=>by
  obtain ⟨x,hx⟩:∃ x,l[i]? = some x:=⟨_,ZtG (by omega)⟩
  have hg:=Z6 (f:=Pt.enc) hx;have hi':=Zh (Z7 hx);have hwr:=Zx (n:=i) (by omega)
  have hd:l.drop i=x::l.drop (i+1):=by
   rw [Zuc (Z7 hx)];congr 1;have:=ZtG (Z7 hx);rw [hx] at this;exact (Option.some.inj this).symm
  have hcl:=Zow s;have hbl:=Zot s;have hc:Z4 [.iptr false [rqI s e a m]]=true:=by simp only [go_sem]
  have hC:=ZpO s h.c x;have hlen:=ZqC s h.c x;have hI:=DR (ZoH s x) false m (by omega)
  have hA:=Zqz (ZoH s x) (by omega) (fun c=>c != m&&!ZoW s m c) 146 [.iptr false [rqI s e a m]] hc (fun c _=>ZqB s e a m h c)
  rw [hd];unfold plE;cases c1:(ZoH s x).any (fun y=>m==y) with
  | false=>
   rw [c1] at hI;refine ⟨[(1,.iptr false [rqI s e a m]),(2,I 18),(50,.isl false false 2 (l.map Pt.enc)),(51,I l.length),(52,I i)],fun hq=>?_,fun _=>⟨?_,by simp only [go_sem,qy,ZtT,cond_true]⟩⟩
   ·exact absurd (show (18:Int)=0 from hq) (by decide)
   ·refine Q7 rfl ?_ (by simp)
    simp only [go_sem,qy,qq,qv,qk,reduceIte,c74L0b,hg,hi',Pt.enc,hC,hI]
  | true=>
  rw [c1] at hI;cases c2:(ZoH s x).any (fun c=>c != m&&!ZoW s m c) with
  | true=>
   rw [c2] at hA;refine ⟨[(1,.iptr false [rqI s e a m]),(2,I 19),(50,.isl false false 2 (l.map Pt.enc)),(51,I l.length),(52,I i)],fun hq=>?_,fun _=>⟨?_,by simp only [go_sem,qy,ZtO,cond_false,cond_true]⟩⟩
   ·exact absurd (show (19:Int)=0 from hq) (by decide)
   ·refine Q7 rfl ?_ (by simp)
    simp only [go_sem,qy,qq,qv,qk,reduceIte,c74L0b,hg,hi',Pt.enc,hC,hI,hA]
  | false=>
  rw [c2] at hA;obtain ⟨fr',h1,h2⟩:=ZpR s e a m h l hl k (i+1) (by omega)
  have hstep:Zb rE c74L0b [(1,.iptr false [rqI s e a m]),(50,.isl false false 2 (l.map Pt.enc)),(51,I l.length),(52,I i)] []=some (.normal,[(1,.iptr false [rqI s e a m]),(2,.bot),(50,.isl false false 2 (l.map Pt.enc)),(51,I l.length),(52,I (i+1:Nat))],[]):=by
   simp only [go_sem,qy,qq,qv,qk,reduceIte,c74L0b,hg,hi',hwr,Pt.enc,hC,hI,hA]
  rw [Yt rfl hstep];exact ⟨fr',h1,h2⟩
theorem ZqD (s:Sta) (e:Event) (a m:Int) (h:RqS s e m):pfn rE 74 [rqI s e a m]=some (I (Zp1 s e a m)):=by
 have hcl:=Zow s;have hbl:=Zot s;have hc:Z4 [.iptr false [rqI s e a m]]=true:=by simp only [go_sem]
 have hA:=ZpP s.Regions (by have:=h.c.E.sizes.regions;omega) (fun x=>Z3 x.Id e.Id) 143 [.iptr false [rqI s e a m]] hc (fun x _=>ZqA s e a m x)
 have hP:=Zqv e h.ev;have hlen:(ZoM e).length≤1000:=by
  unfold ZoM;have h1:=h.ev.lst;cases Q9 e with
  | false=>exact ZtA _
  | true=>
  cases e.Kind==1||(e.Kind==2||e.Kind==5) with
  | true=>show (e.Path.l.take 1).length≤1000;rw [Zu9];omega
  | false=>
  cases e.Kind==6||e.Kind==10 with
  | true=>show 1≤1000;omega
  | false=>
  cases e.Kind==9 with
  | true=>show (e.Lst.l.map (·.Point)).length≤1000;rw [ZtB];omega
  | false=>exact ZtA _
 have L:=ZpR s e a m h (ZoM e) hlen (ZoM e).length 0 (by omega)
 rw [Zu4] at L;obtain ⟨fr',l1,l2⟩:=L;simp only [evA] at hP;rw [Z5 (f:=74) rfl rfl];unfold Zp1;have z0:((0:Nat):Int)=0:=rfl;rw [z0] at l1 l2;by_cases hz:plE s m (ZoM e)=0
 ·have l1:=l1 hz;rw [hz];cases k1:e.Kind==1 with
  | false=>simp only [go_sem,qy,qq,qk,reduceIte,c74,c74L0,k1,hP,l1,cond_false,ZtB]
  | true=>
   cases k2:s.Regions.any (fun x=>Z3 x.Id e.Id) with
   | true=>
    rw [k2] at hA;simp only [go_sem,qy,qq,reduceIte,c74,c74L0,k1,hA,cond_true]
   | false=>
   rw [k2] at hA;cases k3:e.A==1 with
   | false=>simp only [go_sem,qy,qq,qk,reduceIte,c74,c74L0,k1,k3,hA,hP,l1,cond_true,cond_false,ZtH,ZtB]
   | true=>cases k4:a==0<;>simp only [go_sem,qy,qq,reduceIte,c74,c74L0,k1,k3,k4,hA,cond_true,cond_false,ZtC]
 ·obtain ⟨l2,l3⟩:=l2 hz;cases k1:e.Kind==1 with
  | false=>simp only [go_sem,qy,qq,qk,reduceIte,c74,c74L0,k1,hP,l2,l3,cond_false,ZtB]
  | true=>
   cases k2:s.Regions.any (fun x=>Z3 x.Id e.Id) with
   | true=>
    rw [k2] at hA;simp only [go_sem,qy,qq,reduceIte,c74,c74L0,k1,hA,cond_true]
   | false=>
   rw [k2] at hA;cases k3:e.A==1 with
   | false=>simp only [go_sem,qy,qq,qk,reduceIte,c74,c74L0,k1,k3,hA,hP,l2,l3,cond_true,cond_false,ZtH,ZtB]
   | true=>cases k4:a==0<;>simp only [go_sem,qy,qq,reduceIte,c74,c74L0,k1,k3,k4,hA,cond_true,cond_false,ZtC]
end Go.AM
namespace Go.AM
open Go
def kOf (ks:List Int) (e:Event):Bool:=ks.any (fun x=>e.Kind==x)
theorem ZoJ (e:Event) (ks:List Int) (ex:Bool) (hl:ks.length≤1000):pfn rE 244 [.isl false ex 1 (ks.map I),evI e]=some (.bool (kOf ks e)):=by
 have h:=DR ks ex e.Kind (by omega)
 rw [Z5 (f:=244) rfl rfl];unfold kOf;simp only [go_sem,qy,qq,qx,qz,qv,qk,reduceIte,c244,h]
def Zor (s:Sta) (e:Event):List Str:=
 (((e.Ids.l++bif kOf [9,12] e then [e.Id] else [])++bif kOf [7] e then [e.Other] else [])++bif kOf [8] e then e.Lst.l.map (·.Id) else [])++bif kOf [12] e then (s.Units.filter (fun u=>Z3 u.Id e.Id)).map (·.Door) else []
def ZoQ (e:Event) (x:Region):Bool:=kOf [1,3,12] e&&Z3 x.Id e.Id
def ZoR (e:Event) (x:Street):Bool:=(kOf [3,4,8,12] e&&Z3 x.Id e.Id)||((kOf [4] e&&Z3 x.Id e.Other)||(kOf [6] e&&Z3 x.Id e.Text))
def ZoS (e:Event) (x:Building):Bool:=(kOf [11] e&&Z3 x.Id e.Id)||(kOf [6] e&&Z3 x.Id e.Other)
def ZoT (l:List Str) (x:Door):Bool:=l.any (fun y=>Z3 x.Id y)
def Zou (s:Sta) (m o:Int):Bool:=Zoq s o==m
def Zpb (s:Sta) (e:Event) (m:Int):Bool:=
 s.Regions.all (fun x=>!ZoQ e x||Zou s m x.Owner)&&(s.Streets.all (fun x=>!ZoR e x||Zou s m x.Owner)&&(s.Buildings.all (fun x=>!ZoS e x||Zou s m x.Owner)&&s.Doors.all (fun x=>!ZoT (Zor s e) x||Zou s m x.Owner)))
def Zp6 (s:Sta) (e:Event) (m:Int):Int:=bif Zpb s e m then 0 else 18
def ZoA (s:Sta) (e:Event) (a m:Int):Fr:=[(1,.iptr false [rqI s e a m]),(2,.ptr 0 0 0 1),(12,.clo (.func 245) [] [.iptr false [ldI s],.ptr 1 0 0 1,evI e,.ptr 3 0 0 1])]
def thX (s:Sta) (e:Event) (a m:Int) (n:Int) (st:LoopState) (ex:AExit) (l:List Str):Hp:=[.row 1 [I n],.row 1 [.clo (.func 244) [] [evI e]],.row 1 (l.map encS),.row 1 [.sl 2 l.length 0 l.length false],.loop st ex (ZoA s e a m) [13] c72R0a c72R0b]
abbrev thH (s:Sta) (e:Event) (a m:Int):Hp:=thX s e a m 0 .ready .normal (Zor s e)
abbrev thD (s:Sta) (e:Event) (a m:Int):Hp:=thX s e a m 18 .done .ret (Zor s e)
theorem ZoI (s:Sta) (e:Event) (a m:Int):Zd 5 (frV (ZoA s e a m))=true∧Zd 6 (frV (ZoA s e a m))=true:=by
 have hbl:=Zot s;have hcl:=Zow s;have hc:Z4 [rqI s e a m,ldI s,evI e]=true:=by simp only [go_sem,qy,qq,qx,qz,qv,qk,reduceIte,hcl]
 have hb:=fun n=>ZN (n:=n) _ hc
 simp only [Zd,Ztz] at hb;constructor
 ·obtain ⟨h1,h2,h3,_⟩:=hb 5;simp only [go_sem,qy,qq,qx,qz,qv,qk,reduceIte,ZoA,h1,h2,h3,hbl]
 ·obtain ⟨h1,h2,h3,_⟩:=hb 6;simp only [go_sem,qy,qq,qx,qz,qv,qk,reduceIte,ZoA,h1,h2,h3,hbl]
theorem Zpc (s:Sta) (e:Event) (a m:Int) (o:Int) (q:AObj) (hq:∀ n,Zj n q=true) (hM:pfn rE 66 [ldI s,I o]=some (I (Zoq s o))):
 U4 rE 4 [I o] (thH s e a m++[q])=some (bif Zou s m o then (.bool true,thH s e a m++[q]) else (.bool false,thD s e a m++[q])):=by
 have hcl:=Zow s;have hbl:=Zot s;obtain ⟨hf4,hf5⟩:=ZoI s e a m;unfold Zou;have hS:∀ n,Zd n ((Zor s e).map encS)=true:=fun n=>ZN _ (Zw (fun t=>rfl) _)
 cases c:Zoq s o==m with
 | true=>
  have h:=Ss (E:=rE) (b:=4) (args:=[I o]) (h:=thH s e a m++[q]) (fr:=ZoA s e a m) (ps:=[13]) (assign:=c72R0a) (body:=c72R0b)
   (fr0:=(13,I o)::ZoA s e a m) rfl rfl (by simp only [go_sem,qy,qq,qx,qz,qv,qk,reduceIte,c72R0a,thX,ZoA,ZtE,ZtD]<;>rfl) (by rfl)
   (e:=.normal) (fr2:=[]) (h2:=thX s e a m 0 .busy .normal (Zor s e)++[q])
   (by
    have hne:(Zoq s o != m)=false:=by rw [bne,c];rfl
    simp only [go_sem,qy,qq,qx,qz,qv,qk,reduceIte,c72R0b,thX,ZoA,ZtE,ZtD,hM,hne,hcl,hbl,hq,hS]<;>rfl) (by rfl)
  exact h
 | false=>
  have h:=Ss (E:=rE) (b:=4) (args:=[I o]) (h:=thH s e a m++[q]) (fr:=ZoA s e a m) (ps:=[13]) (assign:=c72R0a) (body:=c72R0b)
   (fr0:=(13,I o)::ZoA s e a m) rfl rfl (by simp only [go_sem,qy,qq,qx,qz,qv,qk,reduceIte,c72R0a,thX,ZoA,ZtE,ZtD]<;>rfl) (by rfl)
   (e:=.ret) (fr2:=[]) (h2:=thX s e a m 18 .busy .normal (Zor s e)++[q])
   (by
    have hne:(Zoq s o != m)=true:=by rw [bne,c];rfl
    simp only [go_sem,qy,qq,qx,qz,qv,qk,reduceIte,c72R0b,thX,ZoA,ZtE,ZtD,hM,hne,hcl,hbl,hq,hS]<;>rfl) (by rfl)
  exact h
theorem ZpS (s:Sta) (e:Event) (a m:Int) (h:RqS s e m) (i:Nat) (x:Region) (hx:s.Regions[i]? = some x) (hl:s.Regions.length≤1000) (ho:0≤x.Owner):
 Zb rE c245L0b [(0,.yld 4),(1,.iptr false [ldI s]),(2,.ptr 1 0 0 1),(3,evI e),(4,.ptr 3 0 0 1),(20,.isl false false 6 (s.Regions.map Region.enc)),(21,I s.Regions.length),(22,I i)] (thH s e a m)=bif !ZoQ e x||Zou s m x.Owner then some (.normal,[(0,.yld 4),(1,.iptr false [ldI s]),(2,.ptr 1 0 0 1),(3,evI e),(4,.ptr 3 0 0 1),(20,.isl false false 6 (s.Regions.map Region.enc)),(21,I s.Regions.length),(22,I (i+1:Nat))],thH s e a m) else some (.ret,[(0,.yld 4),(1,.iptr false [ldI s]),(2,.ptr 1 0 0 1),(3,evI e),(4,.ptr 3 0 0 1),(20,.isl false false 6 (s.Regions.map Region.enc)),(21,I s.Regions.length),(22,I i)],thD s e a m):=by
 have hg:=Z6 (f:=Region.enc) hx;have hi':=Zh (Z7 hx);have hwr:=Zx (n:=i) (by have:=Z7 hx;omega)
 have hcl:=Zow s;have hbl:=Zot s;obtain ⟨hf4,hf5⟩:=ZoI s e a m;have hS:∀ n,Zd n ((Zor s e).map encS)=true:=fun n=>ZN _ (Zw (fun t=>rfl) _)
 have hq:∀ n,Zj n (.row 6 [x.enc])=true:=fun n=>ZN (n:=n) [x.enc] (Zw (f:=Region.enc) (fun t=>rfl) [x])
 have hy:=Zpc s e a m x.Owner (.row 6 [x.enc]) hq (h.c.mst ho);simp only [thX,ZtE,ZtD,Region.enc,NL.enc] at hy;simp only [Region.enc,NL.enc] at hq;have hk0:=ZoJ e [1,3,12] false (by decide)
 simp only [ZtL,ZtK] at hk0;unfold ZoQ;cases c1:kOf [1,3,12] e with
 | false=>
  rw [c1] at hk0;simp only [go_sem,qy,qq,qx,qz,qv,qk,reduceIte,c245L0b,thX,S3,hg,hi',hwr,hcl,hbl,hf4,hf5,hq,hS,hy,Region.enc,NL.enc,ZtO,ZtT,ZtR,ZtI,Zua,ZtW,ZtC,ZtH,cond_true,cond_false,hk0]
 | true=>
 rw [c1] at hk0;cases c2:Z3 x.Id e.Id with
 | false=>simp only [go_sem,qy,qq,qx,qz,qv,qk,reduceIte,c245L0b,thX,S3,hg,hi',hwr,hcl,hbl,hf4,hf5,hq,hS,hy,Region.enc,NL.enc,ZtO,ZtT,ZtR,ZtI,Zua,ZtW,ZtC,ZtH,cond_true,cond_false,hk0,c2]
 | true=>cases c9:Zou s m x.Owner<;>rw [c9] at hy<;>simp only [cond_true,cond_false] at hy<;>simp only [go_sem,qy,qq,qx,qz,qv,qk,reduceIte,c245L0b,thX,S3,hg,hi',hwr,hcl,hbl,hf4,hf5,hq,hS,hy,Region.enc,NL.enc,ZtO,ZtT,ZtR,ZtI,Zua,ZtW,ZtC,ZtH,cond_true,cond_false,hk0,c2]
set_option maxHeartbeats 4000000 in
theorem ZpT (s:Sta) (e:Event) (a m:Int) (h:RqS s e m) (i:Nat) (x:Street) (hx:s.Streets[i]? = some x) (hl:s.Streets.length≤1000) (ho:0≤x.Owner):
 Zb rE c245L1b [(0,.yld 4),(1,.iptr false [ldI s]),(2,.ptr 1 0 0 1),(3,evI e),(4,.ptr 3 0 0 1),(48,.isl false false 5 (s.Streets.map Street.enc)),(49,I s.Streets.length),(50,I i)] (thH s e a m)=bif !ZoR e x||Zou s m x.Owner then some (.normal,[(0,.yld 4),(1,.iptr false [ldI s]),(2,.ptr 1 0 0 1),(3,evI e),(4,.ptr 3 0 0 1),(48,.isl false false 5 (s.Streets.map Street.enc)),(49,I s.Streets.length),(50,I (i+1:Nat))],thH s e a m) else some (.ret,[(0,.yld 4),(1,.iptr false [ldI s]),(2,.ptr 1 0 0 1),(3,evI e),(4,.ptr 3 0 0 1),(48,.isl false false 5 (s.Streets.map Street.enc)),(49,I s.Streets.length),(50,I i)],thD s e a m):=by
 have hg:=Z6 (f:=Street.enc) hx;have hi':=Zh (Z7 hx);have hwr:=Zx (n:=i) (by have:=Z7 hx;omega)
 have hcl:=Zow s;have hbl:=Zot s;obtain ⟨hf4,hf5⟩:=ZoI s e a m;have hS:∀ n,Zd n ((Zor s e).map encS)=true:=fun n=>ZN _ (Zw (fun t=>rfl) _)
 have hq:∀ n,Zj n (.row 5 [x.enc])=true:=fun n=>ZN (n:=n) [x.enc] (Zw (f:=Street.enc) (fun t=>rfl) [x])
 have hy:=Zpc s e a m x.Owner (.row 5 [x.enc]) hq (h.c.mst ho);simp only [thX,ZtE,ZtD,Street.enc,NL.enc] at hy;simp only [Street.enc,NL.enc] at hq;have hk0:=ZoJ e [3,4,8,12] false (by decide)
 simp only [ZtL,ZtK] at hk0;have hk1:=ZoJ e [4] false (by decide)
 simp only [ZtL,ZtK] at hk1;have hk2:=ZoJ e [6] false (by decide)
 simp only [ZtL,ZtK] at hk2;unfold ZoR;cases c1:kOf [3,4,8,12] e<;>cases c4:kOf [4] e<;>cases c6:kOf [6] e<;>rw [c1] at hk0<;>rw [c4] at hk1<;>rw [c6] at hk2<;>cases d1:Z3 x.Id e.Id<;>cases d2:Z3 x.Id e.Other<;>cases d3:Z3 x.Id e.Text<;>
  (first | (simp only [go_sem,qy,qq,qx,qz,qv,qk,reduceIte,c245L1b,thX,S3,hg,hi',hwr,hcl,hbl,hf4,hf5,hq,hS,hy,Street.enc,NL.enc,ZtO,ZtT,ZtR,ZtI,Zua,ZtW,ZtC,ZtH,cond_true,cond_false,hk0,hk1,hk2,d1,d2,d3];done) | (cases c9:Zou s m x.Owner<;>rw [c9] at hy<;>simp only [cond_true,cond_false] at hy<;>simp only [go_sem,qy,qq,qx,qz,qv,qk,reduceIte,c245L1b,thX,S3,hg,hi',hwr,hcl,hbl,hf4,hf5,hq,hS,hy,Street.enc,NL.enc,ZtO,ZtT,ZtR,ZtI,Zua,ZtW,ZtC,ZtH,cond_true,cond_false,hk0,hk1,hk2,d1,d2,d3]))
set_option maxHeartbeats 1000000 in
theorem ZpU (s:Sta) (e:Event) (a m:Int) (h:RqS s e m) (i:Nat) (x:Building) (hx:s.Buildings[i]? = some x) (hl:s.Buildings.length≤1000) (ho:0≤x.Owner):
 Zb rE c245L2b [(0,.yld 4),(1,.iptr false [ldI s]),(2,.ptr 1 0 0 1),(3,evI e),(4,.ptr 3 0 0 1),(102,.isl false false 4 (s.Buildings.map Building.enc)),(103,I s.Buildings.length),(104,I i)] (thH s e a m)=bif !ZoS e x||Zou s m x.Owner then some (.normal,[(0,.yld 4),(1,.iptr false [ldI s]),(2,.ptr 1 0 0 1),(3,evI e),(4,.ptr 3 0 0 1),(102,.isl false false 4 (s.Buildings.map Building.enc)),(103,I s.Buildings.length),(104,I (i+1:Nat))],thH s e a m) else some (.ret,[(0,.yld 4),(1,.iptr false [ldI s]),(2,.ptr 1 0 0 1),(3,evI e),(4,.ptr 3 0 0 1),(102,.isl false false 4 (s.Buildings.map Building.enc)),(103,I s.Buildings.length),(104,I i)],thD s e a m):=by
 have hg:=Z6 (f:=Building.enc) hx;have hi':=Zh (Z7 hx);have hwr:=Zx (n:=i) (by have:=Z7 hx;omega)
 have hcl:=Zow s;have hbl:=Zot s;obtain ⟨hf4,hf5⟩:=ZoI s e a m;have hS:∀ n,Zd n ((Zor s e).map encS)=true:=fun n=>ZN _ (Zw (fun t=>rfl) _)
 have hq:∀ n,Zj n (.row 4 [x.enc])=true:=fun n=>ZN (n:=n) [x.enc] (Zw (f:=Building.enc) (fun t=>rfl) [x])
 have hy:=Zpc s e a m x.Owner (.row 4 [x.enc]) hq (h.c.mst ho);simp only [thX,ZtE,ZtD,Building.enc,NL.enc] at hy;simp only [Building.enc,NL.enc] at hq;have hk0:=ZoJ e [11] false (by decide)
 simp only [ZtL,ZtK] at hk0;have hk1:=ZoJ e [6] false (by decide)
 simp only [ZtL,ZtK] at hk1;unfold ZoS;cases c1:kOf [11] e<;>cases c6:kOf [6] e<;>rw [c1] at hk0<;>rw [c6] at hk1<;>cases d1:Z3 x.Id e.Id<;>cases d2:Z3 x.Id e.Other<;>
  (first | (simp only [go_sem,qy,qq,qx,qz,qv,qk,reduceIte,c245L2b,thX,S3,hg,hi',hwr,hcl,hbl,hf4,hf5,hq,hS,hy,Building.enc,NL.enc,ZtO,ZtT,ZtR,ZtI,Zua,ZtW,ZtC,ZtH,cond_true,cond_false,hk0,hk1,d1,d2];done) | (cases c9:Zou s m x.Owner<;>rw [c9] at hy<;>simp only [cond_true,cond_false] at hy<;>simp only [go_sem,qy,qq,qx,qz,qv,qk,reduceIte,c245L2b,thX,S3,hg,hi',hwr,hcl,hbl,hf4,hf5,hq,hS,hy,Building.enc,NL.enc,ZtO,ZtT,ZtR,ZtI,Zua,ZtW,ZtC,ZtH,cond_true,cond_false,hk0,hk1,d1,d2]))
theorem ZpV (s:Sta) (e:Event) (a m:Int) (h:RqS s e m) (i:Nat) (x:Door) (hx:s.Doors[i]? = some x) (hl:s.Doors.length≤1000) (ho:0≤x.Owner) (hd:(Zor s e).length≤100000):
 Zb rE c245L3b [(0,.yld 4),(4,.ptr 3 0 0 1),(142,.isl false false 16 (s.Doors.map Door.enc)),(143,I s.Doors.length),(144,I i)] (thH s e a m)=bif !ZoT (Zor s e) x||Zou s m x.Owner then some (.normal,[(0,.yld 4),(4,.ptr 3 0 0 1),(142,.isl false false 16 (s.Doors.map Door.enc)),(143,I s.Doors.length),(144,I (i+1:Nat))],thH s e a m) else some (.ret,[(0,.yld 4),(4,.ptr 3 0 0 1),(142,.isl false false 16 (s.Doors.map Door.enc)),(143,I s.Doors.length),(144,I i)],thD s e a m):=by
 have hg:=Z6 (f:=Door.enc) hx;have hi':=Zh (Z7 hx);have hwr:=Zx (n:=i) (by have:=Z7 hx;omega)
 have hcl:=Zow s;have hbl:=Zot s;obtain ⟨hf4,hf5⟩:=ZoI s e a m;have hS:∀ n,Zd n ((Zor s e).map encS)=true:=fun n=>ZN _ (Zw (fun t=>rfl) _)
 have hq:∀ n,Zj n (.row 16 [x.enc])=true:=fun n=>ZN (n:=n) [x.enc] (Zw (f:=Door.enc) (fun t=>rfl) [x])
 have hy:=Zpc s e a m x.Owner (.row 16 [x.enc]) hq (h.c.mst ho);simp only [thX,ZtE,ZtD,Door.enc,NL.enc] at hy;simp only [Door.enc,NL.enc] at hq;unfold ZoT;have hD:=Zqr (Zor s e) hd x.Id true false;have hcS:Z4 ((Zor s e).map encS)=true:=Zw (fun t=>rfl) _
 have htk:List.take (Zor s e).length ((Zor s e).map encS)=(Zor s e).map encS:=ZtU (by simp)
 cases c1:(Zor s e).any (fun y=>Z3 x.Id y) with
 | false=>
  rw [c1] at hD;simp only [go_sem,qy,qq,qx,qz,qv,qk,reduceIte,c245L3b,thX,S3,hg,hi',hwr,hcl,hbl,hf4,hf5,hq,hS,hy,Door.enc,NL.enc,ZtO,ZtT,ZtR,ZtI,Zua,ZtW,ZtC,ZtH,cond_true,cond_false,hD,hcS,htk,ZtB,Zu4,beq_self_eq_true]
 | true=>
  rw [c1] at hD;cases c9:Zou s m x.Owner<;>rw [c9] at hy<;>simp only [cond_true,cond_false] at hy<;>simp only [go_sem,qy,qq,qx,qz,qv,qk,reduceIte,c245L3b,thX,S3,hg,hi',hwr,hcl,hbl,hf4,hf5,hq,hS,hy,Door.enc,NL.enc,ZtO,ZtT,ZtR,ZtI,Zua,ZtW,ZtC,ZtH,cond_true,cond_false,hD,hcS,htk,ZtB,Zu4,beq_self_eq_true]
end Go.AM
namespace Go.AM
open Go
theorem ZqE (s:Sta) (e:Event) (a m:Int) (h:RqS s e m) (hl:s.Regions.length≤1000) (ho:∀ x∈s.Regions,0≤x.Owner):
 ∃ fr' h',Zg rE [0,1,2,3,4,20,21,22] c245L0b [(0,.yld 4),(1,.iptr false [ldI s]),(2,.ptr 1 0 0 1),(3,evI e),(4,.ptr 3 0 0 1),(20,.isl false false 6 (s.Regions.map Region.enc)),(21,I s.Regions.length),(22,.int .i64 0)] (thH s e a m)=some (if s.Regions.all (fun x=>!ZoQ e x||Zou s m x.Owner)=true then .exit 0 else .ret,fr',h')∧
  (s.Regions.all (fun x=>!ZoQ e x||Zou s m x.Owner)=true→fr'=[(0,.yld 4),(1,.iptr false [ldI s]),(2,.ptr 1 0 0 1),(3,evI e),(4,.ptr 3 0 0 1),(20,.isl false false 6 (s.Regions.map Region.enc)),(21,I s.Regions.length),(22,I s.Regions.length)]∧h'=thH s e a m)∧(s.Regions.all (fun x=>!ZoQ e x||Zou s m x.Owner)=false→h'=thD s e a m):=by
 have hbl:=Zot s;have hcl:=Zow s;obtain ⟨hf4,hf5⟩:=ZoI s e a m;have hS:∀ n,Zd n ((Zor s e).map encS)=true:=fun n=>ZN _ (Zw (fun t=>rfl) _)
 have L:=Jk (E:=rE) (live:=[0,1,2,3,4,20,21,22]) (b:=c245L0b) s.Regions (fun _ x=>!ZoQ e x||Zou s m x.Owner) (fun i=>[(0,.yld 4),(1,.iptr false [ldI s]),(2,.ptr 1 0 0 1),(3,evI e),(4,.ptr 3 0 0 1),(20,.isl false false 6 (s.Regions.map Region.enc)),(21,I s.Regions.length),(22,I i)]) (fun _=>thH s e a m) 0
  (fun fr h'=>fr=[(0,.yld 4),(1,.iptr false [ldI s]),(2,.ptr 1 0 0 1),(3,evI e),(4,.ptr 3 0 0 1),(20,.isl false false 6 (s.Regions.map Region.enc)),(21,I s.Regions.length),(22,I s.Regions.length)]∧h'=thH s e a m) (fun _ h'=>h'=thD s e a m) (fun i=>rfl)
  (fun i x hx hP=>by
   have:=ZpS s e a m h i x hx hl (ho x (ZtQ hx));rw [hP,cond_true] at this;exact ⟨_,this,rfl⟩)
  (fun i x hx hP=>by
   have:=ZpS s e a m h i x hx hl (ho x (ZtQ hx));rw [hP,cond_false] at this;exact ⟨_,_,this,rfl⟩)
  ⟨[(0,.yld 4),(1,.iptr false [ldI s]),(2,.ptr 1 0 0 1),(3,evI e),(4,.ptr 3 0 0 1),(20,.isl false false 6 (s.Regions.map Region.enc)),(21,I s.Regions.length),(22,I s.Regions.length)],thH s e a m,by simp only [go_sem,qy,qq,reduceIte,c245L0b,thX,ZG,hf4,hS],rfl,rfl⟩
 rw [QE] at L;exact L
theorem ZqF (s:Sta) (e:Event) (a m:Int) (h:RqS s e m) (hl:s.Streets.length≤1000) (ho:∀ x∈s.Streets,0≤x.Owner):
 ∃ fr' h',Zg rE [0,1,2,3,4,48,49,50] c245L1b [(0,.yld 4),(1,.iptr false [ldI s]),(2,.ptr 1 0 0 1),(3,evI e),(4,.ptr 3 0 0 1),(48,.isl false false 5 (s.Streets.map Street.enc)),(49,I s.Streets.length),(50,.int .i64 0)] (thH s e a m)=some (if s.Streets.all (fun x=>!ZoR e x||Zou s m x.Owner)=true then .exit 2 else .ret,fr',h')∧
  (s.Streets.all (fun x=>!ZoR e x||Zou s m x.Owner)=true→fr'=[(0,.yld 4),(1,.iptr false [ldI s]),(2,.ptr 1 0 0 1),(3,evI e),(4,.ptr 3 0 0 1),(48,.isl false false 5 (s.Streets.map Street.enc)),(49,I s.Streets.length),(50,I s.Streets.length)]∧h'=thH s e a m)∧(s.Streets.all (fun x=>!ZoR e x||Zou s m x.Owner)=false→h'=thD s e a m):=by
 have hbl:=Zot s;have hcl:=Zow s;obtain ⟨hf4,hf5⟩:=ZoI s e a m;have hS:∀ n,Zd n ((Zor s e).map encS)=true:=fun n=>ZN _ (Zw (fun t=>rfl) _)
 have L:=Jk (E:=rE) (live:=[0,1,2,3,4,48,49,50]) (b:=c245L1b) s.Streets (fun _ x=>!ZoR e x||Zou s m x.Owner) (fun i=>[(0,.yld 4),(1,.iptr false [ldI s]),(2,.ptr 1 0 0 1),(3,evI e),(4,.ptr 3 0 0 1),(48,.isl false false 5 (s.Streets.map Street.enc)),(49,I s.Streets.length),(50,I i)]) (fun _=>thH s e a m) 2
  (fun fr h'=>fr=[(0,.yld 4),(1,.iptr false [ldI s]),(2,.ptr 1 0 0 1),(3,evI e),(4,.ptr 3 0 0 1),(48,.isl false false 5 (s.Streets.map Street.enc)),(49,I s.Streets.length),(50,I s.Streets.length)]∧h'=thH s e a m) (fun _ h'=>h'=thD s e a m) (fun i=>rfl)
  (fun i x hx hP=>by
   have:=ZpT s e a m h i x hx hl (ho x (ZtQ hx));rw [hP,cond_true] at this;exact ⟨_,this,rfl⟩)
  (fun i x hx hP=>by
   have:=ZpT s e a m h i x hx hl (ho x (ZtQ hx));rw [hP,cond_false] at this;exact ⟨_,_,this,rfl⟩)
  ⟨[(0,.yld 4),(1,.iptr false [ldI s]),(2,.ptr 1 0 0 1),(3,evI e),(4,.ptr 3 0 0 1),(48,.isl false false 5 (s.Streets.map Street.enc)),(49,I s.Streets.length),(50,I s.Streets.length)],thH s e a m,by simp only [go_sem,qy,qq,reduceIte,c245L1b,thX,ZG,hf4,hS],rfl,rfl⟩
 rw [QE] at L;exact L
theorem ZqG (s:Sta) (e:Event) (a m:Int) (h:RqS s e m) (hl:s.Buildings.length≤1000) (ho:∀ x∈s.Buildings,0≤x.Owner):
 ∃ fr' h',Zg rE [0,1,2,3,4,102,103,104] c245L2b [(0,.yld 4),(1,.iptr false [ldI s]),(2,.ptr 1 0 0 1),(3,evI e),(4,.ptr 3 0 0 1),(102,.isl false false 4 (s.Buildings.map Building.enc)),(103,I s.Buildings.length),(104,.int .i64 0)] (thH s e a m)=some (if s.Buildings.all (fun x=>!ZoS e x||Zou s m x.Owner)=true then .exit 4 else .ret,fr',h')∧
  (s.Buildings.all (fun x=>!ZoS e x||Zou s m x.Owner)=true→fr'=[(0,.yld 4),(1,.iptr false [ldI s]),(2,.ptr 1 0 0 1),(3,evI e),(4,.ptr 3 0 0 1),(102,.isl false false 4 (s.Buildings.map Building.enc)),(103,I s.Buildings.length),(104,I s.Buildings.length)]∧h'=thH s e a m)∧(s.Buildings.all (fun x=>!ZoS e x||Zou s m x.Owner)=false→h'=thD s e a m):=by
 have hbl:=Zot s;have hcl:=Zow s;obtain ⟨hf4,hf5⟩:=ZoI s e a m;have hS:∀ n,Zd n ((Zor s e).map encS)=true:=fun n=>ZN _ (Zw (fun t=>rfl) _)
 have L:=Jk (E:=rE) (live:=[0,1,2,3,4,102,103,104]) (b:=c245L2b) s.Buildings (fun _ x=>!ZoS e x||Zou s m x.Owner) (fun i=>[(0,.yld 4),(1,.iptr false [ldI s]),(2,.ptr 1 0 0 1),(3,evI e),(4,.ptr 3 0 0 1),(102,.isl false false 4 (s.Buildings.map Building.enc)),(103,I s.Buildings.length),(104,I i)]) (fun _=>thH s e a m) 4
  (fun fr h'=>fr=[(0,.yld 4),(1,.iptr false [ldI s]),(2,.ptr 1 0 0 1),(3,evI e),(4,.ptr 3 0 0 1),(102,.isl false false 4 (s.Buildings.map Building.enc)),(103,I s.Buildings.length),(104,I s.Buildings.length)]∧h'=thH s e a m) (fun _ h'=>h'=thD s e a m) (fun i=>rfl)
  (fun i x hx hP=>by
   have:=ZpU s e a m h i x hx hl (ho x (ZtQ hx));rw [hP,cond_true] at this;exact ⟨_,this,rfl⟩)
  (fun i x hx hP=>by
   have:=ZpU s e a m h i x hx hl (ho x (ZtQ hx));rw [hP,cond_false] at this;exact ⟨_,_,this,rfl⟩)
  ⟨[(0,.yld 4),(1,.iptr false [ldI s]),(2,.ptr 1 0 0 1),(3,evI e),(4,.ptr 3 0 0 1),(102,.isl false false 4 (s.Buildings.map Building.enc)),(103,I s.Buildings.length),(104,I s.Buildings.length)],thH s e a m,by simp only [go_sem,qy,qq,reduceIte,c245L2b,thX,ZG,hf4,hS],rfl,rfl⟩
 rw [QE] at L;exact L
theorem ZqH (s:Sta) (e:Event) (a m:Int) (h:RqS s e m) (hl:s.Doors.length≤1000) (ho:∀ x∈s.Doors,0≤x.Owner) (hd:(Zor s e).length≤100000):
 ∃ fr' h',Zg rE [0,4,142,143,144] c245L3b [(0,.yld 4),(4,.ptr 3 0 0 1),(142,.isl false false 16 (s.Doors.map Door.enc)),(143,I s.Doors.length),(144,.int .i64 0)] (thH s e a m)=some (if s.Doors.all (fun x=>!ZoT (Zor s e) x||Zou s m x.Owner)=true then .exit 6 else .ret,fr',h')∧
  (s.Doors.all (fun x=>!ZoT (Zor s e) x||Zou s m x.Owner)=true→fr'=[(0,.yld 4),(4,.ptr 3 0 0 1),(142,.isl false false 16 (s.Doors.map Door.enc)),(143,I s.Doors.length),(144,I s.Doors.length)]∧h'=thH s e a m)∧(s.Doors.all (fun x=>!ZoT (Zor s e) x||Zou s m x.Owner)=false→h'=thD s e a m):=by
 have hbl:=Zot s;have hcl:=Zow s;obtain ⟨hf4,hf5⟩:=ZoI s e a m;have hS:∀ n,Zd n ((Zor s e).map encS)=true:=fun n=>ZN _ (Zw (fun t=>rfl) _)
 have L:=Jk (E:=rE) (live:=[0,4,142,143,144]) (b:=c245L3b) s.Doors (fun _ x=>!ZoT (Zor s e) x||Zou s m x.Owner) (fun i=>[(0,.yld 4),(4,.ptr 3 0 0 1),(142,.isl false false 16 (s.Doors.map Door.enc)),(143,I s.Doors.length),(144,I i)]) (fun _=>thH s e a m) 6
  (fun fr h'=>fr=[(0,.yld 4),(4,.ptr 3 0 0 1),(142,.isl false false 16 (s.Doors.map Door.enc)),(143,I s.Doors.length),(144,I s.Doors.length)]∧h'=thH s e a m) (fun _ h'=>h'=thD s e a m) (fun i=>rfl)
  (fun i x hx hP=>by
   have:=ZpV s e a m h i x hx hl (ho x (ZtQ hx)) hd;rw [hP,cond_true] at this;exact ⟨_,this,rfl⟩)
  (fun i x hx hP=>by
   have:=ZpV s e a m h i x hx hl (ho x (ZtQ hx)) hd;rw [hP,cond_false] at this;exact ⟨_,_,this,rfl⟩)
  ⟨[(0,.yld 4),(4,.ptr 3 0 0 1),(142,.isl false false 16 (s.Doors.map Door.enc)),(143,I s.Doors.length),(144,I s.Doors.length)],thH s e a m,by simp only [go_sem,qy,qq,reduceIte,c245L3b,thX,ZG,hf4,hS],rfl,rfl⟩
 rw [QE] at L;exact L
def owH (e:Event) (l:List Str):Hp:=[.row 1 [I 0],.row 1 [.clo (.func 244) [] [evI e]],.row 1 (l.map encS),.row 1 [.sl 2 l.length 0 l.length false]]
theorem Zpd (e:Event) (l:List Str) (x:Str) (hl:l.length≤1000000) (r:List AObj):appW (owH e l++r) true 1 16 (.sl 2 l.length 0 l.length false) (.isl false false 1 [.str x]) =
 some (.sl 2 (l.length+1) 0 (l.length+1) false,[.row 1 [I 0],.row 1 [.clo (.func 244) [] [evI e]],.row 1 ((l++[x]).map encS),.row 1 [.sl 2 l.length 0 l.length false]]++r):=by
 have:=XC (h:=owH e l++r) (fz:=true) (b:=2) (g:=l.length) (sz:=1) (bytes:=16) (es:=l.map encS) (bw:=false) (ex:=false) (ys:=[.str x]) (by
  show (bif (l.map encS).length==l.length then some (1,l.map encS) else none)=_
  rw [ZtB,beq_self_eq_true];rfl) rfl rfl (by decide) (by decide) (by simp;omega)
 rw [this,ZtM];rfl
theorem ZoU (e:Event) (n:Nat):bel n (evI e)=true:=by
 have hc:Z4 [evI e]=true:=by simp only [go_sem]
 have:=ZN (n:=n) [evI e] hc;unfold Zd at this;rw [Ztz] at this;exact this.1
theorem ZqI (s:Sta) (e:Event) (l:List Str) (hl:l.length+e.Lst.l.length≤100000):Zg rE [2,3,5,6,35,36,37] c140L0b [(2,.iptr false [ldI s]),(3,evI e),(5,.ptr 1 0 0 1),(6,.ptr 3 0 0 1),(35,.isl false e.Lst.ex 7 (e.Lst.l.map Ent.enc)),(36,I e.Lst.l.length),(37,.int .i64 0)] (owH e l) =
 some (.exit 0,[(2,.iptr false [ldI s]),(3,evI e),(5,.ptr 1 0 0 1),(6,.ptr 3 0 0 1),(35,.isl false e.Lst.ex 7 (e.Lst.l.map Ent.enc)),(36,I e.Lst.l.length),(37,I e.Lst.l.length)],owH e (l++e.Lst.l.map (·.Id))):=by
 have hbl:=Zot s;have hbe:=ZoU e;have hS:∀ (D:List Str) n,Zd n (D.map encS)=true:=fun D n=>ZN _ (Zw (fun t=>rfl) _)
 have L:=Y8 (E:=rE) (live:=[2,3,5,6,35,36,37]) (b:=c140L0b) e.Lst.l.length (fun i=>[(2,.iptr false [ldI s]),(3,evI e),(5,.ptr 1 0 0 1),(6,.ptr 3 0 0 1),(35,.isl false e.Lst.ex 7 (e.Lst.l.map Ent.enc)),(36,I e.Lst.l.length),(37,I i)])
  (fun i=>owH e (l++(e.Lst.l.take i).map (·.Id))) (fun i=>rfl)
  (fun i hi=>by
   obtain ⟨x,hx⟩:∃ x,e.Lst.l[i]? = some x:=⟨_,ZtG hi⟩;have hg:=Z6 (f:=Ent.enc) hx;have hi':=Zh hi;have hwr:=Zx (n:=i) (by omega)
   have htk:l++(e.Lst.l.take (i+1)).map (·.Id)=(l++(e.Lst.l.take i).map (·.Id))++[x.Id]:=by
    rw [Zui,hx,ZtM,Zu5];rfl
   have hlen:(l++(e.Lst.l.take i).map (·.Id)).length≤1000000:=by rw [ZtZ,ZtB,Zu9];omega
   rw [htk];generalize l++(e.Lst.l.take i).map (·.Id)=D at *;have ha:=fun q=>Zpd e D x.Id hlen [q]
   simp only [owH,ZtE,ZtD] at ha;have hl1:(D++[x.Id]).length=D.length+1:=by simp
   refine ⟨[(2,.iptr false [ldI s]),(3,evI e),(5,.ptr 1 0 0 1),(6,.ptr 3 0 0 1),(35,.isl false e.Lst.ex 7 (e.Lst.l.map Ent.enc)),(36,I e.Lst.l.length),(37,I (i+1:Nat))],?_,rfl⟩;unfold owH;rw [hl1];simp only [go_sem,qy,qq,qv,qk,reduceIte,c140L0b,hg,hi',hwr,ha,Ent.enc,hbe,hS])
  (e:=.exit 0) (fr:=[(2,.iptr false [ldI s]),(3,evI e),(5,.ptr 1 0 0 1),(6,.ptr 3 0 0 1),(35,.isl false e.Lst.ex 7 (e.Lst.l.map Ent.enc)),(36,I e.Lst.l.length),(37,I e.Lst.l.length)]) (h:=owH e (l++e.Lst.l.map (·.Id))) (by
   rw [ZtV];simp only [go_sem,qy,qq,qv,reduceIte,c140L0b,owH,ZG,hbe,hS]) (by simp)
 have e0:l++(e.Lst.l.take 0).map (·.Id)=l:=by simp
 rw [e0] at L;exact L
theorem ZqJ (s:Sta) (e:Event) (l:List Str) (hl:l.length+s.Units.length≤100000):Zg rE [2,3,5,6,54,55,56] c140L1b [(2,.iptr false [ldI s]),(3,evI e),(5,.ptr 1 0 0 1),(6,.ptr 3 0 0 1),(54,.isl false false 6 (s.Units.map Unit'.enc)),(55,I s.Units.length),(56,.int .i64 0)] (owH e l) =
 some (.exit 2,[(2,.iptr false [ldI s]),(3,evI e),(5,.ptr 1 0 0 1),(6,.ptr 3 0 0 1),(54,.isl false false 6 (s.Units.map Unit'.enc)),(55,I s.Units.length),(56,I s.Units.length)],owH e (l++(s.Units.filter (fun u=>Z3 u.Id e.Id)).map (·.Door))):=by
 have hbl:=Zot s;have hbe:=ZoU e;have hS:∀ (D:List Str) n,Zd n (D.map encS)=true:=fun D n=>ZN _ (Zw (fun t=>rfl) _)
 have L:=Y8 (E:=rE) (live:=[2,3,5,6,54,55,56]) (b:=c140L1b) s.Units.length (fun i=>[(2,.iptr false [ldI s]),(3,evI e),(5,.ptr 1 0 0 1),(6,.ptr 3 0 0 1),(54,.isl false false 6 (s.Units.map Unit'.enc)),(55,I s.Units.length),(56,I i)])
  (fun i=>owH e (l++((s.Units.take i).filter (fun u=>Z3 u.Id e.Id)).map (·.Door))) (fun i=>rfl)
  (fun i hi=>by
   obtain ⟨x,hx⟩:∃ x,s.Units[i]? = some x:=⟨_,ZtG hi⟩;have hg:=Z6 (f:=Unit'.enc) hx;have hi':=Zh hi;have hwr:=Zx (n:=i) (by omega)
   have htk:l++((s.Units.take (i+1)).filter (fun u=>Z3 u.Id e.Id)).map (·.Door)=(l++((s.Units.take i).filter (fun u=>Z3 u.Id e.Id)).map (·.Door))++bif Z3 x.Id e.Id then [x.Door] else []:=by
    rw [Zui,hx,List.filter_append,ZtM,Zu5];congr 2;show ([x].filter _).map _=_
    cases hc:Z3 x.Id e.Id<;>simp [hc]
   have hlen:(l++((s.Units.take i).filter (fun u=>Z3 u.Id e.Id)).map (·.Door)).length≤1000000:=by
    rw [ZtZ,ZtB];have:=List.length_filter_le (fun u:Unit'=>Z3 u.Id e.Id) (s.Units.take i)
    rw [Zu9] at this;omega
   rw [htk];generalize l++((s.Units.take i).filter (fun u=>Z3 u.Id e.Id)).map (·.Door)=D at *
   refine ⟨[(2,.iptr false [ldI s]),(3,evI e),(5,.ptr 1 0 0 1),(6,.ptr 3 0 0 1),(54,.isl false false 6 (s.Units.map Unit'.enc)),(55,I s.Units.length),(56,I (i+1:Nat))],?_,rfl⟩;cases c:Z3 x.Id e.Id with
   | false=>
    rw [cond_false,ZtF];simp only [go_sem,qy,qq,qv,qk,reduceIte,c140L1b,owH,hg,hi',hwr,Unit'.enc,c,hbe,hS]
   | true=>
    rw [cond_true];have ha:=fun q=>Zpd e D x.Door hlen [q]
    simp only [owH,ZtE,ZtD] at ha;have hl1:(D++[x.Door]).length=D.length+1:=by simp
    unfold owH;rw [hl1];simp only [go_sem,qy,qq,qv,qk,reduceIte,c140L1b,hg,hi',hwr,ha,Unit'.enc,c,hbe,hS])
  (e:=.exit 2) (fr:=[(2,.iptr false [ldI s]),(3,evI e),(5,.ptr 1 0 0 1),(6,.ptr 3 0 0 1),(54,.isl false false 6 (s.Units.map Unit'.enc)),(55,I s.Units.length),(56,I s.Units.length)]) (h:=owH e (l++(s.Units.filter (fun u=>Z3 u.Id e.Id)).map (·.Door))) (by
   rw [ZtV];simp only [go_sem,qy,qq,qv,reduceIte,c140L1b,owH,ZG,hbe,hS]) (by simp)
 have e0:l++((s.Units.take 0).filter (fun u=>Z3 u.Id e.Id)).map (·.Door)=l:=by simp
 rw [e0] at L;exact L
theorem ZqK (l:List Str) (ex:Bool) (hl:l.length≤1000000) (h:Hp):fnV rE 164 [.isl false ex 1 (l.map encS)] h=some (.sl h.length l.length 0 l.length false,h++[.row 1 (l.map encS)]):=by
 have hble:Nat.ble l.length 1000000=true:=Zu6 hl;have hfit:(l.map encS).all (fits 1)=true:=by rw [Zun,ZtN];intro x _;rfl
 rw [V8 (s:=J9) rfl];simp only [J9,Q2,Qq,hfit,ZtB,hble,beq_self_eq_true,ZtI,ZtS,cond_true]
end Go.AM
namespace Go.AM
open Go
theorem c140_eq:c140=.seq s140p0 (.seq s140p1 (.seq s140p2 (.seq s140p3 (.seq s140p4 (.seq s140p5 (.seq s140p6 (.seq s140p7 .ret))))))):=rfl
def owG (s:Sta) (e:Event) (k:Nat) (b:Bool):Fr:=bif b then [(2,.iptr false [ldI s]),(3,evI e),(5,.ptr 1 0 0 1),(6,.ptr 3 0 0 1)] else [(2,.iptr false [ldI s]),(3,evI e),(5,.ptr 1 0 0 1),(6,.ptr 3 0 0 1),(k,.bool false)]
def ow1 (e:Event) (l:List Str):List Str:=l++bif kOf [9,12] e then [e.Id] else []
def ow2 (e:Event) (l:List Str):List Str:=l++bif kOf [7] e then [e.Other] else []
def ow3 (e:Event) (l:List Str):List Str:=l++bif kOf [8] e then e.Lst.l.map (·.Id) else []
def ow4 (s:Sta) (e:Event) (l:List Str):List Str:=l++bif kOf [12] e then (s.Units.filter (fun u=>Z3 u.Id e.Id)).map (·.Door) else []
theorem ZpW (s:Sta) (e:Event):Zor s e=ow4 s e (ow3 e (ow2 e (ow1 e e.Ids.l))):=rfl
theorem ZqL (s:Sta) (e:Event) (l:List Str) (b:Bool) (hl:l.length≤100000):Zb rE s140p3 (owG s e 0 b) (owH e l)=some (.normal,owG s e 17 (kOf [9,12] e),owH e (ow1 e l)):=by
 have hbl:=Zot s;have hbe:=ZoU e;have hS:∀ (D:List Str) n,Zd n (D.map encS)=true:=fun D n=>ZN _ (Zw (fun t=>rfl) _)
 have hk:=ZoJ e [9,12] false (by decide)
 simp only [ZtL,ZtK] at hk;unfold ow1;cases c:kOf [9,12] e with
 | false=>
  rw [c] at hk;rw [cond_false,ZtF];cases b<;>simp only [go_sem,qy,qq,qv,qk,s140p3,owG,cond_true,cond_false,owH,hk,hbe,hS]
 | true=>
  rw [c] at hk;rw [cond_true];have ha:=Zpd e l e.Id (by omega) []
  have hl1:(l++[e.Id]).length=l.length+1:=by simp
  unfold owH at ha ⊢;rw [hl1];simp only [ZtF] at ha;cases b<;>simp only [go_sem,qy,qq,qv,qk,s140p3,owG,cond_true,cond_false,hk,ha,hbe,hS]
theorem ZqM (s:Sta) (e:Event) (l:List Str) (b:Bool) (hl:l.length≤100000):Zb rE s140p4 (owG s e 17 b) (owH e l)=some (.normal,owG s e 25 (kOf [7] e),owH e (ow2 e l)):=by
 have hbl:=Zot s;have hbe:=ZoU e;have hS:∀ (D:List Str) n,Zd n (D.map encS)=true:=fun D n=>ZN _ (Zw (fun t=>rfl) _)
 have hk:=ZoJ e [7] false (by decide)
 simp only [ZtL,ZtK] at hk;unfold ow2;cases c:kOf [7] e with
 | false=>
  rw [c] at hk;rw [cond_false,ZtF];cases b<;>simp only [go_sem,qy,qq,qv,qk,s140p4,owG,cond_true,cond_false,owH,hk,hbe,hS]
 | true=>
  rw [c] at hk;rw [cond_true];have ha:=Zpd e l e.Other (by omega) []
  have hl1:(l++[e.Other]).length=l.length+1:=by simp
  unfold owH at ha ⊢;rw [hl1];simp only [ZtF] at ha;cases b<;>simp only [go_sem,qy,qq,qv,qk,s140p4,owG,cond_true,cond_false,hk,ha,hbe,hS]
theorem ZqN (s:Sta) (e:Event) (l:List Str) (b:Bool) (hl:l.length+e.Lst.l.length≤100000):Zb rE s140p5 (owG s e 25 b) (owH e l)=some (.normal,owG s e 33 (kOf [8] e),owH e (ow3 e l)):=by
 have hbl:=Zot s;have hbe:=ZoU e;have hS:∀ (D:List Str) n,Zd n (D.map encS)=true:=fun D n=>ZN _ (Zw (fun t=>rfl) _)
 have hE:∀ n,Zd n (e.Lst.l.map Ent.enc)=true:=fun n=>ZN _ (Zw (fun t=>rfl) _)
 have hk:=ZoJ e [8] false (by decide)
 simp only [ZtL,ZtK] at hk;unfold ow3;cases c:kOf [8] e with
 | false=>
  rw [c] at hk;rw [cond_false,ZtF];cases b<;>simp only [go_sem,qy,qq,qv,qk,s140p5,owG,cond_true,cond_false,owH,hk,hbe,hS]
 | true=>
  rw [c] at hk;rw [cond_true];have hL:=ZqI s e l hl;generalize l++e.Lst.l.map (·.Id)=D at *;unfold owH at hL ⊢;cases b<;>simp only [go_sem,qy,qq,qv,qk,s140p5,c140L0,owG,cond_true,cond_false,hk,hL,hbe,hS]
theorem ZqO (s:Sta) (e:Event) (l:List Str) (b:Bool) (hl:l.length+s.Units.length≤100000):Zb rE s140p6 (owG s e 33 b) (owH e l)=some (.normal,owG s e 49 (kOf [12] e),owH e (ow4 s e l)):=by
 have hbl:=Zot s;have hbe:=ZoU e;have hS:∀ (D:List Str) n,Zd n (D.map encS)=true:=fun D n=>ZN _ (Zw (fun t=>rfl) _)
 have hE:∀ n,Zd n (s.Units.map Unit'.enc)=true:=fun n=>ZN _ (Zw (fun t=>rfl) _)
 have hk:=ZoJ e [12] false (by decide)
 simp only [ZtL,ZtK] at hk;unfold ow4;cases c:kOf [12] e with
 | false=>
  rw [c] at hk;rw [cond_false,ZtF];cases b<;>simp only [go_sem,qy,qq,qv,qk,s140p6,owG,cond_true,cond_false,owH,hk,hbe,hS]
 | true=>
  rw [c] at hk;rw [cond_true];have hL:=ZqJ s e l hl;generalize l++(s.Units.filter (fun u=>Z3 u.Id e.Id)).map (·.Door)=D at *
  unfold owH at hL ⊢;cases b<;>simp only [go_sem,qy,qq,qv,qk,s140p6,c140L1,owG,cond_true,cond_false,hk,hL,hbe,hS]
theorem ZqP (s:Sta) (e:Event) (hl:e.Ids.l.length≤1000000):Zb rE s140p2 [(2,.iptr false [ldI s]),(3,evI e),(5,.ptr 1 0 0 1)] [.row 1 [I 0],.row 1 [.clo (.func 244) [] [evI e]]]=some (.normal,owG s e 0 true,owH e e.Ids.l):=by
 have hC:=ZqK e.Ids.l e.Ids.ex hl [.row 1 [I 0],.row 1 [.clo (.func 244) [] [evI e]]];have hbl:=Zot s;have hbe:=ZoU e;have hS:∀ (D:List Str) n,Zd n (D.map encS)=true:=fun D n=>ZN _ (Zw (fun t=>rfl) _)
 unfold owH owG;simp only [go_sem,qy,qq,qv,s140p2,cond_true,hC,hbe]
theorem ZpX (s:Sta) (e:Event) (h1:e.Ids.l.length≤1000) (h2:e.Lst.l.length≤1000) (h3:s.Units.length≤1000):(ow1 e e.Ids.l).length≤1001∧(ow2 e (ow1 e e.Ids.l)).length≤1002∧(ow3 e (ow2 e (ow1 e e.Ids.l))).length≤2002∧(Zor s e).length≤3002:=by
 have a1:(ow1 e e.Ids.l).length≤1001:=by
  unfold ow1;cases kOf [9,12] e<;>simp<;>omega
 have a2:(ow2 e (ow1 e e.Ids.l)).length≤1002:=by
  unfold ow2;cases kOf [7] e<;>simp<;>omega
 have a3:(ow3 e (ow2 e (ow1 e e.Ids.l))).length≤2002:=by
  rw [ow3];cases kOf [8] e<;>simp<;>omega
 refine ⟨a1,a2,a3,?_⟩;rw [ZpW,ow4];have:=List.length_filter_le (fun u:Unit'=>Z3 u.Id e.Id) s.Units
 cases kOf [12] e<;>simp<;>omega
theorem ZqQ (s:Sta) (e:Event) (h1:e.Ids.l.length≤1000) (h2:e.Lst.l.length≤1000) (h3:s.Units.length≤1000):fnV rE 140 [ldI s,evA e] [.row 1 [I 0]]=some (.clo (.func 245) [] [.iptr false [ldI s],.ptr 1 0 0 1,evI e,.ptr 3 0 0 1],owH e (Zor s e)):=by
 obtain ⟨a1,a2,a3,a4⟩:=ZpX s e h1 h2 h3;have q2:=ZqP s e (by omega)
 have q3:=ZqL s e e.Ids.l true (by omega)
 have q4:=ZqM s e (ow1 e e.Ids.l) (kOf [9,12] e) (by omega)
 have q5:=ZqN s e (ow2 e (ow1 e e.Ids.l)) (kOf [7] e) (by omega)
 have q6:=ZqO s e (ow3 e (ow2 e (ow1 e e.Ids.l))) (kOf [8] e) (by omega)
 rw [←ZpW] at q6;have hbl:=Zot s;have hcl:=Zow s;have hbe:=ZoU e;have hS:∀ (D:List Str) n,Zd n (D.map encS)=true:=fun D n=>ZN _ (Zw (fun t=>rfl) _)
 have q0:Zb rE s140p0 [(0,ldI s),(1,evA e)] [.row 1 [I 0]]=some (.normal,[(2,.iptr false [ldI s]),(3,evI e)],[.row 1 [I 0]]):=by
  simp only [go_sem,qy,qq,s140p0,hcl,hbe]
 have q1:Zb rE s140p1 [(2,.iptr false [ldI s]),(3,evI e)] [.row 1 [I 0]]=some (.normal,[(2,.iptr false [ldI s]),(3,evI e),(5,.ptr 1 0 0 1)],[.row 1 [I 0],.row 1 [.clo (.func 244) [] [evI e]]]):=by
  simp only [go_sem,qy,qq,qv,s140p1,hbe]
 generalize Zor s e=D at *;have q7:∀ b,∃ fr,Zb rE s140p7 (owG s e 49 b) (owH e D)=some (.normal,fr,owH e D)∧get fr 4=.clo (.func 245) [] [.iptr false [ldI s],.ptr 1 0 0 1,evI e,.ptr 3 0 0 1]:=by
  intro b;cases b
  ·exact ⟨_,by simp only [go_sem,qy,s140p7,owG,owH,cond_true,cond_false]<;>rfl,rfl⟩
  ·exact ⟨_,by simp only [go_sem,qy,s140p7,owG,owH,cond_true,cond_false]<;>rfl,rfl⟩
 obtain ⟨fr,q7,g7⟩:=q7 (kOf [12] e);rw [Q6 (f:=140) rfl rfl,c140_eq];simp only [go_sem,qq,q0,q1,q2,q3,q4,q5,q6,q7,g7]
end Go.AM
namespace Go.AM
open Go
theorem ClS.str {s:Sta} (h:ClS s) {x:Street} (hx:x∈s.Streets):0≤x.Owner∧x.Owner≤63:=by
 have:=h.prop.st x hx;unfold Vp at this;simp only [Ztz] at this;exact Zpa this.1
theorem ClS.bld {s:Sta} (h:ClS s) {x:Building} (hx:x∈s.Buildings):0≤x.Owner∧x.Owner≤63:=by
 have:=h.prop.bu x hx;unfold Vq at this;simp only [Ztz] at this;exact Zpa this.1
theorem ClS.dor {s:Sta} (h:ClS s) {x:Door} (hx:x∈s.Doors):0≤x.Owner∧x.Owner≤63:=by
 obtain ⟨i,hi⟩:=List.getElem?_of_mem hx;have:=h.prop.dr i x hi;unfold Vr at this;simp only [Ztz] at this;exact Zpa this.1
theorem ZqR (s:Sta) (e:Event) (a m:Int) (h:RqS s e m):
 rf rE (.clo (.func 245) [] [.iptr false [ldI s],.ptr 1 0 0 1,evI e,.ptr 3 0 0 1]) [13] c72R0a c72R0b (ZoA s e a m) (owH e (Zor s e))=bif Zpb s e m
  then some (.normal,ZoA s e a m,thX s e a m 0 .exhausted .normal (Zor s e)) else some (.ret,ZoA s e a m,thX s e a m 18 .exhausted .ret (Zor s e)):=by
 have hz:=h.c.E.sizes;have hd:=(ZpX s e (by have:=h.ev.ids;omega) (by have:=h.ev.lst;omega) hz.units).2.2.2
 obtain ⟨f1,h1,L1,A1,B1⟩:=ZqE s e a m h hz.regions (fun x hx=>(h.c.reg hx).1)
 obtain ⟨f2,h2,L2,A2,B2⟩:=ZqF s e a m h hz.streets (fun x hx=>(h.c.str hx).1)
 obtain ⟨f3,h3,L3,A3,B3⟩:=ZqG s e a m h hz.buildings (fun x hx=>(h.c.bld hx).1)
 obtain ⟨f4,h4,L4,A4,B4⟩:=ZqH s e a m h hz.doors (fun x hx=>(h.c.dor hx).1) (by omega)
 have hbl:=Zot s;have hcl:=Zow s;obtain ⟨hf4,hf5⟩:=ZoI s e a m;have hS:∀ n,Zd n ((Zor s e).map encS)=true:=fun n=>ZN _ (Zw (fun t=>rfl) _)
 unfold Zpb;rw [Z1k (c:=c245) rfl];cases c1:s.Regions.all (fun x=>!ZoQ e x||Zou s m x.Owner) with
 | false=>
  have e1:=B1 c1;subst e1;rw [c1] at L1;simp only [thX,ZtJ,if_false] at L1;rw [ZtH,cond_false];simp only [go_sem,qy,qq,c245,c245L0,owH,thX,ZtE,ZtD,L1,hf4,hS];rfl
 | true=>
 obtain ⟨e1,e1'⟩:=A1 c1;subst e1;subst e1';rw [c1] at L1;simp only [thX,if_true] at L1;cases c2:s.Streets.all (fun x=>!ZoR e x||Zou s m x.Owner) with
 | false=>
  have e1:=B2 c2;subst e1;rw [c2] at L2;simp only [thX,ZtJ,if_false] at L2;rw [ZtC,ZtH,cond_false];simp only [go_sem,qy,qq,c245,c245L0,c245L1,owH,thX,ZtE,ZtD,L1,L2,hf4,hS];rfl
 | true=>
 obtain ⟨e1,e1'⟩:=A2 c2;subst e1;subst e1';rw [c2] at L2;simp only [thX,if_true] at L2;cases c3:s.Buildings.all (fun x=>!ZoS e x||Zou s m x.Owner) with
 | false=>
  have e1:=B3 c3;subst e1;rw [c3] at L3;simp only [thX,ZtJ,if_false] at L3;rw [ZtC,ZtC,ZtH,cond_false];simp only [go_sem,qy,qq,c245,c245L0,c245L1,c245L2,owH,thX,ZtE,ZtD,L1,L2,L3,hf4,hS];rfl
 | true=>
 obtain ⟨e1,e1'⟩:=A3 c3;subst e1;subst e1';rw [c3] at L3;simp only [thX,if_true] at L3;cases c4:s.Doors.all (fun x=>!ZoT (Zor s e) x||Zou s m x.Owner) with
 | false=>
  have e1:=B4 c4;subst e1;rw [c4] at L4;simp only [thX,ZtJ,if_false] at L4;rw [ZtC,ZtC,ZtC,cond_false];simp only [go_sem,qy,qq,c245,c245L0,c245L1,c245L2,c245L3,owH,thX,ZtE,ZtD,L1,L2,L3,L4,hf4,hS];rfl
 | true=>
 obtain ⟨e1,e1'⟩:=A4 c4;subst e1;subst e1';rw [c4] at L4;simp only [thX,if_true] at L4;rw [ZtC,ZtC,ZtC,cond_true];simp only [go_sem,qy,qq,c245,c245L0,c245L1,c245L2,c245L3,owH,thX,ZtE,ZtD,L1,L2,L3,L4,hf4,hS];rfl
theorem ZqS (s:Sta) (e:Event) (a m:Int) (h:RqS s e m):pfn rE 72 [rqI s e a m]=some (I (Zp6 s e m)):=by
 have hrf:=ZqR s e a m h;have hO:=ZqQ s e (by have:=h.ev.ids;omega) (by have:=h.ev.lst;omega) h.c.E.sizes.units
 have hcl:=Zow s;have hbl:=Zot s;have hS:∀ n,Zd n ((Zor s e).map encS)=true:=fun n=>ZN _ (Zw (fun t=>rfl) _)
 obtain ⟨hf4,hf5⟩:=ZoI s e a m;generalize Zor s e=D at *;unfold Zp6;rw [Z5 (f:=72) rfl rfl];unfold owH at hrf hO;cases c:Zpb s e m with
 | true=>
  rw [c,cond_true] at hrf;simp only [ZoA] at hrf;simp only [go_sem,qy,qq,qv,qk,c72,hO,Sr,hrf,hS,thX,ZoA]
 | false=>
  rw [c,cond_false] at hrf;simp only [ZoA] at hrf;simp only [go_sem,qy,qq,qv,qk,c72,hO,Sr,hrf,hS,thX,ZoA]
end Go.AM
namespace Go.AM
open Go
def Zpe (s:Sta) (a b:Int):Bool:=(Jx s&&(Zoz a&&Zoz b))&&ZoW s (Zoq s a) (Zoq s b)
theorem Zpf {a:Int} (h:Zoz a=true):0≤a∧a≤63:=by
 unfold Zoz at h;simpa using h
theorem ZqT (s:Sta) (hE:StE s) (a b:Int):pfn rE 26 [stA s,I a,I b]=some (.bool (Zpe s a b)):=by
 have hO:=Zp7 s hE;have hA:=Zp8 a;have hB:=Zp8 b;have hcl:=Zow s;unfold Zpe;rw [Z5 (f:=26) rfl rfl];cases c:Jx s with
 | false=>
  rw [c] at hO;simp only [go_sem,qy,qq,qk,c26,hO,ZtH]
 | true=>
 rw [c] at hO;cases c1:Zoz a with
 | false=>
  rw [c1] at hA;simp only [go_sem,qy,qq,qk,c26,hO,hA,ZtH,Zu8]
 | true=>
 rw [c1] at hA;cases c2:Zoz b with
 | false=>
  rw [c2] at hB;simp only [go_sem,qy,qq,qk,c26,hO,hA,hB,ZtH,Zu8]
 | true=>
 rw [c2] at hB;have h:ClS s:=⟨hE,c⟩;have m1:=h.mst (Zpf c1).1;have m2:=h.mst (Zpf c2).1;have hP:=ZpL s (Zoq s a) (Zoq s b) hE.sizes.rulings (ZpQ h);simp only [go_sem,qy,qq,qk,c26,hO,hA,hB,m1,m2,hP,ZtC,ZtS]
def cvV:List (Nat×Int)→Int
 | []=>0
 | x::l=>bif x.2==0 then cvV l else x.2
abbrev cvF (R:AV) (L:List (Nat×Int)) (i:Nat):Fr:=[(46,.isl false false 1 (L.map fun x=>.clo (.func x.1) [R] [])),(47,I L.length),(48,I i)]
theorem ZpY (R:AV) (hc:clean R=true) (L:List (Nat×Int)) (hl:L.length≤1000) (hp:∀ x∈L,pfn rE x.1 [R]=some (I x.2)):∀ (k i:Nat),i+k=L.length→
 ∃ fr',Zg rE [46,47,48] c28L0b (cvF R L i) []=some (bif cvV (L.drop i)==0 then .exit 0 else .ret,fr',[])∧(cvV (L.drop i)≠0→get fr' 6=I (cvV (L.drop i)))
 | 0,i,hk=>by
  have hi:i=L.length:=by omega
  subst hi;refine ⟨_,Q7 rfl (e:=.exit 0) (by simp only [go_sem,qy,reduceIte,c28L0b,ZG]<;>rfl) (by simp) |>.trans (by rw [List.drop_length];rfl),?_⟩
  rw [List.drop_length];exact fun h=>absurd rfl h
 | k+1,i,hk=>by
  obtain ⟨x,hx⟩:∃ x,L[i]? = some x:=⟨_,ZtG (by omega)⟩
  have hg:=Z6 (f:=fun x:Nat×Int=>AV.clo (.func x.1) [R] []) hx
  have hi':=Zh (Z7 hx);have hwr:=Zx (n:=i) (by have:=Z7 hx;omega)
  have hy:=hp x (ZtQ hx);have hd:L.drop i=x::L.drop (i+1):=by
   have h1:=Zuc (Z7 hx);rw [h1];congr 1;have:=ZtG (Z7 hx);rw [this] at hx;exact Option.some.inj hx
  rw [hd,cvV];cases c:x.2==0 with
  | true=>
   have hn:(x.2 != 0)=false:=by rw [bne,c];rfl
   obtain ⟨fr',h1,h2⟩:=ZpY R hc L hl hp k (i+1) (by omega)
   refine ⟨fr',?_,h2⟩;rw [cond_true,Yt rfl (fr':=(6,.bot)::cvF R L (i+1)) (h':=[]) (by
    simp only [go_sem,qy,reduceIte,c28L0b,hg,hi',hwr,hy,hn,hc])]
   exact h1
  | false=>
   have hn:(x.2 != 0)=true:=by rw [bne,c];rfl
   rw [cond_false,c,cond_false];refine ⟨_,Q7 rfl (e:=.ret) (fr':=[(6,I x.2),(46,.isl false false 1 (L.map fun x=>.clo (.func x.1) [R] [])),(47,I L.length),(48,I i)]) (by
    simp only [go_sem,qy,reduceIte,c28L0b,hg,hi',hy,hn,hc]) (by simp),fun _=>rfl⟩
def ZoN (s:Sta) (a:Int) (e:Event):Int:=bif !Jx s||(!Zoz a||!Q9 e) then 1 else
 cvV [(71,Zp0 s e a (Zoq s a)),(72,Zp6 s e (Zoq s a)),(73,Zp5 s e (Zoq s a)),(74,Zp1 s e a (Zoq s a))]
theorem Zpq (s:Sta) (hE:StE s) (a:Int) (e:Event) (hv:EvS e):pfn rE 28 [stA s,I a,evA e]=some (I (ZoN s a e)):=by
 have hO:=Zp7 s hE;have hA:=Zp8 a;have hF:=NH e hv;have hcl:=Zow s;have hbl:=Zot s;unfold ZoN;rw [Z5 (f:=28) rfl rfl];cases c:Jx s with
 | false=>
  rw [c] at hO;simp only [go_sem,qy,qq,qk,c28,hO,ZtT,ZtI]
 | true=>
 rw [c] at hO;cases c1:Zoz a with
 | false=>
  rw [c1] at hA;simp only [go_sem,qy,qq,qk,c28,hO,hA,ZtT,ZtI,ZtO,ZtR]
 | true=>
 rw [c1] at hA;cases c2:Q9 e with
 | false=>
  rw [c2] at hF;simp only [go_sem,qy,qq,qk,c28,hO,hA,hF,ZtT,ZtO,ZtR]
 | true=>
 rw [c2] at hF;have h:ClS s:=⟨hE,c⟩;have m1:=h.mst (Zpf c1).1;have hr:0≤Zoq s a∧Zoq s a≤63:=ZpH h.prop.pa (Zpf c1);have hq:RqS s e (Zoq s a):=⟨h,hv,c2,hr⟩;generalize Zoq s a=m at *;have hR:clean (rqI s e a m)=true:=by simp only [go_sem]
 obtain ⟨fr',L1,L2⟩:=ZpY (rqI s e a m) hR [(71,Zp0 s e a m),(72,Zp6 s e m),(73,Zp5 s e m),(74,Zp1 s e a m)] (by simp) (by
  intro x hx;simp only [List.mem_cons,List.not_mem_nil,or_false] at hx;rcases hx with rfl | rfl | rfl | rfl
  ·exact Zqw s e a m hq
  ·exact ZqS s e a m hq
  ·exact Zqy s e a m hq
  ·exact ZqD s e a m hq) 4 0 rfl
 rw [Zu4] at L1 L2;generalize cvV [(71,Zp0 s e a m),(72,Zp6 s e m),(73,Zp5 s e m),(74,Zp1 s e a m)]=v at *;have hbR:∀ n,bel n (rqI s e a m)=true:=fun n=>by
  have:=ZN (n:=n) [rqI s e a m] (by simp only [Z4,hR,ZtS])
  simpa only [Zd,ZtS] using this
 replace L1:Zg rE [46,47,48] c28L0b [(46,.isl false false 1 [.clo (.func 71) [rqI s e a m] [],.clo (.func 72) [rqI s e a m] [],.clo (.func 73) [rqI s e a m] [],.clo (.func 74) [rqI s e a m] []]),(47,.int .i64 ((4:Nat):Int)),(48,.int .i64 0)] []=some (bif v==0 then .exit 0 else .ret,fr',[]):=L1
 cases c3:v==0 with
 | true=>
  have hv0:v=0:=by simpa using c3
  subst hv0;rw [c3,cond_true] at L1;simp only [go_sem,qy,qq,qv,qk,c28,c28L0,hO,hA,hF,m1,hcl,L1,ZtO,ZtR]
 | false=>
  have hv0:v≠0:=by simpa using c3
  have g:=L2 hv0;rw [c3,cond_false] at L1;simp only [go_sem,qy,qq,qv,qk,c28,c28L0,hO,hA,hF,m1,hcl,L1,g,ZtO,ZtR]
end Go.AM
namespace Go.AM
open Go
def Zpg (s:Sta) (p:Pt):List Int:=bif Jx s&&gOn p then ZoH s p else []
def Zph (s:Sta) (p:Pt):Int:=bif Jx s&&gOn p then 0 else 1
theorem ZqU (s:Sta) (hE:StE s) (p:Pt):pfn rE 21 [stA s,.agg [I p.X,I p.Y]]=some (.tup [.isl false false 1 ((Zpg s p).map I),I (Zph s p)]):=by
 have hO:=Zp7 s hE;have hG:=W8 p;have hcl:=Zow s;have hC:Z4 ((ZoH s p).map I)=true:=Zw (fun t=>rfl) _
 unfold Zpg Zph;rw [Z5 (f:=21) rfl rfl];cases c:Jx s with
 | false=>
  rw [c] at hO;simp only [go_sem,qy,qq,qk,c21,hO,ZtH,cond_false,ZtK]
 | true=>
 rw [c] at hO;cases c1:gOn p with
 | false=>
  rw [c1] at hG;simp only [go_sem,qy,qq,qk,c21,hO,hG,Zu8,cond_false,ZtK]
 | true=>
 rw [c1] at hG;have hK:=ZpO s ⟨hE,c⟩ p;simp only [go_sem,qy,qq,qk,c21,hO,hG,hK,ZtS,cond_true]
theorem ZqV (s:Sta) (e:Event):pfn rE 20 [stA s,evA e]=some (.bool (YQ s&&Xn e)):=by
 have h1:=Z4F s;have h2:=Z4z e;rw [Z5 (f:=20) rfl rfl];cases c:YQ s with
 | false=>
  rw [c] at h1;simp only [go_sem,qy,qq,qk,c20,h1,ZtH]
 | true=>
  rw [c] at h1;simp only [go_sem,qy,qq,qk,c20,h1,h2,ZtC]
theorem ZpZ (l:List Int) (hl:l.length≤1000):pfn rE 25 [.isl false false 1 (l.map I),.isl false false 1 (l.map I)]=some (.bool true):=by
 have L:=Y8 (E:=rE) (live:=[0,1,5]) (b:=c25L0b) l.length (fun i=>[(0,.isl false false 1 (l.map I)),(1,.isl false false 1 (l.map I)),(5,I i)]) (fun _=>[]) (fun i=>rfl)
  (fun i hi=>by
   obtain ⟨x,hx⟩:∃ x,l[i]? = some x:=⟨_,ZtG hi⟩;have hg:=Z6 (f:=I) hx;have hi':=Zh hi;have hwr:=Zx (n:=i) (by omega)
   have hn:(x != x)=false:=by simp
   refine ⟨_,by simp only [go_sem,qy,reduceIte,c25L0b,hg,hi',hwr,hn];rfl,?_⟩
   simp only [go_sem,qy])
  (e:=.exit 0) (by simp only [go_sem,qy,reduceIte,c25L0b,ZG];rfl) (by simp)
 have L':Zg rE [0,1,5] c25L0b [(0,.isl false false 1 (l.map I)),(1,.isl false false 1 (l.map I)),(5,.int .i64 0)] []=_:=L;have hn:((l.length:Int) != (l.length:Int))=false:=by simp
 rw [Z5 (f:=25) rfl rfl];simp only [go_sem,qy,qq,reduceIte,c25,c25L0,hn,L']
theorem Zq0 (a b:Int):pfn rE 131 [I a,I b]=some (.isl false false 2 ([⟨a,0⟩,⟨b,0⟩,⟨b,9⟩,⟨a,9⟩].map Pt.enc)):=by
 rw [Z5 (f:=131) rfl rfl];simp only [go_sem,qy,qq,qv,qk,c131,ZtL,ZtK,Pt.enc]
def exS:Sta:=⟨[⟨B [97],1,1,⟨false,[⟨0,0⟩,⟨9,0⟩,⟨9,9⟩,⟨0,9⟩]⟩,⟨false,[]⟩,-1⟩,⟨B [98],1,2,⟨false,[⟨5,0⟩,⟨15,0⟩,⟨15,9⟩,⟨5,9⟩]⟩,⟨false,[]⟩,-1⟩],
 [⟨B [115],1,⟨false,[⟨0,0⟩,⟨9,0⟩]⟩,⟨false,[]⟩,-1⟩],[],[],[],[],[]⟩
theorem ZqW:pfn rE 56 []=some (stA exS):=by
 have h1:=Zq0 0 9;have h2:=Zq0 5 15;simp only [ZtL,ZtK,Pt.enc] at h1 h2;rw [Z5 (f:=56) rfl rfl];simp only [go_sem,qy,qq,qv,qk,c56,h1,h2,stA,exS,ZtL,ZtK,Region.enc,Street.enc,NL.enc,Pt.enc]
def ZoK (n:Int):Event:={ zEv with Kind:=5,Id:=B [104,111,117,115,101],Path:=⟨false,[⟨n,1⟩,⟨n+1,1⟩,⟨n,2⟩]⟩ }
theorem Zpr (n:Int) (hn:0≤n∧n≤100):pfn rE 57 [I n]=some (evA (ZoK n)):=by
 have hw:IntKind.i64.wrap (n+1)=n+1:=YM (by omega) (by omega)
 rw [Z5 (f:=57) rfl rfl];simp only [go_sem,qy,qq,qv,qk,reduceIte,c57,hw,evA,ZoK,zEv,ZtL,ZtK,Pt.enc]
end Go.AM
namespace Go.AM
open Go
def exE:Event:={ zEv with Kind:=12,Id:=B [115] }
def exG:Event:={ zEv with Kind:=14,A:=2,B:=1 }
def exH:Event:={ zEv with Kind:=15,Id:=B [104],Text:=B [120] }
def exU:Sta:={ exS with Rulings:=[⟨2,1⟩] }
def exM:Sta:={ exS with Merged:=[⟨1,2⟩],Rulings:=[⟨2,1⟩] }
theorem ckA (s:Sta) (a:Int) (e:Event) (c:Int) (h:(YQ s&&(Xn e&&ZoN s a e==c))=true):pfn rE 28 [stA s,I a,evA e]=some (I c):=by
 simp only [Ztz] at h;obtain ⟨h1,h2,h3⟩:=h;rw [Zpq s (Kl s h1).e a e (JL e h2)];have:ZoN s a e=c:=by simpa using h3
 rw [this]
theorem cmA (s:Sta) (p:Pt) (l:List Int) (h:(YQ s&&(Zph s p==0&&Zpg s p==l))=true):pfn rE 21 [stA s,.agg [I p.X,I p.Y]]=some (.tup [.isl false false 1 (l.map I),I 0]):=by
 simp only [Ztz] at h;obtain ⟨h1,h2,h3⟩:=h;rw [ZqU s (Kl s h1).e p];have q1:Zph s p=0:=by simpa using h2
 have q2:Zpg s p=l:=by simpa using h3
 rw [q1,q2]
theorem pvA (s:Sta) (a b:Int) (c:Bool) (h:(YQ s&&Zpe s a b==c)=true):pfn rE 26 [stA s,I a,I b]=some (.bool c):=by
 simp only [Ztz] at h;obtain ⟨h1,h2⟩:=h;rw [ZqT s (Kl s h1).e a b];have:Zpe s a b=c:=by simpa using h2
 rw [this]
theorem owA (s:Sta) (a c:Int) (h:(YQ s&&(bif Jx s&&Zoz a then Zoq s a else -1)==c)=true):pfn rE 23 [stA s,I a]=some (I c):=by
 simp only [Ztz] at h;obtain ⟨h1,h2⟩:=h;rw [Zpp s (Kl s h1).e a];have:=eq_of_beq h2;rw [this]
theorem ZqX:pfn rE 21 [stA exS,.agg [I 6,I 1]]=some (.tup [.isl false false 1 ([1,2].map I),I 0]):=cmA exS ⟨6,1⟩ _ (by decide +kernel)
theorem ZqY:pfn rE 21 [stA exS,.agg [I 20,I 1]]=some (.tup [.isl false false 1 (([]:List Int).map I),I 0]):=cmA exS ⟨20,1⟩ _ (by decide +kernel)
theorem ZqZ:pfn rE 21 [stA exM,.agg [I 6,I 1]]=some (.tup [.isl false false 1 ([1].map I),I 0]):=cmA exM ⟨6,1⟩ _ (by decide +kernel)
theorem ck1:pfn rE 28 [stA exS,I 1,evA (ZoK 1)]=some (I 0):=ckA _ _ _ _ (by decide +kernel)
theorem ck2:pfn rE 28 [stA exS,I 1,evA (ZoK 6)]=some (I 19):=ckA _ _ _ _ (by decide +kernel)
theorem ck3:pfn rE 28 [stA exS,I 1,evA (ZoK 12)]=some (I 18):=ckA _ _ _ _ (by decide +kernel)
theorem ck4:pfn rE 28 [stA exS,I 2,evA exE]=some (I 18):=ckA _ _ _ _ (by decide +kernel)
theorem ck5:pfn rE 28 [stA exS,I 1,evA exE]=some (I 0):=ckA _ _ _ _ (by decide +kernel)
theorem ck6:pfn rE 28 [stA exS,I 3,evA exH]=some (I 18):=ckA _ _ _ _ (by decide +kernel)
theorem ck7:pfn rE 28 [stA exS,I 0,evA exG]=some (I 0):=ckA _ _ _ _ (by decide +kernel)
theorem ck8:pfn rE 28 [stA exS,I 1,evA exG]=some (I 18):=ckA _ _ _ _ (by decide +kernel)
theorem ck9:pfn rE 28 [stA exU,I 2,evA (ZoK 6)]=some (I 0):=ckA _ _ _ _ (by decide +kernel)
theorem ckX:pfn rE 28 [stA exU,I 1,evA (ZoK 6)]=some (I 19):=ckA _ _ _ _ (by decide +kernel)
theorem ckY:pfn rE 28 [stA exM,I 2,evA exE]=some (I 0):=ckA _ _ _ _ (by decide +kernel)
theorem pv1:pfn rE 26 [stA exU,I 2,I 1]=some (.bool true):=pvA _ _ _ _ (by decide +kernel)
theorem pv2:pfn rE 26 [stA exU,I 1,I 2]=some (.bool false):=pvA _ _ _ _ (by decide +kernel)
theorem ow9:pfn rE 23 [stA exM,I 2]=some (I 1):=owA _ _ _ (by decide +kernel)
theorem Zr0:pfn rE 19 []=some (.bool true):=by
 have a1:=ZqX;have a2:=ZqY;have a3:=ZqZ;have b1:=ck1;have b2:=ck2;have b3:=ck3;have b4:=ck4;have b5:=ck5;have b6:=ck6;have b7:=ck7;have b8:=ck8;have b9:=ck9;have bX:=ckX;have bY:=ckY;have p1:=pv1;have p2:=pv2;have o9:=ow9;have e0:=ZqW;have d1:=Zpr 1 (by decide)
 have d6:=Zpr 6 (by decide)
 have d12:=Zpr 12 (by decide)
 have i2:=ZpZ [1,2] (by decide)
 have i1:=ZpZ [1] (by decide)
 generalize ZoK 1=B1 at *;generalize ZoK 6=B6 at *;generalize ZoK 12=B12 at *;have eR:exU=⟨exS.Regions,exS.Streets,exS.Buildings,exS.Doors,exS.Units,exS.Merged,[⟨2,1⟩]⟩:=rfl;have eM:exM=⟨exS.Regions,exS.Streets,exS.Buildings,exS.Doors,exS.Units,[⟨1,2⟩],[⟨2,1⟩]⟩:=rfl;rw [eR] at b9 bX p1 p2;rw [eM] at a3 bY o9;clear eR eM;generalize exS=S at *;simp only [exE,exG,exH,zEv,evA,stA,Pair.enc,ZtL,ZtK] at a1 a2 a3 b1 b2 b3 b4 b5 b6 b7 b8 b9 bX bY p1 p2 o9 e0 d1 d6 d12 i2 i1;have y0:((0:Int)==0)=true:=rfl;have y1:((1:Int)==1)=true:=rfl;have y18:((18:Int)==18)=true:=rfl;have y19:((19:Int)==19)=true:=rfl;have yl:(((0:Nat):Int)==0)=true:=rfl;rw [Z5 (f:=19) rfl rfl];simp only [go_sem,qy,qq,qx,qz,qv,qk,reduceIte,c19,a1,a2,a3,b1,b2,b3,b4,b5,b6,b7,b8,b9,bX,bY,p1,p2,o9,e0,d1,d6,d12,i2,i1,y0,y1,y18,y19,yl]
end Go.AM
namespace Go.AM
open Go
end Go.AM
namespace Go.AM
open Go
theorem Zsc (l:List Pair) (A B x:Int):ZoB (Zos (l++[⟨A,B⟩])) x=if x=B then some A else ZoB (Zos l) x:=by
 unfold Zos;rw [Zuw];exact Zq8 _ _ _ _
theorem Zse {m m':List (Int×Int)} {A B:Int} (hL:∀ x,ZoB m' x=if x=B then some A else ZoB m x) (hB:ZoB m B=none):∀ (n:Nat) (a o:Int),ZoL m n a=some o→o≠B→ZoL m' n a=some o
 | 0,a,o,h,_=>by cases h
 | n+1,a,o,h,ho=>by
  unfold ZoL at h ⊢;have ha:a≠B:=by
   intro hc;rw [hc,hB] at h;exact ho (Option.some.inj h).symm
  rw [hL,if_neg ha];cases hl:ZoB m a with
  | none=>rw [hl] at h;exact h
  | some b=>rw [hl] at h;exact Zse hL hB n b o h ho
theorem Zsi {m m':List (Int×Int)} {A B:Int} (hL:∀ x,ZoB m' x=if x=B then some A else ZoB m x) (hB:ZoB m B=none):∀ (k:Nat) (x:Int) (n:Nat) (c:Int),ZoL m k x=some B→ZoL m' n A=some c→ZoL m' (n+k) x=some c
 | 0,x,n,c,h,_=>by cases h
 | k+1,x,n,c,h,hc=>by
  unfold ZoL at h;show ZoL m' (n+k+1) x=some c
  unfold ZoL;cases hl:ZoB m x with
  | none=>
   rw [hl] at h;have hx:x=B:=Option.some.inj h;rw [hL,if_pos hx];exact (Zs9 m' n A c hc).2 k
  | some y=>
   rw [hl] at h;have hx:x≠B:=fun e=>by rw [e,hB] at hl;cases hl
   rw [hL,if_neg hx,hl];exact Zsi hL hB k y n c h hc
theorem Zsj {m m':List (Int×Int)} {A B:Int} (hL:∀ x,ZoB m' x=if x=B then some A else ZoB m x) (hB:ZoB m B=none):∀ (k:Nat) (x:Int) (n:Nat) (b:Int),ZoL m k x=some B→ZoL m' n x=some b→∃ j,j < n∧ZoL m' j A=some b
 | 0,x,n,b,h,_=>by cases h
 | k+1,x,0,b,_,h'=>by cases h'
 | k+1,x,n+1,b,h,h'=>by
  unfold ZoL at h h';cases hl:ZoB m x with
  | none=>
   rw [hl] at h;have hx:x=B:=Option.some.inj h;rw [hL,if_pos hx] at h';exact ⟨n,Nat.lt_succ_self n,h'⟩
  | some y=>
   rw [hl] at h;have hx:x≠B:=fun e=>by rw [e,hB] at hl;cases hl
   rw [hL,if_neg hx,hl] at h';obtain ⟨j,h1,h2⟩:=Zsj hL hB k y n b h h';exact ⟨j,by omega,h2⟩
theorem Zsl {m m':List (Int×Int)} {A B:Int} (hL:∀ x,ZoB m' x=if x=B then some A else ZoB m x) (hB:ZoB m B=none) {k:Nat} (hk:ZoL m k A=some B):∀ (n:Nat) (b:Int),ZoL m' n A≠some b:=by
 intro n;induction n using Nat.strongRecOn with
 | _ n ih=>
  intro b h;obtain ⟨j,h1,h2⟩:=Zsj hL hB k A n b hk h;exact ih j h1 b h2
theorem Zsf {m:List (Int×Int)} {n k:Nat} {a b c:Int} (h1:ZoL m n a=some b) (h2:ZoL m k a=some c):b=c:=by
 have q1:=(Zs9 m n a b h1).2 k;have q2:=(Zs9 m k a c h2).2 n;rw [Nat.add_comm,q2] at q1;exact (Option.some.inj q1).symm
def Zs7 (s:Sta) (A B:Int):Sta:={ s with Merged:=s.Merged++[⟨A,B⟩] }
theorem Zsa {s:Sta} {A B:Int} (hp:WK (Zs7 s A B)=true):ZoB (Zos s.Merged) B=none:=by
 obtain ⟨h1,h2⟩:=ZpC hp;have h1':((s.Merged++[⟨A,B⟩]:List Pair).map (·.b)).Nodup:=h1;rw [ZtM,List.nodup_append] at h1';rw [Zq9 _ h1'.1,Option.map_eq_none_iff,Zuf];intro p hp' hc;exact h1'.2.2 _ (Zuz hp') _ (Zut.2 rfl) (by simpa using hc)
theorem Zsm {s:Sta} {A B a:Int} (hs:WK s=true) (hp:WK (Zs7 s A B)=true) (ha:0≤a) (h:Zoq s a≠B):Zoq (Zs7 s A B) a=Zoq s a:=by
 have h1:=Zse (Zsc s.Merged A B) (Zsa hp) _ _ _ (ZpF hs ha) h;exact Zsf (ZpF hp ha) h1
theorem Zsn {s:Sta} {A B a:Int} (hs:WK s=true) (hp:WK (Zs7 s A B)=true) (ha:0≤a) (hA:0≤A) (h:Zoq s a=B):Zoq (Zs7 s A B) a=Zoq s A:=by
 have hne:Zoq s A≠B:=by
  intro hc;have h1:=ZpF hs hA;rw [hc] at h1;exact Zsl (Zsc s.Merged A B) (Zsa hp) h1 _ _ (ZpF hp hA)
 have h1:=Zse (Zsc s.Merged A B) (Zsa hp) _ _ _ (ZpF hs hA) hne;have h2:=ZpF hs ha;rw [h] at h2;exact Zsf (ZpF hp ha) (Zsi (Zsc s.Merged A B) (Zsa hp) _ _ _ _ h2 h1)
theorem Zso {s:Sta} {e:Event} (hk:e.Kind=13) (h:Qk s 0 e=0):ZP s 0 e=Zs7 s e.A e.B:=by
 obtain ⟨h1,h2,h3,h4⟩:=ZbV h;rw [h4];unfold stepW;have we:(wk0 s 0 e).e=e:=rfl;rw [we,hk];rfl
end Go.AM
namespace Go.AM
open Go
theorem Zsb {s:Sta} (h:ClS s) {o:Int} (ho:0≤o∧o≤63):pfn rE 23 [stA s,I o]=some (I (Zoq s o)):=by
 have hk:Zoz o=true:=by unfold Zoz;simp;omega
 rw [Zpp s h.E o,h.pr,hk];rfl
theorem Ztx {s:Sta} {e:Event} (hk:e.Kind=13) (h0:Qk s 0 e=0):Jx (Zs7 s e.A e.B)=true:=by
 obtain ⟨h1,h2,h3,_⟩:=ZbV h0;obtain ⟨p1,_,p3⟩:=ZbX h1;have h:=((Zdb s).1 p1).1;have we:(wk0 s 0 e).e=e:=rfl;have hm:(stepW (wk0 s 0 e)).s=Zs7 s e.A e.B:=by
  unfold stepW;rw [we,hk];rfl
 unfold Q1 at h2;rw [we,hk] at h2;rw [hm] at h3;rw [Zdb];exact ⟨ZeA h p3 hk h2,h3⟩
theorem Zsq {s:Sta} (hs:StF s) (A B:Int):StE (Zs7 s A B):=by
 have h:=hs.e.sizes;refine ⟨⟨h.regions,h.streets,h.buildings,h.doors,h.units,?_,h.rulings⟩,hs.e.regions,hs.e.streets,hs.e.buildings,hs.e.doors,hs.e.units⟩;show (s.Merged++[_]).length≤1000
 rw [ZtZ,Zuv];have:=hs.merged;omega
theorem Zsr (s:Sta) (x:Int) (hx:0≤x∧x≤255) (e:Event):pfn rE 15 [stA s,.int .u8 x,evA e]=some (.bool true):=by
 have hH:=Zr0;have hF:=ZqV s e;have wx:IntKind.i64.wrap x=x:=YM (by omega) (by omega)
 have mx:x.tmod 64=x % 64:=Int.tmod_eq_emod_of_nonneg hx.1;have rx:0≤x % 64∧x % 64 < 64:=⟨Int.emod_nonneg _ (by decide),Int.emod_lt_of_pos _ (by decide)⟩
 have z64:((64:Int)=0)=False:=by simp
 rw [Z5 (f:=15) rfl rfl];cases c:YQ s&&Xn e with
 | false=>
  rw [c] at hF;simp only [go_sem,qy,qq,qk,c15,hH,hF]
 | true=>
 rw [c] at hF;rw [Ztz] at c;have hs:=Kl s c.1;have he:=JL e c.2;have hP:=Z3i s hs.e;cases c1:Jx s with
 | false=>
  rw [c1] at hP;simp only [go_sem,qy,qq,qk,c15,hH,hF,hP]
 | true=>
 rw [c1] at hP;have h:ClS s:=⟨hs.e,c1⟩;have hp:=h.prop.pa;have hA:=Zsb h (o:=x % 64) (by omega)
 have hr:=ZpH hp (a:=x % 64) (by omega)
 have hA2:=Zsb h hr;rw [Zsk hp (by omega)] at hA2
 have hY:=JJ s hs 0 e he;have lt0:decide (Zoq s (x % 64) < 0)=false:=decide_eq_false (by omega)
 have ne0:(Zoq s (x % 64) != Zoq s (x % 64))=false:=by simp
 cases c2:e.Kind != 13 with
 | true=>
  generalize ga:x % 64=a at *;generalize Zoq s a=o at *;generalize ZP s 0 e=t at *;simp only [go_sem,qy,qq,qv,qk,reduceIte,c15,hH,hF,hP,wx,mx,z64,if_false,hA,hA2,lt0,ne0,hY,c2]
 | false=>
 cases c3:Qk s 0 e != 0 with
 | true=>
  generalize ga:x % 64=a at *;generalize Zoq s a=o at *;generalize ZP s 0 e=t at *;simp only [go_sem,qy,qq,qv,qk,reduceIte,c15,hH,hF,hP,wx,mx,z64,if_false,hA,hA2,lt0,ne0,hY,c2,c3]
 | false=>
 have hk:e.Kind=13:=by simpa using c2
 have h0:Qk s 0 e=0:=by simpa using c3
 have hpr:=Ztx hk h0;have hpa:=((Zdb _).1 hpr).1.pa;obtain ⟨k1,_,_,_⟩:=ZbV h0;have hf:=(ZbX k1).2.2;have hn:=ZcV hf;rw [ZcW (k:=13) hk] at hn;have hn':K5 e.A e.B=true:=hn;unfold K5 ZD at hn';simp only [Ztz,decide_eq_true_eq] at hn';have rA:0≤e.A∧e.A≤63:=by omega
 have rB:0≤e.B∧e.B≤63:=by omega
 have hoA:=Zsb h rA;have hoB:=Zsb h rB;have hE:=Zsq hs e.A e.B;rw [Zso hk h0] at hY;have hT:ClS (Zs7 s e.A e.B):=⟨hE,hpr⟩;have hoT:=Zsb hT (o:=x % 64) (by omega)
 have hBB:Zoq s e.B=e.B:=by
  have h1:=ZpF hp rB.1;have h2:ZoL (Zos s.Merged) (s.Merged.length+1) e.B=some e.B:=by
   unfold ZoL;rw [Zsa hpa]
  exact Zsf h1 h2
 rw [h0] at hY;have n00:((0:Int) != 0)=false:=rfl;cases c4:Zoq s (x % 64)==Zoq s e.B with
 | true=>
  have hm:Zoq s (x % 64)=e.B:=by rw [←hBB];exact eq_of_beq c4
  have key:=Zsn hp hpa (by omega:0≤x % 64) rA.1 hm
  rw [key] at hoT;have y0:(Zoq s e.A==Zoq s e.A)=true:=by simp
  generalize ga:x % 64=a at *;generalize Zoq s a=o at *;generalize Zoq s e.A=oA at *;generalize Zoq s e.B=oB at *;generalize Zs7 s e.A e.B=t at *;simp only [go_sem,qy,qq,qv,qk,reduceIte,c15,hH,hF,hP,wx,mx,z64,if_false,hA,hA2,lt0,ne0,hY,c2,n00,hoA,hoB,hoT,c4,y0]
 | false=>
  have hm:Zoq s (x % 64)≠e.B:=by
   intro hc;rw [hBB,hc] at c4;simp at c4
  have key:=Zsm hp hpa (by omega:0≤x % 64) hm
  rw [key] at hoT;have y0:(Zoq s (x % 64)==Zoq s (x % 64))=true:=by simp
  generalize ga:x % 64=a at *;generalize Zoq s a=o at *;generalize Zoq s e.B=oB at *;generalize Zs7 s e.A e.B=t at *;simp only [go_sem,qy,qq,qv,qk,reduceIte,c15,hH,hF,hP,wx,mx,z64,if_false,hA,hA2,lt0,ne0,hY,c2,n00,hoB,hoT,c4,y0]
end Go.AM
