/- What the functions of the program compute, part 3, for ClaimsPoints. No condition. -/
import Derived.Test.YtnfppojnmdohnaaGreatDoorP16b
set_option linter.unusedVariables false
set_option linter.unusedSimpArgs false
open Nat renaming reduceAdd → qq, reduceSub → qx, reduceMul → qz, reduceLT → qv, reduceLeDiff → qk, reduceBEq → qy
namespace Go.AM
open Go
def plE (s:Sta) (m:Int):List Pt→Int
 | []=>0
 | p::r=>bif !(ZoH s p).any (fun x=>m==x) then 18 else bif (ZoH s p).any (fun c=>c != m&&!ZoW s m c) then 19 else plE s m r
def Zp1 (s:Sta) (e:Event) (a m:Int):Int:=
 bif e.Kind==1 then bif s.Regions.any (fun x=>Z3 x.Id e.Id) then 0 else bif e.A==1&&a==0 then 18 else bif e.A==1 then 0 else plE s m (ZoM e)
 else plE s m (ZoM e)
theorem ZpQ {s:Sta} (h:ClS s):∀ p∈s.Rulings,pfn rE 66 [ldI s,I p.a]=some (I (Zoq s p.a))∧pfn rE 66 [ldI s,I p.b]=some (I (Zoq s p.b)):=by
 intro p hp;have hpa:=h.prop.pa;unfold WK at hpa;simp only [Zvh] at hpa;have:=Zpo (Zvx.1 hpa.2.1 p hp);exact ⟨h.mst this.1.1,h.mst this.2.1⟩
theorem Zqz (l:List Int) (hl:l.length≤1000000) (p:Int→Bool) (g:Nat) (cap:List AV) (hc:Z4 cap=true) (hp:∀ x∈l,pfn rE g (I x::cap)=some (.bool (p x))):pfn rE 145 [.isl false false 1 (l.map I),.clo (.func g) [] cap]=some (.bool (l.any p)):=by
 have h:=WF (E:=rE) (f:=249) (sz:=1) (n:=none) (enc:=I) (p:=p) (g:=g) (cap:=cap) rfl rfl hc l (by omega) (fun x _=>⟨rfl,rfl⟩) hp false false
 rw [Z5 (f:=145) rfl rfl,←Vg];unfold WG;simp only [go_sem,qy,qq,reduceIte,c145,h,hc]
theorem ZqA (s:Sta) (e:Event) (a m:Int) (x:Region):pfn rE 143 [x.enc,.iptr false [rqI s e a m]]=some (.bool (Z3 x.Id e.Id)):=by
 have hcl:=Zow s;have hbl:=Zot s;rw [Z5 (f:=143) rfl rfl];simp only [go_sem,qy,qq,c143,Region.enc,NL.enc]
theorem ZqB (s:Sta) (e:Event) (a m:Int) (h:RqS s e m) (c:Int):pfn rE 146 [I c,.iptr false [rqI s e a m]]=some (.bool (c != m&&!ZoW s m c)):=by
 have hP:=ZpL s m c h.c.E.sizes.rulings (ZpQ h.c);have hcl:=Zow s;have hbl:=Zot s;rw [Z5 (f:=146) rfl rfl];cases c1:c != m with
 | false=>simp only [go_sem,qy,qq,reduceIte,c146,c1,Zvo]
 | true=>simp only [go_sem,qy,qq,reduceIte,c146,c1,hP,hcl,Zvi]
theorem ZqC (s:Sta) (h:ClS s) (p:Pt):(ZoH s p).length≤100000:=by
 unfold ZoH;rw [(Zp3 _).length_eq];have G:∀ (l:List Region) (K:List Int),(l.foldl (ZoF s p) K).length≤K.length+l.length:=by
  intro l;induction l with
  | nil=>intro K;exact ZvI _
  | cons x r ih=>
   intro K;rw [Zw3,ZvQ];refine Zw8 (ih _) ?_;have:(ZoF s p K x).length≤K.length+1:=by
    unfold ZoF Qi;cases ZoG x&&decide (ZoY x.Ring.l p ≥ 0) with
    | false=>exact Nat.le_succ _
    | true=>
     rw [cond_true];cases K.any (Vm (Zoq s x.Owner)) with
     | true=>exact Nat.le_succ _
     | false=>rw [cond_false,ZvG];exact ZvI _
   omega
 have:=G s.Regions [];have hl:=h.E.sizes.regions;unfold Zoy;simp only [ZvM] at this;omega
theorem ZpR (s:Sta) (e:Event) (a m:Int) (h:RqS s e m) (l:List Pt) (hl:l.length≤1000):∀ (k i:Nat),i+k=l.length→
 ∃ fr',(plE s m (l.drop i)=0→Zg rE [1,50,51,52] c74L0b [(1,.iptr false [rqI s e a m]),(50,.isl false false 2 (l.map Pt.enc)),(51,I l.length),(52,I i)] []=some (.exit 1,fr',[]))∧
  (plE s m (l.drop i)≠0→Zg rE [1,50,51,52] c74L0b [(1,.iptr false [rqI s e a m]),(50,.isl false false 2 (l.map Pt.enc)),(51,I l.length),(52,I i)] []=some (.ret,fr',[])∧get fr' 2=I (plE s m (l.drop i)))
 | 0,i,hi=>by
  have hd:l.drop i=[]:=List.drop_eq_nil_of_le (by omega)
  have hi':i=l.length:=by omega
  refine ⟨[(1,.iptr false [rqI s e a m]),(2,.bot),(50,.isl false false 2 (l.map Pt.enc)),(51,I l.length),(52,I i)],fun _=>?_,fun hc=>?_⟩
  ·rw [hi'];refine Q7 rfl ?_ (by simp)
   simp only [go_sem,qy,reduceIte,c74L0b,ZG]
  ·rw [hd] at hc;exact absurd rfl hc
 | k+1,i,hi=>by
  obtain ⟨x,hx⟩:∃ x,l[i]? = some x:=⟨_,Zvm (by omega)⟩
  have hg:=Z6 (f:=Pt.enc) hx;have hi':=Zh (Z7 hx);have hwr:=Zx (n:=i) (by omega)
  have hd:l.drop i=x::l.drop (i+1):=by
   rw [ZvU (Z7 hx)];congr 1;have:=Zvm (Z7 hx);rw [hx] at this;exact (Option.some.inj this).symm
  have hcl:=Zow s;have hbl:=Zot s;have hc:Z4 [.iptr false [rqI s e a m]]=true:=by simp only [go_sem]
  have hC:=ZpO s h.c x;have hlen:=ZqC s h.c x;have hI:=DR (ZoH s x) false m (by omega)
  have hA:=Zqz (ZoH s x) (by omega) (fun c=>c != m&&!ZoW s m c) 146 [.iptr false [rqI s e a m]] hc (fun c _=>ZqB s e a m h c)
  rw [hd];unfold plE;cases c1:(ZoH s x).any (fun y=>m==y) with
  | false=>
   rw [c1] at hI;refine ⟨[(1,.iptr false [rqI s e a m]),(2,I 18),(50,.isl false false 2 (l.map Pt.enc)),(51,I l.length),(52,I i)],fun hq=>?_,fun _=>⟨?_,by simp only [go_sem,qy,ZvB,cond_true]⟩⟩
   ·exact absurd (show (18:Int)=0 from hq) (by decide)
   ·refine Q7 rfl ?_ (by simp)
    simp only [go_sem,qy,qq,qv,qk,reduceIte,c74L0b,hg,hi',Pt.enc,hC,hI]
  | true=>
  rw [c1] at hI;cases c2:(ZoH s x).any (fun c=>c != m&&!ZoW s m c) with
  | true=>
   rw [c2] at hA;refine ⟨[(1,.iptr false [rqI s e a m]),(2,I 19),(50,.isl false false 2 (l.map Pt.enc)),(51,I l.length),(52,I i)],fun hq=>?_,fun _=>⟨?_,by simp only [go_sem,qy,Zvt,cond_false,cond_true]⟩⟩
   ·exact absurd (show (19:Int)=0 from hq) (by decide)
   ·refine Q7 rfl ?_ (by simp)
    simp only [go_sem,qy,qq,qv,qk,reduceIte,c74L0b,hg,hi',Pt.enc,hC,hI,hA]
  | false=>
  rw [c2] at hA;obtain ⟨fr',h1,h2⟩:=ZpR s e a m h l hl k (i+1) (by omega)
  have hstep:Zb rE c74L0b [(1,.iptr false [rqI s e a m]),(50,.isl false false 2 (l.map Pt.enc)),(51,I l.length),(52,I i)] []=some (.normal,[(1,.iptr false [rqI s e a m]),(2,.bot),(50,.isl false false 2 (l.map Pt.enc)),(51,I l.length),(52,I (i+1:Nat))],[]):=by
   simp only [go_sem,qy,qq,qv,qk,reduceIte,c74L0b,hg,hi',hwr,Pt.enc,hC,hI,hA]
  rw [Yt rfl hstep];exact ⟨fr',h1,h2⟩
theorem ZqD (s:Sta) (e:Event) (a m:Int) (h:RqS s e m):pfn rE 74 [rqI s e a m]=some (I (Zp1 s e a m)):=by
 have hcl:=Zow s;have hbl:=Zot s;have hc:Z4 [.iptr false [rqI s e a m]]=true:=by simp only [go_sem]
 have hA:=ZpP s.Regions (by have:=h.c.E.sizes.regions;omega) (fun x=>Z3 x.Id e.Id) 143 [.iptr false [rqI s e a m]] hc (fun x _=>ZqA s e a m x)
 have hP:=Zqv e h.ev;have hlen:(ZoM e).length≤1000:=by
  unfold ZoM;have h1:=h.ev.lst;cases Q9 e with
  | false=>exact Zvj _
  | true=>
  cases e.Kind==1||(e.Kind==2||e.Kind==5) with
  | true=>show (e.Path.l.take 1).length≤1000;rw [ZvR];omega
  | false=>
  cases e.Kind==6||e.Kind==10 with
  | true=>show 1≤1000;omega
  | false=>
  cases e.Kind==9 with
  | true=>show (e.Lst.l.map (·.Point)).length≤1000;rw [Zvk];omega
  | false=>exact Zvj _
 have L:=ZpR s e a m h (ZoM e) hlen (ZoM e).length 0 (by omega)
 rw [ZvN] at L;obtain ⟨fr',l1,l2⟩:=L;simp only [evA] at hP;rw [Z5 (f:=74) rfl rfl];unfold Zp1;have z0:((0:Nat):Int)=0:=rfl;rw [z0] at l1 l2;by_cases hz:plE s m (ZoM e)=0
 ·have l1:=l1 hz;rw [hz];cases k1:e.Kind==1 with
  | false=>simp only [go_sem,qy,qq,qk,reduceIte,c74,c74L0,k1,hP,l1,cond_false,Zvk]
  | true=>
   cases k2:s.Regions.any (fun x=>Z3 x.Id e.Id) with
   | true=>
    rw [k2] at hA;simp only [go_sem,qy,qq,reduceIte,c74,c74L0,k1,hA,cond_true]
   | false=>
   rw [k2] at hA;cases k3:e.A==1 with
   | false=>simp only [go_sem,qy,qq,qk,reduceIte,c74,c74L0,k1,k3,hA,hP,l1,cond_true,cond_false,Zvo,Zvk]
   | true=>cases k4:a==0<;>simp only [go_sem,qy,qq,reduceIte,c74,c74L0,k1,k3,k4,hA,cond_true,cond_false,Zvi]
 ·obtain ⟨l2,l3⟩:=l2 hz;cases k1:e.Kind==1 with
  | false=>simp only [go_sem,qy,qq,qk,reduceIte,c74,c74L0,k1,hP,l2,l3,cond_false,Zvk]
  | true=>
   cases k2:s.Regions.any (fun x=>Z3 x.Id e.Id) with
   | true=>
    rw [k2] at hA;simp only [go_sem,qy,qq,reduceIte,c74,c74L0,k1,hA,cond_true]
   | false=>
   rw [k2] at hA;cases k3:e.A==1 with
   | false=>simp only [go_sem,qy,qq,qk,reduceIte,c74,c74L0,k1,k3,hA,hP,l2,l3,cond_true,cond_false,Zvo,Zvk]
   | true=>cases k4:a==0<;>simp only [go_sem,qy,qq,reduceIte,c74,c74L0,k1,k3,k4,hA,cond_true,cond_false,Zvi]
end Go.AM
namespace Go.AM
open Go
def kOf (ks:List Int) (e:Event):Bool:=ks.any (fun x=>e.Kind==x)
theorem ZoJ (e:Event) (ks:List Int) (ex:Bool) (hl:ks.length≤1000):pfn rE 244 [.isl false ex 1 (ks.map I),evI e]=some (.bool (kOf ks e)):=by
 have h:=DR ks ex e.Kind (by omega)
 rw [Z5 (f:=244) rfl rfl];unfold kOf;simp only [go_sem,qy,qq,qx,qz,qv,qk,reduceIte,c244,h]
def Zor (s:Sta) (e:Event):List Str:=
 (((e.Ids.l++bif kOf [9,12] e then [e.Id] else [])++bif kOf [7] e then [e.Other] else [])++bif kOf [8] e then e.Lst.l.map (·.Id) else [])++bif kOf [12] e then (s.Units.filter (fun u=>Z3 u.Id e.Id)).map (·.Door) else []
def ZoQ (e:Event) (x:Region):Bool:=kOf [1,3,12] e&&Z3 x.Id e.Id
def ZoR (e:Event) (x:Street):Bool:=(kOf [3,4,8,12] e&&Z3 x.Id e.Id)||((kOf [4] e&&Z3 x.Id e.Other)||(kOf [6] e&&Z3 x.Id e.Text))
def ZoS (e:Event) (x:Building):Bool:=(kOf [11] e&&Z3 x.Id e.Id)||(kOf [6] e&&Z3 x.Id e.Other)
def ZoT (l:List Str) (x:Door):Bool:=l.any (fun y=>Z3 x.Id y)
def Zou (s:Sta) (m o:Int):Bool:=Zoq s o==m
def Zpb (s:Sta) (e:Event) (m:Int):Bool:=
 s.Regions.all (fun x=>!ZoQ e x||Zou s m x.Owner)&&(s.Streets.all (fun x=>!ZoR e x||Zou s m x.Owner)&&(s.Buildings.all (fun x=>!ZoS e x||Zou s m x.Owner)&&s.Doors.all (fun x=>!ZoT (Zor s e) x||Zou s m x.Owner)))
def Zp6 (s:Sta) (e:Event) (m:Int):Int:=bif Zpb s e m then 0 else 18
def ZoA (s:Sta) (e:Event) (a m:Int):Fr:=[(1,.iptr false [rqI s e a m]),(2,.ptr 0 0 0 1),(12,.clo (.func 245) [] [.iptr false [ldI s],.ptr 1 0 0 1,evI e,.ptr 3 0 0 1])]
def thX (s:Sta) (e:Event) (a m:Int) (n:Int) (st:LoopState) (ex:AExit) (l:List Str):Hp:=[.row 1 [I n],.row 1 [.clo (.func 244) [] [evI e]],.row 1 (l.map encS),.row 1 [.sl 2 l.length 0 l.length false],.loop st ex (ZoA s e a m) [13] c72R0a c72R0b]
abbrev thH (s:Sta) (e:Event) (a m:Int):Hp:=thX s e a m 0 .ready .normal (Zor s e)
abbrev thD (s:Sta) (e:Event) (a m:Int):Hp:=thX s e a m 18 .done .ret (Zor s e)
theorem ZoI (s:Sta) (e:Event) (a m:Int):Zd 5 (frV (ZoA s e a m))=true∧Zd 6 (frV (ZoA s e a m))=true:=by
 have hbl:=Zot s;have hcl:=Zow s;have hc:Z4 [rqI s e a m,ldI s,evI e]=true:=by simp only [go_sem,qy,qq,qx,qz,qv,qk,reduceIte,hcl]
 have hb:=fun n=>ZN (n:=n) _ hc
 simp only [Zd,Zvh] at hb;constructor
 ·obtain ⟨h1,h2,h3,_⟩:=hb 5;simp only [go_sem,qy,qq,qx,qz,qv,qk,reduceIte,ZoA,h1,h2,h3,hbl]
 ·obtain ⟨h1,h2,h3,_⟩:=hb 6;simp only [go_sem,qy,qq,qx,qz,qv,qk,reduceIte,ZoA,h1,h2,h3,hbl]
theorem Zpc (s:Sta) (e:Event) (a m:Int) (o:Int) (q:AObj) (hq:∀ n,Zj n q=true) (hM:pfn rE 66 [ldI s,I o]=some (I (Zoq s o))):
 U4 rE 4 [I o] (thH s e a m++[q])=some (bif Zou s m o then (.bool true,thH s e a m++[q]) else (.bool false,thD s e a m++[q])):=by
 have hcl:=Zow s;have hbl:=Zot s;obtain ⟨hf4,hf5⟩:=ZoI s e a m;unfold Zou;have hS:∀ n,Zd n ((Zor s e).map encS)=true:=fun n=>ZN _ (Zw (fun t=>rfl) _)
 cases c:Zoq s o==m with
 | true=>
  have h:=Ss (E:=rE) (b:=4) (args:=[I o]) (h:=thH s e a m++[q]) (fr:=ZoA s e a m) (ps:=[13]) (assign:=c72R0a) (body:=c72R0b)
   (fr0:=(13,I o)::ZoA s e a m) rfl rfl (by simp only [go_sem,qy,qq,qx,qz,qv,qk,reduceIte,c72R0a,thX,ZoA,Zvp,Zvl]<;>rfl) (by rfl)
   (e:=.normal) (fr2:=[]) (h2:=thX s e a m 0 .busy .normal (Zor s e)++[q])
   (by
    have hne:(Zoq s o != m)=false:=by rw [bne,c];rfl
    simp only [go_sem,qy,qq,qx,qz,qv,qk,reduceIte,c72R0b,thX,ZoA,Zvp,Zvl,hM,hne,hcl,hbl,hq,hS]<;>rfl) (by rfl)
  exact h
 | false=>
  have h:=Ss (E:=rE) (b:=4) (args:=[I o]) (h:=thH s e a m++[q]) (fr:=ZoA s e a m) (ps:=[13]) (assign:=c72R0a) (body:=c72R0b)
   (fr0:=(13,I o)::ZoA s e a m) rfl rfl (by simp only [go_sem,qy,qq,qx,qz,qv,qk,reduceIte,c72R0a,thX,ZoA,Zvp,Zvl]<;>rfl) (by rfl)
   (e:=.ret) (fr2:=[]) (h2:=thX s e a m 18 .busy .normal (Zor s e)++[q])
   (by
    have hne:(Zoq s o != m)=true:=by rw [bne,c];rfl
    simp only [go_sem,qy,qq,qx,qz,qv,qk,reduceIte,c72R0b,thX,ZoA,Zvp,Zvl,hM,hne,hcl,hbl,hq,hS]<;>rfl) (by rfl)
  exact h
theorem ZpS (s:Sta) (e:Event) (a m:Int) (h:RqS s e m) (i:Nat) (x:Region) (hx:s.Regions[i]? = some x) (hl:s.Regions.length≤1000) (ho:0≤x.Owner):
 Zb rE c245L0b [(0,.yld 4),(1,.iptr false [ldI s]),(2,.ptr 1 0 0 1),(3,evI e),(4,.ptr 3 0 0 1),(20,.isl false false 6 (s.Regions.map Region.enc)),(21,I s.Regions.length),(22,I i)] (thH s e a m)=bif !ZoQ e x||Zou s m x.Owner then some (.normal,[(0,.yld 4),(1,.iptr false [ldI s]),(2,.ptr 1 0 0 1),(3,evI e),(4,.ptr 3 0 0 1),(20,.isl false false 6 (s.Regions.map Region.enc)),(21,I s.Regions.length),(22,I (i+1:Nat))],thH s e a m) else some (.ret,[(0,.yld 4),(1,.iptr false [ldI s]),(2,.ptr 1 0 0 1),(3,evI e),(4,.ptr 3 0 0 1),(20,.isl false false 6 (s.Regions.map Region.enc)),(21,I s.Regions.length),(22,I i)],thD s e a m):=by
 have hg:=Z6 (f:=Region.enc) hx;have hi':=Zh (Z7 hx);have hwr:=Zx (n:=i) (by have:=Z7 hx;omega)
 have hcl:=Zow s;have hbl:=Zot s;obtain ⟨hf4,hf5⟩:=ZoI s e a m;have hS:∀ n,Zd n ((Zor s e).map encS)=true:=fun n=>ZN _ (Zw (fun t=>rfl) _)
 have hq:∀ n,Zj n (.row 6 [x.enc])=true:=fun n=>ZN (n:=n) [x.enc] (Zw (f:=Region.enc) (fun t=>rfl) [x])
 have hy:=Zpc s e a m x.Owner (.row 6 [x.enc]) hq (h.c.mst ho);simp only [thX,Zvp,Zvl,Region.enc,NL.enc] at hy;simp only [Region.enc,NL.enc] at hq;have hk0:=ZoJ e [1,3,12] false (by decide)
 simp only [Zvu,Zvr] at hk0;unfold ZoQ;cases c1:kOf [1,3,12] e with
 | false=>
  rw [c1] at hk0;simp only [go_sem,qy,qq,qx,qz,qv,qk,reduceIte,c245L0b,thX,S3,hg,hi',hwr,hcl,hbl,hf4,hf5,hq,hS,hy,Region.enc,NL.enc,Zvt,ZvB,Zvz,Zvq,ZvS,ZvE,Zvi,Zvo,cond_true,cond_false,hk0]
 | true=>
 rw [c1] at hk0;cases c2:Z3 x.Id e.Id with
 | false=>simp only [go_sem,qy,qq,qx,qz,qv,qk,reduceIte,c245L0b,thX,S3,hg,hi',hwr,hcl,hbl,hf4,hf5,hq,hS,hy,Region.enc,NL.enc,Zvt,ZvB,Zvz,Zvq,ZvS,ZvE,Zvi,Zvo,cond_true,cond_false,hk0,c2]
 | true=>cases c9:Zou s m x.Owner<;>rw [c9] at hy<;>simp only [cond_true,cond_false] at hy<;>simp only [go_sem,qy,qq,qx,qz,qv,qk,reduceIte,c245L0b,thX,S3,hg,hi',hwr,hcl,hbl,hf4,hf5,hq,hS,hy,Region.enc,NL.enc,Zvt,ZvB,Zvz,Zvq,ZvS,ZvE,Zvi,Zvo,cond_true,cond_false,hk0,c2]
set_option maxHeartbeats 4000000 in
theorem ZpT (s:Sta) (e:Event) (a m:Int) (h:RqS s e m) (i:Nat) (x:Street) (hx:s.Streets[i]? = some x) (hl:s.Streets.length≤1000) (ho:0≤x.Owner):
 Zb rE c245L1b [(0,.yld 4),(1,.iptr false [ldI s]),(2,.ptr 1 0 0 1),(3,evI e),(4,.ptr 3 0 0 1),(48,.isl false false 5 (s.Streets.map Street.enc)),(49,I s.Streets.length),(50,I i)] (thH s e a m)=bif !ZoR e x||Zou s m x.Owner then some (.normal,[(0,.yld 4),(1,.iptr false [ldI s]),(2,.ptr 1 0 0 1),(3,evI e),(4,.ptr 3 0 0 1),(48,.isl false false 5 (s.Streets.map Street.enc)),(49,I s.Streets.length),(50,I (i+1:Nat))],thH s e a m) else some (.ret,[(0,.yld 4),(1,.iptr false [ldI s]),(2,.ptr 1 0 0 1),(3,evI e),(4,.ptr 3 0 0 1),(48,.isl false false 5 (s.Streets.map Street.enc)),(49,I s.Streets.length),(50,I i)],thD s e a m):=by
 have hg:=Z6 (f:=Street.enc) hx;have hi':=Zh (Z7 hx);have hwr:=Zx (n:=i) (by have:=Z7 hx;omega)
 have hcl:=Zow s;have hbl:=Zot s;obtain ⟨hf4,hf5⟩:=ZoI s e a m;have hS:∀ n,Zd n ((Zor s e).map encS)=true:=fun n=>ZN _ (Zw (fun t=>rfl) _)
 have hq:∀ n,Zj n (.row 5 [x.enc])=true:=fun n=>ZN (n:=n) [x.enc] (Zw (f:=Street.enc) (fun t=>rfl) [x])
 have hy:=Zpc s e a m x.Owner (.row 5 [x.enc]) hq (h.c.mst ho);simp only [thX,Zvp,Zvl,Street.enc,NL.enc] at hy;simp only [Street.enc,NL.enc] at hq;have hk0:=ZoJ e [3,4,8,12] false (by decide)
 simp only [Zvu,Zvr] at hk0;have hk1:=ZoJ e [4] false (by decide)
 simp only [Zvu,Zvr] at hk1;have hk2:=ZoJ e [6] false (by decide)
 simp only [Zvu,Zvr] at hk2;unfold ZoR;cases c1:kOf [3,4,8,12] e<;>cases c4:kOf [4] e<;>cases c6:kOf [6] e<;>rw [c1] at hk0<;>rw [c4] at hk1<;>rw [c6] at hk2<;>cases d1:Z3 x.Id e.Id<;>cases d2:Z3 x.Id e.Other<;>cases d3:Z3 x.Id e.Text<;>
  (first | (simp only [go_sem,qy,qq,qx,qz,qv,qk,reduceIte,c245L1b,thX,S3,hg,hi',hwr,hcl,hbl,hf4,hf5,hq,hS,hy,Street.enc,NL.enc,Zvt,ZvB,Zvz,Zvq,ZvS,ZvE,Zvi,Zvo,cond_true,cond_false,hk0,hk1,hk2,d1,d2,d3];done) | (cases c9:Zou s m x.Owner<;>rw [c9] at hy<;>simp only [cond_true,cond_false] at hy<;>simp only [go_sem,qy,qq,qx,qz,qv,qk,reduceIte,c245L1b,thX,S3,hg,hi',hwr,hcl,hbl,hf4,hf5,hq,hS,hy,Street.enc,NL.enc,Zvt,ZvB,Zvz,Zvq,ZvS,ZvE,Zvi,Zvo,cond_true,cond_false,hk0,hk1,hk2,d1,d2,d3]))
set_option maxHeartbeats 1000000 in
theorem ZpU (s:Sta) (e:Event) (a m:Int) (h:RqS s e m) (i:Nat) (x:Building) (hx:s.Buildings[i]? = some x) (hl:s.Buildings.length≤1000) (ho:0≤x.Owner):
 Zb rE c245L2b [(0,.yld 4),(1,.iptr false [ldI s]),(2,.ptr 1 0 0 1),(3,evI e),(4,.ptr 3 0 0 1),(102,.isl false false 4 (s.Buildings.map Building.enc)),(103,I s.Buildings.length),(104,I i)] (thH s e a m)=bif !ZoS e x||Zou s m x.Owner then some (.normal,[(0,.yld 4),(1,.iptr false [ldI s]),(2,.ptr 1 0 0 1),(3,evI e),(4,.ptr 3 0 0 1),(102,.isl false false 4 (s.Buildings.map Building.enc)),(103,I s.Buildings.length),(104,I (i+1:Nat))],thH s e a m) else some (.ret,[(0,.yld 4),(1,.iptr false [ldI s]),(2,.ptr 1 0 0 1),(3,evI e),(4,.ptr 3 0 0 1),(102,.isl false false 4 (s.Buildings.map Building.enc)),(103,I s.Buildings.length),(104,I i)],thD s e a m):=by
 have hg:=Z6 (f:=Building.enc) hx;have hi':=Zh (Z7 hx);have hwr:=Zx (n:=i) (by have:=Z7 hx;omega)
 have hcl:=Zow s;have hbl:=Zot s;obtain ⟨hf4,hf5⟩:=ZoI s e a m;have hS:∀ n,Zd n ((Zor s e).map encS)=true:=fun n=>ZN _ (Zw (fun t=>rfl) _)
 have hq:∀ n,Zj n (.row 4 [x.enc])=true:=fun n=>ZN (n:=n) [x.enc] (Zw (f:=Building.enc) (fun t=>rfl) [x])
 have hy:=Zpc s e a m x.Owner (.row 4 [x.enc]) hq (h.c.mst ho);simp only [thX,Zvp,Zvl,Building.enc,NL.enc] at hy;simp only [Building.enc,NL.enc] at hq;have hk0:=ZoJ e [11] false (by decide)
 simp only [Zvu,Zvr] at hk0;have hk1:=ZoJ e [6] false (by decide)
 simp only [Zvu,Zvr] at hk1;unfold ZoS;cases c1:kOf [11] e<;>cases c6:kOf [6] e<;>rw [c1] at hk0<;>rw [c6] at hk1<;>cases d1:Z3 x.Id e.Id<;>cases d2:Z3 x.Id e.Other<;>
  (first | (simp only [go_sem,qy,qq,qx,qz,qv,qk,reduceIte,c245L2b,thX,S3,hg,hi',hwr,hcl,hbl,hf4,hf5,hq,hS,hy,Building.enc,NL.enc,Zvt,ZvB,Zvz,Zvq,ZvS,ZvE,Zvi,Zvo,cond_true,cond_false,hk0,hk1,d1,d2];done) | (cases c9:Zou s m x.Owner<;>rw [c9] at hy<;>simp only [cond_true,cond_false] at hy<;>simp only [go_sem,qy,qq,qx,qz,qv,qk,reduceIte,c245L2b,thX,S3,hg,hi',hwr,hcl,hbl,hf4,hf5,hq,hS,hy,Building.enc,NL.enc,Zvt,ZvB,Zvz,Zvq,ZvS,ZvE,Zvi,Zvo,cond_true,cond_false,hk0,hk1,d1,d2]))
theorem ZpV (s:Sta) (e:Event) (a m:Int) (h:RqS s e m) (i:Nat) (x:Door) (hx:s.Doors[i]? = some x) (hl:s.Doors.length≤1000) (ho:0≤x.Owner) (hd:(Zor s e).length≤100000):
 Zb rE c245L3b [(0,.yld 4),(4,.ptr 3 0 0 1),(142,.isl false false 16 (s.Doors.map Door.enc)),(143,I s.Doors.length),(144,I i)] (thH s e a m)=bif !ZoT (Zor s e) x||Zou s m x.Owner then some (.normal,[(0,.yld 4),(4,.ptr 3 0 0 1),(142,.isl false false 16 (s.Doors.map Door.enc)),(143,I s.Doors.length),(144,I (i+1:Nat))],thH s e a m) else some (.ret,[(0,.yld 4),(4,.ptr 3 0 0 1),(142,.isl false false 16 (s.Doors.map Door.enc)),(143,I s.Doors.length),(144,I i)],thD s e a m):=by
 have hg:=Z6 (f:=Door.enc) hx;have hi':=Zh (Z7 hx);have hwr:=Zx (n:=i) (by have:=Z7 hx;omega)
 have hcl:=Zow s;have hbl:=Zot s;obtain ⟨hf4,hf5⟩:=ZoI s e a m;have hS:∀ n,Zd n ((Zor s e).map encS)=true:=fun n=>ZN _ (Zw (fun t=>rfl) _)
 have hq:∀ n,Zj n (.row 16 [x.enc])=true:=fun n=>ZN (n:=n) [x.enc] (Zw (f:=Door.enc) (fun t=>rfl) [x])
 have hy:=Zpc s e a m x.Owner (.row 16 [x.enc]) hq (h.c.mst ho);simp only [thX,Zvp,Zvl,Door.enc,NL.enc] at hy;simp only [Door.enc,NL.enc] at hq;unfold ZoT;have hD:=Zqr (Zor s e) hd x.Id true false;have hcS:Z4 ((Zor s e).map encS)=true:=Zw (fun t=>rfl) _
 have htk:List.take (Zor s e).length ((Zor s e).map encS)=(Zor s e).map encS:=ZvC (by simp)
 cases c1:(Zor s e).any (fun y=>Z3 x.Id y) with
 | false=>
  rw [c1] at hD;simp only [go_sem,qy,qq,qx,qz,qv,qk,reduceIte,c245L3b,thX,S3,hg,hi',hwr,hcl,hbl,hf4,hf5,hq,hS,hy,Door.enc,NL.enc,Zvt,ZvB,Zvz,Zvq,ZvS,ZvE,Zvi,Zvo,cond_true,cond_false,hD,hcS,htk,Zvk,ZvN,beq_self_eq_true]
 | true=>
  rw [c1] at hD;cases c9:Zou s m x.Owner<;>rw [c9] at hy<;>simp only [cond_true,cond_false] at hy<;>simp only [go_sem,qy,qq,qx,qz,qv,qk,reduceIte,c245L3b,thX,S3,hg,hi',hwr,hcl,hbl,hf4,hf5,hq,hS,hy,Door.enc,NL.enc,Zvt,ZvB,Zvz,Zvq,ZvS,ZvE,Zvi,Zvo,cond_true,cond_false,hD,hcS,htk,Zvk,ZvN,beq_self_eq_true]
end Go.AM
namespace Go.AM
open Go
theorem ZqE (s:Sta) (e:Event) (a m:Int) (h:RqS s e m) (hl:s.Regions.length≤1000) (ho:∀ x∈s.Regions,0≤x.Owner):
 ∃ fr' h',Zg rE [0,1,2,3,4,20,21,22] c245L0b [(0,.yld 4),(1,.iptr false [ldI s]),(2,.ptr 1 0 0 1),(3,evI e),(4,.ptr 3 0 0 1),(20,.isl false false 6 (s.Regions.map Region.enc)),(21,I s.Regions.length),(22,.int .i64 0)] (thH s e a m)=some (if s.Regions.all (fun x=>!ZoQ e x||Zou s m x.Owner)=true then .exit 0 else .ret,fr',h')∧
  (s.Regions.all (fun x=>!ZoQ e x||Zou s m x.Owner)=true→fr'=[(0,.yld 4),(1,.iptr false [ldI s]),(2,.ptr 1 0 0 1),(3,evI e),(4,.ptr 3 0 0 1),(20,.isl false false 6 (s.Regions.map Region.enc)),(21,I s.Regions.length),(22,I s.Regions.length)]∧h'=thH s e a m)∧(s.Regions.all (fun x=>!ZoQ e x||Zou s m x.Owner)=false→h'=thD s e a m):=by
 have hbl:=Zot s;have hcl:=Zow s;obtain ⟨hf4,hf5⟩:=ZoI s e a m;have hS:∀ n,Zd n ((Zor s e).map encS)=true:=fun n=>ZN _ (Zw (fun t=>rfl) _)
 have L:=Jk (E:=rE) (live:=[0,1,2,3,4,20,21,22]) (b:=c245L0b) s.Regions (fun _ x=>!ZoQ e x||Zou s m x.Owner) (fun i=>[(0,.yld 4),(1,.iptr false [ldI s]),(2,.ptr 1 0 0 1),(3,evI e),(4,.ptr 3 0 0 1),(20,.isl false false 6 (s.Regions.map Region.enc)),(21,I s.Regions.length),(22,I i)]) (fun _=>thH s e a m) 0
  (fun fr h'=>fr=[(0,.yld 4),(1,.iptr false [ldI s]),(2,.ptr 1 0 0 1),(3,evI e),(4,.ptr 3 0 0 1),(20,.isl false false 6 (s.Regions.map Region.enc)),(21,I s.Regions.length),(22,I s.Regions.length)]∧h'=thH s e a m) (fun _ h'=>h'=thD s e a m) (fun i=>rfl)
  (fun i x hx hP=>by
   have:=ZpS s e a m h i x hx hl (ho x (Zvw hx));rw [hP,cond_true] at this;exact ⟨_,this,rfl⟩)
  (fun i x hx hP=>by
   have:=ZpS s e a m h i x hx hl (ho x (Zvw hx));rw [hP,cond_false] at this;exact ⟨_,_,this,rfl⟩)
  ⟨[(0,.yld 4),(1,.iptr false [ldI s]),(2,.ptr 1 0 0 1),(3,evI e),(4,.ptr 3 0 0 1),(20,.isl false false 6 (s.Regions.map Region.enc)),(21,I s.Regions.length),(22,I s.Regions.length)],thH s e a m,by simp only [go_sem,qy,qq,reduceIte,c245L0b,thX,ZG,hf4,hS],rfl,rfl⟩
 rw [QE] at L;exact L
theorem ZqF (s:Sta) (e:Event) (a m:Int) (h:RqS s e m) (hl:s.Streets.length≤1000) (ho:∀ x∈s.Streets,0≤x.Owner):
 ∃ fr' h',Zg rE [0,1,2,3,4,48,49,50] c245L1b [(0,.yld 4),(1,.iptr false [ldI s]),(2,.ptr 1 0 0 1),(3,evI e),(4,.ptr 3 0 0 1),(48,.isl false false 5 (s.Streets.map Street.enc)),(49,I s.Streets.length),(50,.int .i64 0)] (thH s e a m)=some (if s.Streets.all (fun x=>!ZoR e x||Zou s m x.Owner)=true then .exit 2 else .ret,fr',h')∧
  (s.Streets.all (fun x=>!ZoR e x||Zou s m x.Owner)=true→fr'=[(0,.yld 4),(1,.iptr false [ldI s]),(2,.ptr 1 0 0 1),(3,evI e),(4,.ptr 3 0 0 1),(48,.isl false false 5 (s.Streets.map Street.enc)),(49,I s.Streets.length),(50,I s.Streets.length)]∧h'=thH s e a m)∧(s.Streets.all (fun x=>!ZoR e x||Zou s m x.Owner)=false→h'=thD s e a m):=by
 have hbl:=Zot s;have hcl:=Zow s;obtain ⟨hf4,hf5⟩:=ZoI s e a m;have hS:∀ n,Zd n ((Zor s e).map encS)=true:=fun n=>ZN _ (Zw (fun t=>rfl) _)
 have L:=Jk (E:=rE) (live:=[0,1,2,3,4,48,49,50]) (b:=c245L1b) s.Streets (fun _ x=>!ZoR e x||Zou s m x.Owner) (fun i=>[(0,.yld 4),(1,.iptr false [ldI s]),(2,.ptr 1 0 0 1),(3,evI e),(4,.ptr 3 0 0 1),(48,.isl false false 5 (s.Streets.map Street.enc)),(49,I s.Streets.length),(50,I i)]) (fun _=>thH s e a m) 2
  (fun fr h'=>fr=[(0,.yld 4),(1,.iptr false [ldI s]),(2,.ptr 1 0 0 1),(3,evI e),(4,.ptr 3 0 0 1),(48,.isl false false 5 (s.Streets.map Street.enc)),(49,I s.Streets.length),(50,I s.Streets.length)]∧h'=thH s e a m) (fun _ h'=>h'=thD s e a m) (fun i=>rfl)
  (fun i x hx hP=>by
   have:=ZpT s e a m h i x hx hl (ho x (Zvw hx));rw [hP,cond_true] at this;exact ⟨_,this,rfl⟩)
  (fun i x hx hP=>by
   have:=ZpT s e a m h i x hx hl (ho x (Zvw hx));rw [hP,cond_false] at this;exact ⟨_,_,this,rfl⟩)
  ⟨[(0,.yld 4),(1,.iptr false [ldI s]),(2,.ptr 1 0 0 1),(3,evI e),(4,.ptr 3 0 0 1),(48,.isl false false 5 (s.Streets.map Street.enc)),(49,I s.Streets.length),(50,I s.Streets.length)],thH s e a m,by simp only [go_sem,qy,qq,reduceIte,c245L1b,thX,ZG,hf4,hS],rfl,rfl⟩
 rw [QE] at L;exact L
theorem ZqG (s:Sta) (e:Event) (a m:Int) (h:RqS s e m) (hl:s.Buildings.length≤1000) (ho:∀ x∈s.Buildings,0≤x.Owner):
 ∃ fr' h',Zg rE [0,1,2,3,4,102,103,104] c245L2b [(0,.yld 4),(1,.iptr false [ldI s]),(2,.ptr 1 0 0 1),(3,evI e),(4,.ptr 3 0 0 1),(102,.isl false false 4 (s.Buildings.map Building.enc)),(103,I s.Buildings.length),(104,.int .i64 0)] (thH s e a m)=some (if s.Buildings.all (fun x=>!ZoS e x||Zou s m x.Owner)=true then .exit 4 else .ret,fr',h')∧
  (s.Buildings.all (fun x=>!ZoS e x||Zou s m x.Owner)=true→fr'=[(0,.yld 4),(1,.iptr false [ldI s]),(2,.ptr 1 0 0 1),(3,evI e),(4,.ptr 3 0 0 1),(102,.isl false false 4 (s.Buildings.map Building.enc)),(103,I s.Buildings.length),(104,I s.Buildings.length)]∧h'=thH s e a m)∧(s.Buildings.all (fun x=>!ZoS e x||Zou s m x.Owner)=false→h'=thD s e a m):=by
 have hbl:=Zot s;have hcl:=Zow s;obtain ⟨hf4,hf5⟩:=ZoI s e a m;have hS:∀ n,Zd n ((Zor s e).map encS)=true:=fun n=>ZN _ (Zw (fun t=>rfl) _)
 have L:=Jk (E:=rE) (live:=[0,1,2,3,4,102,103,104]) (b:=c245L2b) s.Buildings (fun _ x=>!ZoS e x||Zou s m x.Owner) (fun i=>[(0,.yld 4),(1,.iptr false [ldI s]),(2,.ptr 1 0 0 1),(3,evI e),(4,.ptr 3 0 0 1),(102,.isl false false 4 (s.Buildings.map Building.enc)),(103,I s.Buildings.length),(104,I i)]) (fun _=>thH s e a m) 4
  (fun fr h'=>fr=[(0,.yld 4),(1,.iptr false [ldI s]),(2,.ptr 1 0 0 1),(3,evI e),(4,.ptr 3 0 0 1),(102,.isl false false 4 (s.Buildings.map Building.enc)),(103,I s.Buildings.length),(104,I s.Buildings.length)]∧h'=thH s e a m) (fun _ h'=>h'=thD s e a m) (fun i=>rfl)
  (fun i x hx hP=>by
   have:=ZpU s e a m h i x hx hl (ho x (Zvw hx));rw [hP,cond_true] at this;exact ⟨_,this,rfl⟩)
  (fun i x hx hP=>by
   have:=ZpU s e a m h i x hx hl (ho x (Zvw hx));rw [hP,cond_false] at this;exact ⟨_,_,this,rfl⟩)
  ⟨[(0,.yld 4),(1,.iptr false [ldI s]),(2,.ptr 1 0 0 1),(3,evI e),(4,.ptr 3 0 0 1),(102,.isl false false 4 (s.Buildings.map Building.enc)),(103,I s.Buildings.length),(104,I s.Buildings.length)],thH s e a m,by simp only [go_sem,qy,qq,reduceIte,c245L2b,thX,ZG,hf4,hS],rfl,rfl⟩
 rw [QE] at L;exact L
theorem ZqH (s:Sta) (e:Event) (a m:Int) (h:RqS s e m) (hl:s.Doors.length≤1000) (ho:∀ x∈s.Doors,0≤x.Owner) (hd:(Zor s e).length≤100000):
 ∃ fr' h',Zg rE [0,4,142,143,144] c245L3b [(0,.yld 4),(4,.ptr 3 0 0 1),(142,.isl false false 16 (s.Doors.map Door.enc)),(143,I s.Doors.length),(144,.int .i64 0)] (thH s e a m)=some (if s.Doors.all (fun x=>!ZoT (Zor s e) x||Zou s m x.Owner)=true then .exit 6 else .ret,fr',h')∧
  (s.Doors.all (fun x=>!ZoT (Zor s e) x||Zou s m x.Owner)=true→fr'=[(0,.yld 4),(4,.ptr 3 0 0 1),(142,.isl false false 16 (s.Doors.map Door.enc)),(143,I s.Doors.length),(144,I s.Doors.length)]∧h'=thH s e a m)∧(s.Doors.all (fun x=>!ZoT (Zor s e) x||Zou s m x.Owner)=false→h'=thD s e a m):=by
 have hbl:=Zot s;have hcl:=Zow s;obtain ⟨hf4,hf5⟩:=ZoI s e a m;have hS:∀ n,Zd n ((Zor s e).map encS)=true:=fun n=>ZN _ (Zw (fun t=>rfl) _)
 have L:=Jk (E:=rE) (live:=[0,4,142,143,144]) (b:=c245L3b) s.Doors (fun _ x=>!ZoT (Zor s e) x||Zou s m x.Owner) (fun i=>[(0,.yld 4),(4,.ptr 3 0 0 1),(142,.isl false false 16 (s.Doors.map Door.enc)),(143,I s.Doors.length),(144,I i)]) (fun _=>thH s e a m) 6
  (fun fr h'=>fr=[(0,.yld 4),(4,.ptr 3 0 0 1),(142,.isl false false 16 (s.Doors.map Door.enc)),(143,I s.Doors.length),(144,I s.Doors.length)]∧h'=thH s e a m) (fun _ h'=>h'=thD s e a m) (fun i=>rfl)
  (fun i x hx hP=>by
   have:=ZpV s e a m h i x hx hl (ho x (Zvw hx)) hd;rw [hP,cond_true] at this;exact ⟨_,this,rfl⟩)
  (fun i x hx hP=>by
   have:=ZpV s e a m h i x hx hl (ho x (Zvw hx)) hd;rw [hP,cond_false] at this;exact ⟨_,_,this,rfl⟩)
  ⟨[(0,.yld 4),(4,.ptr 3 0 0 1),(142,.isl false false 16 (s.Doors.map Door.enc)),(143,I s.Doors.length),(144,I s.Doors.length)],thH s e a m,by simp only [go_sem,qy,qq,reduceIte,c245L3b,thX,ZG,hf4,hS],rfl,rfl⟩
 rw [QE] at L;exact L
def owH (e:Event) (l:List Str):Hp:=[.row 1 [I 0],.row 1 [.clo (.func 244) [] [evI e]],.row 1 (l.map encS),.row 1 [.sl 2 l.length 0 l.length false]]
theorem Zpd (e:Event) (l:List Str) (x:Str) (hl:l.length≤1000000) (r:List AObj):appW (owH e l++r) true 1 16 (.sl 2 l.length 0 l.length false) (.isl false false 1 [.str x]) =
 some (.sl 2 (l.length+1) 0 (l.length+1) false,[.row 1 [I 0],.row 1 [.clo (.func 244) [] [evI e]],.row 1 ((l++[x]).map encS),.row 1 [.sl 2 l.length 0 l.length false]]++r):=by
 have:=XC (h:=owH e l++r) (fz:=true) (b:=2) (g:=l.length) (sz:=1) (bytes:=16) (es:=l.map encS) (bw:=false) (ex:=false) (ys:=[.str x]) (by
  show (bif (l.map encS).length==l.length then some (1,l.map encS) else none)=_
  rw [Zvk,beq_self_eq_true];rfl) rfl rfl (by decide) (by decide) (by simp;omega)
 rw [this,Zvv];rfl
theorem ZoU (e:Event) (n:Nat):bel n (evI e)=true:=by
 have hc:Z4 [evI e]=true:=by simp only [go_sem]
 have:=ZN (n:=n) [evI e] hc;unfold Zd at this;rw [Zvh] at this;exact this.1
theorem ZqI (s:Sta) (e:Event) (l:List Str) (hl:l.length+e.Lst.l.length≤100000):Zg rE [2,3,5,6,35,36,37] c140L0b [(2,.iptr false [ldI s]),(3,evI e),(5,.ptr 1 0 0 1),(6,.ptr 3 0 0 1),(35,.isl false e.Lst.ex 7 (e.Lst.l.map Ent.enc)),(36,I e.Lst.l.length),(37,.int .i64 0)] (owH e l) =
 some (.exit 0,[(2,.iptr false [ldI s]),(3,evI e),(5,.ptr 1 0 0 1),(6,.ptr 3 0 0 1),(35,.isl false e.Lst.ex 7 (e.Lst.l.map Ent.enc)),(36,I e.Lst.l.length),(37,I e.Lst.l.length)],owH e (l++e.Lst.l.map (·.Id))):=by
 have hbl:=Zot s;have hbe:=ZoU e;have hS:∀ (D:List Str) n,Zd n (D.map encS)=true:=fun D n=>ZN _ (Zw (fun t=>rfl) _)
 have L:=Y8 (E:=rE) (live:=[2,3,5,6,35,36,37]) (b:=c140L0b) e.Lst.l.length (fun i=>[(2,.iptr false [ldI s]),(3,evI e),(5,.ptr 1 0 0 1),(6,.ptr 3 0 0 1),(35,.isl false e.Lst.ex 7 (e.Lst.l.map Ent.enc)),(36,I e.Lst.l.length),(37,I i)])
  (fun i=>owH e (l++(e.Lst.l.take i).map (·.Id))) (fun i=>rfl)
  (fun i hi=>by
   obtain ⟨x,hx⟩:∃ x,e.Lst.l[i]? = some x:=⟨_,Zvm hi⟩;have hg:=Z6 (f:=Ent.enc) hx;have hi':=Zh hi;have hwr:=Zx (n:=i) (by omega)
   have htk:l++(e.Lst.l.take (i+1)).map (·.Id)=(l++(e.Lst.l.take i).map (·.Id))++[x.Id]:=by
    rw [ZvW,hx,Zvv,ZvL];rfl
   have hlen:(l++(e.Lst.l.take i).map (·.Id)).length≤1000000:=by rw [ZvG,Zvk,ZvR];omega
   rw [htk];generalize l++(e.Lst.l.take i).map (·.Id)=D at *;have ha:=fun q=>Zpd e D x.Id hlen [q]
   simp only [owH,Zvp,Zvl] at ha;have hl1:(D++[x.Id]).length=D.length+1:=by simp
   refine ⟨[(2,.iptr false [ldI s]),(3,evI e),(5,.ptr 1 0 0 1),(6,.ptr 3 0 0 1),(35,.isl false e.Lst.ex 7 (e.Lst.l.map Ent.enc)),(36,I e.Lst.l.length),(37,I (i+1:Nat))],?_,rfl⟩;unfold owH;rw [hl1];simp only [go_sem,qy,qq,qv,qk,reduceIte,c140L0b,hg,hi',hwr,ha,Ent.enc,hbe,hS])
  (e:=.exit 0) (fr:=[(2,.iptr false [ldI s]),(3,evI e),(5,.ptr 1 0 0 1),(6,.ptr 3 0 0 1),(35,.isl false e.Lst.ex 7 (e.Lst.l.map Ent.enc)),(36,I e.Lst.l.length),(37,I e.Lst.l.length)]) (h:=owH e (l++e.Lst.l.map (·.Id))) (by
   rw [ZvD];simp only [go_sem,qy,qq,qv,reduceIte,c140L0b,owH,ZG,hbe,hS]) (by simp)
 have e0:l++(e.Lst.l.take 0).map (·.Id)=l:=by simp
 rw [e0] at L;exact L
theorem ZqJ (s:Sta) (e:Event) (l:List Str) (hl:l.length+s.Units.length≤100000):Zg rE [2,3,5,6,54,55,56] c140L1b [(2,.iptr false [ldI s]),(3,evI e),(5,.ptr 1 0 0 1),(6,.ptr 3 0 0 1),(54,.isl false false 6 (s.Units.map Unit'.enc)),(55,I s.Units.length),(56,.int .i64 0)] (owH e l) =
 some (.exit 2,[(2,.iptr false [ldI s]),(3,evI e),(5,.ptr 1 0 0 1),(6,.ptr 3 0 0 1),(54,.isl false false 6 (s.Units.map Unit'.enc)),(55,I s.Units.length),(56,I s.Units.length)],owH e (l++(s.Units.filter (fun u=>Z3 u.Id e.Id)).map (·.Door))):=by
 have hbl:=Zot s;have hbe:=ZoU e;have hS:∀ (D:List Str) n,Zd n (D.map encS)=true:=fun D n=>ZN _ (Zw (fun t=>rfl) _)
 have L:=Y8 (E:=rE) (live:=[2,3,5,6,54,55,56]) (b:=c140L1b) s.Units.length (fun i=>[(2,.iptr false [ldI s]),(3,evI e),(5,.ptr 1 0 0 1),(6,.ptr 3 0 0 1),(54,.isl false false 6 (s.Units.map Unit'.enc)),(55,I s.Units.length),(56,I i)])
  (fun i=>owH e (l++((s.Units.take i).filter (fun u=>Z3 u.Id e.Id)).map (·.Door))) (fun i=>rfl)
  (fun i hi=>by
   obtain ⟨x,hx⟩:∃ x,s.Units[i]? = some x:=⟨_,Zvm hi⟩;have hg:=Z6 (f:=Unit'.enc) hx;have hi':=Zh hi;have hwr:=Zx (n:=i) (by omega)
   have htk:l++((s.Units.take (i+1)).filter (fun u=>Z3 u.Id e.Id)).map (·.Door)=(l++((s.Units.take i).filter (fun u=>Z3 u.Id e.Id)).map (·.Door))++bif Z3 x.Id e.Id then [x.Door] else []:=by
    rw [ZvW,hx,List.filter_append,Zvv,ZvL];congr 2;show ([x].filter _).map _=_
    cases hc:Z3 x.Id e.Id<;>simp [hc]
   have hlen:(l++((s.Units.take i).filter (fun u=>Z3 u.Id e.Id)).map (·.Door)).length≤1000000:=by
    rw [ZvG,Zvk];have:=List.length_filter_le (fun u:Unit'=>Z3 u.Id e.Id) (s.Units.take i)
    rw [ZvR] at this;omega
   rw [htk];generalize l++((s.Units.take i).filter (fun u=>Z3 u.Id e.Id)).map (·.Door)=D at *
   refine ⟨[(2,.iptr false [ldI s]),(3,evI e),(5,.ptr 1 0 0 1),(6,.ptr 3 0 0 1),(54,.isl false false 6 (s.Units.map Unit'.enc)),(55,I s.Units.length),(56,I (i+1:Nat))],?_,rfl⟩;cases c:Z3 x.Id e.Id with
   | false=>
    rw [cond_false,Zvn];simp only [go_sem,qy,qq,qv,qk,reduceIte,c140L1b,owH,hg,hi',hwr,Unit'.enc,c,hbe,hS]
   | true=>
    rw [cond_true];have ha:=fun q=>Zpd e D x.Door hlen [q]
    simp only [owH,Zvp,Zvl] at ha;have hl1:(D++[x.Door]).length=D.length+1:=by simp
    unfold owH;rw [hl1];simp only [go_sem,qy,qq,qv,qk,reduceIte,c140L1b,hg,hi',hwr,ha,Unit'.enc,c,hbe,hS])
  (e:=.exit 2) (fr:=[(2,.iptr false [ldI s]),(3,evI e),(5,.ptr 1 0 0 1),(6,.ptr 3 0 0 1),(54,.isl false false 6 (s.Units.map Unit'.enc)),(55,I s.Units.length),(56,I s.Units.length)]) (h:=owH e (l++(s.Units.filter (fun u=>Z3 u.Id e.Id)).map (·.Door))) (by
   rw [ZvD];simp only [go_sem,qy,qq,qv,reduceIte,c140L1b,owH,ZG,hbe,hS]) (by simp)
 have e0:l++((s.Units.take 0).filter (fun u=>Z3 u.Id e.Id)).map (·.Door)=l:=by simp
 rw [e0] at L;exact L
theorem ZqK (l:List Str) (ex:Bool) (hl:l.length≤1000000) (h:Hp):fnV rE 164 [.isl false ex 1 (l.map encS)] h=some (.sl h.length l.length 0 l.length false,h++[.row 1 (l.map encS)]):=by
 have hble:Nat.ble l.length 1000000=true:=ZvO hl;have hfit:(l.map encS).all (fits 1)=true:=by rw [Zw6,Zvx];intro x _;rfl
 rw [V8 (s:=J9) rfl];simp only [J9,Q2,Qq,hfit,Zvk,hble,beq_self_eq_true,Zvq,ZvA,cond_true]
end Go.AM
namespace Go.AM
open Go
theorem c140_eq:c140=.seq s140p0 (.seq s140p1 (.seq s140p2 (.seq s140p3 (.seq s140p4 (.seq s140p5 (.seq s140p6 (.seq s140p7 .ret))))))):=rfl
def owG (s:Sta) (e:Event) (k:Nat) (b:Bool):Fr:=bif b then [(2,.iptr false [ldI s]),(3,evI e),(5,.ptr 1 0 0 1),(6,.ptr 3 0 0 1)] else [(2,.iptr false [ldI s]),(3,evI e),(5,.ptr 1 0 0 1),(6,.ptr 3 0 0 1),(k,.bool false)]
def ow1 (e:Event) (l:List Str):List Str:=l++bif kOf [9,12] e then [e.Id] else []
def ow2 (e:Event) (l:List Str):List Str:=l++bif kOf [7] e then [e.Other] else []
def ow3 (e:Event) (l:List Str):List Str:=l++bif kOf [8] e then e.Lst.l.map (·.Id) else []
def ow4 (s:Sta) (e:Event) (l:List Str):List Str:=l++bif kOf [12] e then (s.Units.filter (fun u=>Z3 u.Id e.Id)).map (·.Door) else []
theorem ZpW (s:Sta) (e:Event):Zor s e=ow4 s e (ow3 e (ow2 e (ow1 e e.Ids.l))):=rfl
theorem ZqL (s:Sta) (e:Event) (l:List Str) (b:Bool) (hl:l.length≤100000):Zb rE s140p3 (owG s e 0 b) (owH e l)=some (.normal,owG s e 17 (kOf [9,12] e),owH e (ow1 e l)):=by
 have hbl:=Zot s;have hbe:=ZoU e;have hS:∀ (D:List Str) n,Zd n (D.map encS)=true:=fun D n=>ZN _ (Zw (fun t=>rfl) _)
 have hk:=ZoJ e [9,12] false (by decide)
 simp only [Zvu,Zvr] at hk;unfold ow1;cases c:kOf [9,12] e with
 | false=>
  rw [c] at hk;rw [cond_false,Zvn];cases b<;>simp only [go_sem,qy,qq,qv,qk,s140p3,owG,cond_true,cond_false,owH,hk,hbe,hS]
 | true=>
  rw [c] at hk;rw [cond_true];have ha:=Zpd e l e.Id (by omega) []
  have hl1:(l++[e.Id]).length=l.length+1:=by simp
  unfold owH at ha ⊢;rw [hl1];simp only [Zvn] at ha;cases b<;>simp only [go_sem,qy,qq,qv,qk,s140p3,owG,cond_true,cond_false,hk,ha,hbe,hS]
theorem ZqM (s:Sta) (e:Event) (l:List Str) (b:Bool) (hl:l.length≤100000):Zb rE s140p4 (owG s e 17 b) (owH e l)=some (.normal,owG s e 25 (kOf [7] e),owH e (ow2 e l)):=by
 have hbl:=Zot s;have hbe:=ZoU e;have hS:∀ (D:List Str) n,Zd n (D.map encS)=true:=fun D n=>ZN _ (Zw (fun t=>rfl) _)
 have hk:=ZoJ e [7] false (by decide)
 simp only [Zvu,Zvr] at hk;unfold ow2;cases c:kOf [7] e with
 | false=>
  rw [c] at hk;rw [cond_false,Zvn];cases b<;>simp only [go_sem,qy,qq,qv,qk,s140p4,owG,cond_true,cond_false,owH,hk,hbe,hS]
 | true=>
  rw [c] at hk;rw [cond_true];have ha:=Zpd e l e.Other (by omega) []
  have hl1:(l++[e.Other]).length=l.length+1:=by simp
  unfold owH at ha ⊢;rw [hl1];simp only [Zvn] at ha;cases b<;>simp only [go_sem,qy,qq,qv,qk,s140p4,owG,cond_true,cond_false,hk,ha,hbe,hS]
theorem ZqN (s:Sta) (e:Event) (l:List Str) (b:Bool) (hl:l.length+e.Lst.l.length≤100000):Zb rE s140p5 (owG s e 25 b) (owH e l)=some (.normal,owG s e 33 (kOf [8] e),owH e (ow3 e l)):=by
 have hbl:=Zot s;have hbe:=ZoU e;have hS:∀ (D:List Str) n,Zd n (D.map encS)=true:=fun D n=>ZN _ (Zw (fun t=>rfl) _)
 have hE:∀ n,Zd n (e.Lst.l.map Ent.enc)=true:=fun n=>ZN _ (Zw (fun t=>rfl) _)
 have hk:=ZoJ e [8] false (by decide)
 simp only [Zvu,Zvr] at hk;unfold ow3;cases c:kOf [8] e with
 | false=>
  rw [c] at hk;rw [cond_false,Zvn];cases b<;>simp only [go_sem,qy,qq,qv,qk,s140p5,owG,cond_true,cond_false,owH,hk,hbe,hS]
 | true=>
  rw [c] at hk;rw [cond_true];have hL:=ZqI s e l hl;generalize l++e.Lst.l.map (·.Id)=D at *;unfold owH at hL ⊢;cases b<;>simp only [go_sem,qy,qq,qv,qk,s140p5,c140L0,owG,cond_true,cond_false,hk,hL,hbe,hS]
theorem ZqO (s:Sta) (e:Event) (l:List Str) (b:Bool) (hl:l.length+s.Units.length≤100000):Zb rE s140p6 (owG s e 33 b) (owH e l)=some (.normal,owG s e 49 (kOf [12] e),owH e (ow4 s e l)):=by
 have hbl:=Zot s;have hbe:=ZoU e;have hS:∀ (D:List Str) n,Zd n (D.map encS)=true:=fun D n=>ZN _ (Zw (fun t=>rfl) _)
 have hE:∀ n,Zd n (s.Units.map Unit'.enc)=true:=fun n=>ZN _ (Zw (fun t=>rfl) _)
 have hk:=ZoJ e [12] false (by decide)
 simp only [Zvu,Zvr] at hk;unfold ow4;cases c:kOf [12] e with
 | false=>
  rw [c] at hk;rw [cond_false,Zvn];cases b<;>simp only [go_sem,qy,qq,qv,qk,s140p6,owG,cond_true,cond_false,owH,hk,hbe,hS]
 | true=>
  rw [c] at hk;rw [cond_true];have hL:=ZqJ s e l hl;generalize l++(s.Units.filter (fun u=>Z3 u.Id e.Id)).map (·.Door)=D at *
  unfold owH at hL ⊢;cases b<;>simp only [go_sem,qy,qq,qv,qk,s140p6,c140L1,owG,cond_true,cond_false,hk,hL,hbe,hS]
theorem ZqP (s:Sta) (e:Event) (hl:e.Ids.l.length≤1000000):Zb rE s140p2 [(2,.iptr false [ldI s]),(3,evI e),(5,.ptr 1 0 0 1)] [.row 1 [I 0],.row 1 [.clo (.func 244) [] [evI e]]]=some (.normal,owG s e 0 true,owH e e.Ids.l):=by
 have hC:=ZqK e.Ids.l e.Ids.ex hl [.row 1 [I 0],.row 1 [.clo (.func 244) [] [evI e]]];have hbl:=Zot s;have hbe:=ZoU e;have hS:∀ (D:List Str) n,Zd n (D.map encS)=true:=fun D n=>ZN _ (Zw (fun t=>rfl) _)
 unfold owH owG;simp only [go_sem,qy,qq,qv,s140p2,cond_true,hC,hbe]
theorem ZpX (s:Sta) (e:Event) (h1:e.Ids.l.length≤1000) (h2:e.Lst.l.length≤1000) (h3:s.Units.length≤1000):(ow1 e e.Ids.l).length≤1001∧(ow2 e (ow1 e e.Ids.l)).length≤1002∧(ow3 e (ow2 e (ow1 e e.Ids.l))).length≤2002∧(Zor s e).length≤3002:=by
 have a1:(ow1 e e.Ids.l).length≤1001:=by
  unfold ow1;cases kOf [9,12] e<;>simp<;>omega
 have a2:(ow2 e (ow1 e e.Ids.l)).length≤1002:=by
  unfold ow2;cases kOf [7] e<;>simp<;>omega
 have a3:(ow3 e (ow2 e (ow1 e e.Ids.l))).length≤2002:=by
  rw [ow3];cases kOf [8] e<;>simp<;>omega
 refine ⟨a1,a2,a3,?_⟩;rw [ZpW,ow4];have:=List.length_filter_le (fun u:Unit'=>Z3 u.Id e.Id) s.Units
 cases kOf [12] e<;>simp<;>omega
theorem ZqQ (s:Sta) (e:Event) (h1:e.Ids.l.length≤1000) (h2:e.Lst.l.length≤1000) (h3:s.Units.length≤1000):fnV rE 140 [ldI s,evA e] [.row 1 [I 0]]=some (.clo (.func 245) [] [.iptr false [ldI s],.ptr 1 0 0 1,evI e,.ptr 3 0 0 1],owH e (Zor s e)):=by
 obtain ⟨a1,a2,a3,a4⟩:=ZpX s e h1 h2 h3;have q2:=ZqP s e (by omega)
 have q3:=ZqL s e e.Ids.l true (by omega)
 have q4:=ZqM s e (ow1 e e.Ids.l) (kOf [9,12] e) (by omega)
 have q5:=ZqN s e (ow2 e (ow1 e e.Ids.l)) (kOf [7] e) (by omega)
 have q6:=ZqO s e (ow3 e (ow2 e (ow1 e e.Ids.l))) (kOf [8] e) (by omega)
 rw [←ZpW] at q6;have hbl:=Zot s;have hcl:=Zow s;have hbe:=ZoU e;have hS:∀ (D:List Str) n,Zd n (D.map encS)=true:=fun D n=>ZN _ (Zw (fun t=>rfl) _)
 have q0:Zb rE s140p0 [(0,ldI s),(1,evA e)] [.row 1 [I 0]]=some (.normal,[(2,.iptr false [ldI s]),(3,evI e)],[.row 1 [I 0]]):=by
  simp only [go_sem,qy,qq,s140p0,hcl,hbe]
 have q1:Zb rE s140p1 [(2,.iptr false [ldI s]),(3,evI e)] [.row 1 [I 0]]=some (.normal,[(2,.iptr false [ldI s]),(3,evI e),(5,.ptr 1 0 0 1)],[.row 1 [I 0],.row 1 [.clo (.func 244) [] [evI e]]]):=by
  simp only [go_sem,qy,qq,qv,s140p1,hbe]
 generalize Zor s e=D at *;have q7:∀ b,∃ fr,Zb rE s140p7 (owG s e 49 b) (owH e D)=some (.normal,fr,owH e D)∧get fr 4=.clo (.func 245) [] [.iptr false [ldI s],.ptr 1 0 0 1,evI e,.ptr 3 0 0 1]:=by
  intro b;cases b
  ·exact ⟨_,by simp only [go_sem,qy,s140p7,owG,owH,cond_true,cond_false]<;>rfl,rfl⟩
  ·exact ⟨_,by simp only [go_sem,qy,s140p7,owG,owH,cond_true,cond_false]<;>rfl,rfl⟩
 obtain ⟨fr,q7,g7⟩:=q7 (kOf [12] e);rw [Q6 (f:=140) rfl rfl,c140_eq];simp only [go_sem,qq,q0,q1,q2,q3,q4,q5,q6,q7,g7]
end Go.AM
namespace Go.AM
open Go
theorem ClS.str {s:Sta} (h:ClS s) {x:Street} (hx:x∈s.Streets):0≤x.Owner∧x.Owner≤63:=by
 have:=h.prop.st x hx;unfold Vp at this;simp only [Zvh] at this;exact Zpa this.1
theorem ClS.bld {s:Sta} (h:ClS s) {x:Building} (hx:x∈s.Buildings):0≤x.Owner∧x.Owner≤63:=by
 have:=h.prop.bu x hx;unfold Vq at this;simp only [Zvh] at this;exact Zpa this.1
theorem ClS.dor {s:Sta} (h:ClS s) {x:Door} (hx:x∈s.Doors):0≤x.Owner∧x.Owner≤63:=by
 obtain ⟨i,hi⟩:=List.getElem?_of_mem hx;have:=h.prop.dr i x hi;unfold Vr at this;simp only [Zvh] at this;exact Zpa this.1
theorem ZqR (s:Sta) (e:Event) (a m:Int) (h:RqS s e m):
 rf rE (.clo (.func 245) [] [.iptr false [ldI s],.ptr 1 0 0 1,evI e,.ptr 3 0 0 1]) [13] c72R0a c72R0b (ZoA s e a m) (owH e (Zor s e))=bif Zpb s e m
  then some (.normal,ZoA s e a m,thX s e a m 0 .exhausted .normal (Zor s e)) else some (.ret,ZoA s e a m,thX s e a m 18 .exhausted .ret (Zor s e)):=by
 have hz:=h.c.E.sizes;have hd:=(ZpX s e (by have:=h.ev.ids;omega) (by have:=h.ev.lst;omega) hz.units).2.2.2
 obtain ⟨f1,h1,L1,A1,B1⟩:=ZqE s e a m h hz.regions (fun x hx=>(h.c.reg hx).1)
 obtain ⟨f2,h2,L2,A2,B2⟩:=ZqF s e a m h hz.streets (fun x hx=>(h.c.str hx).1)
 obtain ⟨f3,h3,L3,A3,B3⟩:=ZqG s e a m h hz.buildings (fun x hx=>(h.c.bld hx).1)
 obtain ⟨f4,h4,L4,A4,B4⟩:=ZqH s e a m h hz.doors (fun x hx=>(h.c.dor hx).1) (by omega)
 have hbl:=Zot s;have hcl:=Zow s;obtain ⟨hf4,hf5⟩:=ZoI s e a m;have hS:∀ n,Zd n ((Zor s e).map encS)=true:=fun n=>ZN _ (Zw (fun t=>rfl) _)
 unfold Zpb;rw [Z1k (c:=c245) rfl];cases c1:s.Regions.all (fun x=>!ZoQ e x||Zou s m x.Owner) with
 | false=>
  have e1:=B1 c1;subst e1;rw [c1] at L1;simp only [thX,Zvs,if_false] at L1;rw [Zvo,cond_false];simp only [go_sem,qy,qq,c245,c245L0,owH,thX,Zvp,Zvl,L1,hf4,hS];rfl
 | true=>
 obtain ⟨e1,e1'⟩:=A1 c1;subst e1;subst e1';rw [c1] at L1;simp only [thX,if_true] at L1;cases c2:s.Streets.all (fun x=>!ZoR e x||Zou s m x.Owner) with
 | false=>
  have e1:=B2 c2;subst e1;rw [c2] at L2;simp only [thX,Zvs,if_false] at L2;rw [Zvi,Zvo,cond_false];simp only [go_sem,qy,qq,c245,c245L0,c245L1,owH,thX,Zvp,Zvl,L1,L2,hf4,hS];rfl
 | true=>
 obtain ⟨e1,e1'⟩:=A2 c2;subst e1;subst e1';rw [c2] at L2;simp only [thX,if_true] at L2;cases c3:s.Buildings.all (fun x=>!ZoS e x||Zou s m x.Owner) with
 | false=>
  have e1:=B3 c3;subst e1;rw [c3] at L3;simp only [thX,Zvs,if_false] at L3;rw [Zvi,Zvi,Zvo,cond_false];simp only [go_sem,qy,qq,c245,c245L0,c245L1,c245L2,owH,thX,Zvp,Zvl,L1,L2,L3,hf4,hS];rfl
 | true=>
 obtain ⟨e1,e1'⟩:=A3 c3;subst e1;subst e1';rw [c3] at L3;simp only [thX,if_true] at L3;cases c4:s.Doors.all (fun x=>!ZoT (Zor s e) x||Zou s m x.Owner) with
 | false=>
  have e1:=B4 c4;subst e1;rw [c4] at L4;simp only [thX,Zvs,if_false] at L4;rw [Zvi,Zvi,Zvi,cond_false];simp only [go_sem,qy,qq,c245,c245L0,c245L1,c245L2,c245L3,owH,thX,Zvp,Zvl,L1,L2,L3,L4,hf4,hS];rfl
 | true=>
 obtain ⟨e1,e1'⟩:=A4 c4;subst e1;subst e1';rw [c4] at L4;simp only [thX,if_true] at L4;rw [Zvi,Zvi,Zvi,cond_true];simp only [go_sem,qy,qq,c245,c245L0,c245L1,c245L2,c245L3,owH,thX,Zvp,Zvl,L1,L2,L3,L4,hf4,hS];rfl
theorem ZqS (s:Sta) (e:Event) (a m:Int) (h:RqS s e m):pfn rE 72 [rqI s e a m]=some (I (Zp6 s e m)):=by
 have hrf:=ZqR s e a m h;have hO:=ZqQ s e (by have:=h.ev.ids;omega) (by have:=h.ev.lst;omega) h.c.E.sizes.units
 have hcl:=Zow s;have hbl:=Zot s;have hS:∀ n,Zd n ((Zor s e).map encS)=true:=fun n=>ZN _ (Zw (fun t=>rfl) _)
 obtain ⟨hf4,hf5⟩:=ZoI s e a m;generalize Zor s e=D at *;unfold Zp6;rw [Z5 (f:=72) rfl rfl];unfold owH at hrf hO;cases c:Zpb s e m with
 | true=>
  rw [c,cond_true] at hrf;simp only [ZoA] at hrf;simp only [go_sem,qy,qq,qv,qk,c72,hO,Sr,hrf,hS,thX,ZoA]
 | false=>
  rw [c,cond_false] at hrf;simp only [ZoA] at hrf;simp only [go_sem,qy,qq,qv,qk,c72,hO,Sr,hrf,hS,thX,ZoA]
end Go.AM
namespace Go.AM
open Go
def Zpe (s:Sta) (a b:Int):Bool:=(Jx s&&(Zoz a&&Zoz b))&&ZoW s (Zoq s a) (Zoq s b)
theorem Zpf {a:Int} (h:Zoz a=true):0≤a∧a≤63:=by
 unfold Zoz at h;simpa using h
theorem ZqT (s:Sta) (hE:StE s) (a b:Int):pfn rE 26 [stA s,I a,I b]=some (.bool (Zpe s a b)):=by
 have hO:=Zp7 s hE;have hA:=Zp8 a;have hB:=Zp8 b;have hcl:=Zow s;unfold Zpe;rw [Z5 (f:=26) rfl rfl];cases c:Jx s with
 | false=>
  rw [c] at hO;simp only [go_sem,qy,qq,qk,c26,hO,Zvo]
 | true=>
 rw [c] at hO;cases c1:Zoz a with
 | false=>
  rw [c1] at hA;simp only [go_sem,qy,qq,qk,c26,hO,hA,Zvo,ZvK]
 | true=>
 rw [c1] at hA;cases c2:Zoz b with
 | false=>
  rw [c2] at hB;simp only [go_sem,qy,qq,qk,c26,hO,hA,hB,Zvo,ZvK]
 | true=>
 rw [c2] at hB;have h:ClS s:=⟨hE,c⟩;have m1:=h.mst (Zpf c1).1;have m2:=h.mst (Zpf c2).1;have hP:=ZpL s (Zoq s a) (Zoq s b) hE.sizes.rulings (ZpQ h);simp only [go_sem,qy,qq,qk,c26,hO,hA,hB,m1,m2,hP,Zvi,ZvA]
def cvV:List (Nat×Int)→Int
 | []=>0
 | x::l=>bif x.2==0 then cvV l else x.2
abbrev cvF (R:AV) (L:List (Nat×Int)) (i:Nat):Fr:=[(46,.isl false false 1 (L.map fun x=>.clo (.func x.1) [R] [])),(47,I L.length),(48,I i)]
theorem ZpY (R:AV) (hc:clean R=true) (L:List (Nat×Int)) (hl:L.length≤1000) (hp:∀ x∈L,pfn rE x.1 [R]=some (I x.2)):∀ (k i:Nat),i+k=L.length→
 ∃ fr',Zg rE [46,47,48] c28L0b (cvF R L i) []=some (bif cvV (L.drop i)==0 then .exit 0 else .ret,fr',[])∧(cvV (L.drop i)≠0→get fr' 6=I (cvV (L.drop i)))
 | 0,i,hk=>by
  have hi:i=L.length:=by omega
  subst hi;refine ⟨_,Q7 rfl (e:=.exit 0) (by simp only [go_sem,qy,reduceIte,c28L0b,ZG]<;>rfl) (by simp) |>.trans (by rw [List.drop_length];rfl),?_⟩
  rw [List.drop_length];exact fun h=>absurd rfl h
 | k+1,i,hk=>by
  obtain ⟨x,hx⟩:∃ x,L[i]? = some x:=⟨_,Zvm (by omega)⟩
  have hg:=Z6 (f:=fun x:Nat×Int=>AV.clo (.func x.1) [R] []) hx
  have hi':=Zh (Z7 hx);have hwr:=Zx (n:=i) (by have:=Z7 hx;omega)
  have hy:=hp x (Zvw hx);have hd:L.drop i=x::L.drop (i+1):=by
   have h1:=ZvU (Z7 hx);rw [h1];congr 1;have:=Zvm (Z7 hx);rw [this] at hx;exact Option.some.inj hx
  rw [hd,cvV];cases c:x.2==0 with
  | true=>
   have hn:(x.2 != 0)=false:=by rw [bne,c];rfl
   obtain ⟨fr',h1,h2⟩:=ZpY R hc L hl hp k (i+1) (by omega)
   refine ⟨fr',?_,h2⟩;rw [cond_true,Yt rfl (fr':=(6,.bot)::cvF R L (i+1)) (h':=[]) (by
    simp only [go_sem,qy,reduceIte,c28L0b,hg,hi',hwr,hy,hn,hc])]
   exact h1
  | false=>
   have hn:(x.2 != 0)=true:=by rw [bne,c];rfl
   rw [cond_false,c,cond_false];refine ⟨_,Q7 rfl (e:=.ret) (fr':=[(6,I x.2),(46,.isl false false 1 (L.map fun x=>.clo (.func x.1) [R] [])),(47,I L.length),(48,I i)]) (by
    simp only [go_sem,qy,reduceIte,c28L0b,hg,hi',hy,hn,hc]) (by simp),fun _=>rfl⟩
def ZoN (s:Sta) (a:Int) (e:Event):Int:=bif !Jx s||(!Zoz a||!Q9 e) then 1 else
 cvV [(71,Zp0 s e a (Zoq s a)),(72,Zp6 s e (Zoq s a)),(73,Zp5 s e (Zoq s a)),(74,Zp1 s e a (Zoq s a))]
theorem Zpq (s:Sta) (hE:StE s) (a:Int) (e:Event) (hv:EvS e):pfn rE 28 [stA s,I a,evA e]=some (I (ZoN s a e)):=by
 have hO:=Zp7 s hE;have hA:=Zp8 a;have hF:=NH e hv;have hcl:=Zow s;have hbl:=Zot s;unfold ZoN;rw [Z5 (f:=28) rfl rfl];cases c:Jx s with
 | false=>
  rw [c] at hO;simp only [go_sem,qy,qq,qk,c28,hO,ZvB,Zvq]
 | true=>
 rw [c] at hO;cases c1:Zoz a with
 | false=>
  rw [c1] at hA;simp only [go_sem,qy,qq,qk,c28,hO,hA,ZvB,Zvq,Zvt,Zvz]
 | true=>
 rw [c1] at hA;cases c2:Q9 e with
 | false=>
  rw [c2] at hF;simp only [go_sem,qy,qq,qk,c28,hO,hA,hF,ZvB,Zvt,Zvz]
 | true=>
 rw [c2] at hF;have h:ClS s:=⟨hE,c⟩;have m1:=h.mst (Zpf c1).1;have hr:0≤Zoq s a∧Zoq s a≤63:=ZpH h.prop.pa (Zpf c1);have hq:RqS s e (Zoq s a):=⟨h,hv,c2,hr⟩;generalize Zoq s a=m at *;have hR:clean (rqI s e a m)=true:=by simp only [go_sem]
 obtain ⟨fr',L1,L2⟩:=ZpY (rqI s e a m) hR [(71,Zp0 s e a m),(72,Zp6 s e m),(73,Zp5 s e m),(74,Zp1 s e a m)] (by simp) (by
  intro x hx;simp only [Zwg,List.not_mem_nil,or_false] at hx;rcases hx with rfl | rfl | rfl | rfl
  ·exact Zqw s e a m hq
  ·exact ZqS s e a m hq
  ·exact Zqy s e a m hq
  ·exact ZqD s e a m hq) 4 0 rfl
 rw [ZvN] at L1 L2;generalize cvV [(71,Zp0 s e a m),(72,Zp6 s e m),(73,Zp5 s e m),(74,Zp1 s e a m)]=v at *;have hbR:∀ n,bel n (rqI s e a m)=true:=fun n=>by
  have:=ZN (n:=n) [rqI s e a m] (by simp only [Z4,hR,ZvA])
  simpa only [Zd,ZvA] using this
 replace L1:Zg rE [46,47,48] c28L0b [(46,.isl false false 1 [.clo (.func 71) [rqI s e a m] [],.clo (.func 72) [rqI s e a m] [],.clo (.func 73) [rqI s e a m] [],.clo (.func 74) [rqI s e a m] []]),(47,.int .i64 ((4:Nat):Int)),(48,.int .i64 0)] []=some (bif v==0 then .exit 0 else .ret,fr',[]):=L1
 cases c3:v==0 with
 | true=>
  have hv0:v=0:=by simpa using c3
  subst hv0;rw [c3,cond_true] at L1;simp only [go_sem,qy,qq,qv,qk,c28,c28L0,hO,hA,hF,m1,hcl,L1,Zvt,Zvz]
 | false=>
  have hv0:v≠0:=by simpa using c3
  have g:=L2 hv0;rw [c3,cond_false] at L1;simp only [go_sem,qy,qq,qv,qk,c28,c28L0,hO,hA,hF,m1,hcl,L1,g,Zvt,Zvz]
end Go.AM
namespace Go.AM
open Go
def Zpg (s:Sta) (p:Pt):List Int:=bif Jx s&&gOn p then ZoH s p else []
def Zph (s:Sta) (p:Pt):Int:=bif Jx s&&gOn p then 0 else 1
theorem ZqU (s:Sta) (hE:StE s) (p:Pt):pfn rE 21 [stA s,.agg [I p.X,I p.Y]]=some (.tup [.isl false false 1 ((Zpg s p).map I),I (Zph s p)]):=by
 have hO:=Zp7 s hE;have hG:=W8 p;have hcl:=Zow s;have hC:Z4 ((ZoH s p).map I)=true:=Zw (fun t=>rfl) _
 unfold Zpg Zph;rw [Z5 (f:=21) rfl rfl];cases c:Jx s with
 | false=>
  rw [c] at hO;simp only [go_sem,qy,qq,qk,c21,hO,Zvo,cond_false,Zvr]
 | true=>
 rw [c] at hO;cases c1:gOn p with
 | false=>
  rw [c1] at hG;simp only [go_sem,qy,qq,qk,c21,hO,hG,ZvK,cond_false,Zvr]
 | true=>
 rw [c1] at hG;have hK:=ZpO s ⟨hE,c⟩ p;simp only [go_sem,qy,qq,qk,c21,hO,hG,hK,ZvA,cond_true]
theorem ZqV (s:Sta) (e:Event):pfn rE 20 [stA s,evA e]=some (.bool (YQ s&&Xn e)):=by
 have h1:=Z4F s;have h2:=Z4z e;rw [Z5 (f:=20) rfl rfl];cases c:YQ s with
 | false=>
  rw [c] at h1;simp only [go_sem,qy,qq,qk,c20,h1,Zvo]
 | true=>
  rw [c] at h1;simp only [go_sem,qy,qq,qk,c20,h1,h2,Zvi]
theorem ZpZ (l:List Int) (hl:l.length≤1000):pfn rE 25 [.isl false false 1 (l.map I),.isl false false 1 (l.map I)]=some (.bool true):=by
 have L:=Y8 (E:=rE) (live:=[0,1,5]) (b:=c25L0b) l.length (fun i=>[(0,.isl false false 1 (l.map I)),(1,.isl false false 1 (l.map I)),(5,I i)]) (fun _=>[]) (fun i=>rfl)
  (fun i hi=>by
   obtain ⟨x,hx⟩:∃ x,l[i]? = some x:=⟨_,Zvm hi⟩;have hg:=Z6 (f:=I) hx;have hi':=Zh hi;have hwr:=Zx (n:=i) (by omega)
   have hn:(x != x)=false:=by simp
   refine ⟨_,by simp only [go_sem,qy,reduceIte,c25L0b,hg,hi',hwr,hn];rfl,?_⟩
   simp only [go_sem,qy])
  (e:=.exit 0) (by simp only [go_sem,qy,reduceIte,c25L0b,ZG];rfl) (by simp)
 have L':Zg rE [0,1,5] c25L0b [(0,.isl false false 1 (l.map I)),(1,.isl false false 1 (l.map I)),(5,.int .i64 0)] []=_:=L;have hn:((l.length:Int) != (l.length:Int))=false:=by simp
 rw [Z5 (f:=25) rfl rfl];simp only [go_sem,qy,qq,reduceIte,c25,c25L0,hn,L']
theorem Zq0 (a b:Int):pfn rE 131 [I a,I b]=some (.isl false false 2 ([⟨a,0⟩,⟨b,0⟩,⟨b,9⟩,⟨a,9⟩].map Pt.enc)):=by
 rw [Z5 (f:=131) rfl rfl];simp only [go_sem,qy,qq,qv,qk,c131,Zvu,Zvr,Pt.enc]
def exS:Sta:=⟨[⟨B [97],1,1,⟨false,[⟨0,0⟩,⟨9,0⟩,⟨9,9⟩,⟨0,9⟩]⟩,⟨false,[]⟩,-1⟩,⟨B [98],1,2,⟨false,[⟨5,0⟩,⟨15,0⟩,⟨15,9⟩,⟨5,9⟩]⟩,⟨false,[]⟩,-1⟩],
 [⟨B [115],1,⟨false,[⟨0,0⟩,⟨9,0⟩]⟩,⟨false,[]⟩,-1⟩],[],[],[],[],[]⟩
theorem ZqW:pfn rE 56 []=some (stA exS):=by
 have h1:=Zq0 0 9;have h2:=Zq0 5 15;simp only [Zvu,Zvr,Pt.enc] at h1 h2;rw [Z5 (f:=56) rfl rfl];simp only [go_sem,qy,qq,qv,qk,c56,h1,h2,stA,exS,Zvu,Zvr,Region.enc,Street.enc,NL.enc,Pt.enc]
def ZoK (n:Int):Event:={ zEv with Kind:=5,Id:=B [104,111,117,115,101],Path:=⟨false,[⟨n,1⟩,⟨n+1,1⟩,⟨n,2⟩]⟩ }
theorem Zpr (n:Int) (hn:0≤n∧n≤100):pfn rE 57 [I n]=some (evA (ZoK n)):=by
 have hw:IntKind.i64.wrap (n+1)=n+1:=YM (by omega) (by omega)
 rw [Z5 (f:=57) rfl rfl];simp only [go_sem,qy,qq,qv,qk,reduceIte,c57,hw,evA,ZoK,zEv,Zvu,Zvr,Pt.enc]
end Go.AM
namespace Go.AM
open Go
def exE:Event:={ zEv with Kind:=12,Id:=B [115] }
def exG:Event:={ zEv with Kind:=14,A:=2,B:=1 }
def exH:Event:={ zEv with Kind:=15,Id:=B [104],Text:=B [120] }
def exU:Sta:={ exS with Rulings:=[⟨2,1⟩] }
def exM:Sta:={ exS with Merged:=[⟨1,2⟩],Rulings:=[⟨2,1⟩] }
theorem ckA (s:Sta) (a:Int) (e:Event) (c:Int) (h:(YQ s&&(Xn e&&ZoN s a e==c))=true):pfn rE 28 [stA s,I a,evA e]=some (I c):=by
 simp only [Zvh] at h;obtain ⟨h1,h2,h3⟩:=h;rw [Zpq s (Kl s h1).e a e (JL e h2)];have:ZoN s a e=c:=by simpa using h3
 rw [this]
theorem cmA (s:Sta) (p:Pt) (l:List Int) (h:(YQ s&&(Zph s p==0&&Zpg s p==l))=true):pfn rE 21 [stA s,.agg [I p.X,I p.Y]]=some (.tup [.isl false false 1 (l.map I),I 0]):=by
 simp only [Zvh] at h;obtain ⟨h1,h2,h3⟩:=h;rw [ZqU s (Kl s h1).e p];have q1:Zph s p=0:=by simpa using h2
 have q2:Zpg s p=l:=by simpa using h3
 rw [q1,q2]
theorem pvA (s:Sta) (a b:Int) (c:Bool) (h:(YQ s&&Zpe s a b==c)=true):pfn rE 26 [stA s,I a,I b]=some (.bool c):=by
 simp only [Zvh] at h;obtain ⟨h1,h2⟩:=h;rw [ZqT s (Kl s h1).e a b];have:Zpe s a b=c:=by simpa using h2
 rw [this]
theorem owA (s:Sta) (a c:Int) (h:(YQ s&&(bif Jx s&&Zoz a then Zoq s a else -1)==c)=true):pfn rE 23 [stA s,I a]=some (I c):=by
 simp only [Zvh] at h;obtain ⟨h1,h2⟩:=h;rw [Zpp s (Kl s h1).e a];have:=eq_of_beq h2;rw [this]
theorem ZqX:pfn rE 21 [stA exS,.agg [I 6,I 1]]=some (.tup [.isl false false 1 ([1,2].map I),I 0]):=cmA exS ⟨6,1⟩ _ (by decide +kernel)
theorem ZqY:pfn rE 21 [stA exS,.agg [I 20,I 1]]=some (.tup [.isl false false 1 (([]:List Int).map I),I 0]):=cmA exS ⟨20,1⟩ _ (by decide +kernel)
theorem ZqZ:pfn rE 21 [stA exM,.agg [I 6,I 1]]=some (.tup [.isl false false 1 ([1].map I),I 0]):=cmA exM ⟨6,1⟩ _ (by decide +kernel)
theorem ck1:pfn rE 28 [stA exS,I 1,evA (ZoK 1)]=some (I 0):=ckA _ _ _ _ (by decide +kernel)
theorem ck2:pfn rE 28 [stA exS,I 1,evA (ZoK 6)]=some (I 19):=ckA _ _ _ _ (by decide +kernel)
theorem ck3:pfn rE 28 [stA exS,I 1,evA (ZoK 12)]=some (I 18):=ckA _ _ _ _ (by decide +kernel)
theorem ck4:pfn rE 28 [stA exS,I 2,evA exE]=some (I 18):=ckA _ _ _ _ (by decide +kernel)
theorem ck5:pfn rE 28 [stA exS,I 1,evA exE]=some (I 0):=ckA _ _ _ _ (by decide +kernel)
theorem ck6:pfn rE 28 [stA exS,I 3,evA exH]=some (I 18):=ckA _ _ _ _ (by decide +kernel)
theorem ck7:pfn rE 28 [stA exS,I 0,evA exG]=some (I 0):=ckA _ _ _ _ (by decide +kernel)
theorem ck8:pfn rE 28 [stA exS,I 1,evA exG]=some (I 18):=ckA _ _ _ _ (by decide +kernel)
theorem ck9:pfn rE 28 [stA exU,I 2,evA (ZoK 6)]=some (I 0):=ckA _ _ _ _ (by decide +kernel)
theorem ckX:pfn rE 28 [stA exU,I 1,evA (ZoK 6)]=some (I 19):=ckA _ _ _ _ (by decide +kernel)
theorem ckY:pfn rE 28 [stA exM,I 2,evA exE]=some (I 0):=ckA _ _ _ _ (by decide +kernel)
theorem pv1:pfn rE 26 [stA exU,I 2,I 1]=some (.bool true):=pvA _ _ _ _ (by decide +kernel)
theorem pv2:pfn rE 26 [stA exU,I 1,I 2]=some (.bool false):=pvA _ _ _ _ (by decide +kernel)
theorem ow9:pfn rE 23 [stA exM,I 2]=some (I 1):=owA _ _ _ (by decide +kernel)
theorem Zr0:pfn rE 19 []=some (.bool true):=by
 have a1:=ZqX;have a2:=ZqY;have a3:=ZqZ;have b1:=ck1;have b2:=ck2;have b3:=ck3;have b4:=ck4;have b5:=ck5;have b6:=ck6;have b7:=ck7;have b8:=ck8;have b9:=ck9;have bX:=ckX;have bY:=ckY;have p1:=pv1;have p2:=pv2;have o9:=ow9;have e0:=ZqW;have d1:=Zpr 1 (by decide)
 have d6:=Zpr 6 (by decide)
 have d12:=Zpr 12 (by decide)
 have i2:=ZpZ [1,2] (by decide)
 have i1:=ZpZ [1] (by decide)
 generalize ZoK 1=B1 at *;generalize ZoK 6=B6 at *;generalize ZoK 12=B12 at *;have eR:exU=⟨exS.Regions,exS.Streets,exS.Buildings,exS.Doors,exS.Units,exS.Merged,[⟨2,1⟩]⟩:=rfl;have eM:exM=⟨exS.Regions,exS.Streets,exS.Buildings,exS.Doors,exS.Units,[⟨1,2⟩],[⟨2,1⟩]⟩:=rfl;rw [eR] at b9 bX p1 p2;rw [eM] at a3 bY o9;clear eR eM;generalize exS=S at *;simp only [exE,exG,exH,zEv,evA,stA,Pair.enc,Zvu,Zvr] at a1 a2 a3 b1 b2 b3 b4 b5 b6 b7 b8 b9 bX bY p1 p2 o9 e0 d1 d6 d12 i2 i1;have y0:((0:Int)==0)=true:=rfl;have y1:((1:Int)==1)=true:=rfl;have y18:((18:Int)==18)=true:=rfl;have y19:((19:Int)==19)=true:=rfl;have yl:(((0:Nat):Int)==0)=true:=rfl;rw [Z5 (f:=19) rfl rfl];simp only [go_sem,qy,qq,qx,qz,qv,qk,reduceIte,c19,a1,a2,a3,b1,b2,b3,b4,b5,b6,b7,b8,b9,bX,bY,p1,p2,o9,e0,d1,d6,d12,i2,i1,y0,y1,y18,y19,yl]
end Go.AM
namespace Go.AM
open Go
def Zuv (p:Pt) (x:Region):Bool:=ZoG x&&decide (ZoY x.Ring.l p ≥ 0)
theorem ZuF (K:List Int) (x z:Int):z∈Qi Vm K x↔z∈K∨z=x:=by
 unfold Qi;cases c:K.any (Vm x) with
 | true=>
  obtain ⟨y,hy,he⟩:=Zwh.1 c;have:x=y:=eq_of_beq he;subst this;exact ⟨Or.inl,fun h=>h.elim id (fun h=>h▸hy)⟩
 | false=>rw [cond_false,Zwb,Zw2]
theorem ZuG {K:List Int} (x:Int) (h:K.Nodup):(Qi Vm K x).Nodup:=by
 unfold Qi;cases c:K.any (Vm x) with
 | true=>exact h
 | false=>
  rw [cond_false,List.nodup_append];refine ⟨h,by simp,fun a ha b hb hc=>?_⟩
  rw [Zw2] at hb;subst hb;subst hc;have:=Zwa.1 c a ha;unfold Vm at this;simp at this
theorem ZuB (s:Sta) (p:Pt) (z:Int):∀ (l:List Region) (K:List Int),z∈l.foldl (ZoF s p) K↔z∈K∨∃ x∈l,Zuv p x=true∧Zoq s x.Owner=z
 | [],K=>by simp
 | x::r,K=>by
  rw [Zw3,ZuB s p z r];have h:z∈ZoF s p K x↔z∈K∨(Zuv p x=true∧Zoq s x.Owner=z):=by
   unfold ZoF Zuv;cases ZoG x&&decide (ZoY x.Ring.l p ≥ 0) with
   | false=>simp
   | true=>
    rw [cond_true,ZuF];simp [eq_comm]
  rw [h];simp only [Zwg];constructor
  ·rintro ((h | h) | ⟨y,h1,h2⟩)
   ·exact Or.inl h
   ·exact Or.inr ⟨x,Or.inl rfl,h⟩
   ·exact Or.inr ⟨y,Or.inr h1,h2⟩
  ·rintro (h | ⟨y,rfl | h1,h2⟩)
   ·exact Or.inl (Or.inl h)
   ·exact Or.inl (Or.inr h2)
   ·exact Or.inr ⟨y,h1,h2⟩
theorem ZuC (s:Sta) (p:Pt):∀ (l:List Region) (K:List Int),K.Nodup→(l.foldl (ZoF s p) K).Nodup
 | [],_,h=>h
 | x::r,K,h=>by
  rw [Zw3];refine ZuC s p r _ ?_;unfold ZoF;cases ZoG x&&decide (ZoY x.Ring.l p ≥ 0) with
  | false=>exact h
  | true=>exact ZuG _ h
theorem Zuy (s:Sta) (p:Pt) (z:Int):z∈ZoH s p↔∃ x∈s.Regions,Zuv p x=true∧Zoq s x.Owner=z:=by
 unfold ZoH Zoy;rw [(Zp3 _).mem_iff,ZuB];simp
theorem ZuH (s:Sta) (p:Pt):(ZoH s p).Pairwise (fun a b=>a < b):=by
 have h1:=Zpt (Zoy s p);have h2:(Zox (Zoy s p)).Nodup:=(Zp3 _).nodup_iff.2 (ZuC s p s.Regions [] .nil);have:=h1.and h2;refine this.imp (fun {a b} h=>?_)
 have h3:a≤b:=by
  have:=h.1;unfold leI at this;exact of_decide_eq_true this
 have h4:a≠b:=h.2;omega
theorem ZuI {s:Sta} {a:Int} {e:Event} (h:Qk s a e=0) (hk:e.Kind=1) (hl:((ZP s a e).Regions.length:Int)≠s.Regions.length):
 ZP s a e={ s with Regions:=s.Regions++[Fw (wk0 s a e)] }:=by
 obtain ⟨h1,h2,h3,h4⟩:=ZbV h;have hw:stepW (wk0 s a e)=Hj (wk0 s a e):=by unfold stepW;rw [show (wk0 s a e).e.Kind=1 from hk];rfl
 rw [h4,hw] at hl ⊢;unfold Hj at hl ⊢;have ws:(wk0 s a e).s=s:=rfl;have we:(wk0 s a e).e=e:=rfl;rw [ws,we] at hl ⊢;cases c:decide (Qo s e.Id < 0) with
 | true=>rfl
 | false=>
  exfalso;rw [c] at hl;apply hl;have:(ZK s.Regions (Qo s e.Id).toNat (NS e.Path)).length=s.Regions.length:=by
   unfold ZK;cases s.Regions[(Qo s e.Id).toNat]? with
   | none=>rfl
   | some x=>exact Zwf
  show ((ZK s.Regions (Qo s e.Id).toNat (NS e.Path)).length:Int)=_
  rw [this]
theorem Zvf {s:Sta} {a:Int} {e:Event} (h:Qk s a e=0) (hk:e.Kind=1):Jx (ZP s a e)=true:=by
 obtain ⟨h1,h2,h3,h4⟩:=ZbV h;obtain ⟨p1,p2,p3⟩:=ZbX h1;have hw:stepW (wk0 s a e)=Hj (wk0 s a e):=by unfold stepW;rw [show (wk0 s a e).e.Kind=1 from hk];rfl
 have he:Q1 (wk0 s a e)=Hi (wk0 s a e):=by unfold Q1;rw [show (wk0 s a e).e.Kind=1 from hk];rfl
 rw [he] at h2;rw [h4,Zdb];rw [hw] at h3 ⊢;exact ⟨Zek ((Zdb s).1 p1).1 p1 p2 p3 hk h2,h3⟩
theorem Zvg {s:Sta} (hs:StF s) {x:Region} (hx:x.Names.l.length≤100∧x.Ring.l.length≤100∧x.Id.size≤1000):StE { s with Regions:=s.Regions++[x] }:=by
 have h:=hs.e.sizes;refine ⟨⟨?_,h.streets,h.buildings,h.doors,h.units,h.merged,h.rulings⟩,fun y hy=>?_,hs.e.streets,hs.e.buildings,hs.e.doors,hs.e.units⟩
 ·show (s.Regions++[_]).length≤1000
  rw [ZvG,Zwd];have:=hs.regions;omega
 ·rcases Zwb.1 hy with hy | hy
  ·exact hs.e.regions y hy
  ·rw [Zw2] at hy;rw [hy];exact hx
def Zux (p:Pt) (e:Event):Bool:=e.A==1&&decide (ZoY e.Path.l p ≥ 0)
theorem ZuJ {s:Sta} {a:Int} {e:Event} (p:Pt) (z:Int):
 (ZoH { s with Regions:=s.Regions++[Fw (wk0 s a e)] } p).any (fun x=>x==z)=((ZoH s p).any (fun x=>x==z)||(Zux p e&&z==Zoq s a)):=by
 rw [Bool.eq_iff_iff];simp only [Bool.or_eq_true,Zvh,Zwh,beq_iff_eq,exists_eq_right];rw [Zuy,Zuy];have hm:∀ o,Zoq { s with Regions:=s.Regions++[Fw (wk0 s a e)] } o=Zoq s o:=fun o=>rfl
 have hh:Zuv p (Fw (wk0 s a e))=Zux p e:=by
  show ((e.A==1&&(-1:Int)==-1)&&decide (ZoY e.Path.l p ≥ 0))=_
  unfold Zux;simp
 constructor
 ·rintro ⟨x,hx,h1,h2⟩;rw [hm] at h2;have hx':x∈s.Regions++[Fw (wk0 s a e)]:=hx;rcases Zwb.1 hx' with hx | hx
  ·exact Or.inl ⟨x,hx,h1,h2⟩
  ·rw [Zw2] at hx;subst hx;rw [hh] at h1;exact Or.inr ⟨h1,h2.symm⟩
 ·rintro (⟨x,hx,h1,h2⟩ | ⟨h1,h2⟩)
  ·exact ⟨x,List.mem_append_left _ hx,h1,h2⟩
  ·exact ⟨Fw (wk0 s a e),List.mem_append_right _ (Zw2.2 rfl),hh.trans h1,h2.symm⟩
end Go.AM
namespace Go.AM
open Go
theorem ZsW (x:Int) (hx:0≤x∧x≤255):IntKind.i64.wrap x=x∧x.tmod 64=x % 64∧(0≤x % 64∧x % 64 < 64):=
 ⟨YM (by omega) (by omega),Int.tmod_eq_emod_of_nonneg hx.1,⟨Int.emod_nonneg _ (by decide),Int.emod_lt_of_pos _ (by decide)⟩⟩
theorem ZuA {s:Sta} (h:ClS s) {o:Int} (ho:0≤o∧o≤63):pfn rE 23 [stA s,I o]=some (I (Zoq s o)):=by
 have hk:Zoz o=true:=by unfold Zoz;simp;omega
 rw [Zpp s h.E o,h.pr,hk];rfl
theorem ZuD {α:Type} (P:α→Bool) (l:List α):(Zp P l 0=-1↔l.any P=false):=by
 rw [←Vg];unfold WG;have:∀ (l:List α) (i:Int),0≤i→Zp P l i=-1∨0≤Zp P l i:=by
  intro l;induction l with
  | nil=>intro i _;exact Or.inl rfl
  | cons x r ih=>
   intro i hi;unfold Zp;cases P x with
   | true=>exact Or.inr hi
   | false=>exact ih (i+1) (by omega)
 rcases this l 0 (by omega) with h | h
 ·rw [h];simp
 ·simp;omega
theorem Zna (l:List Int) (hl:l.length≤100000) (n:Int):pfn rE 54 [.isl false false 1 (l.map I),I n]=some (.bool (l.any (fun x=>x==n))):=by
 obtain ⟨fr',L,hQ⟩:=Dr (E:=rE) (live:=[0,1,5]) (b:=c54L0b) (h:=[]) l (fun x=>x==n) (fun i=>[(0,.isl false false 1 (l.map I)),(1,I n),(5,I i)]) 0 (fun _ fr=>get fr 4=.bool true) (fun i=>rfl)
  (fun i x hx hp=>by
   have hg:=Z6 (f:=I) hx;have hi':=Zh (Z7 hx);have hwr:=Zx (n:=i) (by have:=Z7 hx;omega)
   refine ⟨_,by simp only [go_sem,qy,reduceIte,c54L0b,hg,hi',hwr,hp];rfl,?_⟩
   simp only [go_sem,qy])
  (fun i x hx hp=>by
   have hg:=Z6 (f:=I) hx;have hi':=Zh (Z7 hx);refine ⟨_,by simp only [go_sem,qy,reduceIte,c54L0b,hg,hi',hp];rfl,?_⟩
   simp only [go_sem,qy])
  ⟨_,by simp only [go_sem,qy,reduceIte,c54L0b,ZG];rfl⟩
 have L':Zg rE [0,1,5] c54L0b [(0,.isl false false 1 (l.map I)),(1,I n),(5,.int .i64 0)] []=_:=L;rw [Z5 (f:=54) rfl rfl];cases c:l.any (fun x=>x==n) with
 | false=>
  rw [if_pos ((ZuD _ _).2 c)] at L';simp only [go_sem,qy,qq,c54,c54L0,L']
 | true=>
  have hn:¬ Zp (fun x=>x==n) l 0=-1:=fun h=>by
   rw [(ZuD _ _).1 h] at c;cases c
  obtain ⟨_,_,hq⟩:=hQ hn;rw [if_neg hn] at L';simp only [go_sem,qy,qq,c54,c54L0,L',hq]
theorem ZuK (s:Sta) (p:Pt) (raw:Int) (e:Event) (l:List Int) (h:ClS s) (hl:l.length≤100000) (hall:∀ x∈s.Regions,Zuv p x=true→l.any (fun z=>z==Zoq s x.Owner)=true):
 Zg rE [2,4,5,7,9,10,12] c16L0b [(2,.int .u8 raw),(4,stI s),(5,.iptr false [I p.X,I p.Y]),(7,evI e),(9,.bool true),(10,.isl false false 1 (l.map I)),(12,.int .i64 0)] [] =
  some (.exit 0,[(2,.int .u8 raw),(4,stI s),(5,.iptr false [I p.X,I p.Y]),(7,evI e),(8,.bot),(9,.bool true),(10,.isl false false 1 (l.map I)),(12,I s.Regions.length)],[]):=by
 have hn:=h.E.sizes.regions;have L:=Y8 (E:=rE) (live:=[2,4,5,7,9,10,12]) (b:=c16L0b) s.Regions.length (fun i=>[(2,.int .u8 raw),(4,stI s),(5,.iptr false [I p.X,I p.Y]),(7,evI e),(9,.bool true),(10,.isl false false 1 (l.map I)),(12,I i)]) (fun _=>[]) (fun i=>rfl)
  (fun i hi=>by
   obtain ⟨x,hx⟩:∃ x,s.Regions[i]? = some x:=⟨_,Zvm hi⟩;have hm:=Zvw hx;have hg:=Z6 (f:=Region.enc) hx;have hi':=Zh hi;have hwr:=Zx (n:=i) (by omega)
   have hO:=ZuA h (h.reg hm);have hW:=Zqn x.Ring.l x.Ring.ex (Zw8 (h.E.regions x hm).2.1 (by omega)) p
   have hH:=Zna l hl (Zoq s x.Owner);have hA:=hall x hm;unfold Zuv ZoG at hA;refine ⟨[(2,.int .u8 raw),(4,stI s),(5,.iptr false [I p.X,I p.Y]),(7,evI e),(8,.bot),(9,.bool true),(10,.isl false false 1 (l.map I)),(12,I (i+1:Nat))],?_,rfl⟩;cases c1:x.Kind==1 with
   | false=>simp only [go_sem,qy,qq,qv,qk,reduceIte,c16L0b,hg,hi',hwr,Region.enc,NL.enc,c1]
   | true=>
   cases c2:x.Ended==-1 with
   | false=>simp only [go_sem,qy,qq,qv,qk,reduceIte,c16L0b,hg,hi',hwr,Region.enc,NL.enc,c1,c2]
   | true=>
   cases c3:decide (ZoY x.Ring.l p ≥ 0) with
   | false=>simp only [go_sem,qy,qq,qv,qk,reduceIte,c16L0b,hg,hi',hwr,Region.enc,NL.enc,c1,c2,c3,hW]
   | true=>
   rw [c1,c2,c3] at hA;rw [hA rfl] at hH;simp only [go_sem,qy,qq,qv,qk,reduceIte,c16L0b,hg,hi',hwr,Region.enc,NL.enc,c1,c2,c3,hW,hO,hH])
  (e:=.exit 0) (fr:=[(2,.int .u8 raw),(4,stI s),(5,.iptr false [I p.X,I p.Y]),(7,evI e),(8,.bot),(9,.bool true),(10,.isl false false 1 (l.map I)),(12,I s.Regions.length)]) (h:=[]) (by
   simp only [go_sem,qy,reduceIte,c16L0b,ZG]) (by simp)
 exact L
def Zuw (s:Sta) (p:Pt) (z:Int) (x:Region):Bool:=Zuv p x&&Zoq s x.Owner==z
theorem ZuL {α:Type} {p:α→Bool} {l:List α} {i:Nat} {x:α} (hx:l[i]? = some x):(l.take (i+1)).any p=((l.take i).any p||p x):=by
 rw [ZvW,hx,List.any_append];simp
theorem ZuM (s:Sta) (p:Pt) (raw:Int) (e:Event) (l:List Int) (h:ClS s) (k:Nat) (z:Int) (hz:l[k]? = some z):
 Zg rE [2,4,5,7,9,10,14,15,16] c16L1b [(2,.int .u8 raw),(4,stI s),(5,.iptr false [I p.X,I p.Y]),(7,evI e),(9,.bool true),(10,.isl false false 1 (l.map I)),(14,I k),(15,.bool false),(16,.int .i64 0)] [] =
  some (.exit 4,[(2,.int .u8 raw),(4,stI s),(5,.iptr false [I p.X,I p.Y]),(7,evI e),(9,.bool true),(10,.isl false false 1 (l.map I)),(14,I k),(15,.bool (s.Regions.any (Zuw s p z))),(16,I s.Regions.length)],[]):=by
 have hn:=h.E.sizes.regions;have hgk:=Z6 (f:=I) hz;have L:=Y8 (E:=rE) (live:=[2,4,5,7,9,10,14,15,16]) (b:=c16L1b) s.Regions.length (fun i=>[(2,.int .u8 raw),(4,stI s),(5,.iptr false [I p.X,I p.Y]),(7,evI e),(9,.bool true),(10,.isl false false 1 (l.map I)),(14,I k),(15,.bool ((s.Regions.take i).any (Zuw s p z))),(16,I i)]) (fun _=>[]) (fun i=>rfl)
  (fun i hi=>by
   obtain ⟨x,hx⟩:∃ x,s.Regions[i]? = some x:=⟨_,Zvm hi⟩;have hm:=Zvw hx;have hg:=Z6 (f:=Region.enc) hx;have hi':=Zh hi;have hwr:=Zx (n:=i) (by omega)
   have hO:=ZuA h (h.reg hm);have hW:=Zqn x.Ring.l x.Ring.ex (Zw8 (h.E.regions x hm).2.1 (by omega)) p
   rw [ZuL hx];refine ⟨[(2,.int .u8 raw),(4,stI s),(5,.iptr false [I p.X,I p.Y]),(7,evI e),(9,.bool true),(10,.isl false false 1 (l.map I)),(14,I k),(15,.bool ((s.Regions.take i).any (Zuw s p z)||Zuw s p z x)),(16,I (i+1:Nat))],?_,rfl⟩;have he:Zuw s p z x=(((x.Kind==1&&x.Ended==-1)&&decide (ZoY x.Ring.l p ≥ 0))&&Zoq s x.Owner==z):=rfl;rw [he];generalize (s.Regions.take i).any _=G;cases G with
   | true=>simp only [go_sem,qy,qq,qv,qk,reduceIte,c16L1b,hg,hi',hwr,Region.enc,NL.enc,Zvq]
   | false=>
   rw [Zvz];cases c1:x.Kind==1 with
   | false=>simp only [go_sem,qy,qq,qv,qk,reduceIte,c16L1b,hg,hi',hwr,Region.enc,NL.enc,c1,Zvo]
   | true=>
   cases c2:x.Ended==-1 with
   | false=>simp only [go_sem,qy,qq,qv,qk,reduceIte,c16L1b,hg,hi',hwr,Region.enc,NL.enc,c1,c2,Zvo,ZvK]
   | true=>
   cases c3:decide (ZoY x.Ring.l p ≥ 0) with
   | false=>simp only [go_sem,qy,qq,qv,qk,reduceIte,c16L1b,hg,hi',hwr,Region.enc,NL.enc,c1,c2,c3,hW,Zvo,ZvK]
   | true=>simp only [go_sem,qy,qq,qv,qk,reduceIte,c16L1b,hg,hgk,hi',hwr,Region.enc,NL.enc,c1,c2,c3,hW,hO,Zvi])
  (e:=.exit 4) (fr:=[(2,.int .u8 raw),(4,stI s),(5,.iptr false [I p.X,I p.Y]),(7,evI e),(9,.bool true),(10,.isl false false 1 (l.map I)),(14,I k),(15,.bool (s.Regions.any (Zuw s p z))),(16,I s.Regions.length)]) (h:=[]) (by
   rw [ZvD];simp only [go_sem,qy,reduceIte,c16L1b,ZG]) (by simp)
 exact L
theorem ZuN (s:Sta) (p:Pt) (raw:Int) (e:Event) (l:List Int) (h:ClS s) (hl:l.length≤100000) (hone:∀ z∈l,s.Regions.any (Zuw s p z)=true) (hst:l.Pairwise (fun a b=>a < b)):
 Zg rE [2,4,5,7,9,10,14] c16L2b [(2,.int .u8 raw),(4,stI s),(5,.iptr false [I p.X,I p.Y]),(7,evI e),(9,.bool true),(10,.isl false false 1 (l.map I)),(14,.int .i64 0)] [] =
  some (.exit 2,[(2,.int .u8 raw),(4,stI s),(5,.iptr false [I p.X,I p.Y]),(7,evI e),(8,.bot),(9,.bool true),(10,.isl false false 1 (l.map I)),(14,I l.length)],[]):=by
 have L:=Y8 (E:=rE) (live:=[2,4,5,7,9,10,14]) (b:=c16L2b) l.length (fun i=>[(2,.int .u8 raw),(4,stI s),(5,.iptr false [I p.X,I p.Y]),(7,evI e),(9,.bool true),(10,.isl false false 1 (l.map I)),(14,I i)]) (fun _=>[]) (fun i=>rfl)
  (fun i hi=>by
   obtain ⟨z,hz⟩:∃ z,l[i]? = some z:=⟨_,Zvm hi⟩;have hg:=Z6 (f:=I) hz;have hi':=Zh hi;have hwr:=Zx (n:=i) (by omega)
   have L1:=ZuM s p raw e l h i z hz;rw [hone z (Zvw hz)] at L1;refine ⟨[(2,.int .u8 raw),(4,stI s),(5,.iptr false [I p.X,I p.Y]),(7,evI e),(8,.bot),(9,.bool true),(10,.isl false false 1 (l.map I)),(14,I (i+1:Nat))],?_,rfl⟩;cases i with
   | zero=>
    have g0:decide ((((0:Nat):Int)) > 0)=false:=by decide
    simp only [go_sem,qy,qq,reduceIte,c16L2b,c16L1,hi',hwr,L1,g0]
   | succ j=>
    have g0:decide ((((j+1:Nat):Int)) > 0)=true:=decide_eq_true (by omega)
    obtain ⟨y,hy⟩:∃ y,l[j]? = some y:=⟨_,Zvm (by omega)⟩
    have hgy:=Z6 (f:=I) hy;have hsub:IntKind.i64.wrap (((j+1:Nat):Int) - 1)=((j:Nat):Int):=by
     rw [YM (by omega) (by omega)]
     omega
    have hlt:decide (y ≥ z)=false:=by
     have h1:=(ZvY.1 hy);have h2:=(ZvY.1 hz);have:=List.pairwise_iff_getElem.1 hst j (j+1) h1.1 h2.1 (by omega)
     rw [h1.2,h2.2] at this;exact decide_eq_false (by omega)
    simp only [go_sem,qy,reduceIte,c16L2b,c16L1,hg,hgy,hi',hwr,L1,g0,hsub,hlt])
  (e:=.exit 2) (fr:=[(2,.int .u8 raw),(4,stI s),(5,.iptr false [I p.X,I p.Y]),(7,evI e),(8,.bot),(9,.bool true),(10,.isl false false 1 (l.map I)),(14,I l.length)]) (h:=[]) (by
   simp only [go_sem,qy,reduceIte,c16L2b,ZG]) (by simp)
 exact L
theorem ZsZ (s:Sta):Z4 [stA s]=true:=by
 have h1:Z4 (s.Regions.map Region.enc)=true:=Zw (fun t=>rfl) _
 have h2:Z4 (s.Streets.map Street.enc)=true:=Zw (fun t=>rfl) _
 have h3:Z4 (s.Buildings.map Building.enc)=true:=Zw (fun t=>rfl) _
 have h4:Z4 (s.Doors.map Door.enc)=true:=Zw (fun t=>rfl) _
 have h5:Z4 (s.Units.map Unit'.enc)=true:=Zw (fun t=>rfl) _
 have h6:Z4 (s.Merged.map Pair.enc)=true:=Zw (fun t=>rfl) _
 have h7:Z4 (s.Rulings.map Pair.enc)=true:=Zw (fun t=>rfl) _
 simp only [go_sem]
theorem ZuO (s t:Sta) (l m:List Int) (a:Int) (ins:Bool) (h:ClS s) (ha:0≤a∧a < 64) (hl:l.length≤100000) (hm:m.length≤100000) (hall:∀ z:Int,m.any (fun x=>x==z)=(l.any (fun x=>x==z)||(ins&&z==Zoq s a))):
 Zg rE [4,9,10,18,21,23,24] c16L3b [(4,stI s),(9,.bool true),(10,.isl false false 1 (l.map I)),(18,I a),(21,.isl false false 1 (m.map I)),(23,.bool ins),(24,.int .i64 0)] [.row 7 [stA t]] =
  some (.exit 6,[(4,stI s),(8,.bot),(9,.bool true),(10,.isl false false 1 (l.map I)),(18,I a),(21,.isl false false 1 (m.map I)),(23,.bool ins),(24,I 64)],[.row 7 [stA t]]):=by
 have hq:∀ n,Zj n (.row 7 [stA t])=true:=fun n=>ZN (n:=n) [stA t] (ZsZ t)
 simp only [stA] at hq;have hO:=ZuA h (o:=a) (by omega)
 have L:=Y8 (E:=rE) (live:=[4,9,10,18,21,23,24]) (b:=c16L3b) 64 (fun i=>[(4,stI s),(9,.bool true),(10,.isl false false 1 (l.map I)),(18,I a),(21,.isl false false 1 (m.map I)),(23,.bool ins),(24,I i)]) (fun _=>[.row 7 [stA t]]) (fun i=>rfl)
  (fun i hi=>by
   have hi':decide ((i:Int) < 64)=true:=decide_eq_true (by omega)
   have hwr:=Zx (n:=i) (by omega)
   have h1:=Zna m hm (i:Int);have h2:=Zna l hl (i:Int);rw [hall] at h1;refine ⟨[(4,stI s),(8,.bot),(9,.bool true),(10,.isl false false 1 (l.map I)),(18,I a),(21,.isl false false 1 (m.map I)),(23,.bool ins),(24,I (i+1:Nat))],?_,rfl⟩;have b00:(false==false)=true:=rfl;have b11:(true==true)=true:=rfl;generalize l.any _=G at *;cases G with
   | true=>simp only [go_sem,qy,qq,qk,reduceIte,c16L3b,hi',hwr,h1,h2,Zvq,b11,Zvt,hq]
   | false=>
   cases ins with
   | false=>simp only [go_sem,qy,qq,qk,reduceIte,c16L3b,hi',hwr,h1,h2,Zvz,Zvo,b00,Zvt,hq]
   | true=>cases c:(i:Int)==Zoq s a<;>rw [c] at h1<;>simp only [go_sem,qy,qq,qk,reduceIte,c16L3b,hi',hwr,h1,h2,hO,c,Zvz,Zvi,b00,b11,Zvt,hq])
  (e:=.exit 6) (fr:=[(4,stI s),(8,.bot),(9,.bool true),(10,.isl false false 1 (l.map I)),(18,I a),(21,.isl false false 1 (m.map I)),(23,.bool ins),(24,I 64)]) (h:=[.row 7 [stA t]]) (by
   have hf:decide ((((64:Nat):Int)) < 64)=false:=by decide
   simp only [go_sem,qy,qq,reduceIte,c16L3b,hf,hq];rfl) (by simp)
 exact L
end Go.AM
namespace Go.AM
open Go
theorem ZuE {s:Sta} (h:ClS s) (p:Pt):(ZoH s p).length≤100000:=ZqC s h p
theorem ZuP (s:Sta) (p:Pt) (raw:Int) (hr:0≤raw∧raw≤255) (e:Event):pfn rE 16 [stA s,.agg [I p.X,I p.Y],.int .u8 raw,evA e]=some (.bool true):=by
 have hH:=Zr0;have hF:=ZqV s e;obtain ⟨wx,mx,rx⟩:=ZsW raw hr;have z64:((64:Int)=0)=False:=by simp
 have y11:((1:Int)==1)=true:=rfl;have y10:((1:Int) != 0)=true:=rfl;have y00:((0:Int) != 0)=false:=rfl;have yn:((0:Nat):Int)==0:=rfl;rw [Z5 (f:=16) rfl rfl];cases c:YQ s&&Xn e with
 | false=>
  rw [c] at hF;simp only [go_sem,qy,qq,qk,c16,hH,hF]
 | true=>
 rw [c] at hF;rw [Zvh] at c;have hs:=Kl s c.1;have he:=JL e c.2;have hC:=ZqU s hs.e p;cases c1:Jx s&&gOn p with
 | false=>
  unfold Zpg Zph at hC;rw [c1,cond_false,cond_false,Zvr] at hC;simp only [go_sem,qy,qq,qk,reduceIte,c16,hH,hF,hC,y11,y10,yn]
 | true=>
 unfold Zpg Zph at hC;rw [c1,cond_true,cond_true] at hC;rw [Zvh] at c1;have h:ClS s:=⟨hs.e,c1.1⟩;have hl:=ZuE h p;have L0:=ZuK s p raw e (ZoH s p) h hl (fun x hx hh=>by
  rw [Zwh];exact ⟨_,(Zuy s p _).2 ⟨x,hx,hh,rfl⟩,by simp⟩)
 have L2:=ZuN s p raw e (ZoH s p) h hl (fun z hz=>by
  obtain ⟨x,hx,h1,h2⟩:=(Zuy s p z).1 hz;rw [Zwh];refine ⟨x,hx,?_⟩;unfold Zuw;rw [h1,h2];simp) (ZuH s p)
 generalize ga:raw % 64=a at *;have hY:=JJ s hs a e he;have hq:∀ (t:Sta) n,Zj n (.row 7 [stA t])=true:=fun t n=>ZN (n:=n) [stA t] (ZsZ t)
 simp only [stA] at hq;have key:=@ZuI s a e;have key2:=fun z=>@ZuJ s a e p z
 have L3:=fun m hm ins=>ZuO s (ZP s a e) (ZoH s p) m a ins h rx hl hm
 cases c2:Qk s a e != 0 with
 | true=>
  generalize ZoH s p=l at *;generalize ZP s a e=t at *;simp only [go_sem,qy,qq,qv,qk,reduceIte,c16,c16L0,c16L2,hH,hF,hC,y00,L0,L2,wx,mx,z64,if_false,hY,c2,hq]
 | false=>
 have h0:Qk s a e=0:=by simpa using c2
 cases c3:e.Kind != 1 with
 | true=>
  generalize ZoH s p=l at *;generalize ZP s a e=t at *;simp only [go_sem,qy,qq,qv,qk,reduceIte,c16,c16L0,c16L2,hH,hF,hC,y00,L0,L2,wx,mx,z64,if_false,hY,c2,c3,hq]
 | false=>
 cases c4:(((ZP s a e).Regions.length:Int)==(s.Regions.length:Int)) with
 | true=>
  generalize ZoH s p=l at *;generalize ZP s a e=t at *;simp only [go_sem,qy,qq,qv,qk,reduceIte,c16,c16L0,c16L2,hH,hF,hC,y00,L0,L2,wx,mx,z64,if_false,hY,c2,c3,c4,hq]
 | false=>
 have hk:e.Kind=1:=by simpa using c3
 have hne:((ZP s a e).Regions.length:Int)≠s.Regions.length:=by
  intro hc;rw [hc] at c4;simp at c4
 have hS:=key h0 hk hne;have hp2:=Zvf h0 hk;have hT:StE (ZP s a e):=by
  rw [hS];exact Zvg hs ⟨Zvj _,he.path,he.id⟩
 have hC2:=ZqU _ hT p;unfold Zpg Zph at hC2;rw [hp2,c1.2,Zvi,cond_true,cond_true] at hC2;rw [←hS] at key2;have hm:=ZuE ⟨hT,hp2⟩ p;have hW:=Zqn e.Path.l e.Path.ex (Zw8 he.path (by omega)) p
 have L3':=L3 _ hm (Zux p e) key2;unfold Zux at L3';simp only [stA] at L3';generalize ZoH s p=l at *;generalize ZP s a e=t at *;generalize ZoH t p=m at *;cases c5:e.A==1 with
 | false=>
  rw [c5,Zvo] at L3';simp only [go_sem,qy,qq,qv,qk,reduceIte,c16,c16L0,c16L2,c16L3,hH,hF,hC,y00,L0,L2,wx,mx,z64,if_false,hY,c2,c3,c4,c5,hC2,L3',hq]
 | true=>
  rw [c5,Zvi] at L3';simp only [go_sem,qy,qq,qv,qk,reduceIte,c16,c16L0,c16L2,c16L3,hH,hF,hC,y00,L0,L2,wx,mx,z64,if_false,hY,c2,c3,c4,c5,hC2,hW,L3',hq]
end Go.AM
