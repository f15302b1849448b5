/- What the functions of the program compute, part 3, for ClaimsSettled. No condition. -/
import Derived.Test.YtnfppojnmdohnaaGreatDoorP18b
set_option linter.unusedVariables false
set_option linter.unusedSimpArgs false
open Nat renaming reduceAdd → qq, reduceSub → qx, reduceMul → qz, reduceLT → qv, reduceLeDiff → qk, reduceBEq → qy
namespace Go.AM
open Go
def plE (s:Sta) (m:Int):List Pt→Int
 | []=>0
 | p::r=>bif !(ZoH s p).any (fun x=>m==x) then 18 else bif (ZoH s p).any (fun c=>c != m&&!ZoW s m c) then 19 else plE s m r
def Zp1 (s:Sta) (e:Event) (a m:Int):Int:=
 bif e.Kind==1 then bif s.Regions.any (fun x=>Z3 x.Id e.Id) then 0 else bif e.A==1&&a==0 then 18 else bif e.A==1 then 0 else plE s m (ZoM e)
 else plE s m (ZoM e)
theorem ZpQ {s:Sta} (h:ClS s):∀ p∈s.Rulings,pfn rE 66 [ldI s,I p.a]=some (I (Zoq s p.a))∧pfn rE 66 [ldI s,I p.b]=some (I (Zoq s p.b)):=by
 intro p hp;have hpa:=h.prop.pa;unfold WK at hpa;simp only [Zuu] at hpa;have:=Zpo (ZuJ.1 hpa.2.1 p hp);exact ⟨h.mst this.1.1,h.mst this.2.1⟩
theorem Zqz (l:List Int) (hl:l.length≤1000000) (p:Int→Bool) (g:Nat) (cap:List AV) (hc:Z4 cap=true) (hp:∀ x∈l,pfn rE g (I x::cap)=some (.bool (p x))):pfn rE 145 [.isl false false 1 (l.map I),.clo (.func g) [] cap]=some (.bool (l.any p)):=by
 have h:=WF (E:=rE) (f:=249) (sz:=1) (n:=none) (enc:=I) (p:=p) (g:=g) (cap:=cap) rfl rfl hc l (by omega) (fun x _=>⟨rfl,rfl⟩) hp false false
 rw [Z5 (f:=145) rfl rfl,←Vg];unfold WG;simp only [go_sem,qy,qq,reduceIte,c145,h,hc]
theorem ZqA (s:Sta) (e:Event) (a m:Int) (x:Region):pfn rE 143 [x.enc,.iptr false [rqI s e a m]]=some (.bool (Z3 x.Id e.Id)):=by
 have hcl:=Zow s;have hbl:=Zot s;rw [Z5 (f:=143) rfl rfl];simp only [go_sem,qy,qq,c143,Region.enc,NL.enc]
theorem ZqB (s:Sta) (e:Event) (a m:Int) (h:RqS s e m) (c:Int):pfn rE 146 [I c,.iptr false [rqI s e a m]]=some (.bool (c != m&&!ZoW s m c)):=by
 have hP:=ZpL s m c h.c.E.sizes.rulings (ZpQ h.c);have hcl:=Zow s;have hbl:=Zot s;rw [Z5 (f:=146) rfl rfl];cases c1:c != m with
 | false=>simp only [go_sem,qy,qq,reduceIte,c146,c1,ZuC]
 | true=>simp only [go_sem,qy,qq,reduceIte,c146,c1,hP,hcl,Zux]
theorem ZqC (s:Sta) (h:ClS s) (p:Pt):(ZoH s p).length≤100000:=by
 unfold ZoH;rw [(Zp3 _).length_eq];have G:∀ (l:List Region) (K:List Int),(l.foldl (ZoF s p) K).length≤K.length+l.length:=by
  intro l;induction l with
  | nil=>intro K;exact ZuU _
  | cons x r ih=>
   intro K;rw [Zvf,Zv0];refine Nat.le_trans (ih _) ?_;have:(ZoF s p K x).length≤K.length+1:=by
    unfold ZoF Qi;cases ZoG x&&decide (ZoY x.Ring.l p ≥ 0) with
    | false=>exact Zvn _
    | true=>
     rw [cond_true];cases K.any (Vm (Zoq s x.Owner)) with
     | true=>exact Zvn _
     | false=>rw [cond_false,ZuR];exact ZuU _
   omega
 have:=G s.Regions [];have hl:=h.E.sizes.regions;unfold Zoy;simp only [ZuY] at this;omega
theorem ZpR (s:Sta) (e:Event) (a m:Int) (h:RqS s e m) (l:List Pt) (hl:l.length≤1000):∀ (k i:Nat),i+k=l.length→
 ∃ fr',(plE s m (l.drop i)=0→Zg rE [1,50,51,52] c74L0b [(1,.iptr false [rqI s e a m]),(50,.isl false false 2 (l.map Pt.enc)),(51,I l.length),(52,I i)] []=some (.exit 1,fr',[]))∧
  (plE s m (l.drop i)≠0→Zg rE [1,50,51,52] c74L0b [(1,.iptr false [rqI s e a m]),(50,.isl false false 2 (l.map Pt.enc)),(51,I l.length),(52,I i)] []=some (.ret,fr',[])∧get fr' 2=I (plE s m (l.drop i)))
 | 0,i,hi=>by
  have hd:l.drop i=[]:=List.drop_eq_nil_of_le (by omega)
  have hi':i=l.length:=by omega
  refine ⟨[(1,.iptr false [rqI s e a m]),(2,.bot),(50,.isl false false 2 (l.map Pt.enc)),(51,I l.length),(52,I i)],fun _=>?_,fun hc=>?_⟩
  ·rw [hi'];refine Q7 rfl ?_ (by simp)
   simp only [go_sem,qy,reduceIte,c74L0b,ZG]
  ·rw [hd] at hc;exact absurd rfl hc
 | k+1,i,hi=>by
  obtain ⟨x,hx⟩:∃ x,l[i]? = some x:=⟨_,ZuA (by omega)⟩
  have hg:=Z6 (f:=Pt.enc) hx;have hi':=Zh (Z7 hx);have hwr:=Zx (n:=i) (by omega)
  have hd:l.drop i=x::l.drop (i+1):=by
   rw [Zv8 (Z7 hx)];congr 1;have:=ZuA (Z7 hx);rw [hx] at this;exact (Option.some.inj this).symm
  have hcl:=Zow s;have hbl:=Zot s;have hc:Z4 [.iptr false [rqI s e a m]]=true:=by simp only [go_sem]
  have hC:=ZpO s h.c x;have hlen:=ZqC s h.c x;have hI:=DR (ZoH s x) false m (by omega)
  have hA:=Zqz (ZoH s x) (by omega) (fun c=>c != m&&!ZoW s m c) 146 [.iptr false [rqI s e a m]] hc (fun c _=>ZqB s e a m h c)
  rw [hd];unfold plE;cases c1:(ZoH s x).any (fun y=>m==y) with
  | false=>
   rw [c1] at hI;refine ⟨[(1,.iptr false [rqI s e a m]),(2,I 18),(50,.isl false false 2 (l.map Pt.enc)),(51,I l.length),(52,I i)],fun hq=>?_,fun _=>⟨?_,by simp only [go_sem,qy,ZuQ,cond_true]⟩⟩
   ·exact absurd (show (18:Int)=0 from hq) (by decide)
   ·refine Q7 rfl ?_ (by simp)
    simp only [go_sem,qy,qq,qv,qk,reduceIte,c74L0b,hg,hi',Pt.enc,hC,hI]
  | true=>
  rw [c1] at hI;cases c2:(ZoH s x).any (fun c=>c != m&&!ZoW s m c) with
  | true=>
   rw [c2] at hA;refine ⟨[(1,.iptr false [rqI s e a m]),(2,I 19),(50,.isl false false 2 (l.map Pt.enc)),(51,I l.length),(52,I i)],fun hq=>?_,fun _=>⟨?_,by simp only [go_sem,qy,ZuG,cond_false,cond_true]⟩⟩
   ·exact absurd (show (19:Int)=0 from hq) (by decide)
   ·refine Q7 rfl ?_ (by simp)
    simp only [go_sem,qy,qq,qv,qk,reduceIte,c74L0b,hg,hi',Pt.enc,hC,hI,hA]
  | false=>
  rw [c2] at hA;obtain ⟨fr',h1,h2⟩:=ZpR s e a m h l hl k (i+1) (by omega)
  have hstep:Zb rE c74L0b [(1,.iptr false [rqI s e a m]),(50,.isl false false 2 (l.map Pt.enc)),(51,I l.length),(52,I i)] []=some (.normal,[(1,.iptr false [rqI s e a m]),(2,.bot),(50,.isl false false 2 (l.map Pt.enc)),(51,I l.length),(52,I (i+1:Nat))],[]):=by
   simp only [go_sem,qy,qq,qv,qk,reduceIte,c74L0b,hg,hi',hwr,Pt.enc,hC,hI,hA]
  rw [Yt rfl hstep];exact ⟨fr',h1,h2⟩
theorem ZqD (s:Sta) (e:Event) (a m:Int) (h:RqS s e m):pfn rE 74 [rqI s e a m]=some (I (Zp1 s e a m)):=by
 have hcl:=Zow s;have hbl:=Zot s;have hc:Z4 [.iptr false [rqI s e a m]]=true:=by simp only [go_sem]
 have hA:=ZpP s.Regions (by have:=h.c.E.sizes.regions;omega) (fun x=>Z3 x.Id e.Id) 143 [.iptr false [rqI s e a m]] hc (fun x _=>ZqA s e a m x)
 have hP:=Zqv e h.ev;have hlen:(ZoM e).length≤1000:=by
  unfold ZoM;have h1:=h.ev.lst;cases Q9 e with
  | false=>exact Zuw _
  | true=>
  cases e.Kind==1||(e.Kind==2||e.Kind==5) with
  | true=>show (e.Path.l.take 1).length≤1000;rw [ZuZ];omega
  | false=>
  cases e.Kind==6||e.Kind==10 with
  | true=>show 1≤1000;omega
  | false=>
  cases e.Kind==9 with
  | true=>show (e.Lst.l.map (·.Point)).length≤1000;rw [Zuv];omega
  | false=>exact Zuw _
 have L:=ZpR s e a m h (ZoM e) hlen (ZoM e).length 0 (by omega)
 rw [Zv1] at L;obtain ⟨fr',l1,l2⟩:=L;simp only [evA] at hP;rw [Z5 (f:=74) rfl rfl];unfold Zp1;have z0:((0:Nat):Int)=0:=rfl;rw [z0] at l1 l2;by_cases hz:plE s m (ZoM e)=0
 ·have l1:=l1 hz;rw [hz];cases k1:e.Kind==1 with
  | false=>simp only [go_sem,qy,qq,qk,reduceIte,c74,c74L0,k1,hP,l1,cond_false,Zuv]
  | true=>
   cases k2:s.Regions.any (fun x=>Z3 x.Id e.Id) with
   | true=>
    rw [k2] at hA;simp only [go_sem,qy,qq,reduceIte,c74,c74L0,k1,hA,cond_true]
   | false=>
   rw [k2] at hA;cases k3:e.A==1 with
   | false=>simp only [go_sem,qy,qq,qk,reduceIte,c74,c74L0,k1,k3,hA,hP,l1,cond_true,cond_false,ZuC,Zuv]
   | true=>cases k4:a==0<;>simp only [go_sem,qy,qq,reduceIte,c74,c74L0,k1,k3,k4,hA,cond_true,cond_false,Zux]
 ·obtain ⟨l2,l3⟩:=l2 hz;cases k1:e.Kind==1 with
  | false=>simp only [go_sem,qy,qq,qk,reduceIte,c74,c74L0,k1,hP,l2,l3,cond_false,Zuv]
  | true=>
   cases k2:s.Regions.any (fun x=>Z3 x.Id e.Id) with
   | true=>
    rw [k2] at hA;simp only [go_sem,qy,qq,reduceIte,c74,c74L0,k1,hA,cond_true]
   | false=>
   rw [k2] at hA;cases k3:e.A==1 with
   | false=>simp only [go_sem,qy,qq,qk,reduceIte,c74,c74L0,k1,k3,hA,hP,l2,l3,cond_true,cond_false,ZuC,Zuv]
   | true=>cases k4:a==0<;>simp only [go_sem,qy,qq,reduceIte,c74,c74L0,k1,k3,k4,hA,cond_true,cond_false,Zux]
end Go.AM
namespace Go.AM
open Go
def kOf (ks:List Int) (e:Event):Bool:=ks.any (fun x=>e.Kind==x)
theorem ZoJ (e:Event) (ks:List Int) (ex:Bool) (hl:ks.length≤1000):pfn rE 244 [.isl false ex 1 (ks.map I),evI e]=some (.bool (kOf ks e)):=by
 have h:=DR ks ex e.Kind (by omega)
 rw [Z5 (f:=244) rfl rfl];unfold kOf;simp only [go_sem,qy,qq,qx,qz,qv,qk,reduceIte,c244,h]
def Zor (s:Sta) (e:Event):List Str:=
 (((e.Ids.l++bif kOf [9,12] e then [e.Id] else [])++bif kOf [7] e then [e.Other] else [])++bif kOf [8] e then e.Lst.l.map (·.Id) else [])++bif kOf [12] e then (s.Units.filter (fun u=>Z3 u.Id e.Id)).map (·.Door) else []
def ZoQ (e:Event) (x:Region):Bool:=kOf [1,3,12] e&&Z3 x.Id e.Id
def ZoR (e:Event) (x:Street):Bool:=(kOf [3,4,8,12] e&&Z3 x.Id e.Id)||((kOf [4] e&&Z3 x.Id e.Other)||(kOf [6] e&&Z3 x.Id e.Text))
def ZoS (e:Event) (x:Building):Bool:=(kOf [11] e&&Z3 x.Id e.Id)||(kOf [6] e&&Z3 x.Id e.Other)
def ZoT (l:List Str) (x:Door):Bool:=l.any (fun y=>Z3 x.Id y)
def Zou (s:Sta) (m o:Int):Bool:=Zoq s o==m
def Zpb (s:Sta) (e:Event) (m:Int):Bool:=
 s.Regions.all (fun x=>!ZoQ e x||Zou s m x.Owner)&&(s.Streets.all (fun x=>!ZoR e x||Zou s m x.Owner)&&(s.Buildings.all (fun x=>!ZoS e x||Zou s m x.Owner)&&s.Doors.all (fun x=>!ZoT (Zor s e) x||Zou s m x.Owner)))
def Zp6 (s:Sta) (e:Event) (m:Int):Int:=bif Zpb s e m then 0 else 18
def ZoA (s:Sta) (e:Event) (a m:Int):Fr:=[(1,.iptr false [rqI s e a m]),(2,.ptr 0 0 0 1),(12,.clo (.func 245) [] [.iptr false [ldI s],.ptr 1 0 0 1,evI e,.ptr 3 0 0 1])]
def thX (s:Sta) (e:Event) (a m:Int) (n:Int) (st:LoopState) (ex:AExit) (l:List Str):Hp:=[.row 1 [I n],.row 1 [.clo (.func 244) [] [evI e]],.row 1 (l.map encS),.row 1 [.sl 2 l.length 0 l.length false],.loop st ex (ZoA s e a m) [13] c72R0a c72R0b]
abbrev thH (s:Sta) (e:Event) (a m:Int):Hp:=thX s e a m 0 .ready .normal (Zor s e)
abbrev thD (s:Sta) (e:Event) (a m:Int):Hp:=thX s e a m 18 .done .ret (Zor s e)
theorem ZoI (s:Sta) (e:Event) (a m:Int):Zd 5 (frV (ZoA s e a m))=true∧Zd 6 (frV (ZoA s e a m))=true:=by
 have hbl:=Zot s;have hcl:=Zow s;have hc:Z4 [rqI s e a m,ldI s,evI e]=true:=by simp only [go_sem,qy,qq,qx,qz,qv,qk,reduceIte,hcl]
 have hb:=fun n=>ZN (n:=n) _ hc
 simp only [Zd,Zuu] at hb;constructor
 ·obtain ⟨h1,h2,h3,_⟩:=hb 5;simp only [go_sem,qy,qq,qx,qz,qv,qk,reduceIte,ZoA,h1,h2,h3,hbl]
 ·obtain ⟨h1,h2,h3,_⟩:=hb 6;simp only [go_sem,qy,qq,qx,qz,qv,qk,reduceIte,ZoA,h1,h2,h3,hbl]
theorem Zpc (s:Sta) (e:Event) (a m:Int) (o:Int) (q:AObj) (hq:∀ n,Zj n q=true) (hM:pfn rE 66 [ldI s,I o]=some (I (Zoq s o))):
 U4 rE 4 [I o] (thH s e a m++[q])=some (bif Zou s m o then (.bool true,thH s e a m++[q]) else (.bool false,thD s e a m++[q])):=by
 have hcl:=Zow s;have hbl:=Zot s;obtain ⟨hf4,hf5⟩:=ZoI s e a m;unfold Zou;have hS:∀ n,Zd n ((Zor s e).map encS)=true:=fun n=>ZN _ (Zw (fun t=>rfl) _)
 cases c:Zoq s o==m with
 | true=>
  have h:=Ss (E:=rE) (b:=4) (args:=[I o]) (h:=thH s e a m++[q]) (fr:=ZoA s e a m) (ps:=[13]) (assign:=c72R0a) (body:=c72R0b)
   (fr0:=(13,I o)::ZoA s e a m) rfl rfl (by simp only [go_sem,qy,qq,qx,qz,qv,qk,reduceIte,c72R0a,thX,ZoA,ZuB,Zuz]<;>rfl) (by rfl)
   (e:=.normal) (fr2:=[]) (h2:=thX s e a m 0 .busy .normal (Zor s e)++[q])
   (by
    have hne:(Zoq s o != m)=false:=by rw [bne,c];rfl
    simp only [go_sem,qy,qq,qx,qz,qv,qk,reduceIte,c72R0b,thX,ZoA,ZuB,Zuz,hM,hne,hcl,hbl,hq,hS]<;>rfl) (by rfl)
  exact h
 | false=>
  have h:=Ss (E:=rE) (b:=4) (args:=[I o]) (h:=thH s e a m++[q]) (fr:=ZoA s e a m) (ps:=[13]) (assign:=c72R0a) (body:=c72R0b)
   (fr0:=(13,I o)::ZoA s e a m) rfl rfl (by simp only [go_sem,qy,qq,qx,qz,qv,qk,reduceIte,c72R0a,thX,ZoA,ZuB,Zuz]<;>rfl) (by rfl)
   (e:=.ret) (fr2:=[]) (h2:=thX s e a m 18 .busy .normal (Zor s e)++[q])
   (by
    have hne:(Zoq s o != m)=true:=by rw [bne,c];rfl
    simp only [go_sem,qy,qq,qx,qz,qv,qk,reduceIte,c72R0b,thX,ZoA,ZuB,Zuz,hM,hne,hcl,hbl,hq,hS]<;>rfl) (by rfl)
  exact h
theorem ZpS (s:Sta) (e:Event) (a m:Int) (h:RqS s e m) (i:Nat) (x:Region) (hx:s.Regions[i]? = some x) (hl:s.Regions.length≤1000) (ho:0≤x.Owner):
 Zb rE c245L0b [(0,.yld 4),(1,.iptr false [ldI s]),(2,.ptr 1 0 0 1),(3,evI e),(4,.ptr 3 0 0 1),(20,.isl false false 6 (s.Regions.map Region.enc)),(21,I s.Regions.length),(22,I i)] (thH s e a m)=bif !ZoQ e x||Zou s m x.Owner then some (.normal,[(0,.yld 4),(1,.iptr false [ldI s]),(2,.ptr 1 0 0 1),(3,evI e),(4,.ptr 3 0 0 1),(20,.isl false false 6 (s.Regions.map Region.enc)),(21,I s.Regions.length),(22,I (i+1:Nat))],thH s e a m) else some (.ret,[(0,.yld 4),(1,.iptr false [ldI s]),(2,.ptr 1 0 0 1),(3,evI e),(4,.ptr 3 0 0 1),(20,.isl false false 6 (s.Regions.map Region.enc)),(21,I s.Regions.length),(22,I i)],thD s e a m):=by
 have hg:=Z6 (f:=Region.enc) hx;have hi':=Zh (Z7 hx);have hwr:=Zx (n:=i) (by have:=Z7 hx;omega)
 have hcl:=Zow s;have hbl:=Zot s;obtain ⟨hf4,hf5⟩:=ZoI s e a m;have hS:∀ n,Zd n ((Zor s e).map encS)=true:=fun n=>ZN _ (Zw (fun t=>rfl) _)
 have hq:∀ n,Zj n (.row 6 [x.enc])=true:=fun n=>ZN (n:=n) [x.enc] (Zw (f:=Region.enc) (fun t=>rfl) [x])
 have hy:=Zpc s e a m x.Owner (.row 6 [x.enc]) hq (h.c.mst ho);simp only [thX,ZuB,Zuz,Region.enc,NL.enc] at hy;simp only [Region.enc,NL.enc] at hq;have hk0:=ZoJ e [1,3,12] false (by decide)
 simp only [ZuH,ZuE] at hk0;unfold ZoQ;cases c1:kOf [1,3,12] e with
 | false=>
  rw [c1] at hk0;simp only [go_sem,qy,qq,qx,qz,qv,qk,reduceIte,c245L0b,thX,S3,hg,hi',hwr,hcl,hbl,hf4,hf5,hq,hS,hy,Region.enc,NL.enc,ZuG,ZuQ,ZuM,ZuD,Zv6,ZuN,Zux,ZuC,cond_true,cond_false,hk0]
 | true=>
 rw [c1] at hk0;cases c2:Z3 x.Id e.Id with
 | false=>simp only [go_sem,qy,qq,qx,qz,qv,qk,reduceIte,c245L0b,thX,S3,hg,hi',hwr,hcl,hbl,hf4,hf5,hq,hS,hy,Region.enc,NL.enc,ZuG,ZuQ,ZuM,ZuD,Zv6,ZuN,Zux,ZuC,cond_true,cond_false,hk0,c2]
 | true=>cases c9:Zou s m x.Owner<;>rw [c9] at hy<;>simp only [cond_true,cond_false] at hy<;>simp only [go_sem,qy,qq,qx,qz,qv,qk,reduceIte,c245L0b,thX,S3,hg,hi',hwr,hcl,hbl,hf4,hf5,hq,hS,hy,Region.enc,NL.enc,ZuG,ZuQ,ZuM,ZuD,Zv6,ZuN,Zux,ZuC,cond_true,cond_false,hk0,c2]
set_option maxHeartbeats 4000000 in
theorem ZpT (s:Sta) (e:Event) (a m:Int) (h:RqS s e m) (i:Nat) (x:Street) (hx:s.Streets[i]? = some x) (hl:s.Streets.length≤1000) (ho:0≤x.Owner):
 Zb rE c245L1b [(0,.yld 4),(1,.iptr false [ldI s]),(2,.ptr 1 0 0 1),(3,evI e),(4,.ptr 3 0 0 1),(48,.isl false false 5 (s.Streets.map Street.enc)),(49,I s.Streets.length),(50,I i)] (thH s e a m)=bif !ZoR e x||Zou s m x.Owner then some (.normal,[(0,.yld 4),(1,.iptr false [ldI s]),(2,.ptr 1 0 0 1),(3,evI e),(4,.ptr 3 0 0 1),(48,.isl false false 5 (s.Streets.map Street.enc)),(49,I s.Streets.length),(50,I (i+1:Nat))],thH s e a m) else some (.ret,[(0,.yld 4),(1,.iptr false [ldI s]),(2,.ptr 1 0 0 1),(3,evI e),(4,.ptr 3 0 0 1),(48,.isl false false 5 (s.Streets.map Street.enc)),(49,I s.Streets.length),(50,I i)],thD s e a m):=by
 have hg:=Z6 (f:=Street.enc) hx;have hi':=Zh (Z7 hx);have hwr:=Zx (n:=i) (by have:=Z7 hx;omega)
 have hcl:=Zow s;have hbl:=Zot s;obtain ⟨hf4,hf5⟩:=ZoI s e a m;have hS:∀ n,Zd n ((Zor s e).map encS)=true:=fun n=>ZN _ (Zw (fun t=>rfl) _)
 have hq:∀ n,Zj n (.row 5 [x.enc])=true:=fun n=>ZN (n:=n) [x.enc] (Zw (f:=Street.enc) (fun t=>rfl) [x])
 have hy:=Zpc s e a m x.Owner (.row 5 [x.enc]) hq (h.c.mst ho);simp only [thX,ZuB,Zuz,Street.enc,NL.enc] at hy;simp only [Street.enc,NL.enc] at hq;have hk0:=ZoJ e [3,4,8,12] false (by decide)
 simp only [ZuH,ZuE] at hk0;have hk1:=ZoJ e [4] false (by decide)
 simp only [ZuH,ZuE] at hk1;have hk2:=ZoJ e [6] false (by decide)
 simp only [ZuH,ZuE] at hk2;unfold ZoR;cases c1:kOf [3,4,8,12] e<;>cases c4:kOf [4] e<;>cases c6:kOf [6] e<;>rw [c1] at hk0<;>rw [c4] at hk1<;>rw [c6] at hk2<;>cases d1:Z3 x.Id e.Id<;>cases d2:Z3 x.Id e.Other<;>cases d3:Z3 x.Id e.Text<;>
  (first | (simp only [go_sem,qy,qq,qx,qz,qv,qk,reduceIte,c245L1b,thX,S3,hg,hi',hwr,hcl,hbl,hf4,hf5,hq,hS,hy,Street.enc,NL.enc,ZuG,ZuQ,ZuM,ZuD,Zv6,ZuN,Zux,ZuC,cond_true,cond_false,hk0,hk1,hk2,d1,d2,d3];done) | (cases c9:Zou s m x.Owner<;>rw [c9] at hy<;>simp only [cond_true,cond_false] at hy<;>simp only [go_sem,qy,qq,qx,qz,qv,qk,reduceIte,c245L1b,thX,S3,hg,hi',hwr,hcl,hbl,hf4,hf5,hq,hS,hy,Street.enc,NL.enc,ZuG,ZuQ,ZuM,ZuD,Zv6,ZuN,Zux,ZuC,cond_true,cond_false,hk0,hk1,hk2,d1,d2,d3]))
set_option maxHeartbeats 1000000 in
theorem ZpU (s:Sta) (e:Event) (a m:Int) (h:RqS s e m) (i:Nat) (x:Building) (hx:s.Buildings[i]? = some x) (hl:s.Buildings.length≤1000) (ho:0≤x.Owner):
 Zb rE c245L2b [(0,.yld 4),(1,.iptr false [ldI s]),(2,.ptr 1 0 0 1),(3,evI e),(4,.ptr 3 0 0 1),(102,.isl false false 4 (s.Buildings.map Building.enc)),(103,I s.Buildings.length),(104,I i)] (thH s e a m)=bif !ZoS e x||Zou s m x.Owner then some (.normal,[(0,.yld 4),(1,.iptr false [ldI s]),(2,.ptr 1 0 0 1),(3,evI e),(4,.ptr 3 0 0 1),(102,.isl false false 4 (s.Buildings.map Building.enc)),(103,I s.Buildings.length),(104,I (i+1:Nat))],thH s e a m) else some (.ret,[(0,.yld 4),(1,.iptr false [ldI s]),(2,.ptr 1 0 0 1),(3,evI e),(4,.ptr 3 0 0 1),(102,.isl false false 4 (s.Buildings.map Building.enc)),(103,I s.Buildings.length),(104,I i)],thD s e a m):=by
 have hg:=Z6 (f:=Building.enc) hx;have hi':=Zh (Z7 hx);have hwr:=Zx (n:=i) (by have:=Z7 hx;omega)
 have hcl:=Zow s;have hbl:=Zot s;obtain ⟨hf4,hf5⟩:=ZoI s e a m;have hS:∀ n,Zd n ((Zor s e).map encS)=true:=fun n=>ZN _ (Zw (fun t=>rfl) _)
 have hq:∀ n,Zj n (.row 4 [x.enc])=true:=fun n=>ZN (n:=n) [x.enc] (Zw (f:=Building.enc) (fun t=>rfl) [x])
 have hy:=Zpc s e a m x.Owner (.row 4 [x.enc]) hq (h.c.mst ho);simp only [thX,ZuB,Zuz,Building.enc,NL.enc] at hy;simp only [Building.enc,NL.enc] at hq;have hk0:=ZoJ e [11] false (by decide)
 simp only [ZuH,ZuE] at hk0;have hk1:=ZoJ e [6] false (by decide)
 simp only [ZuH,ZuE] at hk1;unfold ZoS;cases c1:kOf [11] e<;>cases c6:kOf [6] e<;>rw [c1] at hk0<;>rw [c6] at hk1<;>cases d1:Z3 x.Id e.Id<;>cases d2:Z3 x.Id e.Other<;>
  (first | (simp only [go_sem,qy,qq,qx,qz,qv,qk,reduceIte,c245L2b,thX,S3,hg,hi',hwr,hcl,hbl,hf4,hf5,hq,hS,hy,Building.enc,NL.enc,ZuG,ZuQ,ZuM,ZuD,Zv6,ZuN,Zux,ZuC,cond_true,cond_false,hk0,hk1,d1,d2];done) | (cases c9:Zou s m x.Owner<;>rw [c9] at hy<;>simp only [cond_true,cond_false] at hy<;>simp only [go_sem,qy,qq,qx,qz,qv,qk,reduceIte,c245L2b,thX,S3,hg,hi',hwr,hcl,hbl,hf4,hf5,hq,hS,hy,Building.enc,NL.enc,ZuG,ZuQ,ZuM,ZuD,Zv6,ZuN,Zux,ZuC,cond_true,cond_false,hk0,hk1,d1,d2]))
theorem ZpV (s:Sta) (e:Event) (a m:Int) (h:RqS s e m) (i:Nat) (x:Door) (hx:s.Doors[i]? = some x) (hl:s.Doors.length≤1000) (ho:0≤x.Owner) (hd:(Zor s e).length≤100000):
 Zb rE c245L3b [(0,.yld 4),(4,.ptr 3 0 0 1),(142,.isl false false 16 (s.Doors.map Door.enc)),(143,I s.Doors.length),(144,I i)] (thH s e a m)=bif !ZoT (Zor s e) x||Zou s m x.Owner then some (.normal,[(0,.yld 4),(4,.ptr 3 0 0 1),(142,.isl false false 16 (s.Doors.map Door.enc)),(143,I s.Doors.length),(144,I (i+1:Nat))],thH s e a m) else some (.ret,[(0,.yld 4),(4,.ptr 3 0 0 1),(142,.isl false false 16 (s.Doors.map Door.enc)),(143,I s.Doors.length),(144,I i)],thD s e a m):=by
 have hg:=Z6 (f:=Door.enc) hx;have hi':=Zh (Z7 hx);have hwr:=Zx (n:=i) (by have:=Z7 hx;omega)
 have hcl:=Zow s;have hbl:=Zot s;obtain ⟨hf4,hf5⟩:=ZoI s e a m;have hS:∀ n,Zd n ((Zor s e).map encS)=true:=fun n=>ZN _ (Zw (fun t=>rfl) _)
 have hq:∀ n,Zj n (.row 16 [x.enc])=true:=fun n=>ZN (n:=n) [x.enc] (Zw (f:=Door.enc) (fun t=>rfl) [x])
 have hy:=Zpc s e a m x.Owner (.row 16 [x.enc]) hq (h.c.mst ho);simp only [thX,ZuB,Zuz,Door.enc,NL.enc] at hy;simp only [Door.enc,NL.enc] at hq;unfold ZoT;have hD:=Zqr (Zor s e) hd x.Id true false;have hcS:Z4 ((Zor s e).map encS)=true:=Zw (fun t=>rfl) _
 have htk:List.take (Zor s e).length ((Zor s e).map encS)=(Zor s e).map encS:=ZuS (by simp)
 cases c1:(Zor s e).any (fun y=>Z3 x.Id y) with
 | false=>
  rw [c1] at hD;simp only [go_sem,qy,qq,qx,qz,qv,qk,reduceIte,c245L3b,thX,S3,hg,hi',hwr,hcl,hbl,hf4,hf5,hq,hS,hy,Door.enc,NL.enc,ZuG,ZuQ,ZuM,ZuD,Zv6,ZuN,Zux,ZuC,cond_true,cond_false,hD,hcS,htk,Zuv,Zv1,beq_self_eq_true]
 | true=>
  rw [c1] at hD;cases c9:Zou s m x.Owner<;>rw [c9] at hy<;>simp only [cond_true,cond_false] at hy<;>simp only [go_sem,qy,qq,qx,qz,qv,qk,reduceIte,c245L3b,thX,S3,hg,hi',hwr,hcl,hbl,hf4,hf5,hq,hS,hy,Door.enc,NL.enc,ZuG,ZuQ,ZuM,ZuD,Zv6,ZuN,Zux,ZuC,cond_true,cond_false,hD,hcS,htk,Zuv,Zv1,beq_self_eq_true]
end Go.AM
namespace Go.AM
open Go
theorem ZqE (s:Sta) (e:Event) (a m:Int) (h:RqS s e m) (hl:s.Regions.length≤1000) (ho:∀ x∈s.Regions,0≤x.Owner):
 ∃ fr' h',Zg rE [0,1,2,3,4,20,21,22] c245L0b [(0,.yld 4),(1,.iptr false [ldI s]),(2,.ptr 1 0 0 1),(3,evI e),(4,.ptr 3 0 0 1),(20,.isl false false 6 (s.Regions.map Region.enc)),(21,I s.Regions.length),(22,.int .i64 0)] (thH s e a m)=some (if s.Regions.all (fun x=>!ZoQ e x||Zou s m x.Owner)=true then .exit 0 else .ret,fr',h')∧
  (s.Regions.all (fun x=>!ZoQ e x||Zou s m x.Owner)=true→fr'=[(0,.yld 4),(1,.iptr false [ldI s]),(2,.ptr 1 0 0 1),(3,evI e),(4,.ptr 3 0 0 1),(20,.isl false false 6 (s.Regions.map Region.enc)),(21,I s.Regions.length),(22,I s.Regions.length)]∧h'=thH s e a m)∧(s.Regions.all (fun x=>!ZoQ e x||Zou s m x.Owner)=false→h'=thD s e a m):=by
 have hbl:=Zot s;have hcl:=Zow s;obtain ⟨hf4,hf5⟩:=ZoI s e a m;have hS:∀ n,Zd n ((Zor s e).map encS)=true:=fun n=>ZN _ (Zw (fun t=>rfl) _)
 have L:=Jk (E:=rE) (live:=[0,1,2,3,4,20,21,22]) (b:=c245L0b) s.Regions (fun _ x=>!ZoQ e x||Zou s m x.Owner) (fun i=>[(0,.yld 4),(1,.iptr false [ldI s]),(2,.ptr 1 0 0 1),(3,evI e),(4,.ptr 3 0 0 1),(20,.isl false false 6 (s.Regions.map Region.enc)),(21,I s.Regions.length),(22,I i)]) (fun _=>thH s e a m) 0
  (fun fr h'=>fr=[(0,.yld 4),(1,.iptr false [ldI s]),(2,.ptr 1 0 0 1),(3,evI e),(4,.ptr 3 0 0 1),(20,.isl false false 6 (s.Regions.map Region.enc)),(21,I s.Regions.length),(22,I s.Regions.length)]∧h'=thH s e a m) (fun _ h'=>h'=thD s e a m) (fun i=>rfl)
  (fun i x hx hP=>by
   have:=ZpS s e a m h i x hx hl (ho x (ZuK hx));rw [hP,cond_true] at this;exact ⟨_,this,rfl⟩)
  (fun i x hx hP=>by
   have:=ZpS s e a m h i x hx hl (ho x (ZuK hx));rw [hP,cond_false] at this;exact ⟨_,_,this,rfl⟩)
  ⟨[(0,.yld 4),(1,.iptr false [ldI s]),(2,.ptr 1 0 0 1),(3,evI e),(4,.ptr 3 0 0 1),(20,.isl false false 6 (s.Regions.map Region.enc)),(21,I s.Regions.length),(22,I s.Regions.length)],thH s e a m,by simp only [go_sem,qy,qq,reduceIte,c245L0b,thX,ZG,hf4,hS],rfl,rfl⟩
 rw [QE] at L;exact L
theorem ZqF (s:Sta) (e:Event) (a m:Int) (h:RqS s e m) (hl:s.Streets.length≤1000) (ho:∀ x∈s.Streets,0≤x.Owner):
 ∃ fr' h',Zg rE [0,1,2,3,4,48,49,50] c245L1b [(0,.yld 4),(1,.iptr false [ldI s]),(2,.ptr 1 0 0 1),(3,evI e),(4,.ptr 3 0 0 1),(48,.isl false false 5 (s.Streets.map Street.enc)),(49,I s.Streets.length),(50,.int .i64 0)] (thH s e a m)=some (if s.Streets.all (fun x=>!ZoR e x||Zou s m x.Owner)=true then .exit 2 else .ret,fr',h')∧
  (s.Streets.all (fun x=>!ZoR e x||Zou s m x.Owner)=true→fr'=[(0,.yld 4),(1,.iptr false [ldI s]),(2,.ptr 1 0 0 1),(3,evI e),(4,.ptr 3 0 0 1),(48,.isl false false 5 (s.Streets.map Street.enc)),(49,I s.Streets.length),(50,I s.Streets.length)]∧h'=thH s e a m)∧(s.Streets.all (fun x=>!ZoR e x||Zou s m x.Owner)=false→h'=thD s e a m):=by
 have hbl:=Zot s;have hcl:=Zow s;obtain ⟨hf4,hf5⟩:=ZoI s e a m;have hS:∀ n,Zd n ((Zor s e).map encS)=true:=fun n=>ZN _ (Zw (fun t=>rfl) _)
 have L:=Jk (E:=rE) (live:=[0,1,2,3,4,48,49,50]) (b:=c245L1b) s.Streets (fun _ x=>!ZoR e x||Zou s m x.Owner) (fun i=>[(0,.yld 4),(1,.iptr false [ldI s]),(2,.ptr 1 0 0 1),(3,evI e),(4,.ptr 3 0 0 1),(48,.isl false false 5 (s.Streets.map Street.enc)),(49,I s.Streets.length),(50,I i)]) (fun _=>thH s e a m) 2
  (fun fr h'=>fr=[(0,.yld 4),(1,.iptr false [ldI s]),(2,.ptr 1 0 0 1),(3,evI e),(4,.ptr 3 0 0 1),(48,.isl false false 5 (s.Streets.map Street.enc)),(49,I s.Streets.length),(50,I s.Streets.length)]∧h'=thH s e a m) (fun _ h'=>h'=thD s e a m) (fun i=>rfl)
  (fun i x hx hP=>by
   have:=ZpT s e a m h i x hx hl (ho x (ZuK hx));rw [hP,cond_true] at this;exact ⟨_,this,rfl⟩)
  (fun i x hx hP=>by
   have:=ZpT s e a m h i x hx hl (ho x (ZuK hx));rw [hP,cond_false] at this;exact ⟨_,_,this,rfl⟩)
  ⟨[(0,.yld 4),(1,.iptr false [ldI s]),(2,.ptr 1 0 0 1),(3,evI e),(4,.ptr 3 0 0 1),(48,.isl false false 5 (s.Streets.map Street.enc)),(49,I s.Streets.length),(50,I s.Streets.length)],thH s e a m,by simp only [go_sem,qy,qq,reduceIte,c245L1b,thX,ZG,hf4,hS],rfl,rfl⟩
 rw [QE] at L;exact L
theorem ZqG (s:Sta) (e:Event) (a m:Int) (h:RqS s e m) (hl:s.Buildings.length≤1000) (ho:∀ x∈s.Buildings,0≤x.Owner):
 ∃ fr' h',Zg rE [0,1,2,3,4,102,103,104] c245L2b [(0,.yld 4),(1,.iptr false [ldI s]),(2,.ptr 1 0 0 1),(3,evI e),(4,.ptr 3 0 0 1),(102,.isl false false 4 (s.Buildings.map Building.enc)),(103,I s.Buildings.length),(104,.int .i64 0)] (thH s e a m)=some (if s.Buildings.all (fun x=>!ZoS e x||Zou s m x.Owner)=true then .exit 4 else .ret,fr',h')∧
  (s.Buildings.all (fun x=>!ZoS e x||Zou s m x.Owner)=true→fr'=[(0,.yld 4),(1,.iptr false [ldI s]),(2,.ptr 1 0 0 1),(3,evI e),(4,.ptr 3 0 0 1),(102,.isl false false 4 (s.Buildings.map Building.enc)),(103,I s.Buildings.length),(104,I s.Buildings.length)]∧h'=thH s e a m)∧(s.Buildings.all (fun x=>!ZoS e x||Zou s m x.Owner)=false→h'=thD s e a m):=by
 have hbl:=Zot s;have hcl:=Zow s;obtain ⟨hf4,hf5⟩:=ZoI s e a m;have hS:∀ n,Zd n ((Zor s e).map encS)=true:=fun n=>ZN _ (Zw (fun t=>rfl) _)
 have L:=Jk (E:=rE) (live:=[0,1,2,3,4,102,103,104]) (b:=c245L2b) s.Buildings (fun _ x=>!ZoS e x||Zou s m x.Owner) (fun i=>[(0,.yld 4),(1,.iptr false [ldI s]),(2,.ptr 1 0 0 1),(3,evI e),(4,.ptr 3 0 0 1),(102,.isl false false 4 (s.Buildings.map Building.enc)),(103,I s.Buildings.length),(104,I i)]) (fun _=>thH s e a m) 4
  (fun fr h'=>fr=[(0,.yld 4),(1,.iptr false [ldI s]),(2,.ptr 1 0 0 1),(3,evI e),(4,.ptr 3 0 0 1),(102,.isl false false 4 (s.Buildings.map Building.enc)),(103,I s.Buildings.length),(104,I s.Buildings.length)]∧h'=thH s e a m) (fun _ h'=>h'=thD s e a m) (fun i=>rfl)
  (fun i x hx hP=>by
   have:=ZpU s e a m h i x hx hl (ho x (ZuK hx));rw [hP,cond_true] at this;exact ⟨_,this,rfl⟩)
  (fun i x hx hP=>by
   have:=ZpU s e a m h i x hx hl (ho x (ZuK hx));rw [hP,cond_false] at this;exact ⟨_,_,this,rfl⟩)
  ⟨[(0,.yld 4),(1,.iptr false [ldI s]),(2,.ptr 1 0 0 1),(3,evI e),(4,.ptr 3 0 0 1),(102,.isl false false 4 (s.Buildings.map Building.enc)),(103,I s.Buildings.length),(104,I s.Buildings.length)],thH s e a m,by simp only [go_sem,qy,qq,reduceIte,c245L2b,thX,ZG,hf4,hS],rfl,rfl⟩
 rw [QE] at L;exact L
theorem ZqH (s:Sta) (e:Event) (a m:Int) (h:RqS s e m) (hl:s.Doors.length≤1000) (ho:∀ x∈s.Doors,0≤x.Owner) (hd:(Zor s e).length≤100000):
 ∃ fr' h',Zg rE [0,4,142,143,144] c245L3b [(0,.yld 4),(4,.ptr 3 0 0 1),(142,.isl false false 16 (s.Doors.map Door.enc)),(143,I s.Doors.length),(144,.int .i64 0)] (thH s e a m)=some (if s.Doors.all (fun x=>!ZoT (Zor s e) x||Zou s m x.Owner)=true then .exit 6 else .ret,fr',h')∧
  (s.Doors.all (fun x=>!ZoT (Zor s e) x||Zou s m x.Owner)=true→fr'=[(0,.yld 4),(4,.ptr 3 0 0 1),(142,.isl false false 16 (s.Doors.map Door.enc)),(143,I s.Doors.length),(144,I s.Doors.length)]∧h'=thH s e a m)∧(s.Doors.all (fun x=>!ZoT (Zor s e) x||Zou s m x.Owner)=false→h'=thD s e a m):=by
 have hbl:=Zot s;have hcl:=Zow s;obtain ⟨hf4,hf5⟩:=ZoI s e a m;have hS:∀ n,Zd n ((Zor s e).map encS)=true:=fun n=>ZN _ (Zw (fun t=>rfl) _)
 have L:=Jk (E:=rE) (live:=[0,4,142,143,144]) (b:=c245L3b) s.Doors (fun _ x=>!ZoT (Zor s e) x||Zou s m x.Owner) (fun i=>[(0,.yld 4),(4,.ptr 3 0 0 1),(142,.isl false false 16 (s.Doors.map Door.enc)),(143,I s.Doors.length),(144,I i)]) (fun _=>thH s e a m) 6
  (fun fr h'=>fr=[(0,.yld 4),(4,.ptr 3 0 0 1),(142,.isl false false 16 (s.Doors.map Door.enc)),(143,I s.Doors.length),(144,I s.Doors.length)]∧h'=thH s e a m) (fun _ h'=>h'=thD s e a m) (fun i=>rfl)
  (fun i x hx hP=>by
   have:=ZpV s e a m h i x hx hl (ho x (ZuK hx)) hd;rw [hP,cond_true] at this;exact ⟨_,this,rfl⟩)
  (fun i x hx hP=>by
   have:=ZpV s e a m h i x hx hl (ho x (ZuK hx)) hd;rw [hP,cond_false] at this;exact ⟨_,_,this,rfl⟩)
  ⟨[(0,.yld 4),(4,.ptr 3 0 0 1),(142,.isl false false 16 (s.Doors.map Door.enc)),(143,I s.Doors.length),(144,I s.Doors.length)],thH s e a m,by simp only [go_sem,qy,qq,reduceIte,c245L3b,thX,ZG,hf4,hS],rfl,rfl⟩
 rw [QE] at L;exact L
def owH (e:Event) (l:List Str):Hp:=[.row 1 [I 0],.row 1 [.clo (.func 244) [] [evI e]],.row 1 (l.map encS),.row 1 [.sl 2 l.length 0 l.length false]]
theorem Zpd (e:Event) (l:List Str) (x:Str) (hl:l.length≤1000000) (r:List AObj):appW (owH e l++r) true 1 16 (.sl 2 l.length 0 l.length false) (.isl false false 1 [.str x]) =
 some (.sl 2 (l.length+1) 0 (l.length+1) false,[.row 1 [I 0],.row 1 [.clo (.func 244) [] [evI e]],.row 1 ((l++[x]).map encS),.row 1 [.sl 2 l.length 0 l.length false]]++r):=by
 have:=XC (h:=owH e l++r) (fz:=true) (b:=2) (g:=l.length) (sz:=1) (bytes:=16) (es:=l.map encS) (bw:=false) (ex:=false) (ys:=[.str x]) (by
  show (bif (l.map encS).length==l.length then some (1,l.map encS) else none)=_
  rw [Zuv,beq_self_eq_true];rfl) rfl rfl (by decide) (by decide) (by simp;omega)
 rw [this,ZuI];rfl
theorem ZoU (e:Event) (n:Nat):bel n (evI e)=true:=by
 have hc:Z4 [evI e]=true:=by simp only [go_sem]
 have:=ZN (n:=n) [evI e] hc;unfold Zd at this;rw [Zuu] at this;exact this.1
theorem ZqI (s:Sta) (e:Event) (l:List Str) (hl:l.length+e.Lst.l.length≤100000):Zg rE [2,3,5,6,35,36,37] c140L0b [(2,.iptr false [ldI s]),(3,evI e),(5,.ptr 1 0 0 1),(6,.ptr 3 0 0 1),(35,.isl false e.Lst.ex 7 (e.Lst.l.map Ent.enc)),(36,I e.Lst.l.length),(37,.int .i64 0)] (owH e l) =
 some (.exit 0,[(2,.iptr false [ldI s]),(3,evI e),(5,.ptr 1 0 0 1),(6,.ptr 3 0 0 1),(35,.isl false e.Lst.ex 7 (e.Lst.l.map Ent.enc)),(36,I e.Lst.l.length),(37,I e.Lst.l.length)],owH e (l++e.Lst.l.map (·.Id))):=by
 have hbl:=Zot s;have hbe:=ZoU e;have hS:∀ (D:List Str) n,Zd n (D.map encS)=true:=fun D n=>ZN _ (Zw (fun t=>rfl) _)
 have L:=Y8 (E:=rE) (live:=[2,3,5,6,35,36,37]) (b:=c140L0b) e.Lst.l.length (fun i=>[(2,.iptr false [ldI s]),(3,evI e),(5,.ptr 1 0 0 1),(6,.ptr 3 0 0 1),(35,.isl false e.Lst.ex 7 (e.Lst.l.map Ent.enc)),(36,I e.Lst.l.length),(37,I i)])
  (fun i=>owH e (l++(e.Lst.l.take i).map (·.Id))) (fun i=>rfl)
  (fun i hi=>by
   obtain ⟨x,hx⟩:∃ x,e.Lst.l[i]? = some x:=⟨_,ZuA hi⟩;have hg:=Z6 (f:=Ent.enc) hx;have hi':=Zh hi;have hwr:=Zx (n:=i) (by omega)
   have htk:l++(e.Lst.l.take (i+1)).map (·.Id)=(l++(e.Lst.l.take i).map (·.Id))++[x.Id]:=by
    rw [Zv5,hx,ZuI,ZuX];rfl
   have hlen:(l++(e.Lst.l.take i).map (·.Id)).length≤1000000:=by rw [ZuR,Zuv,ZuZ];omega
   rw [htk];generalize l++(e.Lst.l.take i).map (·.Id)=D at *;have ha:=fun q=>Zpd e D x.Id hlen [q]
   simp only [owH,ZuB,Zuz] at ha;have hl1:(D++[x.Id]).length=D.length+1:=by simp
   refine ⟨[(2,.iptr false [ldI s]),(3,evI e),(5,.ptr 1 0 0 1),(6,.ptr 3 0 0 1),(35,.isl false e.Lst.ex 7 (e.Lst.l.map Ent.enc)),(36,I e.Lst.l.length),(37,I (i+1:Nat))],?_,rfl⟩;unfold owH;rw [hl1];simp only [go_sem,qy,qq,qv,qk,reduceIte,c140L0b,hg,hi',hwr,ha,Ent.enc,hbe,hS])
  (e:=.exit 0) (fr:=[(2,.iptr false [ldI s]),(3,evI e),(5,.ptr 1 0 0 1),(6,.ptr 3 0 0 1),(35,.isl false e.Lst.ex 7 (e.Lst.l.map Ent.enc)),(36,I e.Lst.l.length),(37,I e.Lst.l.length)]) (h:=owH e (l++e.Lst.l.map (·.Id))) (by
   rw [ZuP];simp only [go_sem,qy,qq,qv,reduceIte,c140L0b,owH,ZG,hbe,hS]) (by simp)
 have e0:l++(e.Lst.l.take 0).map (·.Id)=l:=by simp
 rw [e0] at L;exact L
theorem ZqJ (s:Sta) (e:Event) (l:List Str) (hl:l.length+s.Units.length≤100000):Zg rE [2,3,5,6,54,55,56] c140L1b [(2,.iptr false [ldI s]),(3,evI e),(5,.ptr 1 0 0 1),(6,.ptr 3 0 0 1),(54,.isl false false 6 (s.Units.map Unit'.enc)),(55,I s.Units.length),(56,.int .i64 0)] (owH e l) =
 some (.exit 2,[(2,.iptr false [ldI s]),(3,evI e),(5,.ptr 1 0 0 1),(6,.ptr 3 0 0 1),(54,.isl false false 6 (s.Units.map Unit'.enc)),(55,I s.Units.length),(56,I s.Units.length)],owH e (l++(s.Units.filter (fun u=>Z3 u.Id e.Id)).map (·.Door))):=by
 have hbl:=Zot s;have hbe:=ZoU e;have hS:∀ (D:List Str) n,Zd n (D.map encS)=true:=fun D n=>ZN _ (Zw (fun t=>rfl) _)
 have L:=Y8 (E:=rE) (live:=[2,3,5,6,54,55,56]) (b:=c140L1b) s.Units.length (fun i=>[(2,.iptr false [ldI s]),(3,evI e),(5,.ptr 1 0 0 1),(6,.ptr 3 0 0 1),(54,.isl false false 6 (s.Units.map Unit'.enc)),(55,I s.Units.length),(56,I i)])
  (fun i=>owH e (l++((s.Units.take i).filter (fun u=>Z3 u.Id e.Id)).map (·.Door))) (fun i=>rfl)
  (fun i hi=>by
   obtain ⟨x,hx⟩:∃ x,s.Units[i]? = some x:=⟨_,ZuA hi⟩;have hg:=Z6 (f:=Unit'.enc) hx;have hi':=Zh hi;have hwr:=Zx (n:=i) (by omega)
   have htk:l++((s.Units.take (i+1)).filter (fun u=>Z3 u.Id e.Id)).map (·.Door)=(l++((s.Units.take i).filter (fun u=>Z3 u.Id e.Id)).map (·.Door))++bif Z3 x.Id e.Id then [x.Door] else []:=by
    rw [Zv5,hx,List.filter_append,ZuI,ZuX];congr 2;show ([x].filter _).map _=_
    cases hc:Z3 x.Id e.Id<;>simp [hc]
   have hlen:(l++((s.Units.take i).filter (fun u=>Z3 u.Id e.Id)).map (·.Door)).length≤1000000:=by
    rw [ZuR,Zuv];have:=ZvG (fun u:Unit'=>Z3 u.Id e.Id) (s.Units.take i)
    rw [ZuZ] at this;omega
   rw [htk];generalize l++((s.Units.take i).filter (fun u=>Z3 u.Id e.Id)).map (·.Door)=D at *
   refine ⟨[(2,.iptr false [ldI s]),(3,evI e),(5,.ptr 1 0 0 1),(6,.ptr 3 0 0 1),(54,.isl false false 6 (s.Units.map Unit'.enc)),(55,I s.Units.length),(56,I (i+1:Nat))],?_,rfl⟩;cases c:Z3 x.Id e.Id with
   | false=>
    rw [cond_false,Zuy];simp only [go_sem,qy,qq,qv,qk,reduceIte,c140L1b,owH,hg,hi',hwr,Unit'.enc,c,hbe,hS]
   | true=>
    rw [cond_true];have ha:=fun q=>Zpd e D x.Door hlen [q]
    simp only [owH,ZuB,Zuz] at ha;have hl1:(D++[x.Door]).length=D.length+1:=by simp
    unfold owH;rw [hl1];simp only [go_sem,qy,qq,qv,qk,reduceIte,c140L1b,hg,hi',hwr,ha,Unit'.enc,c,hbe,hS])
  (e:=.exit 2) (fr:=[(2,.iptr false [ldI s]),(3,evI e),(5,.ptr 1 0 0 1),(6,.ptr 3 0 0 1),(54,.isl false false 6 (s.Units.map Unit'.enc)),(55,I s.Units.length),(56,I s.Units.length)]) (h:=owH e (l++(s.Units.filter (fun u=>Z3 u.Id e.Id)).map (·.Door))) (by
   rw [ZuP];simp only [go_sem,qy,qq,qv,reduceIte,c140L1b,owH,ZG,hbe,hS]) (by simp)
 have e0:l++((s.Units.take 0).filter (fun u=>Z3 u.Id e.Id)).map (·.Door)=l:=by simp
 rw [e0] at L;exact L
theorem ZqK (l:List Str) (ex:Bool) (hl:l.length≤1000000) (h:Hp):fnV rE 164 [.isl false ex 1 (l.map encS)] h=some (.sl h.length l.length 0 l.length false,h++[.row 1 (l.map encS)]):=by
 have hble:Nat.ble l.length 1000000=true:=Zv3 hl;have hfit:(l.map encS).all (fits 1)=true:=by rw [Zvj,ZuJ];intro x _;rfl
 rw [V8 (s:=J9) rfl];simp only [J9,Q2,Qq,hfit,Zuv,hble,beq_self_eq_true,ZuD,ZuO,cond_true]
end Go.AM
namespace Go.AM
open Go
theorem c140_eq:c140=.seq s140p0 (.seq s140p1 (.seq s140p2 (.seq s140p3 (.seq s140p4 (.seq s140p5 (.seq s140p6 (.seq s140p7 .ret))))))):=rfl
def owG (s:Sta) (e:Event) (k:Nat) (b:Bool):Fr:=bif b then [(2,.iptr false [ldI s]),(3,evI e),(5,.ptr 1 0 0 1),(6,.ptr 3 0 0 1)] else [(2,.iptr false [ldI s]),(3,evI e),(5,.ptr 1 0 0 1),(6,.ptr 3 0 0 1),(k,.bool false)]
def ow1 (e:Event) (l:List Str):List Str:=l++bif kOf [9,12] e then [e.Id] else []
def ow2 (e:Event) (l:List Str):List Str:=l++bif kOf [7] e then [e.Other] else []
def ow3 (e:Event) (l:List Str):List Str:=l++bif kOf [8] e then e.Lst.l.map (·.Id) else []
def ow4 (s:Sta) (e:Event) (l:List Str):List Str:=l++bif kOf [12] e then (s.Units.filter (fun u=>Z3 u.Id e.Id)).map (·.Door) else []
theorem ZpW (s:Sta) (e:Event):Zor s e=ow4 s e (ow3 e (ow2 e (ow1 e e.Ids.l))):=rfl
theorem ZqL (s:Sta) (e:Event) (l:List Str) (b:Bool) (hl:l.length≤100000):Zb rE s140p3 (owG s e 0 b) (owH e l)=some (.normal,owG s e 17 (kOf [9,12] e),owH e (ow1 e l)):=by
 have hbl:=Zot s;have hbe:=ZoU e;have hS:∀ (D:List Str) n,Zd n (D.map encS)=true:=fun D n=>ZN _ (Zw (fun t=>rfl) _)
 have hk:=ZoJ e [9,12] false (by decide)
 simp only [ZuH,ZuE] at hk;unfold ow1;cases c:kOf [9,12] e with
 | false=>
  rw [c] at hk;rw [cond_false,Zuy];cases b<;>simp only [go_sem,qy,qq,qv,qk,s140p3,owG,cond_true,cond_false,owH,hk,hbe,hS]
 | true=>
  rw [c] at hk;rw [cond_true];have ha:=Zpd e l e.Id (by omega) []
  have hl1:(l++[e.Id]).length=l.length+1:=by simp
  unfold owH at ha ⊢;rw [hl1];simp only [Zuy] at ha;cases b<;>simp only [go_sem,qy,qq,qv,qk,s140p3,owG,cond_true,cond_false,hk,ha,hbe,hS]
theorem ZqM (s:Sta) (e:Event) (l:List Str) (b:Bool) (hl:l.length≤100000):Zb rE s140p4 (owG s e 17 b) (owH e l)=some (.normal,owG s e 25 (kOf [7] e),owH e (ow2 e l)):=by
 have hbl:=Zot s;have hbe:=ZoU e;have hS:∀ (D:List Str) n,Zd n (D.map encS)=true:=fun D n=>ZN _ (Zw (fun t=>rfl) _)
 have hk:=ZoJ e [7] false (by decide)
 simp only [ZuH,ZuE] at hk;unfold ow2;cases c:kOf [7] e with
 | false=>
  rw [c] at hk;rw [cond_false,Zuy];cases b<;>simp only [go_sem,qy,qq,qv,qk,s140p4,owG,cond_true,cond_false,owH,hk,hbe,hS]
 | true=>
  rw [c] at hk;rw [cond_true];have ha:=Zpd e l e.Other (by omega) []
  have hl1:(l++[e.Other]).length=l.length+1:=by simp
  unfold owH at ha ⊢;rw [hl1];simp only [Zuy] at ha;cases b<;>simp only [go_sem,qy,qq,qv,qk,s140p4,owG,cond_true,cond_false,hk,ha,hbe,hS]
theorem ZqN (s:Sta) (e:Event) (l:List Str) (b:Bool) (hl:l.length+e.Lst.l.length≤100000):Zb rE s140p5 (owG s e 25 b) (owH e l)=some (.normal,owG s e 33 (kOf [8] e),owH e (ow3 e l)):=by
 have hbl:=Zot s;have hbe:=ZoU e;have hS:∀ (D:List Str) n,Zd n (D.map encS)=true:=fun D n=>ZN _ (Zw (fun t=>rfl) _)
 have hE:∀ n,Zd n (e.Lst.l.map Ent.enc)=true:=fun n=>ZN _ (Zw (fun t=>rfl) _)
 have hk:=ZoJ e [8] false (by decide)
 simp only [ZuH,ZuE] at hk;unfold ow3;cases c:kOf [8] e with
 | false=>
  rw [c] at hk;rw [cond_false,Zuy];cases b<;>simp only [go_sem,qy,qq,qv,qk,s140p5,owG,cond_true,cond_false,owH,hk,hbe,hS]
 | true=>
  rw [c] at hk;rw [cond_true];have hL:=ZqI s e l hl;generalize l++e.Lst.l.map (·.Id)=D at *;unfold owH at hL ⊢;cases b<;>simp only [go_sem,qy,qq,qv,qk,s140p5,c140L0,owG,cond_true,cond_false,hk,hL,hbe,hS]
theorem ZqO (s:Sta) (e:Event) (l:List Str) (b:Bool) (hl:l.length+s.Units.length≤100000):Zb rE s140p6 (owG s e 33 b) (owH e l)=some (.normal,owG s e 49 (kOf [12] e),owH e (ow4 s e l)):=by
 have hbl:=Zot s;have hbe:=ZoU e;have hS:∀ (D:List Str) n,Zd n (D.map encS)=true:=fun D n=>ZN _ (Zw (fun t=>rfl) _)
 have hE:∀ n,Zd n (s.Units.map Unit'.enc)=true:=fun n=>ZN _ (Zw (fun t=>rfl) _)
 have hk:=ZoJ e [12] false (by decide)
 simp only [ZuH,ZuE] at hk;unfold ow4;cases c:kOf [12] e with
 | false=>
  rw [c] at hk;rw [cond_false,Zuy];cases b<;>simp only [go_sem,qy,qq,qv,qk,s140p6,owG,cond_true,cond_false,owH,hk,hbe,hS]
 | true=>
  rw [c] at hk;rw [cond_true];have hL:=ZqJ s e l hl;generalize l++(s.Units.filter (fun u=>Z3 u.Id e.Id)).map (·.Door)=D at *
  unfold owH at hL ⊢;cases b<;>simp only [go_sem,qy,qq,qv,qk,s140p6,c140L1,owG,cond_true,cond_false,hk,hL,hbe,hS]
theorem ZqP (s:Sta) (e:Event) (hl:e.Ids.l.length≤1000000):Zb rE s140p2 [(2,.iptr false [ldI s]),(3,evI e),(5,.ptr 1 0 0 1)] [.row 1 [I 0],.row 1 [.clo (.func 244) [] [evI e]]]=some (.normal,owG s e 0 true,owH e e.Ids.l):=by
 have hC:=ZqK e.Ids.l e.Ids.ex hl [.row 1 [I 0],.row 1 [.clo (.func 244) [] [evI e]]];have hbl:=Zot s;have hbe:=ZoU e;have hS:∀ (D:List Str) n,Zd n (D.map encS)=true:=fun D n=>ZN _ (Zw (fun t=>rfl) _)
 unfold owH owG;simp only [go_sem,qy,qq,qv,s140p2,cond_true,hC,hbe]
theorem ZpX (s:Sta) (e:Event) (h1:e.Ids.l.length≤1000) (h2:e.Lst.l.length≤1000) (h3:s.Units.length≤1000):(ow1 e e.Ids.l).length≤1001∧(ow2 e (ow1 e e.Ids.l)).length≤1002∧(ow3 e (ow2 e (ow1 e e.Ids.l))).length≤2002∧(Zor s e).length≤3002:=by
 have a1:(ow1 e e.Ids.l).length≤1001:=by
  unfold ow1;cases kOf [9,12] e<;>simp<;>omega
 have a2:(ow2 e (ow1 e e.Ids.l)).length≤1002:=by
  unfold ow2;cases kOf [7] e<;>simp<;>omega
 have a3:(ow3 e (ow2 e (ow1 e e.Ids.l))).length≤2002:=by
  rw [ow3];cases kOf [8] e<;>simp<;>omega
 refine ⟨a1,a2,a3,?_⟩;rw [ZpW,ow4];have:=ZvG (fun u:Unit'=>Z3 u.Id e.Id) s.Units
 cases kOf [12] e<;>simp<;>omega
theorem ZqQ (s:Sta) (e:Event) (h1:e.Ids.l.length≤1000) (h2:e.Lst.l.length≤1000) (h3:s.Units.length≤1000):fnV rE 140 [ldI s,evA e] [.row 1 [I 0]]=some (.clo (.func 245) [] [.iptr false [ldI s],.ptr 1 0 0 1,evI e,.ptr 3 0 0 1],owH e (Zor s e)):=by
 obtain ⟨a1,a2,a3,a4⟩:=ZpX s e h1 h2 h3;have q2:=ZqP s e (by omega)
 have q3:=ZqL s e e.Ids.l true (by omega)
 have q4:=ZqM s e (ow1 e e.Ids.l) (kOf [9,12] e) (by omega)
 have q5:=ZqN s e (ow2 e (ow1 e e.Ids.l)) (kOf [7] e) (by omega)
 have q6:=ZqO s e (ow3 e (ow2 e (ow1 e e.Ids.l))) (kOf [8] e) (by omega)
 rw [←ZpW] at q6;have hbl:=Zot s;have hcl:=Zow s;have hbe:=ZoU e;have hS:∀ (D:List Str) n,Zd n (D.map encS)=true:=fun D n=>ZN _ (Zw (fun t=>rfl) _)
 have q0:Zb rE s140p0 [(0,ldI s),(1,evA e)] [.row 1 [I 0]]=some (.normal,[(2,.iptr false [ldI s]),(3,evI e)],[.row 1 [I 0]]):=by
  simp only [go_sem,qy,qq,s140p0,hcl,hbe]
 have q1:Zb rE s140p1 [(2,.iptr false [ldI s]),(3,evI e)] [.row 1 [I 0]]=some (.normal,[(2,.iptr false [ldI s]),(3,evI e),(5,.ptr 1 0 0 1)],[.row 1 [I 0],.row 1 [.clo (.func 244) [] [evI e]]]):=by
  simp only [go_sem,qy,qq,qv,s140p1,hbe]
 generalize Zor s e=D at *;have q7:∀ b,∃ fr,Zb rE s140p7 (owG s e 49 b) (owH e D)=some (.normal,fr,owH e D)∧get fr 4=.clo (.func 245) [] [.iptr false [ldI s],.ptr 1 0 0 1,evI e,.ptr 3 0 0 1]:=by
  intro b;cases b
  ·exact ⟨_,by simp only [go_sem,qy,s140p7,owG,owH,cond_true,cond_false]<;>rfl,rfl⟩
  ·exact ⟨_,by simp only [go_sem,qy,s140p7,owG,owH,cond_true,cond_false]<;>rfl,rfl⟩
 obtain ⟨fr,q7,g7⟩:=q7 (kOf [12] e);rw [Q6 (f:=140) rfl rfl,c140_eq];simp only [go_sem,qq,q0,q1,q2,q3,q4,q5,q6,q7,g7]
end Go.AM
namespace Go.AM
open Go
theorem ClS.str {s:Sta} (h:ClS s) {x:Street} (hx:x∈s.Streets):0≤x.Owner∧x.Owner≤63:=by
 have:=h.prop.st x hx;unfold Vp at this;simp only [Zuu] at this;exact Zpa this.1
theorem ClS.bld {s:Sta} (h:ClS s) {x:Building} (hx:x∈s.Buildings):0≤x.Owner∧x.Owner≤63:=by
 have:=h.prop.bu x hx;unfold Vq at this;simp only [Zuu] at this;exact Zpa this.1
theorem ClS.dor {s:Sta} (h:ClS s) {x:Door} (hx:x∈s.Doors):0≤x.Owner∧x.Owner≤63:=by
 obtain ⟨i,hi⟩:=List.getElem?_of_mem hx;have:=h.prop.dr i x hi;unfold Vr at this;simp only [Zuu] at this;exact Zpa this.1
theorem ZqR (s:Sta) (e:Event) (a m:Int) (h:RqS s e m):
 rf rE (.clo (.func 245) [] [.iptr false [ldI s],.ptr 1 0 0 1,evI e,.ptr 3 0 0 1]) [13] c72R0a c72R0b (ZoA s e a m) (owH e (Zor s e))=bif Zpb s e m
  then some (.normal,ZoA s e a m,thX s e a m 0 .exhausted .normal (Zor s e)) else some (.ret,ZoA s e a m,thX s e a m 18 .exhausted .ret (Zor s e)):=by
 have hz:=h.c.E.sizes;have hd:=(ZpX s e (by have:=h.ev.ids;omega) (by have:=h.ev.lst;omega) hz.units).2.2.2
 obtain ⟨f1,h1,L1,A1,B1⟩:=ZqE s e a m h hz.regions (fun x hx=>(h.c.reg hx).1)
 obtain ⟨f2,h2,L2,A2,B2⟩:=ZqF s e a m h hz.streets (fun x hx=>(h.c.str hx).1)
 obtain ⟨f3,h3,L3,A3,B3⟩:=ZqG s e a m h hz.buildings (fun x hx=>(h.c.bld hx).1)
 obtain ⟨f4,h4,L4,A4,B4⟩:=ZqH s e a m h hz.doors (fun x hx=>(h.c.dor hx).1) (by omega)
 have hbl:=Zot s;have hcl:=Zow s;obtain ⟨hf4,hf5⟩:=ZoI s e a m;have hS:∀ n,Zd n ((Zor s e).map encS)=true:=fun n=>ZN _ (Zw (fun t=>rfl) _)
 unfold Zpb;rw [Z1k (c:=c245) rfl];cases c1:s.Regions.all (fun x=>!ZoQ e x||Zou s m x.Owner) with
 | false=>
  have e1:=B1 c1;subst e1;rw [c1] at L1;simp only [thX,ZuF,if_false] at L1;rw [ZuC,cond_false];simp only [go_sem,qy,qq,c245,c245L0,owH,thX,ZuB,Zuz,L1,hf4,hS];rfl
 | true=>
 obtain ⟨e1,e1'⟩:=A1 c1;subst e1;subst e1';rw [c1] at L1;simp only [thX,if_true] at L1;cases c2:s.Streets.all (fun x=>!ZoR e x||Zou s m x.Owner) with
 | false=>
  have e1:=B2 c2;subst e1;rw [c2] at L2;simp only [thX,ZuF,if_false] at L2;rw [Zux,ZuC,cond_false];simp only [go_sem,qy,qq,c245,c245L0,c245L1,owH,thX,ZuB,Zuz,L1,L2,hf4,hS];rfl
 | true=>
 obtain ⟨e1,e1'⟩:=A2 c2;subst e1;subst e1';rw [c2] at L2;simp only [thX,if_true] at L2;cases c3:s.Buildings.all (fun x=>!ZoS e x||Zou s m x.Owner) with
 | false=>
  have e1:=B3 c3;subst e1;rw [c3] at L3;simp only [thX,ZuF,if_false] at L3;rw [Zux,Zux,ZuC,cond_false];simp only [go_sem,qy,qq,c245,c245L0,c245L1,c245L2,owH,thX,ZuB,Zuz,L1,L2,L3,hf4,hS];rfl
 | true=>
 obtain ⟨e1,e1'⟩:=A3 c3;subst e1;subst e1';rw [c3] at L3;simp only [thX,if_true] at L3;cases c4:s.Doors.all (fun x=>!ZoT (Zor s e) x||Zou s m x.Owner) with
 | false=>
  have e1:=B4 c4;subst e1;rw [c4] at L4;simp only [thX,ZuF,if_false] at L4;rw [Zux,Zux,Zux,cond_false];simp only [go_sem,qy,qq,c245,c245L0,c245L1,c245L2,c245L3,owH,thX,ZuB,Zuz,L1,L2,L3,L4,hf4,hS];rfl
 | true=>
 obtain ⟨e1,e1'⟩:=A4 c4;subst e1;subst e1';rw [c4] at L4;simp only [thX,if_true] at L4;rw [Zux,Zux,Zux,cond_true];simp only [go_sem,qy,qq,c245,c245L0,c245L1,c245L2,c245L3,owH,thX,ZuB,Zuz,L1,L2,L3,L4,hf4,hS];rfl
theorem ZqS (s:Sta) (e:Event) (a m:Int) (h:RqS s e m):pfn rE 72 [rqI s e a m]=some (I (Zp6 s e m)):=by
 have hrf:=ZqR s e a m h;have hO:=ZqQ s e (by have:=h.ev.ids;omega) (by have:=h.ev.lst;omega) h.c.E.sizes.units
 have hcl:=Zow s;have hbl:=Zot s;have hS:∀ n,Zd n ((Zor s e).map encS)=true:=fun n=>ZN _ (Zw (fun t=>rfl) _)
 obtain ⟨hf4,hf5⟩:=ZoI s e a m;generalize Zor s e=D at *;unfold Zp6;rw [Z5 (f:=72) rfl rfl];unfold owH at hrf hO;cases c:Zpb s e m with
 | true=>
  rw [c,cond_true] at hrf;simp only [ZoA] at hrf;simp only [go_sem,qy,qq,qv,qk,c72,hO,Sr,hrf,hS,thX,ZoA]
 | false=>
  rw [c,cond_false] at hrf;simp only [ZoA] at hrf;simp only [go_sem,qy,qq,qv,qk,c72,hO,Sr,hrf,hS,thX,ZoA]
end Go.AM
namespace Go.AM
open Go
def Zpe (s:Sta) (a b:Int):Bool:=(Jx s&&(Zoz a&&Zoz b))&&ZoW s (Zoq s a) (Zoq s b)
theorem Zpf {a:Int} (h:Zoz a=true):0≤a∧a≤63:=by
 unfold Zoz at h;simpa using h
theorem ZqT (s:Sta) (hE:StE s) (a b:Int):pfn rE 26 [stA s,I a,I b]=some (.bool (Zpe s a b)):=by
 have hO:=Zp7 s hE;have hA:=Zp8 a;have hB:=Zp8 b;have hcl:=Zow s;unfold Zpe;rw [Z5 (f:=26) rfl rfl];cases c:Jx s with
 | false=>
  rw [c] at hO;simp only [go_sem,qy,qq,qk,c26,hO,ZuC]
 | true=>
 rw [c] at hO;cases c1:Zoz a with
 | false=>
  rw [c1] at hA;simp only [go_sem,qy,qq,qk,c26,hO,hA,ZuC,Zv4]
 | true=>
 rw [c1] at hA;cases c2:Zoz b with
 | false=>
  rw [c2] at hB;simp only [go_sem,qy,qq,qk,c26,hO,hA,hB,ZuC,Zv4]
 | true=>
 rw [c2] at hB;have h:ClS s:=⟨hE,c⟩;have m1:=h.mst (Zpf c1).1;have m2:=h.mst (Zpf c2).1;have hP:=ZpL s (Zoq s a) (Zoq s b) hE.sizes.rulings (ZpQ h);simp only [go_sem,qy,qq,qk,c26,hO,hA,hB,m1,m2,hP,Zux,ZuO]
def cvV:List (Nat×Int)→Int
 | []=>0
 | x::l=>bif x.2==0 then cvV l else x.2
abbrev cvF (R:AV) (L:List (Nat×Int)) (i:Nat):Fr:=[(46,.isl false false 1 (L.map fun x=>.clo (.func x.1) [R] [])),(47,I L.length),(48,I i)]
theorem ZpY (R:AV) (hc:clean R=true) (L:List (Nat×Int)) (hl:L.length≤1000) (hp:∀ x∈L,pfn rE x.1 [R]=some (I x.2)):∀ (k i:Nat),i+k=L.length→
 ∃ fr',Zg rE [46,47,48] c28L0b (cvF R L i) []=some (bif cvV (L.drop i)==0 then .exit 0 else .ret,fr',[])∧(cvV (L.drop i)≠0→get fr' 6=I (cvV (L.drop i)))
 | 0,i,hk=>by
  have hi:i=L.length:=by omega
  subst hi;refine ⟨_,Q7 rfl (e:=.exit 0) (by simp only [go_sem,qy,reduceIte,c28L0b,ZG]<;>rfl) (by simp) |>.trans (by rw [List.drop_length];rfl),?_⟩
  rw [List.drop_length];exact fun h=>absurd rfl h
 | k+1,i,hk=>by
  obtain ⟨x,hx⟩:∃ x,L[i]? = some x:=⟨_,ZuA (by omega)⟩
  have hg:=Z6 (f:=fun x:Nat×Int=>AV.clo (.func x.1) [R] []) hx
  have hi':=Zh (Z7 hx);have hwr:=Zx (n:=i) (by have:=Z7 hx;omega)
  have hy:=hp x (ZuK hx);have hd:L.drop i=x::L.drop (i+1):=by
   have h1:=Zv8 (Z7 hx);rw [h1];congr 1;have:=ZuA (Z7 hx);rw [this] at hx;exact Option.some.inj hx
  rw [hd,cvV];cases c:x.2==0 with
  | true=>
   have hn:(x.2 != 0)=false:=by rw [bne,c];rfl
   obtain ⟨fr',h1,h2⟩:=ZpY R hc L hl hp k (i+1) (by omega)
   refine ⟨fr',?_,h2⟩;rw [cond_true,Yt rfl (fr':=(6,.bot)::cvF R L (i+1)) (h':=[]) (by
    simp only [go_sem,qy,reduceIte,c28L0b,hg,hi',hwr,hy,hn,hc])]
   exact h1
  | false=>
   have hn:(x.2 != 0)=true:=by rw [bne,c];rfl
   rw [cond_false,c,cond_false];refine ⟨_,Q7 rfl (e:=.ret) (fr':=[(6,I x.2),(46,.isl false false 1 (L.map fun x=>.clo (.func x.1) [R] [])),(47,I L.length),(48,I i)]) (by
    simp only [go_sem,qy,reduceIte,c28L0b,hg,hi',hy,hn,hc]) (by simp),fun _=>rfl⟩
def ZoN (s:Sta) (a:Int) (e:Event):Int:=bif !Jx s||(!Zoz a||!Q9 e) then 1 else
 cvV [(71,Zp0 s e a (Zoq s a)),(72,Zp6 s e (Zoq s a)),(73,Zp5 s e (Zoq s a)),(74,Zp1 s e a (Zoq s a))]
theorem Zpq (s:Sta) (hE:StE s) (a:Int) (e:Event) (hv:EvS e):pfn rE 28 [stA s,I a,evA e]=some (I (ZoN s a e)):=by
 have hO:=Zp7 s hE;have hA:=Zp8 a;have hF:=NH e hv;have hcl:=Zow s;have hbl:=Zot s;unfold ZoN;rw [Z5 (f:=28) rfl rfl];cases c:Jx s with
 | false=>
  rw [c] at hO;simp only [go_sem,qy,qq,qk,c28,hO,ZuQ,ZuD]
 | true=>
 rw [c] at hO;cases c1:Zoz a with
 | false=>
  rw [c1] at hA;simp only [go_sem,qy,qq,qk,c28,hO,hA,ZuQ,ZuD,ZuG,ZuM]
 | true=>
 rw [c1] at hA;cases c2:Q9 e with
 | false=>
  rw [c2] at hF;simp only [go_sem,qy,qq,qk,c28,hO,hA,hF,ZuQ,ZuG,ZuM]
 | true=>
 rw [c2] at hF;have h:ClS s:=⟨hE,c⟩;have m1:=h.mst (Zpf c1).1;have hr:0≤Zoq s a∧Zoq s a≤63:=ZpH h.prop.pa (Zpf c1);have hq:RqS s e (Zoq s a):=⟨h,hv,c2,hr⟩;generalize Zoq s a=m at *;have hR:clean (rqI s e a m)=true:=by simp only [go_sem]
 obtain ⟨fr',L1,L2⟩:=ZpY (rqI s e a m) hR [(71,Zp0 s e a m),(72,Zp6 s e m),(73,Zp5 s e m),(74,Zp1 s e a m)] (by simp) (by
  intro x hx;simp only [Zvu,List.not_mem_nil,or_false] at hx;rcases hx with rfl | rfl | rfl | rfl
  ·exact Zqw s e a m hq
  ·exact ZqS s e a m hq
  ·exact Zqy s e a m hq
  ·exact ZqD s e a m hq) 4 0 rfl
 rw [Zv1] at L1 L2;generalize cvV [(71,Zp0 s e a m),(72,Zp6 s e m),(73,Zp5 s e m),(74,Zp1 s e a m)]=v at *;have hbR:∀ n,bel n (rqI s e a m)=true:=fun n=>by
  have:=ZN (n:=n) [rqI s e a m] (by simp only [Z4,hR,ZuO])
  simpa only [Zd,ZuO] using this
 replace L1:Zg rE [46,47,48] c28L0b [(46,.isl false false 1 [.clo (.func 71) [rqI s e a m] [],.clo (.func 72) [rqI s e a m] [],.clo (.func 73) [rqI s e a m] [],.clo (.func 74) [rqI s e a m] []]),(47,.int .i64 ((4:Nat):Int)),(48,.int .i64 0)] []=some (bif v==0 then .exit 0 else .ret,fr',[]):=L1
 cases c3:v==0 with
 | true=>
  have hv0:v=0:=by simpa using c3
  subst hv0;rw [c3,cond_true] at L1;simp only [go_sem,qy,qq,qv,qk,c28,c28L0,hO,hA,hF,m1,hcl,L1,ZuG,ZuM]
 | false=>
  have hv0:v≠0:=by simpa using c3
  have g:=L2 hv0;rw [c3,cond_false] at L1;simp only [go_sem,qy,qq,qv,qk,c28,c28L0,hO,hA,hF,m1,hcl,L1,g,ZuG,ZuM]
end Go.AM
namespace Go.AM
open Go
def Zpg (s:Sta) (p:Pt):List Int:=bif Jx s&&gOn p then ZoH s p else []
def Zph (s:Sta) (p:Pt):Int:=bif Jx s&&gOn p then 0 else 1
theorem ZqU (s:Sta) (hE:StE s) (p:Pt):pfn rE 21 [stA s,.agg [I p.X,I p.Y]]=some (.tup [.isl false false 1 ((Zpg s p).map I),I (Zph s p)]):=by
 have hO:=Zp7 s hE;have hG:=W8 p;have hcl:=Zow s;have hC:Z4 ((ZoH s p).map I)=true:=Zw (fun t=>rfl) _
 unfold Zpg Zph;rw [Z5 (f:=21) rfl rfl];cases c:Jx s with
 | false=>
  rw [c] at hO;simp only [go_sem,qy,qq,qk,c21,hO,ZuC,cond_false,ZuE]
 | true=>
 rw [c] at hO;cases c1:gOn p with
 | false=>
  rw [c1] at hG;simp only [go_sem,qy,qq,qk,c21,hO,hG,Zv4,cond_false,ZuE]
 | true=>
 rw [c1] at hG;have hK:=ZpO s ⟨hE,c⟩ p;simp only [go_sem,qy,qq,qk,c21,hO,hG,hK,ZuO,cond_true]
theorem ZqV (s:Sta) (e:Event):pfn rE 20 [stA s,evA e]=some (.bool (YQ s&&Xn e)):=by
 have h1:=Z4F s;have h2:=Z4z e;rw [Z5 (f:=20) rfl rfl];cases c:YQ s with
 | false=>
  rw [c] at h1;simp only [go_sem,qy,qq,qk,c20,h1,ZuC]
 | true=>
  rw [c] at h1;simp only [go_sem,qy,qq,qk,c20,h1,h2,Zux]
theorem ZpZ (l:List Int) (hl:l.length≤1000):pfn rE 25 [.isl false false 1 (l.map I),.isl false false 1 (l.map I)]=some (.bool true):=by
 have L:=Y8 (E:=rE) (live:=[0,1,5]) (b:=c25L0b) l.length (fun i=>[(0,.isl false false 1 (l.map I)),(1,.isl false false 1 (l.map I)),(5,I i)]) (fun _=>[]) (fun i=>rfl)
  (fun i hi=>by
   obtain ⟨x,hx⟩:∃ x,l[i]? = some x:=⟨_,ZuA hi⟩;have hg:=Z6 (f:=I) hx;have hi':=Zh hi;have hwr:=Zx (n:=i) (by omega)
   have hn:(x != x)=false:=by simp
   refine ⟨_,by simp only [go_sem,qy,reduceIte,c25L0b,hg,hi',hwr,hn];rfl,?_⟩
   simp only [go_sem,qy])
  (e:=.exit 0) (by simp only [go_sem,qy,reduceIte,c25L0b,ZG];rfl) (by simp)
 have L':Zg rE [0,1,5] c25L0b [(0,.isl false false 1 (l.map I)),(1,.isl false false 1 (l.map I)),(5,.int .i64 0)] []=_:=L;have hn:((l.length:Int) != (l.length:Int))=false:=by simp
 rw [Z5 (f:=25) rfl rfl];simp only [go_sem,qy,qq,reduceIte,c25,c25L0,hn,L']
theorem Zq0 (a b:Int):pfn rE 131 [I a,I b]=some (.isl false false 2 ([⟨a,0⟩,⟨b,0⟩,⟨b,9⟩,⟨a,9⟩].map Pt.enc)):=by
 rw [Z5 (f:=131) rfl rfl];simp only [go_sem,qy,qq,qv,qk,c131,ZuH,ZuE,Pt.enc]
def exS:Sta:=⟨[⟨B [97],1,1,⟨false,[⟨0,0⟩,⟨9,0⟩,⟨9,9⟩,⟨0,9⟩]⟩,⟨false,[]⟩,-1⟩,⟨B [98],1,2,⟨false,[⟨5,0⟩,⟨15,0⟩,⟨15,9⟩,⟨5,9⟩]⟩,⟨false,[]⟩,-1⟩],
 [⟨B [115],1,⟨false,[⟨0,0⟩,⟨9,0⟩]⟩,⟨false,[]⟩,-1⟩],[],[],[],[],[]⟩
theorem ZqW:pfn rE 56 []=some (stA exS):=by
 have h1:=Zq0 0 9;have h2:=Zq0 5 15;simp only [ZuH,ZuE,Pt.enc] at h1 h2;rw [Z5 (f:=56) rfl rfl];simp only [go_sem,qy,qq,qv,qk,c56,h1,h2,stA,exS,ZuH,ZuE,Region.enc,Street.enc,NL.enc,Pt.enc]
def ZoK (n:Int):Event:={ zEv with Kind:=5,Id:=B [104,111,117,115,101],Path:=⟨false,[⟨n,1⟩,⟨n+1,1⟩,⟨n,2⟩]⟩ }
theorem Zpr (n:Int) (hn:0≤n∧n≤100):pfn rE 57 [I n]=some (evA (ZoK n)):=by
 have hw:IntKind.i64.wrap (n+1)=n+1:=YM (by omega) (by omega)
 rw [Z5 (f:=57) rfl rfl];simp only [go_sem,qy,qq,qv,qk,reduceIte,c57,hw,evA,ZoK,zEv,ZuH,ZuE,Pt.enc]
end Go.AM
namespace Go.AM
open Go
def exE:Event:={ zEv with Kind:=12,Id:=B [115] }
def exG:Event:={ zEv with Kind:=14,A:=2,B:=1 }
def exH:Event:={ zEv with Kind:=15,Id:=B [104],Text:=B [120] }
def exU:Sta:={ exS with Rulings:=[⟨2,1⟩] }
def exM:Sta:={ exS with Merged:=[⟨1,2⟩],Rulings:=[⟨2,1⟩] }
theorem ckA (s:Sta) (a:Int) (e:Event) (c:Int) (h:(YQ s&&(Xn e&&ZoN s a e==c))=true):pfn rE 28 [stA s,I a,evA e]=some (I c):=by
 simp only [Zuu] at h;obtain ⟨h1,h2,h3⟩:=h;rw [Zpq s (Kl s h1).e a e (JL e h2)];have:ZoN s a e=c:=by simpa using h3
 rw [this]
theorem cmA (s:Sta) (p:Pt) (l:List Int) (h:(YQ s&&(Zph s p==0&&Zpg s p==l))=true):pfn rE 21 [stA s,.agg [I p.X,I p.Y]]=some (.tup [.isl false false 1 (l.map I),I 0]):=by
 simp only [Zuu] at h;obtain ⟨h1,h2,h3⟩:=h;rw [ZqU s (Kl s h1).e p];have q1:Zph s p=0:=by simpa using h2
 have q2:Zpg s p=l:=by simpa using h3
 rw [q1,q2]
theorem pvA (s:Sta) (a b:Int) (c:Bool) (h:(YQ s&&Zpe s a b==c)=true):pfn rE 26 [stA s,I a,I b]=some (.bool c):=by
 simp only [Zuu] at h;obtain ⟨h1,h2⟩:=h;rw [ZqT s (Kl s h1).e a b];have:Zpe s a b=c:=by simpa using h2
 rw [this]
theorem owA (s:Sta) (a c:Int) (h:(YQ s&&(bif Jx s&&Zoz a then Zoq s a else -1)==c)=true):pfn rE 23 [stA s,I a]=some (I c):=by
 simp only [Zuu] at h;obtain ⟨h1,h2⟩:=h;rw [Zpp s (Kl s h1).e a];have:=eq_of_beq h2;rw [this]
theorem ZqX:pfn rE 21 [stA exS,.agg [I 6,I 1]]=some (.tup [.isl false false 1 ([1,2].map I),I 0]):=cmA exS ⟨6,1⟩ _ (by decide +kernel)
theorem ZqY:pfn rE 21 [stA exS,.agg [I 20,I 1]]=some (.tup [.isl false false 1 (([]:List Int).map I),I 0]):=cmA exS ⟨20,1⟩ _ (by decide +kernel)
theorem ZqZ:pfn rE 21 [stA exM,.agg [I 6,I 1]]=some (.tup [.isl false false 1 ([1].map I),I 0]):=cmA exM ⟨6,1⟩ _ (by decide +kernel)
theorem ck1:pfn rE 28 [stA exS,I 1,evA (ZoK 1)]=some (I 0):=ckA _ _ _ _ (by decide +kernel)
theorem ck2:pfn rE 28 [stA exS,I 1,evA (ZoK 6)]=some (I 19):=ckA _ _ _ _ (by decide +kernel)
theorem ck3:pfn rE 28 [stA exS,I 1,evA (ZoK 12)]=some (I 18):=ckA _ _ _ _ (by decide +kernel)
theorem ck4:pfn rE 28 [stA exS,I 2,evA exE]=some (I 18):=ckA _ _ _ _ (by decide +kernel)
theorem ck5:pfn rE 28 [stA exS,I 1,evA exE]=some (I 0):=ckA _ _ _ _ (by decide +kernel)
theorem ck6:pfn rE 28 [stA exS,I 3,evA exH]=some (I 18):=ckA _ _ _ _ (by decide +kernel)
theorem ck7:pfn rE 28 [stA exS,I 0,evA exG]=some (I 0):=ckA _ _ _ _ (by decide +kernel)
theorem ck8:pfn rE 28 [stA exS,I 1,evA exG]=some (I 18):=ckA _ _ _ _ (by decide +kernel)
theorem ck9:pfn rE 28 [stA exU,I 2,evA (ZoK 6)]=some (I 0):=ckA _ _ _ _ (by decide +kernel)
theorem ckX:pfn rE 28 [stA exU,I 1,evA (ZoK 6)]=some (I 19):=ckA _ _ _ _ (by decide +kernel)
theorem ckY:pfn rE 28 [stA exM,I 2,evA exE]=some (I 0):=ckA _ _ _ _ (by decide +kernel)
theorem pv1:pfn rE 26 [stA exU,I 2,I 1]=some (.bool true):=pvA _ _ _ _ (by decide +kernel)
theorem pv2:pfn rE 26 [stA exU,I 1,I 2]=some (.bool false):=pvA _ _ _ _ (by decide +kernel)
theorem ow9:pfn rE 23 [stA exM,I 2]=some (I 1):=owA _ _ _ (by decide +kernel)
theorem Zr0:pfn rE 19 []=some (.bool true):=by
 have a1:=ZqX;have a2:=ZqY;have a3:=ZqZ;have b1:=ck1;have b2:=ck2;have b3:=ck3;have b4:=ck4;have b5:=ck5;have b6:=ck6;have b7:=ck7;have b8:=ck8;have b9:=ck9;have bX:=ckX;have bY:=ckY;have p1:=pv1;have p2:=pv2;have o9:=ow9;have e0:=ZqW;have d1:=Zpr 1 (by decide)
 have d6:=Zpr 6 (by decide)
 have d12:=Zpr 12 (by decide)
 have i2:=ZpZ [1,2] (by decide)
 have i1:=ZpZ [1] (by decide)
 generalize ZoK 1=B1 at *;generalize ZoK 6=B6 at *;generalize ZoK 12=B12 at *;have eR:exU=⟨exS.Regions,exS.Streets,exS.Buildings,exS.Doors,exS.Units,exS.Merged,[⟨2,1⟩]⟩:=rfl;have eM:exM=⟨exS.Regions,exS.Streets,exS.Buildings,exS.Doors,exS.Units,[⟨1,2⟩],[⟨2,1⟩]⟩:=rfl;rw [eR] at b9 bX p1 p2;rw [eM] at a3 bY o9;clear eR eM;generalize exS=S at *;simp only [exE,exG,exH,zEv,evA,stA,Pair.enc,ZuH,ZuE] at a1 a2 a3 b1 b2 b3 b4 b5 b6 b7 b8 b9 bX bY p1 p2 o9 e0 d1 d6 d12 i2 i1;have y0:((0:Int)==0)=true:=rfl;have y1:((1:Int)==1)=true:=rfl;have y18:((18:Int)==18)=true:=rfl;have y19:((19:Int)==19)=true:=rfl;have yl:(((0:Nat):Int)==0)=true:=rfl;rw [Z5 (f:=19) rfl rfl];simp only [go_sem,qy,qq,qx,qz,qv,qk,reduceIte,c19,a1,a2,a3,b1,b2,b3,b4,b5,b6,b7,b8,b9,bX,bY,p1,p2,o9,e0,d1,d6,d12,i2,i1,y0,y1,y18,y19,yl]
end Go.AM
namespace Go.AM
open Go
end Go.AM
namespace Go.AM
open Go
end Go.AM
namespace Go.AM
open Go
theorem Zsb {s:Sta} (h:ClS s) {o:Int} (ho:0≤o∧o≤63):pfn rE 23 [stA s,I o]=some (I (Zoq s o)):=by
 have hk:Zoz o=true:=by unfold Zoz;simp;omega
 rw [Zpp s h.E o,h.pr,hk];rfl
end Go.AM
namespace Go.AM
open Go
def ZsS (s:Sta) (a b:Int):Sta:={ s with Rulings:=s.Rulings++[⟨a,b⟩] }
def ZsT (a b:Int):Event:={ zEv with Kind:=14,A:=a,B:=b }
theorem Zt2:∀ a b:Fin 64,Q9 (ZsT (a.val:Int) (b.val:Int))=((a.val:Int) != (b.val:Int)):=by decide +kernel
theorem Zt3 {a b:Int} (ha:0≤a∧a < 64) (hb:0≤b∧b < 64):Q9 (ZsT a b)=(a != b):=by
 have h:=Zt2 ⟨a.toNat,by omega⟩ ⟨b.toNat,by omega⟩
 have h1:((a.toNat:Nat):Int)=a:=by omega
 have h2:((b.toNat:Nat):Int)=b:=by omega
 rw [h1,h2] at h;exact h
theorem Zt4 {s:Sta} {a b:Int} (hp:Jx s=true) (ha:0≤a∧a < 64) (hb:0≤b∧b < 64):Qk s 0 (ZsT a b)=(bif a != b then 0 else 1)∧((a != b)=true→ZP s 0 (ZsT a b)=ZsS s a b):=by
 have h1:okB s 0 (ZsT a b)=(a != b):=by
  unfold okB;rw [hp,Zt3 ha hb];rfl
 have h2:Q1 (wk0 s 0 (ZsT a b))=0:=rfl;have h3:(stepW (wk0 s 0 (ZsT a b))).s=ZsS s a b:=rfl;have h4:Wh (ZsS s a b).Doors=true:=((Zdb s).1 hp).2;unfold Qk ZP;rw [h1,h2,h3,h4];constructor
 ·cases a != b<;>rfl
 ·intro h;rw [h];rfl
end Go.AM
namespace Go.AM
open Go
theorem ZsZ (s:Sta):Z4 [stA s]=true:=by
 have h1:Z4 (s.Regions.map Region.enc)=true:=Zw (fun t=>rfl) _
 have h2:Z4 (s.Streets.map Street.enc)=true:=Zw (fun t=>rfl) _
 have h3:Z4 (s.Buildings.map Building.enc)=true:=Zw (fun t=>rfl) _
 have h4:Z4 (s.Doors.map Door.enc)=true:=Zw (fun t=>rfl) _
 have h5:Z4 (s.Units.map Unit'.enc)=true:=Zw (fun t=>rfl) _
 have h6:Z4 (s.Merged.map Pair.enc)=true:=Zw (fun t=>rfl) _
 have h7:Z4 (s.Rulings.map Pair.enc)=true:=Zw (fun t=>rfl) _
 simp only [go_sem]
theorem ZsW (x:Int) (hx:0≤x∧x≤255):IntKind.i64.wrap x=x∧x.tmod 64=x % 64∧(0≤x % 64∧x % 64 < 64):=
 ⟨YM (by omega) (by omega),Int.tmod_eq_emod_of_nonneg hx.1,⟨Int.emod_nonneg _ (by decide),Int.emod_lt_of_pos _ (by decide)⟩⟩
end Go.AM
namespace Go.AM
open Go
theorem ZtI {l:List Pt} (h:Vh l=true):∀ p∈l,gOn p=true:=by
 intro p hp;unfold Vh at h;simp only [Zuu,ZuV] at h;have h1:=Zvk.1 h.2.2.1 p hp;unfold Jf at h1;simpa using h1
theorem ZtV {l:List Pt} (h:Ul l=true):∀ p∈l,gOn p=true:=by
 intro p hp;unfold Ul at h;rw [Zuu] at h;obtain ⟨i,hi⟩:=List.getElem?_of_mem hp;have h1:=Zda.1 h.1 i p hi;unfold VX at h1;rw [Zuu] at h1;exact h1.1
theorem ZtW {e:Event} (h:Q9 e=true):∀ p∈ZoM e,gOn p=true:=by
 have hn:=ZcV h;intro p hp;unfold ZoM at hp;rw [h,ZuG,cond_false] at hp;cases c1:e.Kind==1 with
 | true=>
  rw [c1,ZuD,cond_true] at hp;rw [ZcW (k:=1) (by simpa using c1)] at hn
  have hn':(ZZ e.Id&&(ZD e.A 1 3&&Vh e.Path.l))=true:=hn;simp only [Zuu] at hn';exact ZtI hn'.2.2 p (Zvg hp)
 | false=>
 cases c2:e.Kind==2 with
 | true=>
  rw [c2,ZuD,ZuN,cond_true] at hp;rw [ZcW (k:=2) (by simpa using c2)] at hn
  have hn':(ZZ e.Id&&Ul e.Path.l)=true:=hn;rw [Zuu] at hn';exact ZtV hn'.2 p (Zvg hp)
 | false=>
 cases c5:e.Kind==5 with
 | true=>
  rw [c5,ZuN,ZuN,cond_true] at hp;rw [ZcW (k:=5) (by simpa using c5)] at hn
  have hn':(ZZ e.Id&&Vh e.Path.l)=true:=hn;rw [Zuu] at hn';exact ZtI hn'.2 p (Zvg hp)
 | false=>
 rw [c1,c2,c5,ZuM,ZuM,cond_false] at hp;cases c6:e.Kind==6 with
 | true=>
  rw [c6,ZuD,cond_true,Zvr] at hp;rw [ZcW (k:=6) (by simpa using c6)] at hn
  have hn':(Qv [e.Id,e.Other,e.Text]&&(YO e.Number&&gOn e.Point))=true:=hn;simp only [Zuu] at hn';rw [hp];exact hn'.2.2
 | false=>
 cases c10:e.Kind==10 with
 | true=>
  rw [c10,ZuN,cond_true,Zvr] at hp;rw [ZcW (k:=10) (by simpa using c10)] at hn
  have hn':(ZD e.Ids.l.length 2 8&&(Qv (e.Id::e.Ids.l)&&(YO e.Number&&gOn e.Point)))=true:=hn;simp only [Zuu] at hn';rw [hp];exact hn'.2.2.2
 | false=>
 rw [c6,c10,ZuM,cond_false] at hp;cases c9:e.Kind==9 with
 | true=>
  rw [c9,cond_true] at hp;obtain ⟨x,hx,rfl⟩:=Zvl.1 hp;rw [ZcW (k:=9) (by simpa using c9)] at hn
  have hn':(ZD e.Lst.l.length 2 8&&(Xi e.Lst.l [e.Id]&&Vk e.Lst.l false))=true:=hn;simp only [Zuu] at hn';have h1:=hn'.2.2;unfold Vk at h1;rw [ZuV] at h1;have h2:=Zvk.1 h1 x hx;unfold Ux at h2;simpa using h2
 | false=>
  rw [c9,cond_false] at hp;cases hp
def ZtA (s:Sta) (L:List Pair):Sta:={ s with Rulings:=s.Rulings++L }
theorem ZtJ (s:Sta):ZtA s []=s:=by
 unfold ZtA;rw [Zuy]
theorem ZtX (s:Sta) (L:List Pair) (a b:Int):ZsS (ZtA s L) a b=ZtA s (L++[⟨a,b⟩]):=by
 show ({ s with Rulings:=(s.Rulings++L)++[_] }:Sta)={ s with Rulings:=s.Rulings++(L++[_]) }
 rw [ZuX]
theorem ZtK (m:Int→Int) (a b:Int):∀ (l r:List Pair),ZoE m a b (l++r)=match ZoE m a b l with | some x=>some x | none=>ZoE m a b r
 | [],r=>rfl
 | p::l,r=>by
  have ih:=ZtK m a b l r;generalize hR:ZoE m a b r=R at *;show (bif m p.a==a&&m p.b==b then some (a != b) else bif m p.a==b&&m p.b==a then some false else ZoE m a b (l++r))=match (bif m p.a==a&&m p.b==b then some (a != b) else bif m p.a==b&&m p.b==a then some false else ZoE m a b l) with | some x=>some x | none=>R
  cases m p.a==a&&m p.b==b with
  | true=>rfl
  | false=>
   cases m p.a==b&&m p.b==a with
   | true=>rfl
   | false=>exact ih
theorem ZtL {m:Int→Int} {M c:Int} (hM:M≠c):∀ (l:List Pair),(∀ p∈l,m p.a=M∧m p.b≠M)→(∃ p∈l,m p.b=c)→ZoE m M c l=some true
 | [],_,h=>by obtain ⟨p,hp,_⟩:=h;cases hp
 | p::l,h1,h2=>by
  obtain ⟨q1,q2⟩:=h1 p (Zvb ..);unfold ZoE;by_cases hc:m p.b=c
  ·have:(m p.a==M&&m p.b==c)=true:=by rw [q1,hc];simp
   rw [this,cond_true];simp [hM]
  ·have e1:(m p.a==M&&m p.b==c)=false:=by
    rw [q1];simp [hc]
   have e2:(m p.a==c&&m p.b==M)=false:=by
    simp [q2]
   rw [e1,e2,cond_false,cond_false];refine ZtL hM l (fun x hx=>h1 x (Zvm _ hx)) ?_
   obtain ⟨x,hx,hxc⟩:=h2;rcases Zvu.1 hx with rfl | hx
   ·exact absurd hxc hc
   ·exact ⟨x,hx,hxc⟩
theorem ZtY {s:Sta} {L:List Pair} {M c:Int} (hM:M≠c) (h1:∀ p∈L,Zoq s p.a=M∧Zoq s p.b≠M) (h2:∃ p∈L,Zoq s p.b=c):ZoW (ZtA s L) M c=true:=by
 have h:ZoE (Zoq s) M c (ZtA s L).Rulings.reverse=some true:=by
  show ZoE (Zoq s) M c (s.Rulings++L).reverse=_
  rw [List.reverse_append,ZtK,ZtL hM L.reverse (fun p hp=>h1 p (List.mem_reverse.1 hp)) (by obtain ⟨p,hp,hc⟩:=h2;exact ⟨p,List.mem_reverse.2 hp,hc⟩)]
 show (ZoE (Zoq s) M c (ZtA s L).Rulings.reverse).getD false=true
 rw [h];rfl
end Go.AM
namespace Go.AM
open Go
theorem ZtM (s:Sta) (p:Pt):∀ (l:List Region) (K:List Int),(l.foldl (ZoF s p) K).length≤K.length+l.length
 | [],K=>ZuU _
 | x::r,K=>by
  rw [Zvf,Zv0];refine Nat.le_trans (ZtM s p r _) ?_;have:(ZoF s p K x).length≤K.length+1:=by
   unfold ZoF Qi;cases ZoG x&&decide (ZoY x.Ring.l p ≥ 0) with
   | false=>exact Zvn _
   | true=>
    rw [cond_true];cases K.any (Vm (Zoq s x.Owner)) with
    | true=>exact Zvn _
    | false=>rw [cond_false,ZuR];exact ZuU _
  omega
theorem ZtN (s:Sta) (p:Pt):(ZoH s p).length≤s.Regions.length:=by
 unfold ZoH;rw [(Zp3 _).length_eq];have:=ZtM s p s.Regions [];rw [ZuY,Zv2] at this;exact this
theorem ZtO {s:Sta} (h:ClS s) (p:Pt):∀ (l:List Region) (K:List Int),(∀ x∈l,x∈s.Regions)→(∀ z∈K,(0≤z∧z≤63)∧Zoq s z=z)→∀ z∈l.foldl (ZoF s p) K,(0≤z∧z≤63)∧Zoq s z=z
 | [],K,_,hK=>hK
 | x::r,K,hl,hK=>by
  rw [Zvf];refine ZtO h p r _ (fun y hy=>hl y (Zvm _ hy)) (fun z hz=>?_)
  unfold ZoF at hz;cases c:ZoG x&&decide (ZoY x.Ring.l p ≥ 0) with
  | false=>rw [c] at hz;exact hK z hz
  | true=>
   rw [c,cond_true] at hz;unfold Qi at hz;cases d:K.any (Vm (Zoq s x.Owner)) with
   | true=>rw [d] at hz;exact hK z hz
   | false=>
    rw [d,cond_false,Zvv,Zvr] at hz;rcases hz with hz | rfl
    ·exact hK z hz
    ·have ho:=h.reg (hl x (Zvb ..));exact ⟨ZpH h.prop.pa ho,Zsk h.prop.pa ho.1⟩
theorem ZtC {s:Sta} (h:ClS s) (p:Pt):∀ z∈ZoH s p,(0≤z∧z≤63)∧Zoq s z=z:=by
 intro z hz;unfold ZoH at hz;exact ZtO h p s.Regions [] (fun x hx=>hx) (fun z hz=>by cases hz) z ((Zp3 _).mem_iff.1 hz)
theorem ZtZ {s:Sta} {a b:Int} (hp:Jx s=true) (ha:0≤a∧a < 64) (hb:0≤b∧b < 64) (hne:(a != b)=true):Jx (ZsS s a b)=true:=by
 have hn:Wh s.Doors=true:=((Zdb s).1 hp).2;rw [Zdb];exact ⟨Zel (s:=s) (a:=0) (e:=ZsT a b) ((Zdb s).1 hp).1 (by rw [Zt3 ha hb];exact hne) rfl,hn⟩
def okP (p:Pair):Prop:=(0≤p.a∧p.a < 64)∧(0≤p.b∧p.b < 64)∧(p.a != p.b)=true
theorem Zu0 (s:Sta) (p:Pair) (L:List Pair):ZtA s (p::L)=ZtA (ZsS s p.a p.b) L:=by
 show ({ s with Rulings:=s.Rulings++p::L }:Sta)={ s with Rulings:=(s.Rulings++[_])++L }
 rw [ZuX];rfl
theorem ZtD:∀ (L:List Pair) (s:Sta),Jx s=true→(∀ p∈L,okP p)→Jx (ZtA s L)=true
 | [],s,hp,_=>by rw [ZtJ];exact hp
 | p::L,s,hp,h=>by
  obtain ⟨h1,h2,h3⟩:=h p (Zvb ..);rw [Zu0];exact ZtD L _ (ZtZ hp h1 h2 h3) (fun q hq=>h q (Zvm _ hq))
theorem ZtF {s:Sta} (h:YQ s=true):s.Rulings.length≤10∧s.Regions.length≤8:=by
 simp only [YQ,M3,Zuu,ZuV] at h;have h0:=of_decide_eq_false h.1.1;have h1:=h.1;simp only [decide_eq_false_iff_not] at h1;omega
theorem ZtG {s:Sta} (hf:YQ s=true) (L:List Pair) (hl:L.length≤400):StF (ZtA s L):=by
 have hs:=Kl s hf;have hr:=(ZtF hf).1;have hx:(ZtA s L).Rulings.length≤500:=by
  show (s.Rulings++L).length≤500
  rw [ZuR];omega
 exact ⟨⟨⟨hs.e.sizes.regions,hs.e.sizes.streets,hs.e.sizes.buildings,hs.e.sizes.doors,hs.e.sizes.units,hs.e.sizes.merged,by omega⟩,hs.e.regions,hs.e.streets,hs.e.buildings,hs.e.doors,hs.e.units⟩,hs.regions,hs.streets,hs.buildings,hs.doors,hs.units,hs.merged,hx⟩
end Go.AM
namespace Go.AM
open Go
def stL (a m:Int) (K:List Int):List Pair:=(K.filter (fun z=>z != m)).map (fun z=>⟨a,z⟩)
theorem Zu1 {a m:Int} {K:List Int} {i:Nat} {z:Int} (hz:K[i]? = some z):stL a m (K.take (i+1))=stL a m (K.take i)++bif z==m then [] else [⟨a,z⟩]:=by
 unfold stL;rw [Zv5,hz,List.filter_append,ZuI];congr 1;show ([z].filter _).map _=_
 cases h:z==m<;>simp [bne,h]
abbrev seF (e:Event) (a:Int) (P:List Pt) (K:List Int) (n k i:Nat):Fr:=[(3,.ptr 0 0 0 1),(5,evI e),(7,.bool true),(8,I a),(9,.isl false false 2 (P.map Pt.enc)),(10,I n),(11,I k),(12,.isl false false 1 (K.map I)),(14,I i)]
abbrev seX (e:Event) (a:Int) (P:List Pt) (K:List Int) (n k i:Nat):Fr:=[(3,.ptr 0 0 0 1),(5,evI e),(6,.bot),(7,.bool true),(8,I a),(9,.isl false false 2 (P.map Pt.enc)),(10,I n),(11,I k),(12,.isl false false 1 (K.map I)),(14,I i)]
theorem ZtP {s:Sta} {a:Int} (ha:0≤a∧a < 64) {K:List Int} (hK:∀ z∈K,(0≤z∧z≤63)∧Zoq s z=z):∀ p∈stL a (Zoq s a) K,okP p:=by
 intro p hp;unfold stL at hp;obtain ⟨z,hz,rfl⟩:=Zvl.1 hp;obtain ⟨h1,h2⟩:=Zvw.1 hz;obtain ⟨h3,h4⟩:=hK z h1;refine ⟨ha,⟨h3.1,by show z < 64;omega⟩,?_⟩
 show (a != z)=true
 have:a≠z:=by
  intro hc;subst hc;rw [h4] at h2;simp at h2
 simpa using this
theorem ZtQ (a m:Int) (K:List Int):(stL a m K).length≤K.length:=by
 unfold stL;rw [Zuv];exact ZvG _ _
theorem Zu2 (s:Sta) (e:Event) (a:Int) (hf:YQ s=true) (hp:Jx s=true) (ha:0≤a∧a < 64) (P:List Pt) (K:List Int) (hK:∀ z∈K,(0≤z∧z≤63)∧Zoq s z=z) (L:List Pair) (hL:∀ p∈L,okP p)
 (hl:L.length+K.length≤400) (n k:Nat) (hn:n≤1000):
 Zg rE [3,5,7,8,9,10,11,12,14] c18L0b (seF e a P K n k 0) [.row 7 [stA (ZtA s L)]] =
  some (.exit 2,seX e a P K (n+(stL a (Zoq s a) K).length) k K.length,[.row 7 [stA (ZtA s (L++stL a (Zoq s a) K))]]):=by
 have H:=Y8 (E:=rE) (live:=[3,5,7,8,9,10,11,12,14]) (b:=c18L0b) K.length (fun i=>seF e a P K (n+(stL a (Zoq s a) (K.take i)).length) k i)
  (fun i=>[.row 7 [stA (ZtA s (L++stL a (Zoq s a) (K.take i)))]]) (fun i=>rfl)
  (fun i hi=>by
   obtain ⟨z,hz⟩:∃ z,K[i]? = some z:=⟨_,ZuA hi⟩;have hg:=Z6 (f:=I) hz;have hi':=Zh hi;have hwr:=Zx (n:=i) (by omega)
   obtain ⟨rz,mz⟩:=hK z (ZuK hz);have h1:=ZtQ a (Zoq s a) (K.take i);rw [ZuZ] at h1;have hM:∀ p∈L++stL a (Zoq s a) (K.take i),okP p:=by
    intro p hp;rcases Zvv.1 hp with hp | hp
    ·exact hL p hp
    ·exact ZtP ha (fun z hz=>hK z (Zvg hz)) p hp
   have hml:(L++stL a (Zoq s a) (K.take i)).length≤400:=by rw [ZuR];omega
   have hS:=ZtG hf _ hml;have hpr:=ZtD _ s hp hM;have hC:ClS (ZtA s (L++stL a (Zoq s a) (K.take i))):=⟨hS.e,hpr⟩;have hO:=Zsb hC (o:=a) (by omega)
   have hmm:Zoq (ZtA s (L++stL a (Zoq s a) (K.take i))) a=Zoq s a:=rfl;rw [hmm] at hO;rw [Zu1 hz,←ZuX];generalize hN:(stL a (Zoq s a) (K.take i)).length=N at *;generalize L++stL a (Zoq s a) (K.take i)=M at *;cases c:z==Zoq s a with
   | true=>
    rw [cond_true,Zuy,Zuy,hN];generalize ZtA s M=S at *;refine ⟨_,by simp only [go_sem,qy,qq,qx,qz,qv,qk,reduceIte,c18L0b,seF,hg,hi',hwr,hO,c]<;>rfl,rfl⟩
   | false=>
    have hne:(a != z)=true:=by
     have:a≠z:=fun hc=>by rw [←hc] at mz c;rw [mz] at c;simp at c
     simpa using this
    have hq:Xn zEv=true:=by decide +kernel
    have hY:=JJ _ hS 0 (ZsT a z) (by have q:=JL zEv hq;exact ⟨q.ids,q.names,q.path,q.lst,q.id,q.other,q.text⟩)
    obtain ⟨k1,k2⟩:=Zt4 (s:=ZtA s M) (a:=a) (b:=z) hpr ha (by omega)
    rw [k1,k2 hne,hne,cond_true,ZtX] at hY;simp only [ZsT,evA,zEv,ZuE] at hY;have n0:((0:Int) != 0)=false:=rfl;have hw2:=Zx (n:=n+N) (by omega)
    rw [cond_false,ZuR,hN];generalize ZtA s (M++[⟨a,z⟩])=S' at *;generalize ZtA s M=S at *;refine ⟨_,by simp only [go_sem,qy,qq,qx,qz,qv,qk,reduceIte,c18L0b,seF,hg,hi',hwr,hO,c,hY,n0,hw2]<;>rfl,rfl⟩)
  (e:=.exit 2) (fr:=seX e a P K (n+(stL a (Zoq s a) K).length) k K.length) (h:=[.row 7 [stA (ZtA s (L++stL a (Zoq s a) K))]]) (by
   rw [ZuP];simp only [go_sem,qy,qq,qx,qz,qv,qk,reduceIte,c18L0b,seF,seX,ZG]) (by simp)
 have e0:stL a (Zoq s a) (K.take 0)=[]:=by unfold stL;simp
 rw [e0,Zuy] at H;exact H
end Go.AM
namespace Go.AM
open Go
def Ztz (s:Sta) (a:Int) (P:List Pt):List Pair:=P.flatMap (fun p=>stL a (Zoq s a) (ZoH s p))
theorem Zu3 {s:Sta} {a:Int} {P:List Pt} {i:Nat} {p:Pt} (hp:P[i]? = some p):Ztz s a (P.take (i+1))=Ztz s a (P.take i)++stL a (Zoq s a) (ZoH s p):=by
 unfold Ztz;rw [Zv5,hp,List.flatMap_append];congr 1;show [p].flatMap _=_
 simp
theorem ZtH (s:Sta) (a:Int):∀ P:List Pt,(Ztz s a P).length≤P.length * s.Regions.length
 | []=>by simp [Ztz]
 | p::P=>by
  have ih:=ZtH s a P;have h1:=ZtQ a (Zoq s a) (ZoH s p);have h2:=ZtN s p;unfold Ztz at ih ⊢;rw [List.flatMap_cons,ZuR,Zv0,Nat.succ_mul];omega
theorem ZtR {s:Sta} {a:Int} (h:ClS s) (ha:0≤a∧a < 64) (P:List Pt):∀ q∈Ztz s a P,okP q:=by
 intro q hq;unfold Ztz at hq;obtain ⟨p,_,hq⟩:=Zvx.1 hq;exact ZtP ha (ZtC h p) q hq
abbrev soF (e:Event) (a:Int) (P:List Pt) (n k:Nat):Fr:=[(3,.ptr 0 0 0 1),(5,evI e),(7,.bool true),(8,I a),(9,.isl false false 2 (P.map Pt.enc)),(10,I n),(11,I k)]
theorem Zu4 (s:Sta) (e:Event) (a:Int) (hf:YQ s=true) (hp:Jx s=true) (ha:0≤a∧a < 64) (P:List Pt) (hP:P.length≤10) (hon:∀ p∈P,gOn p=true):
 Zg rE [3,5,7,8,9,10,11] c18L1b (soF e a P 0 0) [.row 7 [stA s]]=some (.exit 0,[(3,.ptr 0 0 0 1),(5,evI e),(6,.bot),(7,.bool true),(8,I a),(9,.isl false false 2 (P.map Pt.enc)),(10,I (Ztz s a P).length),(11,I P.length)],[.row 7 [stA (ZtA s (Ztz s a P))]]):=by
 have hs:=Kl s hf;have h:ClS s:=⟨hs.e,hp⟩;have h8:=(ZtF hf).2;have bound:∀ Q:List Pt,Q.length≤10→(Ztz s a Q).length≤80:=by
  intro Q hQ;have:=ZtH s a Q;have:Q.length * s.Regions.length≤10 * 8:=Nat.mul_le_mul hQ h8;omega
 have H:=Y8 (E:=rE) (live:=[3,5,7,8,9,10,11]) (b:=c18L1b) P.length (fun i=>soF e a P (Ztz s a (P.take i)).length i)
  (fun i=>[.row 7 [stA (ZtA s (Ztz s a (P.take i)))]]) (fun i=>rfl)
  (fun i hi=>by
   obtain ⟨p,hp'⟩:∃ p,P[i]? = some p:=⟨_,ZuA hi⟩;have hg:=Z6 (f:=Pt.enc) hp';have hi':=Zh hi;have hwr:=Zx (n:=i) (by omega)
   have hb:=bound (P.take i) (by rw [ZuZ];omega)
   have hM:=ZtR h ha (P.take i);have hS:=ZtG hf _ (by omega:(Ztz s a (P.take i)).length≤400)
   have hpr:=ZtD _ s hp hM;have hC:=ZqU (ZtA s (Ztz s a (P.take i))) hS.e p;have e1:Zpg (ZtA s (Ztz s a (P.take i))) p=ZoH s p:=by
    unfold Zpg;rw [hpr,hon p (ZuK hp')];rfl
   have e2:Zph (ZtA s (Ztz s a (P.take i))) p=0:=by
    unfold Zph;rw [hpr,hon p (ZuK hp')];rfl
   rw [e1,e2] at hC;have hcl:=ZtN s p;have hI:=Zu2 s e a hf hp ha P (ZoH s p) (ZtC h p) _ hM (by omega) (Ztz s a (P.take i)).length i (by omega)
   have n0:((0:Int) != 0)=false:=rfl;rw [Zu3 hp',ZuR];generalize Ztz s a (P.take i)=M at *;generalize ZtA s (M++stL a (Zoq s a) (ZoH s p))=S' at *;generalize ZtA s M=S at *;generalize ZoH s p=K at *;have hI':Zg rE [3,5,7,8,9,10,11,12,14] c18L0b [(3,.ptr 0 0 0 1),(5,evI e),(7,.bool true),(8,I a),(9,.isl false false 2 (P.map Pt.enc)),(10,I M.length),(11,I i),(12,.isl false false 1 (K.map I)),(14,.int .i64 0)] [.row 7 [stA S]]=_:=hI;refine ⟨_,by simp only [go_sem,qy,qq,qx,qz,qv,qk,reduceIte,c18L1b,c18L0,soF,seX,hg,hi',hwr,hC,n0,hI',Pt.enc]<;>rfl,rfl⟩)
  (e:=.exit 0) (fr:=[(3,.ptr 0 0 0 1),(5,evI e),(6,.bot),(7,.bool true),(8,I a),(9,.isl false false 2 (P.map Pt.enc)),(10,I (Ztz s a P).length),(11,I P.length)]) (h:=[.row 7 [stA (ZtA s (Ztz s a P))]]) (by
   rw [ZuP];simp only [go_sem,qy,qq,qx,qz,qv,qk,reduceIte,c18L1b,soF,ZG]) (by simp)
 have e0:Ztz s a (P.take 0)=[]:=by unfold Ztz;simp
 rw [e0,ZtJ] at H;exact H
end Go.AM
namespace Go.AM
open Go
theorem ZtS {s:Sta} {m:Int}:∀ {P:List Pt},plE s m P=19→∃ p∈P,∃ c∈ZoH s p,(c != m)=true
 | [],h=>by cases h
 | p::r,h=>by
  unfold plE at h;cases c1:(ZoH s p).any (fun x=>m==x) with
  | false=>rw [c1] at h;cases h
  | true=>
   rw [c1,ZuG,cond_false] at h;cases c2:(ZoH s p).any (fun c=>c != m&&!ZoW s m c) with
   | true=>
    obtain ⟨c,hc,hcc⟩:=List.any_eq_true.1 c2;rw [Zuu] at hcc;exact ⟨p,Zvb ..,c,hc,hcc.1⟩
   | false=>
    rw [c2,cond_false] at h;obtain ⟨q,hq,c,hc,hcc⟩:=ZtS h;exact ⟨q,Zvm _ hq,c,hc,hcc⟩
theorem ZtT {s:Sta} {m:Int}:∀ {P:List Pt},(∀ p∈P,∀ c∈ZoH s p,(c != m)=true→ZoW s m c=true)→plE s m P=0∨plE s m P=18
 | [],_=>Or.inl rfl
 | p::r,h=>by
  have h2:(ZoH s p).any (fun c=>c != m&&!ZoW s m c)=false:=by
   rw [Zvk];intro c hc hcc;rw [Zuu,ZuV] at hcc;rw [h p (Zvb ..) c hc hcc.1] at hcc;cases hcc.2
  unfold plE;rw [h2,cond_false];cases (ZoH s p).any (fun x=>m==x) with
  | false=>exact Or.inr rfl
  | true=>exact ZtT (fun q hq=>h q (Zvm _ hq))
theorem settled {s:Sta} {a:Int} {e:Event} (h0:ClS s) (hp:Jx s=true) (ha:0≤a∧a < 64) (h:ZoN s a e=19):
 Q9 e=true∧0 < (Ztz s a (ZoM e)).length∧(ZoN (ZtA s (Ztz s a (ZoM e))) a e=0∨ZoN (ZtA s (Ztz s a (ZoM e))) a e=18):=by
 unfold ZoN at h;have hf:Q9 e=true:=by
  cases c:Q9 e with
  | true=>rfl
  | false=>
   rw [c] at h;simp at h
 have hau:Zoz a=true:=by unfold Zoz;simp;omega
 rw [hp,hau,hf] at h
 replace h:cvV [(71,Zp0 s e a (Zoq s a)),(72,Zp6 s e (Zoq s a)),(73,Zp5 s e (Zoq s a)),(74,Zp1 s e a (Zoq s a))]=19:=h
 have o1:Zp0 s e a (Zoq s a)=0:=by
  unfold cvV at h;unfold Zp0 at h ⊢;cases c:(e.Kind==14&&a != 0)||(e.Kind==13&&Zoq s e.B != Zoq s a) with
  | false=>rfl
  | true=>rw [c] at h;cases h
 have o2:Zp6 s e (Zoq s a)=0:=by
  unfold cvV at h;rw [o1] at h;unfold cvV at h;unfold Zp6 at h ⊢;cases c:Zpb s e (Zoq s a) with
  | true=>rfl
  | false=>rw [c] at h;cases h
 have o3:Zp5 s e (Zoq s a)=0:=by
  unfold cvV at h;rw [o1] at h;unfold cvV at h;rw [o2] at h;unfold cvV at h;unfold Zp5 at h ⊢;cases c:e.Kind==15&&!s.Regions.any (fun x=>ZoG x&&Zoq s x.Owner==Zoq s a) with
  | false=>rfl
  | true=>rw [c] at h;cases h
 have o4:Zp1 s e a (Zoq s a)=19:=by
  rw [o1,o2,o3] at h
  replace h:(bif Zp1 s e a (Zoq s a)==0 then 0 else Zp1 s e a (Zoq s a))=19:=h
  cases c:Zp1 s e a (Zoq s a)==0 with
  | true=>rw [c] at h;cases h
  | false=>rw [c] at h;exact h
 have pl:Zp1 s e a (Zoq s a)=plE s (Zoq s a) (ZoM e):=by
  unfold Zp1 at o4 ⊢;cases c1:e.Kind==1 with
  | false=>rfl
  | true=>
   rw [c1,cond_true] at o4;rw [cond_true];cases c2:s.Regions.any (fun x=>Z3 x.Id e.Id) with
   | true=>rw [c2] at o4;cases o4
   | false=>
    rw [c2,cond_false] at o4;rw [cond_false];cases c3:e.A==1&&a==0 with
    | true=>rw [c3] at o4;cases o4
    | false=>
     rw [c3,cond_false] at o4;rw [cond_false];cases c4:e.A==1 with
     | true=>rw [c4] at o4;cases o4
     | false=>rfl
 have plT:Zp1 (ZtA s (Ztz s a (ZoM e))) e a (Zoq s a)=plE (ZtA s (Ztz s a (ZoM e))) (Zoq s a) (ZoM e):=by
  unfold Zp1 at o4 ⊢;have hR:(ZtA s (Ztz s a (ZoM e))).Regions=s.Regions:=rfl;rw [hR];cases c1:e.Kind==1 with
  | false=>rfl
  | true=>
   rw [c1,cond_true] at o4;rw [cond_true];cases c2:s.Regions.any (fun x=>Z3 x.Id e.Id) with
   | true=>rw [c2] at o4;cases o4
   | false=>
    rw [c2,cond_false] at o4;rw [cond_false];cases c3:e.A==1&&a==0 with
    | true=>rw [c3] at o4;cases o4
    | false=>
     rw [c3,cond_false] at o4;rw [cond_false];cases c4:e.A==1 with
     | true=>rw [c4] at o4;cases o4
     | false=>rfl
 rw [pl] at o4;refine ⟨hf,?_,?_⟩
 ·obtain ⟨p,hpp,c,hc,hcc⟩:=ZtS o4;have:(⟨a,c⟩:Pair)∈Ztz s a (ZoM e):=by
   unfold Ztz;exact Zvx.2 ⟨p,hpp,Zvl.2 ⟨c,Zvw.2 ⟨hc,hcc⟩,rfl⟩⟩
  exact List.length_pos_of_mem this
 ·have hm:∀ q∈Ztz s a (ZoM e),Zoq s q.a=Zoq s a∧Zoq s q.b≠Zoq s a:=by
   intro q hq;unfold Ztz at hq;obtain ⟨p,_,hq⟩:=Zvx.1 hq;obtain ⟨z,hz,rfl⟩:=Zvl.1 hq;obtain ⟨z1,z2⟩:=Zvw.1 hz;refine ⟨rfl,?_⟩;show Zoq s z≠_
   rw [(ZtC h0 p z z1).2];simpa using z2
  have key:=ZtT (s:=ZtA s (Ztz s a (ZoM e))) (m:=Zoq s a) (P:=ZoM e) (fun p hpp c hc hcc=>by
   have hc':c∈ZoH s p:=hc;refine ZtY (fun he=>?_) hm ⟨⟨a,c⟩,?_,(ZtC h0 p c hc').2⟩
   ·rw [he] at hcc;simp at hcc
   ·unfold Ztz;exact Zvx.2 ⟨p,hpp,Zvl.2 ⟨c,Zvw.2 ⟨hc',hcc⟩,rfl⟩⟩)
  rw [←plT] at key;have hTp:=ZtD (Ztz s a (ZoM e)) s hp (ZtR h0 ha _);have e1:Zp0 (ZtA s (Ztz s a (ZoM e))) e a (Zoq (ZtA s (Ztz s a (ZoM e))) a)=0:=o1;have e2:Zp6 (ZtA s (Ztz s a (ZoM e))) e (Zoq (ZtA s (Ztz s a (ZoM e))) a)=0:=o2;have e3:Zp5 (ZtA s (Ztz s a (ZoM e))) e (Zoq (ZtA s (Ztz s a (ZoM e))) a)=0:=o3;have e4:Zp1 (ZtA s (Ztz s a (ZoM e))) e a (Zoq (ZtA s (Ztz s a (ZoM e))) a)=Zp1 (ZtA s (Ztz s a (ZoM e))) e a (Zoq s a):=rfl;unfold ZoN;rw [hTp,hau,hf,e1,e2,e3,e4];rcases key with k | k<;>rw [k]
  ·exact Or.inl rfl
  ·exact Or.inr rfl
end Go.AM
namespace Go.AM
open Go
theorem ZtU {e:Event} (h:Q9 e=true):(ZoM e).length≤10:=by
 have hn:=ZcV h;unfold ZoM;rw [h,ZuG,cond_false];cases e.Kind==1||(e.Kind==2||e.Kind==5) with
 | true=>rw [cond_true,ZuZ];omega
 | false=>
 rw [cond_false];cases e.Kind==6||e.Kind==10 with
 | true=>rw [cond_true];simp
 | false=>
 rw [cond_false];cases c9:e.Kind==9 with
 | false=>rw [cond_false];simp
 | true=>
  rw [ZcW (k:=9) (by simpa using c9)] at hn
  have hn':(ZD e.Lst.l.length 2 8&&(Xi e.Lst.l [e.Id]&&Vk e.Lst.l false))=true:=hn;unfold ZD at hn';simp only [Zuu,decide_eq_true_eq] at hn';rw [cond_true,Zuv];omega
theorem Zu5 (s:Sta) (x:Int) (hx:0≤x∧x≤255) (e:Event):pfn rE 18 [stA s,.int .u8 x,evA e]=some (.bool true):=by
 have hH:=Zr0;have hF:=ZqV s e;obtain ⟨wx,mx,rx⟩:=ZsW x hx;have z64:((64:Int)=0)=False:=by simp
 have hq:∀ (t:Sta) n,Zj n (.row 7 [stA t])=true:=fun t n=>ZN (n:=n) [stA t] (ZsZ t)
 simp only [stA] at hq;rw [Z5 (f:=18) rfl rfl];generalize ga:x % 64=a at *;cases c:YQ s&&Xn e with
 | false=>
  rw [c] at hF;simp only [go_sem,qy,qq,qx,qz,qv,qk,reduceIte,c18,hH,hF,wx,mx,z64,if_false,hq]
 | true=>
 rw [c] at hF;rw [Zuu] at c;have hs:=Kl s c.1;have he:=JL e c.2;have hC:=Zpq s hs.e a e he;cases c1:ZoN s a e != 19 with
 | true=>simp only [go_sem,qy,qq,qx,qz,qv,qk,reduceIte,c18,hH,hF,wx,mx,z64,if_false,hC,c1,hq]
 | false=>
 have h19:ZoN s a e=19:=by simpa using c1
 have hp:Jx s=true:=by
  cases c2:Jx s with
  | true=>rfl
  | false=>
   unfold ZoN at h19;rw [c2] at h19;cases h19
 have h:ClS s:=⟨hs.e,hp⟩;obtain ⟨hf,hpos,hfin⟩:=settled h hp rx h19;have hP:=Zqv e he;have L:=Zu4 s e a c.1 hp rx (ZoM e) (ZtU hf) (ZtW hf);have hlen:(Ztz s a (ZoM e)).length≤400:=by
  have h1:=ZtH s a (ZoM e);have h2:(ZoM e).length * s.Regions.length≤10 * 8:=Nat.mul_le_mul (ZtU hf) (ZtF c.1).2;omega
 have hC2:=Zpq _ (ZtG c.1 _ hlen).e a e he;have hg:decide (((Ztz s a (ZoM e)).length:Int) > 0)=true:=decide_eq_true (by omega)
 generalize (Ztz s a (ZoM e)).length=N at *;generalize ZtA s (Ztz s a (ZoM e))=t at *;have L':Zg rE [3,5,7,8,9,10,11] c18L1b [(3,.ptr 0 0 0 1),(5,evI e),(7,.bool true),(8,I a),(9,.isl false false 2 ((ZoM e).map Pt.enc)),(10,.int .i64 0),(11,.int .i64 0)] [.row 7 [stA s]]=_:=L;rw [h19] at hC;have n19:((19:Int) != 19)=false:=rfl;have y0:((0:Int)==0)=true:=rfl;have y1:((18:Int)==18)=true:=rfl;have y2:((18:Int)==0)=false:=rfl;rcases hfin with k | k<;>rw [k] at hC2<;>
  simp only [go_sem,qy,qq,qx,qz,qv,qk,reduceIte,c18,c18L1,hH,hF,wx,mx,z64,if_false,hC,n19,hP,L',hC2,hg,y0,y1,y2,hq]
end Go.AM
