/- What the functions of the program compute, part 4, for RegistryMatchesReference. No condition. -/
import Derived.Test.YtmmfbjlenjnckaaGreatDoorP3c
set_option linter.unusedVariables false
set_option linter.defProp false
set_option linter.unusedSimpArgs false
set_option linter.unusedSectionVars false
namespace Go.AM
open Go
variable [REdz]
def FU(a b:Ga):Bool:=((((!Z3 a.Id b.Id||!Z3 a.Ev b.Ev)||!Z3 a.By b.By)||a.bh != b.bh)||!QL a.An b.An)||!QK a.bg b.bg
def HL(a b:Ga):Bool:=!FU a b&&(((((a.From==b.From&&a.Ld==b.Ld)&&HK a.After.l b.After.l)&&a.Why==b.Why)&&a.bv==b.bv)&&Z3 a.Veil b.Veil)
def Z4M(a b:Ga)(ha:a.After.l.length<=1000):pfn rE 29 [a.enc,b.enc]=some (.bool<|HL a b):=by
 have hT:=Z4L a.After.ex b.After.ex a.After.l b.After.l ha;have hn:(a.An.N==b.An.N&&(Z3 a.An.bm b.An.bm&&(a.An.Num==b.An.Num&&a.An.Den==b.An.Den)))=QL a.An b.An:=rfl;have hp:(a.bg.X==b.bg.X&&a.bg.Y==b.bg.Y)=QK a.bg b.bg:=rfl;rw[Z5 (f:=29) rfl rfl];unfold HL FU;cases c0:Z3 a.Id b.Id with
 |false=>simp only[go_sem,c29,Ga.enc,NL.enc,c0,ZWY]
 |true=>
 cases c1:Z3 a.Ev b.Ev with
 |false=>simp only[go_sem,c29,Ga.enc,NL.enc,c0,c1,ZWY,ZWZ]
 |true=>
 cases c2:Z3 a.By b.By with
 |false=>simp only[go_sem,c29,Ga.enc,NL.enc,c0,c1,c2,ZWY,ZWZ]
 |true=>
 cases c5003:a.bh != b.bh with
 |true=>simp only[go_sem,c29,Ga.enc,NL.enc,c0,c1,c2,c5003,ZWY,ZWZ]
 |false=>
 cases c5004:QL a.An b.An with
 |false=>simp only[go_sem,c29,Ga.enc,NL.enc,c0,c1,c2,c5003,hn,c5004,ZWY,ZWZ]
 |true=>
 cases c5005:QK a.bg b.bg with
 |false=>simp only[go_sem,c29,Ga.enc,NL.enc,c0,c1,c2,c5003,hn,c5004,hp,c5005,ZWY,ZWZ]
 |true=>
 cases c5006:a.From==b.From with
 |false=>simp only[go_sem,c29,Ga.enc,NL.enc,c0,c1,c2,c5003,hn,c5004,hp,c5005,c5006,ZWY,ZWZ]
 |true=>
 cases c5007:a.Ld==b.Ld with
 |false=>simp only[go_sem,c29,Ga.enc,NL.enc,c0,c1,c2,c5003,hn,c5004,hp,c5005,c5006,c5007,ZWY,ZWZ]
 |true=>
 cases c5008:HK a.After.l b.After.l with
 |false=>rw[c5008]at hT;simp only[go_sem,c29,Ga.enc,NL.enc,c0,c1,c2,c5003,hn,c5004,hp,c5005,c5006,c5007,hT,ZWY,ZWZ]
 |true=>
 rw[c5008]at hT;cases c5009:a.Why==b.Why with
 |false=>simp only[go_sem,c29,Ga.enc,NL.enc,c0,c1,c2,c5003,hn,c5004,hp,c5005,c5006,c5007,hT,c5009,ZWY,ZWZ]
 |true=>
 cases c5010:a.bv==b.bv with
 |false=>simp only[go_sem,c29,Ga.enc,NL.enc,c0,c1,c2,c5003,hn,c5004,hp,c5005,c5006,c5007,hT,c5009,c5010,ZWY,ZWZ]
 |true=>simp only[go_sem,c29,Ga.enc,NL.enc,c0,c1,c2,c5003,hn,c5004,hp,c5005,c5006,c5007,hT,c5009,c5010,ZWY,ZWZ]
def Zad(x:Str):Z3 x x=true:=by unfold Z3;exact beq_self_eq_true _
def Zat(ex:Bool)(l:List Pt)(hl:l.length<=1000):pfn rE 74 [.isl false ex 2<|l.map Pt.enc,.isl false ex 2<|l.map Pt.enc]=some (.bool true):=by
 rw[Z5 (f:=74) rfl rfl];have L:=Y8 (E:=rE) (live:=[0,1,5]) (b:=c74L0b) l.length (λi=>[(0,.isl false ex 2<|l.map Pt.enc),(1,.isl false ex 2<|l.map Pt.enc),(5,I i)]) (λi=>[]) (λi=>rfl)
  (λi hi=>by
   obtain⟨x,hx⟩:∃x,l[i]?=some x:=⟨_,ZX5 hi⟩;have hg:=Z6 (f:=Pt.enc) hx;have hi':=Zh hi;have hwr:=Zx (n:=i)<|by omega
   refine⟨[(0,.isl false ex 2<|l.map Pt.enc),(1,.isl false ex 2<|l.map Pt.enc),(4,.bot),(5,I (i+1:Nat))],?_,rfl⟩;simp only[go_sem,c74L0b,hg,hi',hwr,Pt.enc,beq_self_eq_true])
  (e:=.exit 0) (fr:=[(0,.isl false ex 2<|l.map Pt.enc),(1,.isl false ex 2<|l.map Pt.enc),(4,.bot),(5,I l.length)]) (h:=[]) (by simp only[go_sem,c74L0b,ZG]) (by simp)
 have hne:((l.length:Int) != (l.length:Int))=false:=by simp
 have L':Zg rE [0,1,5] c74L0b [(0,.isl false ex 2<|l.map Pt.enc),(1,.isl false ex 2<|l.map Pt.enc),(5,.int .i64 0)] []=_:=L;simp only[go_sem,c74,c74L0,L',hne]
def ZaD(ex:Bool)(l:List Nm)(hl:l.length<=1000):pfn rE 159 [.isl false ex 3<|l.map Nm.enc,.isl false ex 3<|l.map Nm.enc]=some (.bool true):=by
 rw[Z5 (f:=159) rfl rfl];have L:=Y8 (E:=rE) (live:=[0,1,5]) (b:=c159L0b) l.length (λi=>[(0,.isl false ex 3<|l.map Nm.enc),(1,.isl false ex 3<|l.map Nm.enc),(5,I i)]) (λi=>[]) (λi=>rfl)
  (λi hi=>by
   obtain⟨x,hx⟩:∃x,l[i]?=some x:=⟨_,ZX5 hi⟩;have hg:=Z6 (f:=Nm.enc) hx;have hi':=Zh hi;have hwr:=Zx (n:=i)<|by omega
   refine⟨[(0,.isl false ex 3<|l.map Nm.enc),(1,.isl false ex 3<|l.map Nm.enc),(4,.bot),(5,I (i+1:Nat))],?_,rfl⟩;simp only[go_sem,c159L0b,hg,hi',hwr,Nm.enc,Zad,beq_self_eq_true])
  (e:=.exit 0) (fr:=[(0,.isl false ex 3<|l.map Nm.enc),(1,.isl false ex 3<|l.map Nm.enc),(4,.bot),(5,I l.length)]) (h:=[]) (by simp only[go_sem,c159L0b,ZG]) (by simp)
 have hne:((l.length:Int) != (l.length:Int))=false:=by simp
 have L':Zg rE [0,1,5] c159L0b [(0,.isl false ex 3<|l.map Nm.enc),(1,.isl false ex 3<|l.map Nm.enc),(5,.int .i64 0)] []=_:=L;simp only[go_sem,c159,c159L0,L',hne]
def ZaU(x:Gk)(h1:x.Ring.l.length<=1000)(h2:x.bk.l.length<=1000):pfn rE 68 [x.enc,x.enc]=some (.bool true):=by
 have hp:=Zat x.Ring.ex x.Ring.l h1;have hn:=ZaD x.bk.ex x.bk.l h2;rw[Z5 (f:=68) rfl rfl];simp only[go_sem,c68,Gk.enc,NL.enc,Zad,beq_self_eq_true,hp,hn]
def ZaV(x:By)(h1:x.Line.l.length<=1000)(h2:x.bk.l.length<=1000):pfn rE 69 [x.enc,x.enc]=some (.bool true):=by
 have hp:=Zat x.Line.ex x.Line.l h1;have hn:=ZaD x.bk.ex x.bk.l h2;rw[Z5 (f:=69) rfl rfl];simp only[go_sem,c69,By.enc,NL.enc,Zad,beq_self_eq_true,hp,hn]
def ZaW(x:Ev)(h1:x.Ring.l.length<=1000):pfn rE 70 [x.enc,x.enc]=some (.bool true):=by
 have hp:=Zat x.Ring.ex x.Ring.l h1;rw[Z5 (f:=70) rfl rfl];simp only[go_sem,c70,Ev.enc,NL.enc,Zad,beq_self_eq_true,hp]
def ZaX(l:List Str):HK l l=true:=by
 unfold HK;rw[beq_self_eq_true,ZWR];have:∀(m:List Str)(i:Nat),(∀j x,m[j]?=some x->l[i+j]?=some x)->Zu (λi x=>match l[i]? with|some y=>Z3 x y|none=>false) i m=true:=by
  intro m;induction m with
  |nil=>intro i h;rfl
  |cons x r ih=>
   intro i h;have h0:=h 0 x rfl;rw[ZXE]at h0;unfold Zu;rw[h0];simp only[Zad,ZWR];exact ih (i+1)<|λj y hy=>by rw[ZXM,Nat.add_comm 1 j];exact h (j+1) y hy
 exact this l 0<|λj x h=>by rw[ZXf];exact h
def ZaY(x:Ga)(h:x.After.l.length<=1000):pfn rE 29 [x.enc,x.enc]=some (.bool true):=by
 rw[Z4M x x h];unfold HL FU QL QK;simp only[Zad,ZaX,beq_self_eq_true,bne_self_eq_false,ZWS,ZX9,ZWU,ZWW]
def ZbL(ex:Bool)(l:List bf)(hl:l.length<=1000):pfn rE 71 [.isl false ex 2<|l.map bf.enc,.isl false ex 2<|l.map bf.enc]=some (.bool true):=by
 rw[Z5 (f:=71) rfl rfl];have L:=Y8 (E:=rE) (live:=[0,1,5]) (b:=c71L0b) l.length (λi=>[(0,.isl false ex 2<|l.map bf.enc),(1,.isl false ex 2<|l.map bf.enc),(5,I i)]) (λi=>[]) (λi=>rfl)
  (λi hi=>by
   obtain⟨x,hx⟩:∃x,l[i]?=some x:=⟨_,ZX5 hi⟩;have hg:=Z6 (f:=bf.enc) hx;have hi':=Zh hi;have hwr:=Zx (n:=i)<|by omega
   refine⟨[(0,.isl false ex 2<|l.map bf.enc),(1,.isl false ex 2<|l.map bf.enc),(4,.bot),(5,I (i+1:Nat))],?_,rfl⟩;simp only[go_sem,c71L0b,hg,hi',hwr,bf.enc,beq_self_eq_true])
  (e:=.exit 0) (fr:=[(0,.isl false ex 2<|l.map bf.enc),(1,.isl false ex 2<|l.map bf.enc),(4,.bot),(5,I l.length)]) (h:=[]) (by simp only[go_sem,c71L0b,ZG]) (by simp)
 have hne:((l.length:Int) != (l.length:Int))=false:=by simp
 have L':Zg rE [0,1,5] c71L0b [(0,.isl false ex 2<|l.map bf.enc),(1,.isl false ex 2<|l.map bf.enc),(5,.int .i64 0)] []=_:=L;simp only[go_sem,c71,c71L0,L',hne]
def Zc3(s:Sta)(hE:StE s):Zg rE [2,3,5] c11L0b [(2,stI s),(3,stI s),(5,.int .i64 0)] []=some (.exit 0,[(2,stI s),(3,stI s),(4,.bot),(5,I s.Fa.length)],[]):=by
 have hn:=hE.sizes.regions;have L:=Y8 (E:=rE) (live:=[2,3,5]) (b:=c11L0b) s.Fa.length (λi=>[(2,stI s),(3,stI s),(5,I i)]) (λi=>[]) (λi=>rfl)
  (λi hi=>by
   obtain⟨x,hx⟩:∃x,s.Fa[i]?=some x:=⟨_,ZX5 hi⟩;have hg:=Z6 (f:=Gk.enc) hx;have hi':=Zh hi;have hwr:=Zx (n:=i)<|by omega
   have hlt:((i:Int)<(s.Fa.length:Int)):=by omega
   have hm:=ZXk hx;refine⟨[(2,stI s),(3,stI s),(4,.bot),(5,I (i+1:Nat))],?_,rfl⟩;have hS:=ZaU x (ZXG (hE.regions x hm).2.1 (by omega))<|ZXG (hE.regions x hm).1 (by omega)
   simp only[Gk.enc,NL.enc]at hS;simp only[go_sem,c11L0b,hg,hi',hwr,hlt,if_true,Gk.enc,NL.enc,hS])
  (e:=.exit 0) (fr:=[(2,stI s),(3,stI s),(4,.bot),(5,I s.Fa.length)]) (h:=[]) (by simp only[go_sem,c11L0b,ZG]) (by simp)
 exact L
def Zc4(s:Sta)(hE:StE s):Zg rE [2,3,6] c11L1b [(2,stI s),(3,stI s),(6,.int .i64 0)] []=some (.exit 2,[(2,stI s),(3,stI s),(4,.bot),(6,I s.Gm.length)],[]):=by
 have hn:=hE.sizes.streets;have L:=Y8 (E:=rE) (live:=[2,3,6]) (b:=c11L1b) s.Gm.length (λi=>[(2,stI s),(3,stI s),(6,I i)]) (λi=>[]) (λi=>rfl)
  (λi hi=>by
   obtain⟨x,hx⟩:∃x,s.Gm[i]?=some x:=⟨_,ZX5 hi⟩;have hg:=Z6 (f:=By.enc) hx;have hi':=Zh hi;have hwr:=Zx (n:=i)<|by omega
   have hlt:((i:Int)<(s.Gm.length:Int)):=by omega
   have hm:=ZXk hx;refine⟨[(2,stI s),(3,stI s),(4,.bot),(6,I (i+1:Nat))],?_,rfl⟩;have hS:=ZaV x (ZXG (hE.streets x hm).2.1 (by omega))<|ZXG (hE.streets x hm).1 (by omega)
   simp only[By.enc,NL.enc]at hS;simp only[go_sem,c11L1b,hg,hi',hwr,hlt,if_true,By.enc,NL.enc,hS])
  (e:=.exit 2) (fr:=[(2,stI s),(3,stI s),(4,.bot),(6,I s.Gm.length)]) (h:=[]) (by simp only[go_sem,c11L1b,ZG]) (by simp)
 exact L
def Zc5(s:Sta)(hE:StE s):Zg rE [2,3,7] c11L2b [(2,stI s),(3,stI s),(7,.int .i64 0)] []=some (.exit 4,[(2,stI s),(3,stI s),(4,.bot),(7,I s.Bt.length)],[]):=by
 have hn:=hE.sizes.buildings;have L:=Y8 (E:=rE) (live:=[2,3,7]) (b:=c11L2b) s.Bt.length (λi=>[(2,stI s),(3,stI s),(7,I i)]) (λi=>[]) (λi=>rfl)
  (λi hi=>by
   obtain⟨x,hx⟩:∃x,s.Bt[i]?=some x:=⟨_,ZX5 hi⟩;have hg:=Z6 (f:=Ev.enc) hx;have hi':=Zh hi;have hwr:=Zx (n:=i)<|by omega
   have hlt:((i:Int)<(s.Bt.length:Int)):=by omega
   have hm:=ZXk hx;refine⟨[(2,stI s),(3,stI s),(4,.bot),(7,I (i+1:Nat))],?_,rfl⟩;have hS:=ZaW x<|ZXG (hE.buildings x hm).1 (by omega)
   simp only[Ev.enc,NL.enc]at hS;simp only[go_sem,c11L2b,hg,hi',hwr,hlt,if_true,Ev.enc,NL.enc,hS])
  (e:=.exit 4) (fr:=[(2,stI s),(3,stI s),(4,.bot),(7,I s.Bt.length)]) (h:=[]) (by simp only[go_sem,c11L2b,ZG]) (by simp)
 exact L
def Zc6(s:Sta)(hE:StE s):Zg rE [2,3,8] c11L3b [(2,stI s),(3,stI s),(8,.int .i64 0)] []=some (.exit 6,[(2,stI s),(3,stI s),(4,.bot),(8,I s.Bc.length)],[]):=by
 have hn:=hE.sizes.doors;have L:=Y8 (E:=rE) (live:=[2,3,8]) (b:=c11L3b) s.Bc.length (λi=>[(2,stI s),(3,stI s),(8,I i)]) (λi=>[]) (λi=>rfl)
  (λi hi=>by
   obtain⟨x,hx⟩:∃x,s.Bc[i]?=some x:=⟨_,ZX5 hi⟩;have hg:=Z6 (f:=Ga.enc) hx;have hi':=Zh hi;have hwr:=Zx (n:=i)<|by omega
   have hlt:((i:Int)<(s.Bc.length:Int)):=by omega
   have hm:=ZXk hx;refine⟨[(2,stI s),(3,stI s),(4,.bot),(8,I (i+1:Nat))],?_,rfl⟩;have hS:=ZaY x (by have:=(hE.doors x hm).after;omega)
   simp only[Ga.enc,NL.enc]at hS;simp only[go_sem,c11L3b,hg,hi',hwr,hlt,if_true,Ga.enc,NL.enc,hS])
  (e:=.exit 6) (fr:=[(2,stI s),(3,stI s),(4,.bot),(8,I s.Bc.length)]) (h:=[]) (by simp only[go_sem,c11L3b,ZG]) (by simp)
 exact L
def Zc7(s:Sta)(hE:StE s):Zg rE [2,3,9] c11L4b [(2,stI s),(3,stI s),(9,.int .i64 0)] []=some (.exit 8,[(2,stI s),(3,stI s),(4,.bot),(9,I s.Nk.length)],[]):=by
 have hn:=hE.sizes.units;have L:=Y8 (E:=rE) (live:=[2,3,9]) (b:=c11L4b) s.Nk.length (λi=>[(2,stI s),(3,stI s),(9,I i)]) (λi=>[]) (λi=>rfl)
  (λi hi=>by
   obtain⟨x,hx⟩:∃x,s.Nk[i]?=some x:=⟨_,ZX5 hi⟩;have hg:=Z6 (f:=be.enc) hx;have hi':=Zh hi;have hwr:=Zx (n:=i)<|by omega
   have hlt:((i:Int)<(s.Nk.length:Int)):=by omega
   have hm:=ZXk hx;refine⟨[(2,stI s),(3,stI s),(4,.bot),(9,I (i+1:Nat))],?_,rfl⟩;simp only[go_sem,c11L4b,hg,hi',hwr,hlt,if_true,be.enc,NL.enc,Zad,beq_self_eq_true])
  (e:=.exit 8) (fr:=[(2,stI s),(3,stI s),(4,.bot),(9,I s.Nk.length)]) (h:=[]) (by simp only[go_sem,c11L4b,ZG]) (by simp)
 exact L
def ZbM(s:Sta)(hE:StE s):pfn rE 11 [stA s,stA s]=some (.bool true):=by
 have l0:=Zc3 s hE;have l1:=Zc4 s hE;have l2:=Zc5 s hE;have l3:=Zc6 s hE;have l4:=Zc7 s hE;have p1:=ZbL false s.Gc hE.sizes.merged;have p2:=ZbL false s.ba hE.sizes.rulings;have hne:∀n:Nat,((n:Int) != (n:Int))=false:=λn=>by simp
 simp only[stI]at l0 l1 l2 l3 l4;rw[Z5 (f:=11) rfl rfl];simp only[go_sem,c11,c11L0,c11L1,c11L2,c11L3,c11L4,hne,l0,l1,l2,l3,l4,p1,p2]
def ZbD{α:Type}{Q:α->Prop}{f:α->α}{l:List α}{k:Nat}(h:∀x∈l,Q x)(hf:∀x,Q x->Q (f x)):∀x∈ZK l k f,Q x:=by
 unfold ZK;split
 .rename_i x hx;intro y hy;rcases ZZa hy with h1|rfl
  .exact h y h1
  .exact hf x<|h x<|ZXk hx
 .exact h
def Zd9{α:Type}{Q:α->Prop}{l m:List α}(h:∀x∈l,Q x)(hm:∀x∈m,Q x):∀x∈l++m,Q x:=λx hx=>by
 rcases ZXF.1 hx with h1|h1
 .exact h x h1
 .exact hm x h1
def Zdi{α:Type}{Q:α->Prop}{y:α}(h:Q y):∀x∈[y],Q x:=λx hx=>by rw[ZXB]at hx;subst hx;exact h
structure SizeOk(s:Sta):Prop where
 rg:∀x∈s.Fa,x.bk.l.length<=100/\x.Ring.l.length<=100/\x.Id.size<=1000
 st:∀x∈s.Gm,x.bk.l.length<=100/\x.Line.l.length<=100/\x.Id.size<=1000
 bu:∀x∈s.Bt,x.Ring.l.length<=100/\x.Id.size<=1000
 dr:∀x∈s.Bc,DoS x
 un:∀x∈s.Nk,x.Id.size<=1000/\x.Ga.size<=1000/\x.Text.size<=1000
def Zdr{w:Wk}{k:Nat}{a:NL Str}(h:SizeOk w.s)(ha:a.l.length<=100)(hi:∀id∈a.l,id.size<=1000):SizeOk (Qf w k a).s:=by
 unfold Qf;split
 .rename_i x hx;refine⟨h.rg,h.st,h.bu,ZbD h.dr<|λd hd=>⟨ha,hd.id,hd.building,hd.street,hd.veil⟩,λu hu=>?_⟩
  obtain⟨v,hv,rfl⟩:=ZXP.1 hu;have h0:=h.un v hv;unfold XO;cases Z3P x.Id v with
  |false=>exact h0
  |true=>
   rw[cond_true];unfold UG;split
   .rename_i id r hc;exact⟨h0.1,hi id (by rw[hc];exact ZYa ..),h0.2.2⟩
   .exact h0
 .exact h
def ZdB{w:Wk}{d:Ga}(h:SizeOk w.s)(hd:DoS d):SizeOk (Qw w d).s:=
 ⟨h.rg,h.st,h.bu,Zd9 h.dr<|Zdi ⟨hd.after,hd.id,hd.building,hd.street,hd.veil⟩,h.un⟩
def Ze1{a:NL Str}(ha:a.l.length<=100)(hi:∀id∈a.l,id.size<=1000):∀(l:List Int)(w:Wk),SizeOk w.s->SizeOk (Yg w l a).s
 |[],_,h=>h
 |k::r,w,h=>Ze1 ha hi r (Qf w k.toNat a)<|Zdr h ha hi
def Ze2{w:Wk}{l:List Ga}(h:SizeOk w.s):∀i,SizeOk (Y6 w l i).s
 |0=>h
 |i+1=>by
  have ih:=Ze2 (w:=w) (l:=l) h i;unfold Y6;split
  .rename_i x hx;cases NV w.e.Id x with
   |false=>exact ih
   |true=>exact Zdr ih (ZXb _)<|λid hc=>by cases hc
  .exact ih
def Ze3{D:List Ga}{l:List Ent}(h:∀x∈D,DoS x):∀i,∀x∈Yn D l i,DoS x
 |0=>h
 |i+1=>by
  have ih:=Ze3 (l:=l) h i;unfold Yn;split
  .exact ZbD ih<|λd hd=>⟨hd.after,hd.id,hd.building,hd.street,hd.veil⟩
  .exact ih
def Ze4{s:Sta}(h:SizeOk s)(k:Nat):(JF s k).l.length<=100:=by
 unfold JF;split
 .rename_i x hx;exact(h.st x<|ZXk hx).1
 .exact ZXb _
def Zdj:emp.size<=1000:=ZXb _
def ZeG{w:Wk}(h:SizeOk w.s)(he:EvS w.e)(hL:∀x∈w.e.Lst.l,x.Id.size<=1000):SizeOk (stepW w).s:=by
 unfold stepW;split
 .refine⟨?_,h.st,h.bu,h.dr,h.un⟩;unfold Hj;cases decide (Qo w.s w.e.Id<0)with
  |true=>exact Zd9 h.rg<|Zdi ⟨ZXb _,he.path,he.id⟩
  |false=>exact ZbD h.rg<|λx hx=>⟨hx.1,he.path,hx.2.2⟩
 .exact⟨h.rg,Zd9 h.st<|Zdi ⟨ZXb _,he.path,he.id⟩,h.bu,h.dr,h.un⟩
 .unfold Hl;cases decide (Qo w.s w.e.Id>=0)with
  |true=>exact⟨ZbD h.rg<|λx hx=>⟨he.names,hx.2⟩,h.st,h.bu,h.dr,h.un⟩
  |false=>exact⟨h.rg,ZbD h.st<|λx hx=>⟨he.names,hx.2⟩,h.bu,h.dr,h.un⟩
 .exact⟨h.rg,ZbD (ZbD h.st<|λx hx=>⟨Ze4 h _,hx.2⟩)<|λx hx=>⟨Ze4 h _,hx.2⟩,h.bu,h.dr,h.un⟩
 .exact⟨h.rg,h.st,Zd9 h.bu<|Zdi ⟨he.path,he.id⟩,h.dr,h.un⟩
 .exact ZdB h ⟨ZXb _,he.id,he.other,he.text,Zdj⟩
 .exact⟨h.rg,h.st,h.bu,h.dr,Zd9 h.un<|Zdi ⟨he.id,he.other,he.text⟩⟩
 .exact⟨h.rg,h.st,h.bu,Ze3 h.dr _,h.un⟩
 .unfold Kb;split
  .rename_i d hd;have hd':=h.dr d<|ZXk hd;refine Zdr (w:=Y5 w d w.e.Lst.l) ⟨h.rg,h.st,h.bu,Zd9 h.dr<|λy hy=>?_,h.un⟩ ?_ (λid hid=>?_)
   .obtain⟨x,hx,rfl⟩:=ZXP.1 hy;exact⟨ZXb _,hL x hx,hd'.building,hd'.street,Zdj⟩
   .rw[ZWQ];exact he.lst
   .obtain⟨x,hx,rfl⟩:=ZXP.1 hid;exact hL x hx
  .exact h
 .unfold Kd;split
  .rename_i d hd;have hd':=h.dr d<|ZXk hd;exact Ze1 (a:=⟨false,[w.e.Id]⟩) (by simp) (λid hid=>by rw[ZXB]at hid;subst hid;exact he.id) _ _<|ZdB h ⟨ZXb _,he.id,hd'.building,hd'.street,Zdj⟩
  .exact h
 .unfold Ht;exact Ze2 (w:=JH w<|ZK w.s.Bt (Y1 w.s w.e.Id).toNat<|Ke w.e) ⟨h.rg,h.st,ZbD (f:=Ke w.e) h.bu<|λx hx=>hx,h.dr,h.un⟩ _
 .unfold Hy;cases Kg w.s w.e.Id with
  |true=>exact⟨ZbD h.rg<|λx hx=>hx,h.st,h.bu,h.dr,h.un⟩
  |false=>
  cases Kh w.s w.e.Id with
  |true=>exact⟨h.rg,ZbD h.st<|λx hx=>hx,h.bu,h.dr,h.un⟩
  |false=>
  cases Ki w.s w.e.Id with
  |true=>exact Zdr h (ZXb _)<|λid hc=>by cases hc
  |false=>exact⟨h.rg,h.st,h.bu,h.dr,ZbD h.un<|λx hx=>hx⟩
 .exact⟨h.rg,h.st,h.bu,h.dr,h.un⟩
 .exact⟨h.rg,h.st,h.bu,h.dr,h.un⟩
 .exact ZdB h ⟨ZXb _,he.id,Zdj,Zdj,he.text⟩
def ZeH(s:Sta)(hs:StF s)(a:Int)(e:Gt)(he:EvS e)(hL:∀x∈e.Lst.l,x.Id.size<=1000):StE (ZP s a e):=by
 unfold ZP;cases okB s a e&&(Q1 (wk0 s a e)==0&&Wh (stepW<|wk0 s a e).s.Bc)with
 |true=>
  have h:=ZeG (w:=wk0 s a e) ⟨hs.e.regions,hs.e.streets,hs.e.buildings,hs.e.doors,hs.e.units⟩ he hL;exact⟨FN s hs a e he,h.rg,h.st,h.bu,h.dr,h.un⟩
 |false=>
  refine⟨⟨ZXb _,ZXb _,ZXb _,ZXb _,ZXb _,ZXb _,ZXb _⟩,?_,?_,?_,?_,?_⟩
  all_goals (intro x hx;cases hx)
def WQ(x:Gk):Bool:=[x.Id].all ZU&&(XQ x.bk.l&&(!decide ((x.Ring.l.length:Int)>12)))
def WR(x:By):Bool:=[x.Id].all ZU&&(XQ x.bk.l&&(!decide ((x.Line.l.length:Int)>12)))
def WS(x:Ev):Bool:=[x.Id].all ZU&&(!decide ((x.Ring.l.length:Int)>12))
def WT(x:Ga):Bool:=[x.Id,x.Ev,x.By,x.An.bm,x.Veil].all ZU&&(!decide ((x.After.l.length:Int)>10)&&(x.After.l.all ZU))
def WU(x:be):Bool:=[x.Id,x.Ga,x.Text].all ZU
def Z4A(s:Sta)(hl:s.Fa.length<=1000):∃fr',Zg rE [1,3] c30L0b [(1,stI s),(3,.int .i64 0)] []=some (if s.Fa.all WQ=true then .exit 0 else .ret,fr',[])/\(s.Fa.all WQ=true->get fr' 1=stI s/\get fr' 2=.bot)/\(s.Fa.all WQ=false->get fr' 2=.bool false):=by
 have L:=QT (E:=rE) (live:=[1,3]) (b:=c30L0b) (h:=[]) s.Fa (λ_ x=>WQ x) (λi=>[(1,stI s),(3,I i)]) 0 (λfr=>get fr 1=stI s/\get fr 2=.bot) (λfr=>get fr 2=.bool false) (λi=>rfl)
  (λi x hx hP=>by
   have hg:=Z6 (f:=Gk.enc) hx;have hi:=Zh<|Z7 hx;have hw:=Zx (n:=i) (by have:=Z7 hx;omega)
   have hS:=JK x.Id;have hN:=UQ x.bk.ex x.bk.l;simp only[WQ,ZWT,ZXn]at hP;obtain⟨p0,p1,p2⟩:=hP;rw[p0]at hS;rw[p1]at hN;refine⟨_,by simp only[go_sem,c30L0b,hg,hi,hw,Gk.enc,NL.enc,hS,hN,p2];rfl,?_⟩
   simp only[go_sem])
  (λi x hx hP=>by
   have hg:=Z6 (f:=Gk.enc) hx;have hi:=Zh<|Z7 hx;have hS:=JK x.Id;have hN:=UQ x.bk.ex x.bk.l;unfold WQ at hP;cases c0:[x.Id].all ZU with
   |false=>
    rw[c0]at hS;refine⟨_,by simp only[go_sem,c30L0b,hg,hi,Gk.enc,NL.enc,hS];rfl,?_⟩
    simp only[go_sem]
   |true=>
   rw[c0]at hS hP;cases c1:XQ x.bk.l with
   |false=>
    rw[c1]at hN;refine⟨_,by simp only[go_sem,c30L0b,hg,hi,Gk.enc,NL.enc,hS,hN];rfl,?_⟩
    simp only[go_sem]
   |true=>
   rw[c1]at hN hP;cases c2:decide ((x.Ring.l.length:Int)>12)with
   |true=>
    refine⟨_,by simp only[go_sem,c30L0b,hg,hi,Gk.enc,NL.enc,hS,hN,c2];rfl,?_⟩
    simp only[go_sem]
   |false=>
   rw[c2]at hP;cases hP)
  (⟨_,by simp only[go_sem,c30L0b,ZG];rfl,by simp only[go_sem],by simp only[go_sem]⟩)
 rw[QE]at L;exact L
def Z4B(s:Sta)(hl:s.Gm.length<=1000):∃fr',Zg rE [1,4] c30L1b [(1,stI s),(4,.int .i64 0)] []=some (if s.Gm.all WR=true then .exit 2 else .ret,fr',[])/\(s.Gm.all WR=true->get fr' 1=stI s/\get fr' 2=.bot)/\(s.Gm.all WR=false->get fr' 2=.bool false):=by
 have L:=QT (E:=rE) (live:=[1,4]) (b:=c30L1b) (h:=[]) s.Gm (λ_ x=>WR x) (λi=>[(1,stI s),(4,I i)]) 2 (λfr=>get fr 1=stI s/\get fr 2=.bot) (λfr=>get fr 2=.bool false) (λi=>rfl)
  (λi x hx hP=>by
   have hg:=Z6 (f:=By.enc) hx;have hi:=Zh<|Z7 hx;have hw:=Zx (n:=i) (by have:=Z7 hx;omega)
   have hS:=JK x.Id;have hN:=UQ x.bk.ex x.bk.l;simp only[WR,ZWT,ZXn]at hP;obtain⟨p0,p1,p2⟩:=hP;rw[p0]at hS;rw[p1]at hN;refine⟨_,by simp only[go_sem,c30L1b,hg,hi,hw,By.enc,NL.enc,hS,hN,p2];rfl,?_⟩
   simp only[go_sem])
  (λi x hx hP=>by
   have hg:=Z6 (f:=By.enc) hx;have hi:=Zh<|Z7 hx;have hS:=JK x.Id;have hN:=UQ x.bk.ex x.bk.l;unfold WR at hP;cases c0:[x.Id].all ZU with
   |false=>
    rw[c0]at hS;refine⟨_,by simp only[go_sem,c30L1b,hg,hi,By.enc,NL.enc,hS];rfl,?_⟩
    simp only[go_sem]
   |true=>
   rw[c0]at hS hP;cases c1:XQ x.bk.l with
   |false=>
    rw[c1]at hN;refine⟨_,by simp only[go_sem,c30L1b,hg,hi,By.enc,NL.enc,hS,hN];rfl,?_⟩
    simp only[go_sem]
   |true=>
   rw[c1]at hN hP;cases c2:decide ((x.Line.l.length:Int)>12)with
   |true=>
    refine⟨_,by simp only[go_sem,c30L1b,hg,hi,By.enc,NL.enc,hS,hN,c2];rfl,?_⟩
    simp only[go_sem]
   |false=>
   rw[c2]at hP;cases hP)
  (⟨_,by simp only[go_sem,c30L1b,ZG];rfl,by simp only[go_sem],by simp only[go_sem]⟩)
 rw[QE]at L;exact L
def Z4C(s:Sta)(hl:s.Bt.length<=1000):∃fr',Zg rE [1,5] c30L2b [(1,stI s),(5,.int .i64 0)] []=some (if s.Bt.all WS=true then .exit 4 else .ret,fr',[])/\(s.Bt.all WS=true->get fr' 1=stI s/\get fr' 2=.bot)/\(s.Bt.all WS=false->get fr' 2=.bool false):=by
 have L:=QT (E:=rE) (live:=[1,5]) (b:=c30L2b) (h:=[]) s.Bt (λ_ x=>WS x) (λi=>[(1,stI s),(5,I i)]) 4 (λfr=>get fr 1=stI s/\get fr 2=.bot) (λfr=>get fr 2=.bool false) (λi=>rfl)
  (λi x hx hP=>by
   have hg:=Z6 (f:=Ev.enc) hx;have hi:=Zh<|Z7 hx;have hw:=Zx (n:=i) (by have:=Z7 hx;omega)
   have hS:=JK x.Id;simp only[WS,ZWT,ZXn]at hP;obtain⟨p0,p1⟩:=hP;rw[p0]at hS;refine⟨_,by simp only[go_sem,c30L2b,hg,hi,hw,Ev.enc,NL.enc,hS,p1];rfl,?_⟩
   simp only[go_sem])
  (λi x hx hP=>by
   have hg:=Z6 (f:=Ev.enc) hx;have hi:=Zh<|Z7 hx;have hS:=JK x.Id;unfold WS at hP;cases c0:[x.Id].all ZU with
   |false=>
    rw[c0]at hS;refine⟨_,by simp only[go_sem,c30L2b,hg,hi,Ev.enc,NL.enc,hS];rfl,?_⟩
    simp only[go_sem]
   |true=>
   rw[c0]at hS hP;cases c2:decide ((x.Ring.l.length:Int)>12)with
   |true=>
    refine⟨_,by simp only[go_sem,c30L2b,hg,hi,Ev.enc,NL.enc,hS,c2];rfl,?_⟩
    simp only[go_sem]
   |false=>
   rw[c2]at hP;cases hP)
  (⟨_,by simp only[go_sem,c30L2b,ZG];rfl,by simp only[go_sem],by simp only[go_sem]⟩)
 rw[QE]at L;exact L
def Z4D(s:Sta)(hl:s.Bc.length<=1000):∃fr',Zg rE [1,6] c30L3b [(1,stI s),(6,.int .i64 0)] []=some (if s.Bc.all WT=true then .exit 6 else .ret,fr',[])/\(s.Bc.all WT=true->get fr' 1=stI s/\get fr' 2=.bot)/\(s.Bc.all WT=false->get fr' 2=.bool false):=by
 have L:=QT (E:=rE) (live:=[1,6]) (b:=c30L3b) (h:=[]) s.Bc (λ_ x=>WT x) (λi=>[(1,stI s),(6,I i)]) 6 (λfr=>get fr 1=stI s/\get fr 2=.bot) (λfr=>get fr 2=.bool false) (λi=>rfl)
  (λi x hx hP=>by
   have hg:=Z6 (f:=Ga.enc) hx;have hi:=Zh<|Z7 hx;have hw:=Zx (n:=i) (by have:=Z7 hx;omega)
   have hS:=FQ x.Id x.Ev x.By x.An.bm x.Veil;simp only[WT,ZWT,ZXn]at hP;obtain⟨p0,p1,p2⟩:=hP;rw[p0]at hS;have hA:=Vv false x.After.ex x.After.l (by have:=of_decide_eq_false p1;omega)
   rw[p2]at hA;refine⟨_,by simp only[go_sem,c30L3b,hg,hi,hw,Ga.enc,NL.enc,hS,p1,hA];rfl,?_⟩
   simp only[go_sem])
  (λi x hx hP=>by
   have hg:=Z6 (f:=Ga.enc) hx;have hi:=Zh<|Z7 hx;have hS:=FQ x.Id x.Ev x.By x.An.bm x.Veil;unfold WT at hP;cases c0:[x.Id,x.Ev,x.By,x.An.bm,x.Veil].all ZU with
   |false=>
    rw[c0]at hS;refine⟨_,by simp only[go_sem,c30L3b,hg,hi,Ga.enc,NL.enc,hS];rfl,?_⟩
    simp only[go_sem]
   |true=>
   rw[c0]at hS hP;cases c2:decide ((x.After.l.length:Int)>10)with
   |true=>
    refine⟨_,by simp only[go_sem,c30L3b,hg,hi,Ga.enc,NL.enc,hS,c2];rfl,?_⟩
    simp only[go_sem]
   |false=>
   rw[c2]at hP;have hA:=Vv false x.After.ex x.After.l (by have:=of_decide_eq_false c2;omega)
   cases c5003:x.After.l.all ZU with
   |false=>
    rw[c5003]at hA;refine⟨_,by simp only[go_sem,c30L3b,hg,hi,Ga.enc,NL.enc,hS,c2,hA];rfl,?_⟩
    simp only[go_sem]
   |true=>rw[c5003]at hP;cases hP)
  (⟨_,by simp only[go_sem,c30L3b,ZG];rfl,by simp only[go_sem],by simp only[go_sem]⟩)
 rw[QE]at L;exact L
def Z4E(s:Sta)(hl:s.Nk.length<=1000):∃fr',Zg rE [1,8] c30L4b [(1,stI s),(8,.int .i64 0)] []=some (if s.Nk.all WU=true then .exit 8 else .ret,fr',[])/\(s.Nk.all WU=true->get fr' 1=stI s/\get fr' 2=.bot)/\(s.Nk.all WU=false->get fr' 2=.bool false):=by
 have L:=QT (E:=rE) (live:=[1,8]) (b:=c30L4b) (h:=[]) s.Nk (λ_ x=>WU x) (λi=>[(1,stI s),(8,I i)]) 8 (λfr=>get fr 1=stI s/\get fr 2=.bot) (λfr=>get fr 2=.bool false) (λi=>rfl)
  (λi x hx hP=>by
   have hg:=Z6 (f:=be.enc) hx;have hi:=Zh<|Z7 hx;have hw:=Zx (n:=i) (by have:=Z7 hx;omega)
   have hS:=FP x.Id x.Ga x.Text;simp only[WU]at hP;have p0:=hP;rw[p0]at hS;refine⟨_,by simp only[go_sem,c30L4b,hg,hi,hw,be.enc,hS];rfl,?_⟩
   simp only[go_sem])
  (λi x hx hP=>by
   have hg:=Z6 (f:=be.enc) hx;have hi:=Zh<|Z7 hx;have hS:=FP x.Id x.Ga x.Text;unfold WU at hP;cases c0:[x.Id,x.Ga,x.Text].all ZU with
   |false=>
    rw[c0]at hS;refine⟨_,by simp only[go_sem,c30L4b,hg,hi,be.enc,hS];rfl,?_⟩
    simp only[go_sem]
   |true=>
   rw[c0]at hS hP;cases hP)
  (⟨_,by simp only[go_sem,c30L4b,ZG];rfl,by simp only[go_sem],by simp only[go_sem]⟩)
 rw[QE]at L;exact L
def M3(s:Sta):Bool:=!decide ((s.Fa.length:Int)>8)&&(!decide ((s.Gm.length:Int)>8)&&(!decide ((s.Bt.length:Int)>8)&&(!decide ((s.Bc.length:Int)>16)&&(!decide ((s.Nk.length:Int)>10)&&(!decide ((s.Gc.length:Int)>10)&&!decide ((s.ba.length:Int)>10))))))
def YQ(s:Sta):Bool:=M3 s&&(s.Fa.all WQ&&(s.Gm.all WR&&(s.Bt.all WS&&(s.Bc.all WT&&s.Nk.all WU))))
def Z4F(s:Sta):pfn rE 30 [stA s]=some (.bool<|YQ s):=by
 rw[Z5 (f:=30) rfl rfl];unfold YQ M3;cases d0:decide ((s.Fa.length:Int)>8)with
 |true=>simp only[go_sem,c30,d0]
 |false=>
 cases d1:decide ((s.Gm.length:Int)>8)with
 |true=>simp only[go_sem,c30,d0,d1]
 |false=>
 cases d2:decide ((s.Bt.length:Int)>8)with
 |true=>simp only[go_sem,c30,d0,d1,d2]
 |false=>
 cases d3:decide ((s.Bc.length:Int)>16)with
 |true=>simp only[go_sem,c30,d0,d1,d2,d3]
 |false=>
 cases d4:decide ((s.Nk.length:Int)>10)with
 |true=>simp only[go_sem,c30,d0,d1,d2,d3,d4]
 |false=>
 cases d5:decide ((s.Gc.length:Int)>10)with
 |true=>simp only[go_sem,c30,d0,d1,d2,d3,d4,d5]
 |false=>
 cases d6:decide ((s.ba.length:Int)>10)with
 |true=>simp only[go_sem,c30,d0,d1,d2,d3,d4,d5,d6]
 |false=>
 obtain⟨f0,l0,a0,b0⟩:=Z4A s (by have:=of_decide_eq_false d0;omega)
 simp only[stI]at l0 a0;cases e0:s.Fa.all WQ with
 |false=>
  rw[e0]at l0;simp only[go_sem,c30,d0,d1,d2,d3,d4,d5,d6,c30L0,l0,b0 e0,ZX2]
 |true=>
 rw[e0]at l0;obtain⟨q0,r0⟩:=a0 e0;obtain⟨f1,l1,a1,b1⟩:=Z4B s (by have:=of_decide_eq_false d1;omega)
 simp only[stI]at l1 a1;cases e1:s.Gm.all WR with
 |false=>
  rw[e1]at l1;simp only[go_sem,c30,d0,d1,d2,d3,d4,d5,d6,c30L0,l0,q0,r0,c30L1,l1,b1 e1,ZX2]
 |true=>
 rw[e1]at l1;obtain⟨q1,r1⟩:=a1 e1;obtain⟨f2,l2,a2,b2⟩:=Z4C s (by have:=of_decide_eq_false d2;omega)
 simp only[stI]at l2 a2;cases e2:s.Bt.all WS with
 |false=>
  rw[e2]at l2;simp only[go_sem,c30,d0,d1,d2,d3,d4,d5,d6,c30L0,l0,q0,r0,c30L1,l1,q1,r1,c30L2,l2,b2 e2,ZX2]
 |true=>
 rw[e2]at l2;obtain⟨q2,r2⟩:=a2 e2;obtain⟨f3,l3,a3,b3⟩:=Z4D s (by have:=of_decide_eq_false d3;omega)
 simp only[stI]at l3 a3;cases e3:s.Bc.all WT with
 |false=>
  rw[e3]at l3;simp only[go_sem,c30,d0,d1,d2,d3,d4,d5,d6,c30L0,l0,q0,r0,c30L1,l1,q1,r1,c30L2,l2,q2,r2,c30L3,l3,b3 e3,ZX2]
 |true=>
 rw[e3]at l3;obtain⟨q3,r3⟩:=a3 e3;obtain⟨f4,l4,a4,b4⟩:=Z4E s (by have:=of_decide_eq_false d4;omega)
 simp only[stI]at l4 a4;cases e4:s.Nk.all WU with
 |false=>
  rw[e4]at l4;simp only[go_sem,c30,d0,d1,d2,d3,d4,d5,d6,c30L0,l0,q0,r0,c30L1,l1,q1,r1,c30L2,l2,q2,r2,c30L3,l3,q3,r3,c30L4,l4,b4 e4,ZX2]
 |true=>
 rw[e4]at l4;obtain⟨q4,r4⟩:=a4 e4;simp only[go_sem,c30,d0,d1,d2,d3,d4,d5,d6,c30L0,l0,q0,r0,c30L1,l1,q1,r1,c30L2,l2,q2,r2,c30L3,l3,q3,r3,c30L4,l4,r4,if_true]
def Kl(s:Sta)(h:YQ s=true):StF s:=by
 simp only[YQ,M3,ZWT,ZXn]at h;obtain⟨⟨d0,d1,d2,d3,d4,d5,d6⟩,e0,e1,e2,e3,e4⟩:=h;have k0:=of_decide_eq_false d0;have k1:=of_decide_eq_false d1;have k2:=of_decide_eq_false d2;have k3:=of_decide_eq_false d3;have k4:=of_decide_eq_false d4;have k5:=of_decide_eq_false d5;have k6:=of_decide_eq_false d6;have hN:∀l:List Nm,XQ l=true->l.length<=100:=λl hl=>by
  simp only[XQ,ZWT]at hl;have:=of_decide_eq_true hl.2;omega
 rw[ZXl]at e0 e1 e2 e3 e4;refine⟨⟨⟨by omega,by omega,by omega,by omega,by omega,by omega,by omega⟩,λx hx=>?_,λx hx=>?_,λx hx=>?_,λx hx=>?_,λx hx=>?_⟩,by omega,by omega,by omega,by omega,by omega,by omega,by omega⟩
 .have:=e0 x hx;simp only[WQ,ZWT,ZXn]at this;obtain⟨p0,p1,p2⟩:=this;have p2':=of_decide_eq_false p2;simp[ZU]at p0;exact⟨hN _ p1,by omega,by omega⟩
 .have:=e1 x hx;simp only[WR,ZWT,ZXn]at this;obtain⟨p0,p1,p2⟩:=this;have p2':=of_decide_eq_false p2;simp[ZU]at p0;exact⟨hN _ p1,by omega,by omega⟩
 .have:=e2 x hx;simp only[WS,ZWT,ZXn]at this;obtain⟨p0,p2⟩:=this;have p2':=of_decide_eq_false p2;simp[ZU]at p0;exact⟨by omega,by omega⟩
 .have:=e3 x hx;simp only[WT,ZWT,ZXn]at this;obtain⟨p0,p1,p2⟩:=this;have p1':=of_decide_eq_false p1;simp[ZU]at p0;exact⟨by omega,by omega,by omega,by omega,by omega⟩
 .have:=e4 x hx;simp only[WU]at this;simp[ZU]at this;exact⟨by omega,by omega,by omega⟩
def lvR(l:List Gk):List Gk:=l.filter<|λx=>x.Ld==-1
def arA(x:Gk):AV:=.agg [.str x.Id,I x.bq,.isl false x.Ring.ex 2<|x.Ring.l.map Pt.enc]
def Zi0(l:List Gk):(lvR l).length<=l.length:=List.length_filter_le ..
def Zi2{l:List Gk}{i:Nat}{x:Gk}(hx:l[i]?=some x):lvR (l.take<|i+1)=lvR (l.take i)++(bif x.Ld==-1 then [x]else []):=by
 unfold lvR;rw[ZYx,hx,List.filter_append];cases h:x.Ld==-1 with
 |true=>simp[h]
 |false=>simp[h]
def Zi3(s:Sta)(hs:StS s):pfn rE 15 [stA s]=some (.isl false false 3<|(lvR s.Fa).map arA):=by
 have hbS:∀n(K:List Gk),Zd n (K.map arA)=true:=λn K=>ZN _<|Zw (λt=>rfl) K
 have hl:=hs.regions;have L:=Y8 (E:=rE) (live:=[3,7,8,9]) (b:=c15L0b) s.Fa.length
  (λi=>[(3,.sl 0 (lvR<|s.Fa.take i).length 0 (lvR<|s.Fa.take i).length false),(7,.isl false false 6<|s.Fa.map Gk.enc),(8,I s.Fa.length),(9,I i)])
  (λi=>[.row 3<|(lvR<|s.Fa.take i).map arA]) (λi=>rfl)
  (λi hi=>by
   obtain⟨x,hx⟩:∃x,s.Fa[i]?=some x:=⟨_,ZX5 hi⟩;have hg:=Z6 (f:=Gk.enc) hx;have hi':=Zh hi;have hw:=Zx (n:=i)<|by omega
   have hn:(lvR<|s.Fa.take i).length<=1000:=ZXG (Zi0 _)<|by rw[ZXL];omega
   rw[Zi2 hx];generalize lvR (s.Fa.take i)=KS at hn⊢;cases c:x.Ld==-1 with
   |false=>
    rw[cond_false,ZXe];refine⟨_,by simp only[go_sem,c15L0b,hg,hi',hw,Gk.enc,NL.enc,c,hbS];rfl,?_⟩
    simp only[go_sem]
   |true=>
    have ha:=λq=>XC (h:=[.row 3<|KS.map arA,q]) (fz:=false) (b:=0) (g:=KS.length) (sz:=3) (es:=KS.map arA) (bw:=false) (ex:=false) (ys:=[.agg [.str x.Id,I x.bq,.isl false x.Ring.ex 2<|x.Ring.l.map Pt.enc]]) (bytes:=48) (by simp[rowAt]) rfl (by rfl) (by omega) (by omega) (by simp;omega)
    have e1:(KS++[x]).map arA=KS.map arA++[.agg [.str x.Id,I x.bq,.isl false x.Ring.ex 2<|x.Ring.l.map Pt.enc]]:=by rw[ZX4];rfl
    rw[cond_true,e1,ZX7,ZXh];refine⟨_,by simp only[go_sem,c15L0b,hg,hi',hw,Gk.enc,NL.enc,c,ha,beq_self_eq_true,hbS];rfl,?_⟩
    simp only[go_sem])
  (e:=.exit 0) (by simp only[go_sem,c15L0b,ZG,ZXu];rfl) (by simp)
 have e0:lvR (s.Fa.take 0)=[]:=rfl;simp only[e0,ZXt,ZX1]at L;have L':Zg rE [3,7,8,9] c15L0b [(3,.sl 0 0 0 0 false),(7,.isl false false 6<|s.Fa.map Gk.enc),(8,I s.Fa.length),(9,.int .i64 0)] [.row 3 []]=_:=L;rw[Z5 (f:=15) rfl rfl];have hcl:Z4 ((lvR s.Fa).map arA)=true:=Zw (λt=>rfl) _
 have htk:((lvR s.Fa).map arA).take (lvR s.Fa).length=(lvR s.Fa).map arA:=ZXp<|by rw[ZWQ];omega
 simp only[go_sem,c15,c15L0,L',hbS,beq_self_eq_true,ZXO,htk,hcl]
def ZVT(s:Sta)(hs:StS s):pfn rE 16 [stA s]=some (.isl false false 3<|(lvR s.Fa).map arA):=by
 have hbS:∀n(K:List Gk),Zd n (K.map arA)=true:=λn K=>ZN _<|Zw (λt=>rfl) K
 have hl:=hs.regions;have L:=Y8 (E:=rE) (live:=[1,3,4]) (b:=c16L0b) s.Fa.length
  (λi=>[(1,stI s),(3,.sl 0 (lvR<|s.Fa.take i).length 0 (lvR<|s.Fa.take i).length false),(4,I i)])
  (λi=>[.row 3<|(lvR<|s.Fa.take i).map arA]) (λi=>rfl)
  (λi hi=>by
   obtain⟨x,hx⟩:∃x,s.Fa[i]?=some x:=⟨_,ZX5 hi⟩;have hg:=Z6 (f:=Gk.enc) hx;have hi':=Zh hi;have hw:=Zx (n:=i)<|by omega
   have hn:(lvR<|s.Fa.take i).length<=1000:=ZXG (Zi0 _)<|by rw[ZXL];omega
   rw[Zi2 hx];generalize lvR (s.Fa.take i)=KS at hn⊢;cases c:x.Ld==-1 with
   |false=>
    rw[cond_false,ZXe];refine⟨_,by simp only[go_sem,c16L0b,hg,hi',hw,Gk.enc,NL.enc,c,hbS,ZWQ];rfl,?_⟩
    simp only[go_sem]
   |true=>
    have ha:=XC (h:=[.row 3<|KS.map arA]) (fz:=false) (b:=0) (g:=KS.length) (sz:=3) (es:=KS.map arA) (bw:=false) (ex:=false) (ys:=[.agg [.str x.Id,I x.bq,.isl false x.Ring.ex 2<|x.Ring.l.map Pt.enc]]) (bytes:=48) (by simp[rowAt]) rfl (by rfl) (by omega) (by omega) (by simp;omega)
    have e1:(KS++[x]).map arA=KS.map arA++[.agg [.str x.Id,I x.bq,.isl false x.Ring.ex 2<|x.Ring.l.map Pt.enc]]:=by rw[ZX4];rfl
    rw[cond_true,e1,ZX7,ZXh];refine⟨_,by simp only[go_sem,c16L0b,hg,hi',hw,Gk.enc,NL.enc,c,ha,beq_self_eq_true,hbS,ZWQ];rfl,?_⟩
    simp only[go_sem])
  (e:=.exit 0) (by simp only[go_sem,c16L0b,ZG,ZXu,ZWQ];rfl) (by simp)
 have e0:lvR (s.Fa.take 0)=[]:=rfl;simp only[e0,ZXt,ZX1]at L;have L':Zg rE [1,3,4] c16L0b [(1,stI s),(3,.sl 0 0 0 0 false),(4,.int .i64 0)] [.row 3 []]=_:=L;rw[Z5 (f:=16) rfl rfl];have hcl:Z4 ((lvR s.Fa).map arA)=true:=Zw (λt=>rfl) _
 have htk:((lvR s.Fa).map arA).take (lvR s.Fa).length=(lvR s.Fa).map arA:=ZXp<|by rw[ZWQ];omega
 simp only[go_sem,c16,c16L0,L',hbS,beq_self_eq_true,ZXO,htk,hcl]
def ZPQ{t:Str}(h:ZU t=true):t.size<=1000000:=by
 unfold ZU at h;rw[ZXn]at h;have:=of_decide_eq_false h;omega
def ZQn{l:List Nm}(h:XQ l=true):∀n∈l,n.Lang.size<=1000000/\n.Text.size<=1000000:=by
 unfold XQ at h;rw[ZWT]at h;have hl:=of_decide_eq_true h.2;rw[ZXp<|by omega]at h
 intro n hn;have h1:=ZXl.1 h.1 n hn;unfold M1 at h1;simp only[ZXz,ZYg,ZWT,ZWW]at h1;exact⟨ZPQ h1.1,ZPQ h1.2⟩
def ZVU{s:Sta}(h:YQ s=true):StR s:=by
 have hz:=Kl s h;simp only[YQ,M3,ZWT,ZXn]at h;obtain⟨⟨_,_,_,_,_,d5,_⟩,e0,e1,_⟩:=h;have k5:=of_decide_eq_false d5;refine⟨hz.e,λx hx=>?_,λx hx=>?_,by omega⟩
 .have h1:=ZXl.1 e0 x hx;unfold WQ at h1;simp only[ZWT]at h1;exact ZQn h1.2.1
 .have h1:=ZXl.1 e1 x hx;unfold WR at h1;simp only[ZWT]at h1;exact ZQn h1.2.1
def ZVV{e:Gt}(h:Xn e=true):EvQ e:=by
 have hz:=JL e h;simp only[Xn,ZWT]at h;obtain⟨h0,_,_,h3,h4,_,h6⟩:=h;refine⟨⟨hz,ZQn h4⟩,λx hx=>ZPQ<|ZXl.1 h3 x hx,λx hx=>?_⟩
 unfold FT at h0;have hl:=of_decide_eq_true h6;rw[ZXp<|by omega]at h0
 have h1:=ZXl.1 h0 x hx;unfold M2 at h1;simp only[ZXz,ZYg,ZWT,ZWW]at h1;exact ZPQ h1.1
def ZVW(l:List Gk)(hl:l.length<=1000)(hr:∀x∈l,x.Ring.l.length<=100):pfn rE 14 [.isl false false 3<|l.map arA,.isl false false 3<|l.map arA]=some (.bool true):=by
 have L:=Y8 (E:=rE) (live:=[0,1,5]) (b:=c14L0b) l.length (λi=>[(0,.isl false false 3<|l.map arA),(1,.isl false false 3<|l.map arA),(5,I i)]) (λi=>[]) (λi=>rfl)
  (λi hi=>by
   obtain⟨x,hx⟩:∃x,l[i]?=some x:=⟨_,ZX5 hi⟩;have hg:=Z6 (f:=arA) hx;have hi':=Zh hi;have hw:=Zx (n:=i)<|by omega
   have hp:=Zat x.Ring.ex x.Ring.l (by have:=hr x<|ZXk hx;omega)
   have hs:=Zad x.Id;have hn:(x.bq != x.bq)=false:=by simp
   exact⟨_,by simp only[go_sem,c14L0b,hg,hi',hw,hp,hs,hn,arA,ZWQ,ZWS];rfl,by simp only[go_sem]⟩)
  (e:=.exit 0) (fr:=[(0,.isl false false 3<|l.map arA),(1,.isl false false 3<|l.map arA),(4,.bot),(5,I l.length)]) (h:=[]) (by simp only[go_sem,c14L0b,ZG,ZWQ]) (by simp)
 have L':Zg rE [0,1,5] c14L0b [(0,.isl false false 3<|l.map arA),(1,.isl false false 3<|l.map arA),(5,.int .i64 0)] []=_:=L;have hn:(((l.length:Nat):Int) != (l.length:Int))=false:=by simp
 rw[Z5 (f:=14) rfl rfl];simp only[go_sem,c14,c14L0,L',hn,ZWQ]
def ZVX(s:Sta)(e:Gt):pfn rE 6 [stA s,evA e]=some (.bool<|YQ s&&Xn e):=by
 have h1:=Z4F s;have h2:=Z4z e;rw[Z5 (f:=6) rfl rfl];cases c:YQ s<;>rw[c]at h1<;>simp only[go_sem,c6,h1,h2,ZWR,ZWV]
def ZVY{e:Gt}(h:Xn e=true):∀x∈e.Lst.l,x.Id.size<=1000:=by
 simp only[Xn,ZWT]at h;obtain⟨h0,_,_,_,_,_,h6⟩:=h;intro x hx;unfold FT at h0;have hl:=of_decide_eq_true h6;rw[ZXp<|by omega]at h0
 have h1:=ZXl.1 h0 x hx;unfold M2 at h1;simp only[ZXz,ZYg,ZWT,ZWW]at h1;have h2:=h1.1;unfold ZU at h2;rw[ZXn]at h2;have:=of_decide_eq_false h2;omega
def ZVZ(s:Sta)(hs:StF s)(hR:StR s)(a:Int)(e:Gt)(he:EvQ e):pfn rE 8 [stA s,I a,evA e]=some (.tup [stA<|ZP s a e,I<|Qk s a e]):=by
 cases c:okB s a e with
 |true=>exact ZVS s hs hR a e he c
 |false=>
  have hP:=ZQl s hR;have hO:=ZOa a;have hF:=ZSc e he;have e1:Qk s a e=1:=by unfold Qk;rw[c];rfl
  have e2:ZP s a e=Yh:=by unfold ZP;rw[c];rfl
  have hw:QM a 0 0=ZD a 0 63:=by
   unfold QM;rw[show(ZD 0 (-1) 100000&&ZD 0 0 100000)=true from rfl,ZWW]
  unfold okB at c;rw[hw]at c;rw[e1,e2];rw[Z5 (f:=8) rfl rfl];cases c1:Jx s with
  |false=>
   rw[c1]at hP;simp only[go_sem,c8,hP,ZWU,Yh,stA,ZX1]
  |true=>
  rw[c1]at hP;cases c2:ZD a 0 63 with
  |false=>
   rw[c2]at hO;simp only[go_sem,c8,hP,hO,ZWU,ZWS,Yh,stA,ZX1]
  |true=>
  rw[c2]at hO;cases c3:Q9 e with
  |false=>
   rw[c3]at hF;simp only[go_sem,c8,hP,hO,hF,ZWU,ZWS,Yh,stA,ZX1]
  |true=>rw[c1,c2,c3]at c;cases c
def ZCp(hup:pfn rE 5 []=some (.bool true))(s:Sta)(a:Int)(e:Gt)(d:Str):pfn rE 3 [stA s,I a,evA e,.str d]=some (.bool true):=by
 have hw:=ZVX s e;rw[Z5 (f:=3) rfl rfl];cases c1:YQ s&&Xn e with
 |false=>
  rw[c1]at hw;simp only[go_sem,c3,hup,hw,ZWU]
 |true=>
 rw[c1]at hw;rw[ZWT]at c1;cases c2:decide ((d.size:Int)>100)with
 |true=>simp only[go_sem,c3,hup,hw,c2,ZWS]
 |false=>
 have hR:=ZVU c1.1;have hF:=Kl s c1.1;have hQ:=ZVV c1.2;have hL:=ZVY c1.2;have hz:=hR.toStE.sizes;have e1:=JJ s hF a e hQ.toEvS;have e2:=ZVZ s hF hR a e hQ;have e3:=Z3i s hR.toStE;have e4:=ZQl s hR;have e5:=ZbM (ZP s a e)<|ZeH s hF a e hQ.toEvS hL;have e6:=find_ok s hz d;have e7:=ZPo s hz d;have e8:=Zi3 s hz;have e9:=ZVT s hz;have e10:=ZVW (lvR s.Fa) (by have:=Zi0 s.Fa;have:=hz.regions;omega)<|λx hx=>(hR.toStE.regions x (List.mem_filter.1 hx).1).2.1
 have hb:∀n:Bool,(n==n)=true:=λn=>by simp
 have hn:∀n:Int,(n==n)=true:=λn=>by simp
 simp only[go_sem,c3,hup,hw,c2,e1,e2,e3,e4,e5,e6,e7,e8,e9,e10,hb,hn,ZWS]
end Go.AM
