/- What the functions of the program compute, part 3, for LineageOrigins. No condition. -/
import Derived.Test.YtceijililnjcpaaGreatDoorP5b
set_option linter.unusedVariables false
set_option linter.unusedSimpArgs false
set_option linter.unusedSectionVars false
open Nat renaming reduceAdd → qq, reduceSub → qx, reduceMul → qz, reduceLT → qv, reduceLeDiff → qk, reduceBEq → qy
namespace Go.AM
open Go
def toL (x:Str):List UInt8:=x.data.toList
def ofL (l:List UInt8):Str:=⟨l.toArray⟩
theorem ZER (x:Str):ofL (toL x)=x:=by unfold ofL toL;simp
theorem ZG1 (l:List UInt8):toL (ofL l)=l:=by unfold ofL toL;simp
theorem ZHp {x y:Str} (h:toL x=toL y):x=y:=by rw [←ZER x,h,ZER]
def ZEi (l:List Str):List Str:=(WD (l.map toL)).map ofL
theorem ZHq (l:List Str):Yk (l.map encS)=(ZEi l).map encS:=by
 have e:l.map encS=(l.map toL).map Qd:=by
  rw [ZLI];exact ZMt fun x _=>congrArg AV.str (ZER x).symm
 rw [e,D4];unfold ZEi;rw [ZLI];rfl
theorem ZES (l:List Str):(ZEi l).Perm l:=by
 have h:=(RS (l.map toL)).map ofL;rw [ZLI] at h;have e:l.map (ofL ∘ toL)=l:=by
  conv=>rhs;rw [←List.map_id l]
  exact ZMt fun x _=>ZER x
 rwa [e] at h
def ltS (a b:Str):Prop:=toL a < toL b
theorem ZHr (l:List Str) (hn:l.Nodup):(ZEi l).Pairwise ltS:=by
 have h1:=D8 (l.map toL);have h2:(ZEi l).Nodup:=(ZES l).nodup_iff.2 hn;unfold ZEi at h2 ⊢;rw [ZMy];rw [List.nodup_iff_pairwise_ne,ZMy] at h2;refine (h1.and h2).imp ?_;intro a b hab;unfold ltS;rw [ZG1,ZG1];refine Decidable.byContradiction fun h=>hab.2 ?_
 rw [List.le_antisymm (of_decide_eq_true hab.1) (List.not_lt.1 h)]
theorem ZHs (a b:Str):lexB (ZE4 a) (ZE4 b)=true↔ltS a b:=by
 unfold ZE4 ltS toL;rw [ZEM,decide_eq_true_iff]
theorem ZHt {a b:Str} (h:ZE4 a=ZE4 b):a=b:=by
 unfold ZE4 at h;apply ZHp;unfold toL;have:∀ x y:List UInt8,(x.map fun b=>(b.toNat:Int))=(y.map fun b=>(b.toNat:Int))→x=y:=by
  intro x;induction x with
  | nil=>intro y h;cases y with
   | nil=>rfl
   | cons=>simp at h
  | cons a r ih=>intro y h;cases y with
   | nil=>simp at h
   | cons c t=>
    simp only [ZLl,List.cons.injEq] at h;have hc:a=c:=UInt8.toNat_inj.1 (by omega)
    rw [ih t h.2,hc]
 exact this _ _ h
def gK (e:End):List Int×AV:=(ZE4 e.Id,e.enc)
def ZEy (x:End):List End→List End
 | []=>[x]
 | y::r=>bif lexB (ZE4 x.Id) (ZE4 y.Id) then x::y::r else y::ZEy x r
def ZEj:List End→List End
 | []=>[]
 | x::r=>ZEy x (ZEj r)
theorem ZG2 (x:End):∀ l:List End,ZvI (gK x) (l.map gK)=(ZEy x l).map gK
 | []=>rfl
 | y::r=>by
  rw [ZLl];unfold ZvI ZEy;rw [show lexB (gK x).1 (gK y).1=lexB (ZE4 x.Id) (ZE4 y.Id) from rfl]
  cases lexB (ZE4 x.Id) (ZE4 y.Id) with
  | true=>rfl
  | false=>simp only [cond_false,ZG2 x r,ZLl]
theorem ZF8:∀ l:List End,ZvN (l.map gK)=(ZEj l).map gK
 | []=>rfl
 | x::r=>by
  rw [ZLl];unfold ZvN ZEj;rw [ZF8 r,ZG2]
theorem ZG3 (x:End):∀ l,(ZEy x l).Perm (x::l)
 | []=>.refl _
 | y::r=>by
  unfold ZEy;cases lexB (ZE4 x.Id) (ZE4 y.Id) with
  | true=>exact .refl _
  | false=>exact ((ZG3 x r).cons y).trans (.swap x y r)
theorem ZF9:∀ l,(ZEj l).Perm l
 | []=>.refl _
 | x::r=>(ZG3 x (ZEj r)).trans ((ZF9 r).cons x)
theorem ZG4:∀ l:List End,keysOf ZEf (l.map End.enc)=some (l.map gK)
 | []=>rfl
 | x::r=>by
  rw [ZLl,ZLl];unfold keysOf;rw [ZG4 r];rfl
theorem ZFa:∀ l:List End,(l.map (·.Id)).Nodup→ZvJ (l.map gK)=true
 | [],_=>rfl
 | x::r,h=>by
  rw [ZLl,ZM1] at h;rw [ZLl];unfold ZvJ;rw [ZFa r h.2,ZLo,ZLh];intro y hy;obtain ⟨z,hz,rfl⟩:=ZLx.1 hy;have:((gK x).1==(gK z).1)=false:=by
   rw [beq_eq_false_iff_ne];intro e;exact h.1 (ZLx.2 ⟨z,hz,(ZHt e).symm⟩)
  rw [this];rfl
theorem ZHu (l:List End) (h:(l.map (·.Id)).Nodup):(ZEj l).Pairwise fun a b=>ltS a.Id b.Id:=by
 have h1:=ZwI (l.map gK) (ZFa l h);rw [ZF8,ZMy] at h1;exact h1.imp fun {a b} hab=>(ZHs a.Id b.Id).1 hab
theorem ZET:∀ l:List Str,Z4 (l.map encS)=true
 | []=>rfl
 | x::r=>by rw [ZLl];unfold Z4;rw [ZET r];rfl
theorem ZEU:∀ l:List End,Z4 (l.map End.enc)=true
 | []=>rfl
 | x::r=>by rw [ZLl];unfold Z4;rw [ZEU r];rfl
theorem ZFb (l:List Str) (hl:l.length≤1000):ZE7 37 [ZEa 37] 1 (l.map encS)=some ((ZEi l).map encS):=by
 unfold ZE7 ZEa;have h1:(l.map encS).all WB=true:=by rw [ZLh];intro x hx;obtain ⟨y,_,rfl⟩:=ZLx.1 hx;rfl
 have h2:Nat.ble (l.map encS).length 1000000=true:=ZLD (by rw [ZL6];omega)
 simp only [h1,h2,ZHq];rfl
theorem ZG5 (l:List End) (hl:l.length≤1000) (hn:(l.map (·.Id)).Nodup):ZEe 39 3 ZEf [ZEa 39] 3 (l.map End.enc)=some ((ZEj l).map End.enc):=by
 unfold ZEe ZEa;have h1:(l.map End.enc).all Zwl=true:=by rw [ZLh];intro x hx;obtain ⟨y,_,rfl⟩:=ZLx.1 hx;rfl
 have h2:Nat.ble (l.map End.enc).length 1000000=true:=ZLD (by rw [ZL6];omega)
 have h3:(l.map End.enc).all (fits 3)=true:=by rw [ZLh];intro x hx;obtain ⟨y,_,rfl⟩:=ZLx.1 hx;rfl
 simp only [ZG4,h1,h2,h3,ZEU,ZFa l hn,ZF8,ZLI];rfl
def ZEk (d:Door):End:=⟨d.Id,d.Why,d.Ended⟩
structure IsFate (s:Sta) (id:Str) (D:List Str) (E:List End):Prop where
 dn:D.Nodup
 ds:D.Pairwise ltS
 es:E.Pairwise fun a b=>ltS a.Id b.Id
 dm:∀ x,x∈D↔∃ d∈s.Doors,d.Id=x∧d.Ended < 0∧Reach s id d.Id
 em:∀ e,e∈E↔∃ d∈s.Doors,e=ZEk d∧¬ d.Ended < 0∧d.After.l=[]∧Reach s id d.Id
 dl:D.length≤500
 el:E.length≤500
theorem ZHv (s:Sta) (hp:Jx s=true) (hs:StE s) (hN:s.Doors.length≤500) (id:Str) (hid:decide (Zn s id < 0)=false):∃ D E,pfn rE 12 [stA s,.str id]=some (.tup [ftA false false D E,I 0])∧IsFate s id D E:=by
 have hp':=((Zdb s).1 hp).1;obtain ⟨Q,q1,q2,q3,q4,q5⟩:=ZHo s hp' hs hN id hid;have hQ:Q.length≤500:=by
  have:=ZF6 (Q.map (·.Id)) (s.Doors.map (·.Id)) q2 (fun x hx=>by obtain ⟨d,hd,rfl⟩:=ZLx.1 hx;exact ZLP (q3 d hd))
  simp only [ZL6] at this;omega
 have hin:∀ d,d∈Q↔d∈s.Doors∧Reach s id d.Id:=fun d=>⟨fun h=>⟨q3 d h,q4 d h⟩,fun ⟨h1,h2⟩=>by
  obtain ⟨d',h3,h4⟩:=ZLx.1 (q5 _ h2)
  rwa [←ZFX (ZEF hp') (q3 d' h3) h1 h4]⟩
 have eD:ZEc Q=((Q.filter fun d=>decide (d.Ended < 0)).map (·.Id)).map encS:=by unfold ZEc;rw [ZLI];rfl
 have eE:ZEd Q=((Q.filter fun d=>!decide (d.Ended < 0)&&d.After.l.isEmpty).map ZEk).map End.enc:=by unfold ZEd;rw [ZLI];rfl
 have nD:((Q.filter fun d=>decide (d.Ended < 0)).map (·.Id)).Nodup:=q2.sublist ((ZMz).map _)
 have nE:(((Q.filter fun d=>!decide (d.Ended < 0)&&d.After.l.isEmpty).map ZEk).map (·.Id)).Nodup:=by
  rw [ZLI];exact q2.sublist ((ZMz).map _)
 have lD:((Q.filter fun d=>decide (d.Ended < 0)).map (·.Id)).length≤500:=by rw [ZL6];have:=ZLQ (fun d:Door=>decide (d.Ended < 0)) Q;omega
 have lE:((Q.filter fun d=>!decide (d.Ended < 0)&&d.After.l.isEmpty).map ZEk).length≤500:=by rw [ZL6];have:=ZLQ (fun d:Door=>!decide (d.Ended < 0)&&d.After.l.isEmpty) Q;omega
 have mD:∀ x,x∈((Q.filter fun d=>decide (d.Ended < 0)).map (·.Id))↔∃ d∈s.Doors,d.Id=x∧d.Ended < 0∧Reach s id d.Id:=fun x=>by
  rw [ZLx];constructor
  ·rintro ⟨d,hd,rfl⟩;rw [ZM4] at hd;exact ⟨d,q3 d hd.1,rfl,of_decide_eq_true hd.2,q4 d hd.1⟩
  ·rintro ⟨d,h1,h2,h3,h4⟩;exact ⟨d,ZM4.2 ⟨(hin d).2 ⟨h1,h4⟩,decide_eq_true h3⟩,h2⟩
 have mE:∀ e,e∈((Q.filter fun d=>!decide (d.Ended < 0)&&d.After.l.isEmpty).map ZEk)↔∃ d∈s.Doors,e=ZEk d∧¬ d.Ended < 0∧d.After.l=[]∧Reach s id d.Id:=fun e=>by
  rw [ZLx];constructor
  ·rintro ⟨d,hd,rfl⟩;simp only [ZM4,ZL5,ZLt,decide_eq_false_iff_not,ZMl] at hd;exact ⟨d,q3 d hd.1,rfl,hd.2.1,hd.2.2,q4 d hd.1⟩
  ·rintro ⟨d,h1,h2,h3,h4,h5⟩;refine ⟨d,?_,h2.symm⟩;simp only [ZM4,ZL5,ZLt,decide_eq_false_iff_not,ZMl];exact ⟨(hin d).2 ⟨h1,h5⟩,h3,h4⟩
 rw [eD,eE] at q1;generalize (Q.filter fun d=>decide (d.Ended < 0)).map (·.Id)=D0 at *
 generalize (Q.filter fun d=>!decide (d.Ended < 0)&&d.After.l.isEmpty).map ZEk=E0 at *
 have hc:pfn rE 33 [stA s,.str id]=some (I 0):=by
  rw [Zpq s hs id];unfold ZEb;rw [hp,hid];rfl
 have pD:=ZES D0;have pE:=ZF9 E0;refine ⟨ZEi D0,ZEj E0,?_,pD.nodup_iff.2 nD,ZHr D0 nD,ZHu E0 nE,fun x=>by rw [pD.mem_iff,mD],fun e=>by rw [pE.mem_iff,mE],by rw [pD.length_eq];exact lD,by rw [pE.length_eq];exact lE⟩
 exact ZFW s id _ _ _ _ hc q1 (ZFb D0 (by omega)) (ZG5 E0 (by omega) nE) (by simp [pD.length_eq]) (by simp [pE.length_eq]) (ZET _) (ZEU _)
end Go.AM
namespace Go.AM
open Go
def zE:Event:=⟨0,0,0,0,0,emp,emp,emp,⟨false,[]⟩,⟨false,[]⟩,⟨0,emp,0,0⟩,⟨0,0⟩,⟨false,[]⟩,⟨false,[]⟩⟩
def nU (n:Int):HN:=⟨n,emp,0,0⟩
def le1:Event:={ zE with Kind:=2,Id:=B [115,49],Path:=⟨false,[⟨0,0⟩,⟨9,0⟩]⟩ }
def le2:Event:={ zE with Kind:=5,Id:=B [98,49],Path:=⟨false,[⟨1,1⟩,⟨4,1⟩,⟨1,4⟩]⟩ }
def le3:Event:={ zE with Kind:=6,Id:=B [101,49],Other:=B [98,49],Text:=B [115,49],Number:=nU 1 }
def le4:Event:={ zE with Kind:=6,Id:=B [101,53],Other:=B [98,49],Text:=B [115,49],Number:=nU 5 }
def le5:Event:={ zE with Kind:=9,Id:=B [101,49],Day:=7,Lst:=⟨false,[⟨B [101,50],nU 1,⟨0,0⟩⟩,⟨B [101,51],nU 3,⟨0,0⟩⟩]⟩ }
def le6:Event:={ zE with Kind:=10,Id:=B [101,52],Ids:=⟨false,[B [101,51],B [101,53]]⟩,Day:=9,Number:=nU 3 }
def le7:Event:={ zE with Kind:=12,Id:=B [101,50],Day:=10 }
def lsL:List Event:=[le1,le2,le3,le4,le5,le6,le7]
def lsS:Nat→Sta
 | 0=>Yh
 | i+1=>ZP (lsS i) 1 (lsL[i]?.getD zE)
def ZG6 (i:Nat):Bool:=YQ (lsS i)&&(Xn (lsL[i]?.getD zE)&&Qk (lsS i) 1 (lsL[i]?.getD zE)==0)
theorem ZHw:(List.range 7).all ZG6=true:=by decide +kernel
theorem ZHx (i:Nat) (e:Event) (h:lsL[i]? = some e):pfn rE 20 [stA (lsS i),I 1,evA e]=some (.tup [stA (lsS (i+1)),I 0]):=by
 have hi:i < 7:=Z7 h;have ho:=ZLh.1 ZHw i (List.mem_range.2 hi);unfold ZG6 at ho;rw [h] at ho;simp only [ZM5,ZL5,beq_iff_eq] at ho;rw [JJ _ (Kl _ ho.1) 1 _ (JL _ ho.2.1),ho.2.2];show _=some (AV.tup [stA (ZP (lsS i) 1 (lsL[i]?.getD zE)),_])
 rw [h];rfl
theorem ZHy:∃ fr',Zg rE [0,1,2,3] c23L0b [(0,.ptr 0 0 0 1),(1,.ptr 1 0 0 1),(2,.isl false false 18 (lsL.map evA)),(3,.int .i64 0)] [.row 7 [stA Yh],.row 7 [stA Yh]] =
 some (.exit 0,fr',[.row 7 [stA Yh],.row 7 [stA (lsS 7)]])∧get fr' 0=.ptr 0 0 0 1∧get fr' 1=.ptr 1 0 0 1:=by
 have L:=Y8 (E:=rE) (live:=[0,1,2,3]) (b:=c23L0b) 7 (fun i=>[(0,.ptr 0 0 0 1),(1,.ptr 1 0 0 1),(2,.isl false false 18 (lsL.map evA)),(3,I i)])
  (fun i=>[.row 7 [stA Yh],.row 7 [stA (lsS i)]]) (fun i=>rfl)
  (fun i hi=>by
   obtain ⟨x,hx⟩:∃ x,lsL[i]? = some x:=⟨_,ZLa hi⟩;have hg:=Z6 (f:=evA) hx;have hlen:lsL.length=7:=rfl;have hi':=Zh hi;have hwr:=Zx (n:=i) (by omega)
   have hA:=ZHx i x hx;have n0:((0:Int)==0)=true:=rfl;generalize lsS i=S at hA ⊢;generalize lsS (i+1)=S' at hA ⊢;refine ⟨_,by simp only [go_sem,qy,qq,qv,qk,reduceIte,c23L0b,hg,hlen,hi',hwr,hA,n0];rfl,?_⟩
   simp only [go_sem,qy])
  (e:=.exit 0) (fr:=[(0,.ptr 0 0 0 1),(1,.ptr 1 0 0 1),(2,.isl false false 18 (lsL.map evA)),(3,I (7:Nat))]) (h:=[.row 7 [stA Yh],.row 7 [stA (lsS 7)]])
  (by
   have hlen:lsL.length=7:=rfl;have hd:=ZG 7;simp only [go_sem,qy,qq,qv,reduceIte,c23L0b,hlen,hd]) (by simp)
 exact ⟨_,L,by simp only [go_sem,qy],by simp only [go_sem,qy]⟩
theorem ZFc (n:Int):pfn rE 63 [I n]=some (.agg [I n,.str emp,I 0,I 0]):=by
 rw [Z5 (f:=63) rfl rfl];simp only [go_sem,qy,qq,qv,qk,c63]
theorem ZHz:pfn rE 23 []=some (stA (lsS 7)):=by
 obtain ⟨fr',hL,q0,q1⟩:=ZHy;have h1:=ZFc 1;have h3:=ZFc 3;have h5:=ZFc 5;generalize lsS 7=S at hL ⊢;have hz:stA Yh=.agg HE:=rfl;rw [hz] at hL;simp only [lsL,le1,le2,le3,le4,le5,le6,le7,zE,nU,ZLl,ZLA,evA,Pt.enc,Ent.enc,encS] at hL;simp only [stA] at hL ⊢;rw [Z5 (f:=23) rfl rfl];simp only [go_sem,qy,qq,qv,qk,c23,c23L0,h1,h3,h5,hL,q0,q1]
end Go.AM
namespace Go.AM
open Go
theorem ZEw (hd tl:List AObj) (x:AObj) (bl g:Nat):rowAt (hd++x::tl) (hd.length+(bl+1)) g=rowAt tl bl g:=by
 unfold rowAt;rw [ZLK (by omega),show hd.length+(bl+1) - hd.length=bl+1 by omega,ZLJ]
theorem ZHA (hd tl:List AObj) (x:AObj) (bl:Nat):(hd++x::tl)[hd.length+(bl+1)]? = tl[bl]?:=by
 rw [ZLK (by omega),show hd.length+(bl+1) - hd.length=bl+1 by omega,ZLJ]
theorem ZEG (hd tl:List AObj) (x:AObj):(hd++x::tl)[hd.length]? = some x:=by
 rw [ZLK (ZLq _),ZM2];rfl
theorem ZEV (hd tl:List AObj) (x o:AObj):setH (hd++x::tl) hd.length o=hd++o::tl:=by
 unfold setH;rw [show Nat.blt hd.length (hd++x::tl).length=true by simp,cond_true,ZM0 _ _ (ZLq _),ZM2]
 rfl
theorem ZFd (hd tl:List AObj) (x o:AObj) (bl:Nat):setH (hd++x::tl) (hd.length+(bl+1)) o=hd++x::setH tl bl o:=by
 unfold setH;have e:Nat.blt (hd.length+(bl+1)) (hd++x::tl).length=Nat.blt bl tl.length:=by
  rw [ZMf];simp only [ZLR,ZLf,ZLb];omega
 rw [e];cases Nat.blt bl tl.length with
 | true=>
  rw [cond_true,cond_true,ZM0 _ _ (by omega),show hd.length+(bl+1) - hd.length=bl+1 by omega]
  rfl
 | false=>simp
theorem ZEH (hd tl:List AObj) (x:AObj):(hd++x::tl).length=hd.length+(tl.length+1):=by simp
def LVm (m:Nat) (Lv:AV) (L:List Str) (tl:List AObj):Prop:=
 ∃ bl g off ex es,Lv=.sl (m+(bl+1)) g off L.length ex∧tl[bl]? = some (.row 1 es)∧es.length=g∧off+L.length=g∧es.drop off=L.map encS
theorem ZHB {m:Nat} {Lv:AV} {L:List Str} {tl:List AObj} (h:LVm m Lv L tl) (l:List AObj):LVm m Lv L (tl++l):=by
 obtain ⟨bl,g,off,ex,es,rfl,h2,h3⟩:=h;refine ⟨bl,g,off,ex,es,rfl,?_,h3⟩;rw [ZLL (ZLj.1 h2).1];exact h2
theorem ZHC {m:Nat} {Lv:AV} {L:List Str} {tl:List AObj} {n:Nat} (h:LVm m Lv L tl) (hb:bel (m+(n+1)) Lv=true):LVm m Lv L (tl.take n):=by
 obtain ⟨bl,g,off,ex,es,rfl,h2,h3⟩:=h;refine ⟨bl,g,off,ex,es,rfl,?_,h3⟩;have:m+(bl+1) < m+(n+1):=by simpa [bel] using hb
 rw [ZM9,if_pos (by omega)]
 exact h2
theorem ZHD (hd:List AObj) (p5:AObj) {Lv:AV} {L:List Str} {tl:List AObj} (x:Str) (hL:LVm hd.length Lv L tl) (hc:TC' tl) (hn:L.length≤1000000):
 ∃ tl',tl'.length=tl.length∧TC' tl'∧ZE9 (hd++p5::tl) 1 16 Lv (.isl false false 1 [.str x]) =
  some (.sl (hd.length+(tl.length+1)) (L.length+1) 0 (L.length+1) false,hd++p5::(tl'++[.row 1 ((L++[x]).map encS)])):=by
 obtain ⟨bl,g,off,ex,es,rfl,hb,hg,hoff,hes⟩:=hL;have hlt:bl < tl.length:=(ZLj.1 hb).1;have hbb:(hd++p5::tl)[hd.length+(bl+1)]? = some (.row 1 es):=by rw [ZHA];exact hb
 have hmap:(L++[x]).map encS=es.drop off++[.str x]:=by rw [ZLg,hes];rfl
 have hlen:(hd++p5::tl).length=hd.length+(tl.length+1):=ZEH _ _ _;cases ex with
 | true=>
  refine ⟨tl,rfl,hc,?_⟩;have hel:Q2 (hd++p5::tl) (.sl (hd.length+(bl+1)) g off L.length true)=some (es.drop off):=by
   simp only [Q2,hbb,hg,beq_self_eq_true,cond_true];rw [ZLk (by simp;omega)]
  have hz:Qq (hd++p5::tl) 1 (.sl (hd.length+(bl+1)) g off L.length true)=true:=by simp only [Qq,hbb];rfl
  have hl2:(es.drop off++[AV.str x]).length=L.length+1:=by simp;omega
  have hbd:((es.drop off).length+1) * 16≤70368744177664:=by simp;omega
  have he:Qt (hd++p5::tl) (hd++p5::tl).length false 1 16 (.sl (hd.length+(bl+1)) g off L.length true) (.isl false false 1 [.str x]) =
   some (.sl (hd++p5::tl).length (es.drop off++[AV.str x]).length 0 (es.drop off++[AV.str x]).length false,[hd.length+(bl+1)],some ((hd++p5::tl).length,.row 1 (es.drop off++[.str x]))):=by
   unfold Qt;rw [hel];dsimp only [Q2];rw [if_pos ⟨hz,rfl,Nat.zero_lt_one,by decide,hbd⟩]
   rfl
  unfold ZE9;dsimp only;rw [he,hmap,hl2,hlen];have e:setH (hd++p5::tl) (hd.length+(tl.length+1)) (.row 1 (es.drop off++[.str x]))=hd++p5::(tl++[.row 1 (es.drop off++[.str x])]):=by
   rw [←hlen,J1,ZLi];rfl
  exact congrArg some (Prod.ext rfl e)
 | false=>
  refine ⟨tl.set bl .gone,by simp,fun n=>ZEN (hc n) rfl,?_⟩
  have hz:Qq (hd++p5::tl) 1 (.isl false false 1 [.str x])=true:=rfl;have hcond:((es.length==g&&(1==1))&&((off+L.length==g)&&(Qq (hd++p5::tl) 1 (.isl false false 1 [.str x])&&(([AV.str x]:List AV).all (fits 1)&&(Nat.blt 0 ([AV.str x]:List AV).length&&(Nat.blt 0 1&&(Nat.blt 0 16&&Nat.ble ((L.length+([AV.str x]:List AV).length) * 16) 70368744177664)))))))=true:=by
   simp only [hg,hoff,hz,beq_self_eq_true,ZLm,ZLo];have:(L.length+([AV.str x]:List AV).length) * 16≤70368744177664:=by simp;omega
   have e2:Nat.ble ((L.length+([AV.str x]:List AV).length) * 16) 70368744177664=true:=ZLD this;rw [e2];rfl
  unfold ZE9;simp only [hbb,Q2,hcond,cond_true];rw [ZFd,ZEC hlt,hmap,hlen,ZLi];rfl
theorem ZEJ (hd:List AObj) (x:AObj) (tl:List AObj) (fr:Fr):Xq (hd.length+(tl.length+1)) fr (hd++x::tl)=hd++x::tl:=ZE5 (by simp)
theorem ZFe (n g o k:Nat) (ex:Bool) (a b c v q r:AV) (h:Hp):Xq n [(0,a),(2,b),(4,c),(5,.sl n g o k ex),(37,v),(38,q),(39,r)] h=h:=by
 have e:Zd n ([(0,a),(2,b),(4,c),(5,AV.sl n g o k ex),(37,v),(38,q),(39,r)].map (fun (p:Nat×AV)=>p.2))=false:=by
  simp [Zd,bel]
 unfold Xq;rw [e];rfl
def ZEl (hd:List AObj) (v:AV) (A:List Str):Prop:=
 (∀ x tl,lnV (hd++x::tl) 1 v=some (I A.length))∧∀ (i:Nat) (a:Str),A[i]? = some a→∃ p,(∀ x tl,iaV (hd++x::tl) 1 v (I i)=some p)∧∀ x tl,ldV (hd++x::tl) none p=some (.str a)
theorem ZHE (hd:List AObj) (ex:Bool) (A:List Str):ZEl hd (.isl false ex 1 (A.map encS)) A:=by
 refine ⟨fun x tl=>by rw [AX,ZL6],fun i a h=>⟨.iptr false [.str a],fun x tl=>?_,fun x tl=>rfl⟩⟩
 have hg:=Z6 (f:=encS) h;rw [AK];simp only [go_sem,hg,encS]
theorem ZHF {hd:List AObj} {b:Nat} {A:List Str} (hb:hd[b]? = some (.row 1 (A.map encS))):ZEl hd (.sl b A.length 0 A.length false) A:=by
 have hlt:b < hd.length:=(ZLj.1 hb).1;have hr:∀ x tl,rowAt (hd++x::tl) b A.length=some (1,A.map encS):=fun x tl=>by
  unfold rowAt;rw [ZLL hlt,hb];simp only [ZL6,beq_self_eq_true,cond_true]
 refine ⟨fun x tl=>by rw [AY,hr];rfl,fun i a h=>?_⟩
 have hi:i < A.length:=(ZLj.1 h).1;have hg:=Z6 (f:=encS) h;refine ⟨.ptr b i 0 A.length,fun x tl=>?_,fun x tl=>?_⟩
 ·rw [AL,hr];have:=VT b A.length 0 1 i A.length (A.map encS) ⟨Int.natCast_nonneg i,by omega⟩
  rw [this,ZMw,ZLB]
 ·rw [Az,hr];simp only [go_sem,hg,encS]
theorem ZHG (hd:List AObj) (Y G v:AV) (l:List Str) (hv:ZEl hd v l) (s0:List Str×List Str) (Lv0:AV) (tl0:List AObj) (hL0:LVm hd.length Lv0 s0.2 tl0) (hc0:TC' tl0) (hn:s0.2.length+l.length≤1000000):
 ∃ fr' Lv tl,Zg rE [0,2,4,5,37,38,39] c71L0b [(0,Y),(2,G),(4,.mp hd.length),(5,Lv0),(37,v),(38,I l.length),(39,I 0)] (hd++kM s0.1::tl0) =
  some (.exit 2,fr',hd++kM (l.foldl wkS s0).1::tl)∧LVm hd.length Lv (l.foldl wkS s0).2 tl∧TC' tl∧get fr' 0=Y∧get fr' 2=G∧get fr' 4=.mp hd.length∧get fr' 5=Lv:=by
 obtain ⟨e,fr',h',L,hQ⟩:=Z9Y (E:=rE) (live:=[0,2,4,5,37,38,39]) (b:=c71L0b) l.length
  (fun i fr h=>∃ Lv tl,fr=[(0,Y),(2,G),(4,.mp hd.length),(5,Lv),(37,v),(38,I l.length),(39,I i)]∧h=hd++kM ((l.take i).foldl wkS s0).1::tl∧LVm hd.length Lv ((l.take i).foldl wkS s0).2 tl∧TC' tl)
  (fun e fr h=>e=.exit 2∧∃ Lv tl,h=hd++kM (l.foldl wkS s0).1::tl∧LVm hd.length Lv (l.foldl wkS s0).2 tl∧TC' tl∧get fr 0=Y∧get fr 2=G∧get fr 4=.mp hd.length∧get fr 5=Lv)
  (fun i fr h m=>by obtain ⟨Lv,tl,rfl,_⟩:=m;rfl)
  (fun i fr h hi m=>by
   obtain ⟨Lv,tl,rfl,rfl,hL,hc⟩:=m;refine .inl ?_;obtain ⟨x,hx⟩:∃ x,l[i]? = some x:=⟨_,ZLa hi⟩;obtain ⟨p,hg1,hg2⟩:=hv.2 i x hx;have hi':=Zh hi;have hwr:=Zx (n:=i) (by omega)
   have hf:(l.take (i+1)).foldl wkS s0=wkS ((l.take i).foldl wkS s0) x:=Us wkS s0 hx;have hlen:=ZF4 (l.take i) s0;have hle:(l.take i).length≤l.length:=by simp;omega
   rw [hf];generalize (l.take i).foldl wkS s0=s at hL hlen ⊢;obtain ⟨K,L⟩:=s;have hq:=fun (tl:List AObj)=>H5 (enc:=encS) (eq:=Z3) Z1Y K x (h:=hd++.map (K.map encS) (ZO K.length)::tl) (b:=hd.length) (ZEG _ _ _)
   have hp:=fun (tl:List AObj)=>Ur (enc:=encS) (eq:=Z3) Z1Y K x (h:=hd++.map (K.map encS) (ZO K.length)::tl) (b:=hd.length) (ZEG _ _ _)
   have hlen':L.length≤s0.2.length+(l.take i).length:=hlen;have hL:LVm hd.length Lv L tl:=hL;unfold encS at hq hp;cases c:K.any (Z3 x) with
   | true=>
    have hw:wkS (K,L) x=(K,L):=by unfold wkS;rw [c];rfl
    rw [hw];unfold kM encS;refine ⟨_,_,by simp only [go_sem,qy,reduceIte,c71L0b,hg1,hg2,hi',hwr,hq,c,ZEJ,ZLp,ZLb,ZLf]<;>rfl,Lv,tl,?_,rfl,hL,hc⟩
    simp only [go_sem,qy]
   | false=>
    obtain ⟨tl',hl',hc',ha⟩:=ZHD hd (.map ((Qi Z3 K x).map encS) (ZO (Qi Z3 K x).length)) x hL hc (by omega)
    unfold encS at ha;have hak:Qi Z3 K x=K++[x]:=by unfold Qi;rw [c];rfl
    have hirr:decide (hd.length+(tl.length+1) < hd.length+(tl.length+1))=false:=by simp
    have e1:(K++[x]).length=K.length+1:=by simp
    rw [hak,e1] at ha;have hw:wkS (K,L) x=(K++[x],L++[x]):=by unfold wkS;rw [c];rfl
    rw [hw];unfold kM encS;rw [e1];refine ⟨_,_,by simp only [go_sem,qy,qq,qv,reduceIte,c71L0b,hg1,hg2,hi',hwr,hq,hp,c,hak,ha,ZEV,ZEJ,ZFe,ZLw,ZLb,ZLf]<;>rfl,.sl (hd.length+(tl.length+1)) (L.length+1) 0 (L.length+1) false,_,?_,rfl,?_,?_⟩
    ·simp only [go_sem,qy]
    ·refine ⟨tl.length,L.length+1,0,false,(L++[x]).map encS,by simp,by rw [←hl'];exact ZF3 _ _,by simp,by simp,by simp⟩
    ·intro n;rw [ZEu,hc' n];show (true&&(Zj n (.row 1 ((L++[x]).map encS))&&true))=true
     simp only [Zj,ZEv,ZLo])
  (fun fr h m=>by
   obtain ⟨Lv,tl,rfl,rfl,hL,hc⟩:=m;rw [ZLr] at hL ⊢;refine ⟨.exit 2,_,_,by simp only [go_sem,qy,reduceIte,c71L0b,ZG,ZEJ,kM,ZLb,ZLf]<;>rfl,by simp,rfl,Lv,tl,rfl,hL,hc,?_⟩
   refine ⟨?_,?_,?_,?_⟩<;>simp only [go_sem,qy])
  l.length 0 [(0,Y),(2,G),(4,.mp hd.length),(5,Lv0),(37,v),(38,I l.length),(39,I 0)] (hd++kM s0.1::tl0) (by omega) ⟨Lv0,tl0,rfl,rfl,hL0,hc0⟩
 obtain ⟨rfl,Lv,tl,rfl,h1,h2,h3,h4,h5,h6⟩:=hQ;exact ⟨fr',Lv,tl,L,h1,h2,h3,h4,h5,h6⟩
end Go.AM
namespace Go.AM
open Go
structure GRd (hd:List AObj) (G:AV) (s:Sta) (FC p0 p3 p7:AV):Prop where
 f0:∀ x tl,faV (hd++x::tl) 0 G=some p0
 f3:∀ x tl,faV (hd++x::tl) 3 p0=some p3
 l3:∀ x tl,ldV (hd++x::tl) none p3=some (.isl false false 16 (s.Doors.map Door.enc))
 l0:∀ x tl,ldV (hd++x::tl) (some 7) p0=some (stA s)
 f7:∀ x tl,faV (hd++x::tl) 7 G=some p7
 l7:∀ x tl,ldV (hd++x::tl) none p7=some FC
 t:∀ n,hd.length≤n→(Zs G).contains n=false∧(Zs p0).contains n=false∧(Zs p3).contains n=false
inductive RunsG {σ:Type} (s:Sta) (aft:Door→List Str) (f:Door→σ→σ) (ok:σ→Prop):List Str→List Str→σ→σ→Prop
 | stop (K:List Str) (x:σ):RunsG s aft f ok K [] x x
 | step (K:List Str) (id:Str) (r:List Str) (x x':σ) (k:Nat) (d:Door) (hd:s.Doors[k]? = some d) (hf:pfn rE 15 [stA s,.str id]=some (I k)) (hx:ok x)
  (h3:(id::r).length+(aft d).length≤1000000) (h:RunsG s aft f ok ((aft d).foldl wkS (K,id::r)).1 ((aft d).foldl wkS (K,id::r)).2.tail (f d x) x'):RunsG s aft f ok K (id::r) x x'
def wfp (y m:Nat) (G Lv:AV):Fr:=[(0,.yld y),(2,G),(4,.mp m),(5,Lv)]
theorem ZG7 {fr:Fr} {Y G Lv:AV} {L:List Str} (hd:List AObj) (p5:AObj) {tl:List AObj} (n:Nat) (e:AExit) (h0:get fr 0=Y) (h2:get fr 2=G) (h4:get fr 4=.mp hd.length) (h5:get fr 5=Lv) (hL:LVm hd.length Lv L tl) (hc:TC' tl):
 ∃ tl',kp [0,2,4,5] (hd.length+(n+1)) (some (e,fr,hd++p5::tl))=some (e,[(0,Y),(2,G),(4,.mp hd.length),(5,Lv)],hd++p5::tl')∧LVm hd.length Lv L tl'∧TC' tl':=by
 have hr:Z2 [0,2,4,5] fr=[(0,Y),(2,G),(4,.mp hd.length),(5,Lv)]:=by
  show [(0,get fr 0),(2,get fr 2),(4,get fr 4),(5,get fr 5)]=_
  rw [h0,h2,h4,h5]
 have ht:(hd++p5::tl).take (hd.length+(n+1))=hd++p5::tl.take n:=by
  rw [ZMb,ZLk (by omega),show hd.length+(n+1) - hd.length=n+1 by omega]
  rfl
 rw [Sd,hr];unfold Xq;cases c:Zd (hd.length+(n+1)) (List.map (·.2) [(0,Y),(2,G),(4,AV.mp hd.length),(5,Lv)])&&X4 (hd.length+(n+1)) ((hd++p5::tl).take (hd.length+(n+1))) with
 | false=>exact ⟨tl,rfl,hL,hc⟩
 | true=>
  refine ⟨tl.take n,by rw [cond_true,ht],ZHC hL ?_,fun m=>ZEO (hc m)⟩
  simp only [List.map,Zd,ZL5,ZLo] at c;exact c.1.2.2.2
theorem ZHH (n i o g:Nat) (a b c e:AV) (h:Hp):Xq n [(0,a),(2,b),(4,c),(5,e),(6,.ptr n i o g)] h=h:=by
 have e:Zd n ([(0,a),(2,b),(4,c),(5,e),(6,AV.ptr n i o g)].map (fun (p:Nat×AV)=>p.2))=false:=by
  have hn:Nat.blt n n=false:=by rw [ZM6];simp [ZLR]
  simp [Zd,bel,hn]
 unfold Xq;rw [e];rfl
section
variable (y:Nat) (s:Sta) (FC G p0 p3 p7:AV) (hd hd':List AObj) (K:List Str) (Lv:AV) (id:Str) (r:List Str) (tl L:List AObj) (d:Door)
theorem pd (hG:GRd hd G s FC p0 p3 p7) (hL:LVm hd.length Lv (id::r) tl) (k:Nat) (hk':s.Doors[k]? = some d) (hf:pfn rE 15 [stA s,.str id]=some (I k)):
 Zb rE c71D (wfp y hd.length G Lv++[(16,.bool true)]) (hd++kM K::tl)=some (.normal,[(0,.yld y),(2,G),(4,.mp hd.length),(5,Lv),(6,.ptr (hd.length+(tl.length+1)) 0 0 1)],hd++kM K::(tl++[.row 16 [d.enc]])):=by
 obtain ⟨bl,g,off,ex,es,rfl,hb,hg1,hg2,hes⟩:=hL;have hlt:bl < tl.length:=(ZLj.1 hb).1;have hr:rowAt tl bl g=some (1,es):=by unfold rowAt;rw [hb];simp only [hg1,beq_self_eq_true,cond_true]
 have hes0:es[off]? = some (.str id):=by
  have:=congrArg List.head? hes;rw [List.head?_drop] at this;exact this
 have hg:=Z6 (f:=Door.enc) hk';have hk:(0≤(k:Int))=True:=by simp
 have hk2:((k:Int)).toNat=k:=ZMw k;have z0:((0:Int)).toNat=0:=rfl;have hlen:(id::r).length=r.length+1:=rfl;have hi0:iaP (hd.length+(bl+1)) g off 1 0 (r.length+1) (some (1,es))=some (.ptr (hd.length+(bl+1)) off 0 g):=VT _ _ _ _ _ _ _ ⟨Int.le_refl _,by omega⟩
 have hne:(hd.length+(tl.length+1)==hd.length+(bl+1))=false:=by rw [beq_eq_false_iff_ne];omega
 have hirr:decide (hd.length+(tl.length+1) < hd.length+(tl.length+1))=false:=by simp
 have l0:=hG.l0;obtain ⟨tG1,tG2,tG3⟩:=hG.t (hd.length+(tl.length+1)) (by omega)
 simp only [Zs] at tG1 tG2 tG3;simp only [stA] at hf l0;simp only [Door.enc,NL.enc] at hg;simp only [go_sem,qy,qq,qk,c71D,c71L1m,c71L1b,wfp,kM,hG.f0,hG.f3,hG.l3,l0,tG1,tG2,tG3,ZLw,ZLv,hne,Door.enc,NL.enc,ZEw,hr,ZLb,ZLf,ZHH,hf,hg,hi0,hes0,ZFd,ZEp,ZL8,ZLi]
theorem ZHI (hd:List AObj) (p5 x y:AObj) (tl:List AObj) (b:Bool):trimB (hd.length+(tl.length+1+1)) (hd++p5::(tl++[x,y])) b=hd++p5::(tl++x::bif b then [] else [y]):=by
 unfold trimB;cases b with
 | false=>rfl
 | true=>
  simp only [cond_true];rw [ZMb,ZLk (by omega),show hd.length+(tl.length+1+1) - hd.length=tl.length+1+1 by omega,ZMe,ZMb,ZLk (by omega)]
  simp
theorem ZHJ (hd:List AObj) (p5 x y:AObj) (tl:List AObj) (fr:Fr):∃ b:Bool,Xq (hd.length+(tl.length+1+1)) fr (hd++p5::(tl++[x,y]))=hd++p5::(tl++x::bif b then [] else [y]):=by
 refine ⟨Zd (hd.length+(tl.length+1+1)) (fr.map (·.2))&&X4 (hd.length+(tl.length+1+1)) ((hd++p5::(tl++[x,y])).take (hd.length+(tl.length+1+1))),?_⟩;have:=ZHI hd p5 x y tl (Zd (hd.length+(tl.length+1+1)) (fr.map (·.2))&&X4 (hd.length+(tl.length+1+1)) ((hd++p5::(tl++[x,y])).take (hd.length+(tl.length+1+1))));exact this
theorem ZG8 (hd tl L:List AObj) (p5:AObj) (x:AV) (sz:Nat):rowAt (hd++p5::(tl++.row sz [x]::L)) (hd.length+(tl.length+1)) 1=some (sz,[x]):=by rw [ZEw,ZEP]
theorem py (hl:hd'.length=hd.length) (hy:U4 rE y [d.enc] (hd++kM K::(tl++[.row 16 [d.enc]]))=some (.bool true,hd'++kM K::(tl++[.row 16 [d.enc],.row 16 [d.enc]]))):
 ∃ b:Bool,Zb rE c71Y [(0,.yld y),(2,G),(4,.mp hd.length),(5,Lv),(6,.ptr (hd.length+(tl.length+1)) 0 0 1)] (hd++kM K::(tl++[.row 16 [d.enc]])) =
  some (.normal,[(0,.yld y),(2,G),(4,.mp hd.length),(5,Lv),(6,.ptr (hd.length+(tl.length+1)) 0 0 1),(33,.bool false)],hd'++kM K::(tl++.row 16 [d.enc]::bif b then [] else [.row 16 [d.enc]])):=by
 obtain ⟨b,ht⟩:=ZHJ hd' (kM K) (.row 16 [d.enc]) (.row 16 [d.enc]) tl [(0,.yld y),(2,G),(4,.mp hd.length),(5,Lv),(6,.ptr (hd.length+(tl.length+1)) 0 0 1),(33,.bool false)];rw [hl] at ht;simp only [Door.enc,NL.enc,kM] at hy ht;refine ⟨b,?_⟩;simp only [go_sem,qy,qq,qk,S3,c71Y,c71L1m,c71L1b,kM,Door.enc,NL.enc,ZLb,ZLf,ZLs,ZG8,hy,ZLp,ht]
theorem ZHL (hd:List AObj) (p5 x:AObj) (tl L:List AObj) (fr:Fr):Xq (hd.length+(tl.length+(L.length+1)+1)) fr (hd++p5::(tl++x::L))=hd++p5::(tl++x::L):=ZE5 (by simp)
theorem pr (hG:GRd hd G s FC p0 p3 p7) (v:AV) (A:List Str) (hv:ZEl hd v A) (hA:Xy rE false FC [d.enc] (hd++kM K::(tl++.row 16 [d.enc]::L))=some (v,hd++kM K::(tl++.row 16 [d.enc]::L))):
 Zb rE c71R [(0,.yld y),(2,G),(4,.mp hd.length),(5,Lv),(6,.ptr (hd.length+(tl.length+1)) 0 0 1),(33,.bool false)] (hd++kM K::(tl++.row 16 [d.enc]::L)) =
  some (.normal,[(0,.yld y),(2,G),(4,.mp hd.length),(5,Lv),(37,v),(38,I A.length),(39,I 0)],hd++kM K::(tl++.row 16 [d.enc]::L)):=by
 have hln:=hv.1;simp only [Door.enc,NL.enc,kM] at hA;simp only [go_sem,qy,qq,qk,c71R,c71Z,c71L1m,c71L1b,kM,hG.f7,hG.l7,Door.enc,NL.enc,ZLb,ZLf,ZG8,hA,hln,ZHL]
theorem pA (hL:LVm hd.length Lv (id::r) tl):
 Zb rE c71A (wfp y hd.length G Lv) (hd++kM K::tl)=some (.normal,wfp y hd.length G Lv++[(16,.bool true)],hd++kM K::tl):=by
 obtain ⟨bl,g,off,ex,es,rfl,hb,hg1,hg2,hes⟩:=hL;have hr:rowAt tl bl g=some (1,es):=by unfold rowAt;rw [hb];simp only [hg1,beq_self_eq_true,cond_true]
 have hlen:(id::r).length=r.length+1:=rfl;simp only [go_sem,qy,reduceIte,c71A,c71L1b,wfp,kM,hlen,ZEw,hr,ZLb,ZLf,ZFT,ZEJ,ZL8,ZL9]
theorem pE (hL:LVm hd.length Lv [] tl):
 Zb rE c71A (wfp y hd.length G Lv) (hd++kM K::tl)=some (.exit 0,wfp y hd.length G Lv++[(16,.bool false)],hd++kM K::tl):=by
 obtain ⟨bl,g,off,ex,es,rfl,hb,hg1,hg2,hes⟩:=hL;have hr:rowAt tl bl g=some (1,es):=by unfold rowAt;rw [hb];simp only [hg1,beq_self_eq_true,cond_true]
 have hlen:([]:List Str).length=0:=rfl;have h0:decide (((0:Nat):Int) > 0)=false:=rfl;simp only [go_sem,qy,reduceIte,c71A,c71L1b,wfp,kM,hlen,ZEw,hr,ZLb,ZLf,h0,ZEJ,ZL8,ZL9]
theorem pC (hL:LVm hd.length Lv (id::r) tl):
 ∃ fr Lv',Zb rE c71C (wfp y hd.length G Lv) (hd++kM K::tl)=some (.normal,fr,hd++kM K::tl)∧get fr 0=.yld y∧get fr 2=G∧get fr 4=.mp hd.length∧get fr 5=Lv'∧LVm hd.length Lv' r tl:=by
 obtain ⟨bl,g,off,ex,es,rfl,hb,hg1,hg2,hes⟩:=hL;have hlen:(id::r).length=r.length+1:=rfl;have hr:rowAt tl bl g=some (1,es):=by unfold rowAt;rw [hb];simp only [hg1,beq_self_eq_true,cond_true]
 refine ⟨[(5,.sl (hd.length+(bl+1)) g (off+1) r.length ex),(18,.sl (hd.length+(bl+1)) g (off+1) r.length ex),(17,.sl (hd.length+(bl+1)) g off (r.length+1) ex)]++wfp y hd.length G (.sl (hd.length+(bl+1)) g off (r.length+1) ex),.sl (hd.length+(bl+1)) g (off+1) r.length ex,?_,rfl,rfl,rfl,rfl,?_⟩
 ·have hs:=ZFV (h:=hd++.map (K.map encS) (ZO K.length)::tl) (b:=hd.length+(bl+1)) (off:=off) (n:=r.length) (ex:=ex) (by rw [ZEw];exact hr)
  simp only [go_sem,qy,c71C,c71L1b,wfp,kM,hlen,ZFU,hs,ZL8,ZL9]
 ·refine ⟨bl,g,off+1,ex,es,rfl,hb,hg1,by simp at hg2;omega,?_⟩
  have:=congrArg List.tail hes
  rwa [List.tail_drop] at this
theorem ZHM (hG:GRd hd G s FC p0 p3 p7) (hG':GRd hd' G s FC p0 p3 p7) (hl:hd'.length=hd.length) (hL:LVm hd.length Lv (id::r) tl) (hc:TC' tl) (k:Nat) (hk:s.Doors[k]? = some d) (hf:pfn rE 15 [stA s,.str id]=some (I k)) (A:List Str) (h3:(id::r).length+A.length≤1000000)
 (hy:U4 rE y [d.enc] (hd++kM K::(tl++[.row 16 [d.enc]]))=some (.bool true,hd'++kM K::(tl++[.row 16 [d.enc],.row 16 [d.enc]])))
 (hA:∀ L,∃ v,Xy rE false FC [d.enc] (hd'++kM K::(tl++.row 16 [d.enc]::L))=some (v,hd'++kM K::(tl++.row 16 [d.enc]::L))∧ZEl hd' v A):
 ∃ Lv' tl',Zb rE c71L1b (wfp y hd.length G Lv) (hd++kM K::tl)=some (.normal,wfp y hd.length G Lv',hd'++kM (A.foldl wkS (K,id::r)).1::tl')∧
  LVm hd.length Lv' (A.foldl wkS (K,id::r)).2.tail tl'∧TC' tl':=by
 obtain ⟨b,hy'⟩:=py y G hd hd' K Lv tl d hl hy;have hT:TC' (tl++.row 16 [d.enc]::bif b then [] else [.row 16 [d.enc]]):=fun n=>by
  have e:Zj n (.row 16 [d.enc])=true:=by simp only [Zj,Zd,Door.enc,NL.enc,bel,ZLv]
  rw [ZEu,hc n];cases b<;>simp only [cond_true,cond_false,X4,e,ZLv]
 generalize (bif b then [] else [AObj.row 16 [d.enc]])=X at hy' hT;obtain ⟨v,hA,hv⟩:=hA X;have hin:=ZHG hd' (.yld y) (G) v A hv (K,id::r) Lv (tl++.row 16 [d.enc]::X) (by rw [hl];exact ZHB hL _) hT h3
 have hr:=pr y s FC G p0 p3 p7 hd' K Lv tl X d hG' v A hv hA;have kq:=fun {fr:Fr} {Y G Lv:AV} {L:List Str}=>@ZG7 fr Y G Lv L hd'
 have cq:=fun (K:List Str) (Lv:AV) (id:Str) (r:List Str) (tl:List AObj)=>pC y G hd' K Lv id r tl
 rw [hl] at hin hr;simp only [hl] at kq cq;obtain ⟨fr',Lv0,tl0,hin,z1,z2,z3,z4,z5,z6⟩:=hin;obtain ⟨tl1,hk1,l1,c1⟩:=kq (kM (A.foldl wkS (K,id::r)).1) (tl++.row 16 [d.enc]::X).length .normal z3 z4 z5 z6 z1 z2;have hlen1:(hd'++kM K::(tl++.row 16 [d.enc]::X)).length=hd.length+((tl++.row 16 [d.enc]::X).length+1):=by rw [ZEH,hl]
 have e1:Zb rE c71L1m (wfp y hd.length G Lv++[(16,.bool true)]) (hd++kM K::tl)=some (.normal,wfp y hd.length G Lv0,hd'++kM (A.foldl wkS (K,id::r)).1::tl1):=by
  show Zb rE (.seq c71D (.seq c71Y (.seq c71R (.keep [0,2,4,5] (.block 2 c71L0))))) _ _=_
  rw [SK,pd y s FC G p0 p3 p7 hd K Lv id r tl d hG hL k hk hf,SH,SK,hy',SH,SK,hr,SH,Sm,Sl];show kp _ _ (blk 2 (Zg rE [0,2,4,5,37,38,39] c71L0b _ _))=_
  rw [hin,hlen1];exact hk1
 obtain ⟨r',hne⟩:=ZEQ A K (id::r) id r rfl;generalize A.foldl wkS (K,id::r)=q at hne e1 l1 ⊢;obtain ⟨K',L'⟩:=q;have hne:L'=id::r':=hne;subst hne;have l1:LVm hd.length Lv0 (id::r') tl1:=l1;obtain ⟨tl2,e2,l2,c2⟩:=kq (Y:=.yld y) (G:=G) (Lv:=Lv0) (fr:=wfp y hd.length G Lv0) (kM K') tl.length .normal rfl rfl rfl rfl l1 c1;obtain ⟨fr3,Lv3,e3,g0,g2,g4,g5,l3⟩:=cq K' Lv0 id r' tl2 l2;obtain ⟨tl4,e4,l4,c4⟩:=kq (Y:=.yld y) (G:=G) (Lv:=Lv3) (fr:=fr3) (kM K') tl2.length .normal g0 g2 g4 g5 l3 c2;obtain ⟨tl5,e5,l5,c5⟩:=kq (Y:=.yld y) (G:=G) (Lv:=Lv3) (fr:=wfp y hd.length G Lv3) (kM K') tl.length .normal rfl rfl rfl rfl l4 c4;refine ⟨Lv3,tl5,?_,l5,c5⟩;show Zb rE (.keep [0,2,4,5] (.seq c71A (.seq (.keep [0,2,4,5] (.block 1 c71L1m)) (.keep [0,2,4,5] c71C)))) _ _=_
 rw [Sm,SK,pA y G hd K Lv id r tl hL,SH,SK,Sm,Sl,e1];show kp _ _ (sq rE _ (kp _ _ (some (.normal,wfp y hd.length G Lv0,_))))=_
 rw [ZEH,e2,SH,Sm];rw [show Zb rE c71C [(0,.yld y),(2,G),(4,.mp hd.length),(5,Lv0)] (hd'++kM K'::tl2)=_ from e3,ZEH,hl,e4]
 exact e5
end
theorem ZHN {σ:Type} {s:Sta} {aft:Door→List Str} {f:Door→σ→σ} {ok:σ→Prop} (FC G p0 p3 p7:AV) (y m:Nat) (H:σ→List AObj) (hG:∀ x,GRd (H x) G s FC p0 p3 p7) (hH:∀ x,(H x).length=m)
 (hy:∀ (d:Door) (x:σ) (K:List Str) (tl:List AObj),d∈s.Doors→ok x→U4 rE y [d.enc] (H x++kM K::(tl++[.row 16 [d.enc]]))=some (.bool true,H (f d x)++kM K::(tl++[.row 16 [d.enc],.row 16 [d.enc]])))
 (hA:∀ (d:Door) (x:σ) (K:List Str) (tl:List AObj),d∈s.Doors→∃ v,Xy rE false FC [d.enc] (H x++kM K::tl)=some (v,H x++kM K::tl)∧ZEl (H x) v (aft d))
 {K L:List Str} {x x':σ} (R:RunsG s aft f ok K L x x'):∀ (Lv:AV) (tl:List AObj),LVm m Lv L tl→TC' tl→
 ∃ K' Lv' tl',Zg rE [0,2,4,5] c71L1b (wfp y m G Lv) (H x++kM K::tl)=some (.exit 0,wfp y m G Lv',H x'++kM K'::tl'):=by
 induction R with
 | stop K x=>
  intro Lv tl hL hc;have hm:=hH x;subst hm;obtain ⟨tl2,e2,l2,c2⟩:=ZG7 (Y:=.yld y) (G:=G) (Lv:=Lv) (fr:=wfp y (H x).length G Lv++[(16,.bool false)]) (H x) (kM K) tl.length (.exit 0) rfl rfl rfl rfl hL hc;refine ⟨K,Lv,tl2,Q7 rfl ?_ (fun h=>by cases h)⟩
  show Zb rE (.keep [0,2,4,5] (.seq c71A (.seq (.keep [0,2,4,5] (.block 1 c71L1m)) (.keep [0,2,4,5] c71C)))) _ _=_
  rw [Sm,SK,pE y G (H x) K Lv tl hL,SI,ZEH];exact e2
 | step K id r x x' k d hd hf hx h3 h ih=>
  intro Lv tl hL hc;have hm:=ZLe hd;have hl:(H (f d x)).length=(H x).length:=by rw [hH,hH]
  have hm':=hH x;obtain ⟨Lv1,tl1,e1,l1,c1⟩:=ZHM y s FC G p0 p3 p7 (H x) (H (f d x)) K Lv id r tl d (hG x) (hG (f d x)) hl (by rw [hm'];exact hL) hc k hd hf (aft d) h3 (hy d x K tl hm hx) (fun L=>hA d (f d x) K _ hm)
  rw [hm'] at e1 l1;obtain ⟨K',Lv',tl',e⟩:=ih Lv1 tl1 l1 c1;refine ⟨K',Lv',tl',?_⟩;rw [Yt rfl e1];exact e
end Go.AM
namespace Go.AM
open Go
theorem ZJC (x:Str):Z3 x x=true:=ZJB x
theorem ZEW (x:Str):∀ (K:List Str) (i:Nat),ZW false [2] (.str x) (K.map encS) i=some ((K.findIdx? (Z3 x)).map (· + i))
 | [],i=>rfl
 | y::r,i=>by
  rw [ZLl];unfold encS;rw [ZW,Z1Y];have h:=ZEW x r (i+1);unfold encS at h;simp only [h,ZMA];cases Z3 x y with
  | true=>simp
  | false=>
   cases List.findIdx? (Z3 x) r<;>simp
   omega
def ZE1 (bs:List Nat) (V:List (List Str)):List AV:=List.zipWith (fun b A=>AV.sl (b+2) A.length 0 A.length false) bs V
def bH (K:List Str) (V:List (List Str)) (bs:List Nat) (X:List AObj):Hp:=.map (K.map encS) (ZE1 bs V)::.row 1 [.mp 0]::X
structure HB (K:List Str) (V:List (List Str)) (bs:List Nat) (X:List AObj):Prop where
 lk:V.length=K.length
 lb:bs.length=K.length
 nd:bs.Nodup
 row:∀ (j b:Nat) (A:List Str),bs[j]? = some b→V[j]? = some A→X[b]? = some (.row 1 (A.map encS))
 cl:TC' X
theorem ZFf {bs:List Nat} {V:List (List Str)} {j b:Nat} {A:List Str} (h1:bs[j]? = some b) (h2:V[j]? = some A):(ZE1 bs V)[j]? = some (.sl (b+2) A.length 0 A.length false):=by
 unfold ZE1;rw [List.getElem?_zipWith,h1,h2]
theorem ZG9:∀ {n:Nat} {l:List AV} {j:Nat} {v:AV},Zd n l=true→l[j]? = some v→bel n v=true
 | n,[],j,v,_,h=>by simp at h
 | n,x::r,0,v,h,hj=>by
  simp only [Zd,ZL5] at h;simp only [ZLC,Option.some.injEq] at hj;rw [←hj];exact h.1
 | n,x::r,j+1,v,h,hj=>by
  simp only [Zd,ZL5] at h;rw [ZLJ] at hj;exact ZG9 h.2 hj
theorem HB.at {K:List Str} {V:List (List Str)} {bs:List Nat} {X:List AObj} (H:HB K V bs X) {j:Nat} (hj:j < K.length):∃ b A,bs[j]? = some b∧V[j]? = some A∧X[b]? = some (.row 1 (A.map encS))∧b < X.length:=by
 have h1:bs[j]? = some (bs[j]'(by rw [H.lb];exact hj)):=ZLa _
 have h2:V[j]? = some (V[j]'(by rw [H.lk];exact hj)):=ZLa _
 have h3:=H.row j _ _ h1 h2;exact ⟨_,_,h1,h2,h3,(ZLj.1 h3).1⟩
theorem ZFg {K:List Str} {V:List (List Str)} {bs:List Nat} {X:List AObj} (H:HB K V bs X) (n:Nat) (fr:Fr):
 ∃ X',Xq (n+2) fr (bH K V bs X)=bH K V bs X'∧HB K V bs X'∧(∀ i,i < n→X'[i]? = X[i]?)∧X'.length≤X.length:=by
 unfold Xq;cases c:Zd (n+2) (fr.map (·.2))&&X4 (n+2) ((bH K V bs X).take (n+2)) with
 | false=>exact ⟨X,rfl,H,fun i _=>rfl,ZLq _⟩
 | true=>
  have ht:(bH K V bs X).take (n+2)=bH K V bs (X.take n):=rfl;refine ⟨X.take n,by rw [cond_true,ht],⟨H.lk,H.lb,H.nd,fun j b A h1 h2=>?_,fun m=>ZEO (H.cl m)⟩,fun i hi=>by rw [ZM9,if_pos hi],by simp;omega⟩
  simp only [ZL5] at c;have c2:=c.2;rw [ht] at c2;simp only [bH,X4,Zj,ZL5] at c2;have:=ZG9 c2.1.2 (ZFf h1 h2);have hb:b+2 < n+2:=by simpa [bel] using this
  rw [ZM9,if_pos (by omega)]
  exact H.row j b A h1 h2
def ZDY (S:List Str×List (List Str)) (x d:Str):List Str×List (List Str):=
 match S.1.findIdx? (Z3 x) with
 | some j=>(S.1,S.2.set j ((S.2[j]?.getD [])++[d]))
 | none=>(S.1++[x],S.2++[[d]])
def ZE6 (S:List Str×List (List Str)) (x:Str):List Str:=
 match S.1.findIdx? (Z3 x) with
 | some j=>S.2[j]?.getD []
 | none=>[]
theorem ZEX {K:List Str} {V:List (List Str)} {bs:List Nat} (x:Str) (z:AV) (tl:List AObj):W5 (.map (K.map encS) (ZE1 bs V)::tl) false [2] false z (.mp 0) (.str x) =
 (match K.findIdx? (Z3 x) with | some j=>(ZE1 bs V)[j]? | none=>some z):=by
 simp only [W5,ZLC,QW,Z1Y,ZEW];cases K.findIdx? (Z3 x) with
 | none=>rfl
 | some j=>
  simp only [ZLu,Nat.add_zero];cases (ZE1 bs V)[j]?<;>rfl
theorem ZGa {α:Type} {p:α→Bool} {l:List α} {j:Nat} (h:l.findIdx? p=some j):j < l.length:=by
 rw [List.findIdx?_eq_some_iff_findIdx_eq] at h;exact h.1
theorem ZGb:∀ (bs:List Nat) (V:List (List Str)) (j b:Nat) (A:List Str),bs[j]? = some b→(ZE1 bs V).set j (.sl (b+2) A.length 0 A.length false)=ZE1 bs (V.set j A)
 | [],V,j,b,A,h=>by simp at h
 | b'::bs,[],j,b,A,h=>by simp [ZE1]
 | b'::bs,v::V,0,b,A,h=>by
  simp only [ZLC,Option.some.injEq] at h;subst h;rfl
 | b'::bs,v::V,j+1,b,A,h=>by
  rw [ZLJ] at h;have:=ZGb bs V j b A h;unfold ZE1 at this ⊢;simp only [List.zipWith_cons_cons,List.set_cons_succ,this]
theorem HB.lt {K:List Str} {V:List (List Str)} {bs:List Nat} {X:List AObj} (H:HB K V bs X):∀ b∈bs,b < X.length:=fun b hb=>by
 obtain ⟨j,hj⟩:=List.mem_iff_getElem?.1 hb;obtain ⟨b',A,h1,_,_,h4⟩:=H.at (j:=j) (by rw [←H.lb];exact (ZLj.1 hj).1)
 rw [hj] at h1;cases h1;exact h4
theorem ZHO {K:List Str} {V:List (List Str)} {bs:List Nat} {X:List AObj} (H:HB K V bs X) (x d:Str) (hV:∀ A∈V,A.length≤1000000):
 ∃ v w rs b o bs' X',W5 (bH K V bs X) false [2] false (.isl false true 1 []) (.mp 0) (.str x)=some v∧
  Qt (bH K V bs X) (bH K V bs X).length false 1 16 v (.isl false false 1 [.str d])=some (w,rs,some (b+2,o))∧
  YK (setH (bH K V bs X) (b+2) o) false [2] (.mp 0) (.str x) w=some (.bot,bH (ZDY (K,V) x d).1 (ZDY (K,V) x d).2 bs' X')∧
  HB (ZDY (K,V) x d).1 (ZDY (K,V) x d).2 bs' X'∧X.length≤X'.length∧(∀ i,i < X.length→i ∉ bs→X'[i]? = X[i]?)∧(∀ b'∈bs',b'∈bs∨b'=X.length):=by
 unfold ZDY bH;have hcl:∀ (L:List Str) m,Zj m (.row 1 (L.map encS))=true:=fun L m=>ZEv m L
 cases hf:K.findIdx? (Z3 x) with
 | none=>
  refine ⟨.isl false true 1 [],.sl (X.length+2) 1 0 1 false,[],X.length,.row 1 [.str d],bs++[X.length],X++[.row 1 [.str d]],by rw [ZEX,hf],rfl,?_,?_,by simp,fun i hi _=>ZLL hi,?_⟩
  ·have hs:setH (.map (K.map encS) (ZE1 bs V)::.row 1 [.mp 0]::X) (X.length+2) (.row 1 [.str d])=.map (K.map encS) (ZE1 bs V)::.row 1 [.mp 0]::(X++[.row 1 [.str d]]):=J1 _ _;rw [hs];simp only [YK,ZLC,Yo,Z1Y,ZEW,hf,Option.map_none,ZM,ZH];have hz:ZE1 (bs++[X.length]) (V++[[d]])=ZE1 bs V++[.sl (X.length+2) 1 0 1 false]:=by
    unfold ZE1;rw [List.zipWith_append (by rw [H.lb,H.lk])]
    rfl
   rw [hz,ZLg];rfl
  ·have hbn:X.length ∉ bs:=fun hm=>Nat.lt_irrefl _ (H.lt _ hm)
   refine ⟨by simp [H.lk],by simp [H.lb],?_,fun j b A h1 h2=>?_,fun m=>?_⟩
   ·rw [ZM3];exact ⟨H.nd,by simp,fun a ha b hb=>by simp only [ZLF] at hb;subst hb;exact fun e=>hbn (e▸ha)⟩
   ·by_cases hj:j < bs.length
    ·rw [ZLL hj] at h1;rw [ZLL (by rw [H.lk,←H.lb];exact hj)] at h2
     have:=H.row j b A h1 h2;rw [ZLL (ZLj.1 this).1];exact this
    ·have hj2:j=bs.length:=by
      have:=(ZLj.1 h1).1;simp at this;omega
     subst hj2;rw [ZLK (ZLq _),ZM2] at h1;rw [show bs.length=V.length by rw [H.lb,H.lk],ZLK (ZLq _),ZM2] at h2
     simp only [ZLC,Option.some.injEq] at h1 h2;subst h1 h2;rw [ZLK (ZLq _),ZM2];rfl
   ·rw [ZEu,H.cl m];show (true&&(Zj m (.row 1 [.str d])&&true))=true
    rw [show Zj m (.row 1 [.str d])=true from hcl [d] m]
    rfl
  ·intro b' hb';simp only [ZLE,ZLF] at hb';exact hb'
 | some j=>
  have hj:=ZGa hf;obtain ⟨b,A,h1,h2,h3,h4⟩:=H.at hj;have hA:=hV A (ZLe h2);have hv:=ZFf h1 h2;have hbb:(AObj.map (K.map encS) (ZE1 bs V)::.row 1 [.mp 0]::X)[b+2]? = some (.row 1 (A.map encS)):=h3;have hg:(A.map encS).length=A.length:=ZL6 _;refine ⟨_,.sl (b+2) (A.length+1) 0 (A.length+1) false,[b+2],b,.row 1 (A.map encS++[.str d]),bs,X.set b (.row 1 (A.map encS++[.str d])),by rw [ZEX,hf];exact hv,?_,?_,?_,by simp,fun i hi hib=>?_,fun b' hb'=>.inl hb'⟩
  ·have hel:Q2 (AObj.map (K.map encS) (ZE1 bs V)::.row 1 [.mp 0]::X) (.sl (b+2) A.length 0 A.length false)=some (A.map encS):=by
    simp only [Q2,hbb,hg,beq_self_eq_true,cond_true,ZM7];rw [ZLk (by simp)]
   have hz:Qq (AObj.map (K.map encS) (ZE1 bs V)::.row 1 [.mp 0]::X) 1 (.sl (b+2) A.length 0 A.length false)=true:=by simp only [Qq,hbb];rfl
   have hbd:((A.map encS).length+1) * 16≤70368744177664:=by simp;omega
   unfold Qt;rw [hel];dsimp only [Q2];rw [if_pos ⟨hz,rfl,Nat.zero_lt_one,by decide,hbd⟩]
   simp only [ZMv,cond_false,hbb,beq_self_eq_true,ZLm,ZLb,ZLs];rfl
  ·have hs:setH (AObj.map (K.map encS) (ZE1 bs V)::.row 1 [.mp 0]::X) (b+2) (.row 1 (A.map encS++[.str d]))=.map (K.map encS) (ZE1 bs V)::.row 1 [.mp 0]::X.set b (.row 1 (A.map encS++[.str d])):=ZEC (by simp;omega)
   rw [hs];simp only [YK,ZLC,Yo,Z1Y,ZEW,hf,ZLu,Nat.add_zero,ZM,ZH,h2,ZM5];have hz:=ZGb bs V j b (A++[d]) h1;rw [ZLf,ZM8] at hz;rw [hz];rfl
  ·simp only [h2,ZM5];refine ⟨by simp [H.lk],H.lb,H.nd,fun j' b' A' e1 e2=>?_,fun m=>ZEN (H.cl m) ?_⟩
   ·by_cases hjj:j=j'
    ·subst hjj;rw [h1] at e1;cases e1;rw [ZMB (by rw [H.lk];exact hj)] at e2
     cases e2;rw [ZMB h4,ZLg];rfl
    ·rw [ZMm hjj] at e2;have hne:b≠b':=fun e=>by
      subst e;exact hjj ((List.getElem?_inj (by rw [H.lb];exact hj) H.nd).1 (by rw [h1,e1]))
     rw [ZMm hne];exact H.row j' b' A' e1 e2
   ·have:=hcl (A++[d]) m
    rwa [ZLg] at this
  ·have hne:b≠i:=fun e=>hib (by rw [←e];exact ZLe h1)
   rw [ZMm hne]
end Go.AM
namespace Go.AM
open Go
def c16B:ACode:=match c16L0b with | .keep _ (.seq _ (.seq _ (.seq (.keep _ (.block _ b)) _)))=>b | _=>.skip
def c16Dr:ACode:=match c16B with | .seq _ (.keep _ d)=>d | _=>.skip
theorem ZHP (r1:List Nat) (b:Nat):Qy ⟨false,r1,some (b+2),none⟩ ⟨false,[1],none,none⟩=true:=by
 have:(b+2==1)=false:=by rw [beq_eq_false_iff_ne];omega
 simp [Qy]
theorem ZHQ (r1:List Nat) (b:Nat):Qy ⟨false,r1,some b,none⟩ ⟨false,[],none,none⟩=true:=by simp [Qy]
theorem ZHR (a1 a2 a4 a5 a22 a23 a24 a29 a30 a31:AV) {h3:Hp} {m:AObj} {X:List AObj} {nb b:Nat} {x:Str} {d:Door} {v w:AV} {rs:List Nat} {o:AObj}
 (hr9:rowAt (m::.row 1 [.mp 0]::X) nb 1=some (16,[d.enc]))
 (hg:W5 (m::.row 1 [.mp 0]::X) false [2] false (.isl false true 1 []) (.mp 0) (.str x)=some v)
 (ha:Qt (m::.row 1 [.mp 0]::X) (m::AObj.row 1 [.mp 0]::X).length false 1 16 v (.isl false false 1 [.str d.Id])=some (w,rs,some (b+2,o)))
 (hp:YK (setH (m::.row 1 [.mp 0]::X) (b+2) o) false [2] (.mp 0) (.str x) w=some (.bot,h3)):
 ∃ fr',Zb rE c16Dr [(1,a1),(2,a2),(4,a4),(5,a5),(7,.ptr 1 0 0 1),(9,.ptr nb 0 0 1),(11,.str x),(22,a22),(23,a23),(24,a24),(29,a29),(30,a30),(31,a31)] (m::.row 1 [.mp 0]::X)=some (.normal,fr',h3)∧
  Z2 [1,2,4,5,7,9,22,23,24,29,30,31] fr'=[(1,a1),(2,a2),(4,a4),(5,a5),(7,.ptr 1 0 0 1),(9,.ptr nb 0 0 1),(22,a22),(23,a23),(24,a24),(29,a29),(30,a30),(31,a31)]:=by
 have haw:appW (m::.row 1 [.mp 0]::X) false 1 16 v (.isl false false 1 [.str d.Id])=some (w,setH (m::.row 1 [.mp 0]::X) (b+2) o):=by
  unfold appW;rw [ha];rfl
 have ha:Qt (m::.row 1 [.mp 0]::X) (X.length+1+1) false 1 16 v (.isl false false 1 [.str d.Id])=some (w,rs,some (b+2,o)):=ha;have e:setH (m::.row 1 [.mp 0]::X) (b+2) o=m::.row 1 [.mp 0]::setH X b o:=by simp only [go_sem]
 rw [e] at hp;simp only [Door.enc,NL.enc] at hr9;refine ⟨_,by simp only [go_sem,qy,qq,qv,c16Dr,c16B,c16L0b,hr9,hg,haw,hp,Za,QG,Wm,opT,Z8,ha,ZHP,ZHQ,ZLv,ZLC,ZLJ,Option.map]<;>rfl,?_⟩
 simp only [go_sem,qy]
theorem ZHS (a1 a2 a4 a5 a22 a23 a24:AV) (d:Door) (ex:Bool) {K:List Str} {V:List (List Str)} {bs:List Nat} {X:List AObj} (H:HB K V bs X) (hV:∀ A∈V,A.length≤1000000) {nb:Nat} (hnb:nb ∉ bs) (hX:X[nb]? = some (.row 16 [d.enc]))
 {L:List Str} {i:Nat} {x:Str} (hx:L[i]? = some x) (hL:L.length≤1000):
 ∃ bs' X',Zb rE c16L0b [(1,a1),(2,a2),(4,a4),(5,a5),(7,.ptr 1 0 0 1),(9,.ptr (nb+2) 0 0 1),(22,a22),(23,a23),(24,a24),(29,.isl false ex 1 (L.map encS)),(30,I L.length),(31,I i)] (bH K V bs X) =
  some (.normal,[(1,a1),(2,a2),(4,a4),(5,a5),(7,.ptr 1 0 0 1),(9,.ptr (nb+2) 0 0 1),(22,a22),(23,a23),(24,a24),(29,.isl false ex 1 (L.map encS)),(30,I L.length),(31,I (i+1:Nat))],bH (ZDY (K,V) x d.Id).1 (ZDY (K,V) x d.Id).2 bs' X')∧
  HB (ZDY (K,V) x d.Id).1 (ZDY (K,V) x d.Id).2 bs' X'∧nb ∉ bs'∧X'[nb]? = some (.row 16 [d.enc])∧(∀ b'∈bs',b'∈bs∨X.length≤b'):=by
 have hi:i < L.length:=(ZLj.1 hx).1;have hg:=Z6 (f:=encS) hx;have hi':=Zh hi;have hwr:=Zx (n:=i) (by omega)
 have hnl:nb < X.length:=(ZLj.1 hX).1;obtain ⟨v,w,rs,b,ob,bs',X1,e1,e2,e3,H1,l1,k1,m1⟩:=ZHO H x d.Id hV;have hr9:rowAt (bH K V bs X) (nb+2) 1=some (16,[d.enc]):=by
  show rowAt X nb 1=_
  unfold rowAt;rw [hX];rfl
 obtain ⟨fr1,e4,r1⟩:=ZHR a1 a2 a4 a5 a22 a23 a24 (.isl false ex 1 (L.map encS)) (I L.length) (I i) (h3:=bH (ZDY (K,V) x d.Id).1 (ZDY (K,V) x d.Id).2 bs' X1) hr9 e1 e2 e3;have e4:Zb rE c16Dr _ (bH K V bs X)=_:=e4;have kpx:∀ {X2:List AObj} (fr:Fr),HB (ZDY (K,V) x d.Id).1 (ZDY (K,V) x d.Id).2 bs' X2→∃ ZIK,Xq (bH K V bs X).length fr (bH (ZDY (K,V) x d.Id).1 (ZDY (K,V) x d.Id).2 bs' X2)=bH (ZDY (K,V) x d.Id).1 (ZDY (K,V) x d.Id).2 bs' ZIK∧HB (ZDY (K,V) x d.Id).1 (ZDY (K,V) x d.Id).2 bs' ZIK∧∀ i,i < X.length→ZIK[i]? = X2[i]?:=by
  intro X2 fr H2;obtain ⟨ZIK,t1,t2,t3,t4⟩:=ZFg H2 X.length fr;exact ⟨ZIK,t1,t2,t3⟩
 obtain ⟨X2,q1,H2,g2⟩:=kpx [(1,a1),(2,a2),(4,a4),(5,a5),(7,.ptr 1 0 0 1),(9,.ptr (nb+2) 0 0 1),(22,a22),(23,a23),(24,a24),(29,.isl false ex 1 (L.map encS)),(30,I L.length),(31,I i)] H1;obtain ⟨ZIK,q2,H3,g3⟩:=kpx [(1,a1),(2,a2),(4,a4),(5,a5),(7,.ptr 1 0 0 1),(9,.ptr (nb+2) 0 0 1),(22,a22),(23,a23),(24,a24),(29,.isl false ex 1 (L.map encS)),(30,I L.length),(31,I i)] H2;obtain ⟨ZCU,q3,H4,g4⟩:=kpx [(1,a1),(2,a2),(4,a4),(5,a5),(7,.ptr 1 0 0 1),(9,.ptr (nb+2) 0 0 1),(22,a22),(23,a23),(24,a24),(29,.isl false ex 1 (L.map encS)),(30,I L.length),(31,I (i+1:Nat))] H3;have t0:∀ fr,Xq (bH K V bs X).length fr (bH K V bs X)=bH K V bs X:=fun fr=>ZE5 rfl
 refine ⟨bs',ZCU,?_,H4,fun hm=>?_,?_,fun b' hb'=>(m1 b' hb').imp id fun e=>by omega⟩
 ·show Zb rE (.keep [1,2,4,5,7,9,22,23,24,29,30,31]<|.seq (.region [o 32 (.bin .lss (.t 31) (.t 30))])<|
   .seq (.cond (.t 32) .skip (.exit 2))<|
   .seq (.keep [1,2,4,5,7,9,22,23,24,29,30,31]<|.block 3<|
    .seq (.keep [1,2,4,5,7,9,11,22,23,24,29,30,31]<|.region [o 33 (.iadr 1 (.t 29) (.t 31)),o 34 (.load none (.t 33)),o 11 (.mv (.t 34))])<|
    .keep [1,2,4,5,7,9,22,23,24,29,30,31] c16Dr)<|
   .region [o 44 (.bin .add (.t 31) (.c (.int .i64 1))),o 31 (.mv (.t 44))]) _ _=_
  simp only [go_sem,qy,reduceIte,hi',hwr,hg,t0,e4,encS,r1,q1,q2,q3]
 ·rcases m1 nb hm with h | h
  ·exact hnb h
  ·omega
 ·rw [g4 nb hnl,g3 nb hnl,g2 nb hnl,k1 nb hnl hnb];exact hX
theorem ZHT {S:List Str×List (List Str)} {c:Nat} (h:∀ A∈S.2,A.length≤c) (x d:Str):∀ A∈(ZDY S x d).2,A.length≤c+1:=by
 intro A hA;unfold ZDY at hA;cases hf:S.1.findIdx? (Z3 x) with
 | none=>
  rw [hf] at hA;simp only [ZLE,ZLF] at hA;rcases hA with hA | rfl
  ·have:=h A hA;omega
  ·simp
 | some j=>
  rw [hf] at hA;rcases List.mem_or_eq_of_mem_set hA with hA | rfl
  ·have:=h A hA;omega
  ·rw [ZLf,ZM8];cases hj:S.2[j]? with
   | none=>simp
   | some B=>
    have:=h B (ZLe hj);simp only [ZM5];omega
def ZE0 (d:Str) (S:List Str×List (List Str)) (L:List Str):List Str×List (List Str):=L.foldl (fun S x=>ZDY S x d) S
theorem ZFh {d:Str}:∀ (L:List Str) {S:List Str×List (List Str)} {c:Nat} (h:∀ A∈S.2,A.length≤c),∀ A∈(ZE0 d S L).2,A.length≤c+L.length
 | [],S,c,h=>h
 | x::r,S,c,h=>fun A hA=>by
  have:=ZFh r (ZHT h x d) A hA;simp only [ZLb];omega
theorem ZHU (a1 a2 a4 a5 a22 a23 a24:AV) (d:Door) (ex:Bool) {K:List Str} {V:List (List Str)} {bs:List Nat} {X:List AObj} (H:HB K V bs X) {c:Nat} (hV:∀ A∈V,A.length≤c) {nb:Nat} (hnb:nb ∉ bs) (hX:X[nb]? = some (.row 16 [d.enc]))
 (L:List Str) (hL:L.length≤1000) (hc:c+L.length≤1000000):
 ∃ fr' bs' X',Zg rE [1,2,4,5,7,9,22,23,24,29,30,31] c16L0b [(1,a1),(2,a2),(4,a4),(5,a5),(7,.ptr 1 0 0 1),(9,.ptr (nb+2) 0 0 1),(22,a22),(23,a23),(24,a24),(29,.isl false ex 1 (L.map encS)),(30,I L.length),(31,I 0)] (bH K V bs X) =
  some (.exit 2,fr',bH (ZE0 d.Id (K,V) L).1 (ZE0 d.Id (K,V) L).2 bs' X')∧HB (ZE0 d.Id (K,V) L).1 (ZE0 d.Id (K,V) L).2 bs' X'∧
  Z2 [1,2,4,5,7,22,23,24] fr'=[(1,a1),(2,a2),(4,a4),(5,a5),(7,.ptr 1 0 0 1),(22,a22),(23,a23),(24,a24)]:=by
 obtain ⟨e,fr',h',Lp,hQ⟩:=Z9Y (E:=rE) (live:=[1,2,4,5,7,9,22,23,24,29,30,31]) (b:=c16L0b) L.length
  (fun i fr h=>∃ bs' X',fr=[(1,a1),(2,a2),(4,a4),(5,a5),(7,.ptr 1 0 0 1),(9,.ptr (nb+2) 0 0 1),(22,a22),(23,a23),(24,a24),(29,.isl false ex 1 (L.map encS)),(30,I L.length),(31,I i)]∧h=bH (ZE0 d.Id (K,V) (L.take i)).1 (ZE0 d.Id (K,V) (L.take i)).2 bs' X'∧
   HB (ZE0 d.Id (K,V) (L.take i)).1 (ZE0 d.Id (K,V) (L.take i)).2 bs' X'∧nb ∉ bs'∧X'[nb]? = some (.row 16 [d.enc]))
  (fun e fr h=>e=.exit 2∧∃ bs' X',h=bH (ZE0 d.Id (K,V) L).1 (ZE0 d.Id (K,V) L).2 bs' X'∧HB (ZE0 d.Id (K,V) L).1 (ZE0 d.Id (K,V) L).2 bs' X'∧
   Z2 [1,2,4,5,7,22,23,24] fr=[(1,a1),(2,a2),(4,a4),(5,a5),(7,.ptr 1 0 0 1),(22,a22),(23,a23),(24,a24)])
  (fun i fr h m=>by obtain ⟨bs',X',rfl,_⟩:=m;rfl)
  (fun i fr h hi m=>by
   obtain ⟨bs1,X1,rfl,rfl,H1,n1,x1⟩:=m;refine .inl ?_;obtain ⟨x,hx⟩:∃ x,L[i]? = some x:=⟨_,ZLa hi⟩;have hf:ZE0 d.Id (K,V) (L.take (i+1))=ZDY (ZE0 d.Id (K,V) (L.take i)) x d.Id:=Us (fun S x=>ZDY S x d.Id) (K,V) hx
   have hlen:=ZFh (d:=d.Id) (L.take i) (S:=(K,V)) hV;have hle:(L.take i).length≤L.length:=by simp;omega
   rw [hf];generalize ZE0 d.Id (K,V) (L.take i)=S at H1 hlen ⊢;obtain ⟨K1,V1⟩:=S;obtain ⟨bs2,X2,e2,H2,n2,x2,_⟩:=ZHS a1 a2 a4 a5 a22 a23 a24 d ex H1 (fun A hA=>by have:=hlen A hA;omega) n1 x1 hx hL
   exact ⟨_,_,e2,bs2,X2,rfl,rfl,H2,n2,x2⟩)
  (fun fr h m=>by
   obtain ⟨bs1,X1,rfl,rfl,H1,n1,x1⟩:=m;rw [ZLr] at H1 ⊢;have t0:∀ fr,Xq (bH (ZE0 d.Id (K,V) L).1 (ZE0 d.Id (K,V) L).2 bs1 X1).length fr (bH (ZE0 d.Id (K,V) L).1 (ZE0 d.Id (K,V) L).2 bs1 X1)=bH (ZE0 d.Id (K,V) L).1 (ZE0 d.Id (K,V) L).2 bs1 X1:=fun fr=>ZE5 rfl
   refine ⟨.exit 2,_,_,by simp only [go_sem,qy,reduceIte,c16L0b,ZG,t0]<;>rfl,by simp,rfl,bs1,X1,rfl,H1,?_⟩
   simp only [go_sem,qy])
  L.length 0 _ (bH K V bs X) (by omega) ⟨bs,X,rfl,rfl,H,hnb,hX⟩
 obtain ⟨rfl,bs',X',rfl,h1,h2⟩:=hQ;exact ⟨fr',bs',X',Lp,h1,h2⟩
end Go.AM
namespace Go.AM
open Go
theorem ZHV (K:List Str) (V:List (List Str)) (bs:List Nat) (X:List AObj) (o:AObj):bH K V bs X++[o]=bH K V bs (X++[o]):=rfl
theorem ZE2 (K:List Str) (V:List (List Str)) (bs:List Nat) (X:List AObj):(bH K V bs X).length=X.length+2:=rfl
theorem ZHW (K:List Str) (V:List (List Str)) (bs:List Nat) (X:List AObj) (b g:Nat):rowAt (bH K V bs X) (b+2) g=rowAt X b g:=rfl
theorem ZHX (K:List Str) (V:List (List Str)) (bs:List Nat) (X:List AObj) (x y:AObj):setH (bH K V bs (X++[x])) (X.length+2) y=bH K V bs (X++[y]):=ZEp (bH K V bs X) x y
theorem ZGc (X:List AObj) (x:AV) (sz:Nat):rowAt (X++[.row sz [x]]) X.length 1=some (sz,[x]):=ZEP X [] x sz
def ZE3 (S:List Str×List (List Str)) (d:Door):List Str×List (List Str):=ZE0 d.Id S d.After.l
theorem ZHY (a1 a2 a4 a5:AV) (ds:List Door) (bw ex:Bool) {K:List Str} {V:List (List Str)} {bs:List Nat} {X:List AObj} (H:HB K V bs X) {c:Nat} (hV:∀ A∈V,A.length≤c)
 {k:Nat} {d:Door} (hd:ds[k]? = some d) (hk:ds.length≤1000) (hL:d.After.l.length≤1000) (hc:c+d.After.l.length≤1000000):
 ∃ bs' X',Zb rE c16L1b [(1,a1),(2,a2),(4,a4),(5,a5),(7,.ptr 1 0 0 1),(22,.isl bw ex 16 (ds.map Door.enc)),(23,I ds.length),(24,I k)] (bH K V bs X) =
  some (.normal,[(1,a1),(2,a2),(4,a4),(5,a5),(7,.ptr 1 0 0 1),(22,.isl bw ex 16 (ds.map Door.enc)),(23,I ds.length),(24,I (k+1:Nat))],bH (ZE3 (K,V) d).1 (ZE3 (K,V) d).2 bs' X')∧
  HB (ZE3 (K,V) d).1 (ZE3 (K,V) d).2 bs' X':=by
 have hlt:k < ds.length:=(ZLj.1 hd).1;have hg:=Z6 (f:=Door.enc) hd;have hi':=Zh hlt;have hwr:=Zx (n:=k) (by omega)
 have hbn:X.length ∉ bs:=fun hm=>Nat.lt_irrefl _ (H.lt _ hm)
 have H0:HB K V bs (X++[.row 16 [d.enc]]):=by
  refine ⟨H.lk,H.lb,H.nd,fun j b A h1 h2=>?_,fun m=>?_⟩
  ·have:=H.row j b A h1 h2;rw [ZLL (ZLj.1 this).1];exact this
  ·have e:Zj m (.row 16 [d.enc])=true:=by simp only [Zj,Zd,Door.enc,NL.enc,bel,ZLv]
   rw [ZEu,H.cl m];show (true&&(Zj m (.row 16 [d.enc])&&true))=true
   rw [e];rfl
 obtain ⟨fr1,bs1,X1,e1,H1,r1⟩:=ZHU a1 a2 a4 a5 (.isl bw ex 16 (ds.map Door.enc)) (I ds.length) (I k) d d.After.ex H0 hV hbn (ZF3 X _) d.After.l hL hc;have kpx:∀ {X2:List AObj} (n:Nat) (fr:Fr),HB (ZE3 (K,V) d).1 (ZE3 (K,V) d).2 bs1 X2→∃ ZIK,Xq (n+2) fr (bH (ZE3 (K,V) d).1 (ZE3 (K,V) d).2 bs1 X2)=bH (ZE3 (K,V) d).1 (ZE3 (K,V) d).2 bs1 ZIK∧HB (ZE3 (K,V) d).1 (ZE3 (K,V) d).2 bs1 ZIK:=by
  intro X2 n fr H2;obtain ⟨ZIK,t1,t2,t3,t4⟩:=ZFg H2 n fr;exact ⟨ZIK,t1,t2⟩
 obtain ⟨X2,q1,H2⟩:=kpx (X.length+1) [(1,a1),(2,a2),(4,a4),(5,a5),(7,.ptr 1 0 0 1),(22,.isl bw ex 16 (ds.map Door.enc)),(23,I ds.length),(24,I k)] H1;obtain ⟨ZIK,q2,H3⟩:=kpx X.length [(1,a1),(2,a2),(4,a4),(5,a5),(7,.ptr 1 0 0 1),(22,.isl bw ex 16 (ds.map Door.enc)),(23,I ds.length),(24,I k)] H2;obtain ⟨ZCU,q3,H4⟩:=kpx X.length [(1,a1),(2,a2),(4,a4),(5,a5),(7,.ptr 1 0 0 1),(22,.isl bw ex 16 (ds.map Door.enc)),(23,I ds.length),(24,I (k+1:Nat))] H3;have t0:∀ fr X,Xq (X.length+2) fr (bH K V bs X)=bH K V bs X:=fun fr X=>ZE5 rfl
 have t1:∀ fr o,Xq (X.length+1+2) fr (bH K V bs (X++[o]))=bH K V bs (X++[o]):=fun fr o=>ZE5 (by rw [ZE2,ZLf];rfl)
 have t9:∀ o,Xq (X.length+2) [(1,a1),(2,a2),(4,a4),(5,a5),(7,AV.ptr 1 0 0 1),(9,.ptr (X.length+2) 0 0 1),(22,.isl bw ex 16 (ds.map Door.enc)),(23,I ds.length),(24,I k)] (bH K V bs (X++[o]))=bH K V bs (X++[o]):=fun o=>by
  have e:Zd (X.length+2) ([(1,a1),(2,a2),(4,a4),(5,a5),(7,AV.ptr 1 0 0 1),(9,.ptr (X.length+2) 0 0 1),(22,.isl bw ex 16 (ds.map Door.enc)),(23,I ds.length),(24,I k)].map (fun (p:Nat×AV)=>p.2))=false:=by
   have hn:Nat.blt (X.length+2) (X.length+2)=false:=by rw [ZM6];simp [ZLR]
   simp [Zd,bel,hn]
  unfold Xq;rw [e];rfl
 refine ⟨bs1,ZCU,?_,H4⟩;simp only [ZE3] at q1 q2 q3 ⊢;simp only [Door.enc,NL.enc] at hg e1 q1 t9;have rl:=fun (x:AV)=>ZGc X x 16
 simp only [go_sem,qy,qq,qk,reduceIte,c16L1b,c16L0,hi',hwr,hg,ZHV,ZE2,ZHX,ZHW,rl,t1,t9,e1,r1,q1,q2,q3,ZL6]
end Go.AM
namespace Go.AM
open Go
def ZDX (ds:List Door):List Str×List (List Str):=ds.foldl ZE3 ([],[])
theorem ZHZ {S:List Str×List (List Str)} {c:Nat} (h:∀ A∈S.2,A.length≤c) (d:Door) (hd:d.After.l.length≤1000):∀ A∈(ZE3 S d).2,A.length≤c+1000:=fun A hA=>by
 have:=ZFh d.After.l h A hA;omega
theorem ZGd:∀ (ds:List Door) {S:List Str×List (List Str)} {c:Nat} (h:∀ A∈S.2,A.length≤c) (hd:∀ d∈ds,d.After.l.length≤1000),∀ A∈(ds.foldl ZE3 S).2,A.length≤c+ds.length * 1000
 | [],S,c,h,_=>fun A hA=>by have:=h A hA;omega
 | d::r,S,c,h,hd=>fun A hA=>by
  have:=ZGd r (ZHZ h d (hd d (ZLG ..))) (fun x hx=>hd x (ZLW _ hx)) A hA
  simp only [ZLb];omega
theorem ZI0:HB [] [] [] []:=⟨rfl,rfl,List.nodup_nil,fun j b A h _=>by simp at h,fun n=>rfl⟩
theorem ZI1 (a1 a2 a4 a5:AV) (ds:List Door) (bw ex:Bool) (hk:ds.length≤500) (hL:∀ d∈ds,d.After.l.length≤1000):
 ∃ fr' bs X,Zg rE [1,2,4,5,7,22,23,24] c16L1b [(1,a1),(2,a2),(4,a4),(5,a5),(7,.ptr 1 0 0 1),(22,.isl bw ex 16 (ds.map Door.enc)),(23,I ds.length),(24,I 0)] (bH [] [] [] []) =
  some (.exit 0,fr',bH (ZDX ds).1 (ZDX ds).2 bs X)∧HB (ZDX ds).1 (ZDX ds).2 bs X∧Z2 [1,2,4,5,7] fr'=[(1,a1),(2,a2),(4,a4),(5,a5),(7,.ptr 1 0 0 1)]:=by
 obtain ⟨e,fr',h',Lp,hQ⟩:=Z9Y (E:=rE) (live:=[1,2,4,5,7,22,23,24]) (b:=c16L1b) ds.length
  (fun i fr h=>∃ bs' X',fr=[(1,a1),(2,a2),(4,a4),(5,a5),(7,.ptr 1 0 0 1),(22,.isl bw ex 16 (ds.map Door.enc)),(23,I ds.length),(24,I i)]∧h=bH (ZDX (ds.take i)).1 (ZDX (ds.take i)).2 bs' X'∧HB (ZDX (ds.take i)).1 (ZDX (ds.take i)).2 bs' X')
  (fun e fr h=>e=.exit 0∧∃ bs' X',h=bH (ZDX ds).1 (ZDX ds).2 bs' X'∧HB (ZDX ds).1 (ZDX ds).2 bs' X'∧Z2 [1,2,4,5,7] fr=[(1,a1),(2,a2),(4,a4),(5,a5),(7,.ptr 1 0 0 1)])
  (fun i fr h m=>by obtain ⟨bs',X',rfl,_⟩:=m;rfl)
  (fun i fr h hi m=>by
   obtain ⟨bs1,X1,rfl,rfl,H1⟩:=m;refine .inl ?_;obtain ⟨d,hd⟩:∃ x,ds[i]? = some x:=⟨_,ZLa hi⟩;have hf:ZDX (ds.take (i+1))=ZE3 (ZDX (ds.take i)) d:=Us ZE3 ([],[]) hd;have hlen:=ZGd (ds.take i) (S:=([],[])) (c:=0) (fun A h=>by simp at h) (fun d hd=>hL d (ZMo hd))
   have hle:(ds.take i).length≤ds.length:=by simp;omega
   have hdl:=hL d (ZLe hd);rw [hf];have hlen:∀ A∈(ZDX (ds.take i)).2,A.length≤0+(ds.take i).length * 1000:=hlen;generalize ZDX (ds.take i)=S at H1 hlen ⊢;obtain ⟨K1,V1⟩:=S;obtain ⟨bs2,X2,e2,H2⟩:=ZHY a1 a2 a4 a5 ds bw ex H1 hlen hd (by omega) hdl (by omega)
   exact ⟨_,_,e2,bs2,X2,rfl,rfl,H2⟩)
  (fun fr h m=>by
   obtain ⟨bs1,X1,rfl,rfl,H1⟩:=m;rw [ZLr] at H1 ⊢;have t0:∀ fr,Xq (bH (ZDX ds).1 (ZDX ds).2 bs1 X1).length fr (bH (ZDX ds).1 (ZDX ds).2 bs1 X1)=bH (ZDX ds).1 (ZDX ds).2 bs1 X1:=fun fr=>ZE5 rfl
   refine ⟨.exit 0,_,_,by simp only [go_sem,qy,reduceIte,c16L1b,ZG,t0]<;>rfl,by simp,rfl,bs1,X1,rfl,H1,?_⟩
   simp only [go_sem,qy])
  ds.length 0 _ (bH [] [] [] []) (by omega) ⟨[],[],rfl,rfl,ZI0⟩
 obtain ⟨rfl,bs',X',rfl,h1,h2⟩:=hQ;exact ⟨fr',bs',X',Lp,h1,h2⟩
theorem ZGe {S:List Str×List (List Str)} {bs:List Nat} {X:List AObj} (H:HB S.1 S.2 bs X) (x:Str) (hd:List AObj) (hh:∃ Z,hd=bH S.1 S.2 bs X++Z):
 ∃ v,(∀ tl,W5 (hd++tl) false [2] false (.isl false false 1 []) (.mp 0) (.str x)=some v)∧ZEl hd v (ZE6 S x):=by
 obtain ⟨Z,rfl⟩:=hh;obtain ⟨K,V⟩:=S;unfold ZE6;cases hf:K.findIdx? (Z3 x) with
 | none=>exact ⟨.isl false false 1 [],fun tl=>by show W5 (.map (K.map encS) (ZE1 bs V)::_) _ _ _ _ _ _=_;rw [ZEX,hf],ZHE _ false []⟩
 | some j=>
  obtain ⟨b,A,h1,h2,h3,h4⟩:=H.at (ZGa hf);have h2:V[j]? = some A:=h2;refine ⟨.sl (b+2) A.length 0 A.length false,fun tl=>?_,?_⟩
  ·show W5 (.map (K.map encS) (ZE1 bs V)::_) _ _ _ _ _ _=_
   rw [ZEX,hf];exact ZFf h1 h2
  ·simp only [h2,ZM5];refine ZHF ?_;show (X++Z)[b]? = _
   rw [ZLL h4];exact h3
def ofr (X:List AObj) (t:AV):Fr:=[(4,.isl false false 1 []),(5,I 0),(7,.ptr 1 0 0 1),(12,.ptr (X.length+3) 0 0 1),(50,t)]
def oL (st:LoopState) (X:List AObj) (t:AV):AObj:=.loop st .normal (ofr X t) [51] c16R2a c16R2b
def oH (S:List Str×List (List Str)) (bs:List Nat) (X:List AObj) (rg lp:AObj) (D:List Str):List AObj:=
 bH S.1 S.2 bs X++[.row 1 (D.map encS),.row 1 [.sl (X.length+2) D.length 0 D.length false],rg,lp]
theorem ZI2 (X:List AObj) (t:AV) (d:Door) (h:Hp):Zb rE c16R2a ((51,d.enc)::ofr X t) h=some (.normal,(13,.ptr h.length 0 0 1)::(51,d.enc)::ofr X t,h++[.row 16 [d.enc]]):=by
 simp only [go_sem,qy,qq,qk,c16R2a,ofr,Door.enc,NL.enc,ZEp]
def oF (S:List Str×List (List Str)) (d:Door) (D:List Str):List Str:=bif (ZE6 S d.Id).isEmpty then D++[d.Id] else D
theorem ZI3 (X:List AObj) (t:AV) (d:Door) {h h1 h2:Hp} {n k bb g g2:Nat} {v:AV} (r1:rowAt h 1 1=some (1,[.mp 0])) (r13:rowAt h n 1=some (16,[d.enc]))
 (hv:W5 h false [2] false (.isl false false 1 []) (.mp 0) (.str d.Id)=some v) (hl:lnV h 1 v=some (I k))
 (r12:k=0→rowAt h (X.length+3) 1=some (1,[.sl bb g 0 g false])) (ha:k=0→appW h false 1 16 (.sl bb g 0 g false) (.isl false false 1 [.str d.Id])=some (.sl bb g2 0 g2 false,h1)) (r12':k=0→rowAt h1 (X.length+3) 1=some (1,[.sl bb g 0 g false]))
 (hs:k=0→setH h1 (X.length+3) (.row 1 [.sl bb g2 0 g2 false])=h2) (hlen:h2.length=h.length) (hk:k≠0→h2=h):
 Zb rE c16R2b ((13,.ptr n 0 0 1)::(51,d.enc)::ofr X t) h=some (.normal,[],h2):=by
 have t2:Xq h.length [] h2=h2:=ZE5 hlen;have t0:∀ fr,Xq h.length fr h=h:=fun fr=>ZE5 rfl
 simp only [Door.enc,NL.enc] at r13;cases k with
 | zero=>
  have z0:(((0:Nat):Int)==0)=true:=rfl;simp only [go_sem,qy,qq,qv,reduceIte,c16R2b,ofr,Door.enc,NL.enc,r1,r13,hv,hl,z0,r12 rfl,ha rfl,r12' rfl,hs rfl,t0,t2]
 | succ k=>
  have z0:(((k+1:Nat):Int)==0)=false:=by rw [beq_eq_false_iff_ne];omega
  have he:=hk (by simp)
  subst he;simp only [go_sem,qy,qq,reduceIte,c16R2b,ofr,Door.enc,NL.enc,r1,r13,hv,hl,z0,t0]
theorem ZI4 {S:List Str×List (List Str)} {bs:List Nat} {X:List AObj} (H:HB S.1 S.2 bs X) (t:AV) (d:Door) (rg lp:AObj) (D:List Str) (tl:List AObj) (h1:D.length≤1000):
 Zb rE c16R2b ((13,.ptr (oH S bs X rg lp D++tl).length 0 0 1)::(51,d.enc)::ofr X t) ((oH S bs X rg lp D++tl)++[.row 16 [d.enc]])=some (.normal,[],(oH S bs X rg lp (oF S d D)++tl)++[.row 16 [d.enc]]):=by
 obtain ⟨v,hv,hr⟩:=ZGe H d.Id (oH S bs X rg lp D) ⟨_,rfl⟩;have hh:∀ D:List Str,(oH S bs X rg lp D++tl)++[.row 16 [d.enc]]=bH S.1 S.2 bs X++.row 1 (D.map encS)::(.row 1 [.sl (X.length+2) D.length 0 D.length false]::rg::lp::(tl++[.row 16 [d.enc]])):=fun D=>by
  unfold oH;simp only [ZLi,ZL8,ZL9]
 have hb2:(bH S.1 S.2 bs X).length=X.length+2:=rfl;have hrD:rowAt ((oH S bs X rg lp D++tl)++[.row 16 [d.enc]]) (X.length+2) D.length=some (1,D.map encS):=by
  rw [hh];unfold rowAt;rw [←hb2,ZEG];simp only [ZL6,beq_self_eq_true,cond_true]
 have hr12:∀ o:AObj,rowAt (bH S.1 S.2 bs X++o::(.row 1 [.sl (X.length+2) D.length 0 D.length false]::rg::lp::(tl++[.row 16 [d.enc]]))) (X.length+3) 1=some (1,[.sl (X.length+2) D.length 0 D.length false]):=fun o=>by
  rw [show X.length+3=(bH S.1 S.2 bs X).length+(0+1) from rfl,ZEw]
  rfl
 refine ZI3 X t d (h1:=bH S.1 S.2 bs X++.row 1 (D.map encS++[.str d.Id])::(.row 1 [.sl (X.length+2) D.length 0 D.length false]::rg::lp::(tl++[.row 16 [d.enc]]))) (k:=(ZE6 S d.Id).length) (v:=v) (bb:=X.length+2) (g:=D.length) (g2:=D.length+1) ?_ (ZGc _ _ _) ?_ ?_ ?_ ?_ ?_ ?_ ?_ ?_
 ·rw [hh];rfl
 ·rw [ZLi];exact hv _
 ·rw [ZLi];have:=hr.1;cases tl with
  | nil=>exact this _ _
  | cons o r=>exact this _ _
 ·intro _;rw [hh];exact hr12 _
 ·intro _;rw [XC hrD rfl (by rfl) (by omega) (by omega) (by simp;omega)]
  rw [hh,←hb2,ZEV];rfl
 ·intro _;exact hr12 _
 ·intro h0;have e:oF S d D=D++[d.Id]:=by
   unfold oF;rw [List.length_eq_zero_iff.1 h0];rfl
  rw [e,hh,show X.length+3=(bH S.1 S.2 bs X).length+(0+1) from rfl,ZFd,ZLg,ZLf]
  rfl
 ·simp [oH]
 ·intro h0;have e:oF S d D=D:=by
   unfold oF;cases hl:ZE6 S d.Id with
   | nil=>rw [hl] at h0;exact absurd rfl h0
   | cons a r=>rfl
  rw [e]
theorem ZI5 {S:List Str×List (List Str)} {bs:List Nat} {X:List AObj} (H:HB S.1 S.2 bs X) (t:AV) (d:Door) (rg:AObj) (D:List Str) (tl:List AObj) (h1:D.length≤1000):
 U4 rE (X.length+5) [d.enc] (oH S bs X rg (oL .ready X t) D++tl)=some (.bool true,(oH S bs X rg (oL .ready X t) (oF S d D)++tl)++[.row 16 [d.enc]]):=by
 have hgl:∀ (lp:AObj) D tl,(oH S bs X rg lp D++tl)[X.length+5]? = some lp:=fun lp D tl=>by
  unfold oH;rw [ZLi,ZLK (by rw [ZE2];omega),ZE2,show X.length+5 - (X.length+2)=3 by omega]
  rfl
 have hsl:∀ (lp o:AObj) D tl,setH (oH S bs X rg lp D++tl) (X.length+5) o=oH S bs X rg o D++tl:=fun lp o D tl=>by
  have hlt:X.length+5 < (oH S bs X rg lp D++tl).length:=by simp [oH,ZE2];omega
  rw [ZEC hlt];unfold oH;rw [ZLi,ZM0 _ _ (by rw [ZE2];omega),ZE2,show X.length+5 - (X.length+2)=3 by omega]
  simp [ZLi]
 have b1:∀ (lp:AObj) D o,(oH S bs X rg lp D++tl++[o])[X.length+5]? = some lp:=fun lp D o=>by rw [ZLi];exact hgl _ _ _
 have b2:∀ (lp lp':AObj) D o,setH (oH S bs X rg lp D++tl++[o]) (X.length+5) lp'=oH S bs X rg lp' D++tl++[o]:=fun lp lp' D o=>by rw [ZLi,hsl,←ZLi]
 have b3:Zb rE c16R2b ((13,.ptr (oH S bs X rg (oL .ready X t) D++tl).length 0 0 1)::(51,d.enc)::ofr X t) (setH (oH S bs X rg (oL .ready X t) D++tl++[.row 16 [d.enc]]) (X.length+5) (oL .busy X t))=some (.normal,[],(oH S bs X rg (oL .busy X t) (oF S d D)++tl)++[.row 16 [d.enc]]):=by
  have:=ZI4 H t d rg (oL .busy X t) D tl h1;have hl:(oH S bs X rg (oL .ready X t) D++tl).length=(oH S bs X rg (oL .busy X t) D++tl).length:=by simp only [oH,ZLf,ZLb]
  rw [b2,hl];exact this
 have h:=Ss (E:=rE) (b:=X.length+5) (args:=[d.enc]) (h:=oH S bs X rg (oL .ready X t) D++tl) (fr:=ofr X t) (ps:=[51]) (assign:=c16R2a) (body:=c16R2b)
  (fr0:=(51,d.enc)::ofr X t) (hgl _ _ _) rfl (ZI2 X t d _) (h1:=(oH S bs X rg (oL .ready X t) D++tl)++[.row 16 [d.enc]]) (b1 _ _ _)
  (e:=.normal) (fr2:=[]) (h2:=(oH S bs X rg (oL .busy X t) (oF S d D)++tl)++[.row 16 [d.enc]]) b3 (b1 _ _ _)
 rw [h];exact congrArg (fun z=>some (AV.bool true,z)) (b2 _ _ _ _)
end Go.AM
namespace Go.AM
open Go
theorem ZI6 (d:Door) {h:Hp} {v:AV} (r1:rowAt h 1 1=some (1,[.mp 0])) (hv:W5 h false [2] false (.isl false false 1 []) (.mp 0) (.str d.Id)=some v):fnV rE 42 [d.enc,.ptr 1 0 0 1] h=some (v,h):=by
 rw [Q6 (f:=42) rfl rfl];have t0:∀ fr,Xq h.length fr h=h:=fun fr=>ZE5 rfl
 simp only [go_sem,qy,qq,c42,Door.enc,NL.enc,r1,hv,t0]
def oC:AV:=.clo (.func 42) [] [.ptr 1 0 0 1]
theorem ZI7 {S:List Str×List (List Str)} {bs:List Nat} {X:List AObj} (H:HB S.1 S.2 bs X) (rg lp:AObj) (D:List Str) (d:Door) (tl:List AObj):
 ∃ v,Xy rE false oC [d.enc] (oH S bs X rg lp D++tl)=some (v,oH S bs X rg lp D++tl)∧ZEl (oH S bs X rg lp D) v (ZE6 S d.Id):=by
 obtain ⟨v,hv,hr⟩:=ZGe H d.Id (oH S bs X rg lp D) ⟨_,rfl⟩;refine ⟨v,?_,hr⟩;unfold oC;rw [RL];exact ZI6 d rfl (hv tl)
theorem ZGf (hd Z:List AObj) (n:Nat) (fr:Fr) (hn:hd.length≤n):∃ tl,Xq n fr (hd++Z)=hd++tl:=by
 unfold Xq;cases Zd n (fr.map (·.2))&&X4 n ((hd++Z).take n) with
 | false=>exact ⟨Z,rfl⟩
 | true=>exact ⟨Z.take (n - hd.length),by rw [cond_true,ZMb,ZLk hn]⟩
theorem ZI8 {σ:Type} {s:Sta} {aft:Door→List Str} {f:Door→σ→σ} {ok:σ→Prop} (FC G p0 p3 p7:AV) (y m:Nat) (H:σ→List AObj) (hG:∀ x,GRd (H x) G s FC p0 p3 p7) (hH:∀ x,(H x).length=m)
 (hy:∀ (d:Door) (x:σ) (K:List Str) (tl:List AObj),d∈s.Doors→ok x→U4 rE y [d.enc] (H x++kM K::(tl++[.row 16 [d.enc]]))=some (.bool true,H (f d x)++kM K::(tl++[.row 16 [d.enc],.row 16 [d.enc]])))
 (hA:∀ (d:Door) (x:σ) (K:List Str) (tl:List AObj),d∈s.Doors→∃ v,Xy rE false FC [d.enc] (H x++kM K::tl)=some (v,H x++kM K::tl)∧ZEl (H x) v (aft d))
 (id:Str) {x x':σ} (R:RunsG s aft f ok [id] [id] x x'):
 ∃ fr tl,Zb rE c71 (QP 0 ([]++[.yld y]++[.iptr false [.str id],G])) (H x)=some (.normal,fr,H x'++tl):=by
 obtain ⟨K',Lv',tl',hl⟩:=ZHN FC G p0 p3 p7 y m H hG hH hy hA R (.sl (m+(0+1)) 1 0 1 true) [.row 1 [.str id]] ⟨0,1,0,true,[.str id],rfl,rfl,rfl,rfl,rfl⟩ (fun n=>rfl)
 have hm:=hH x;have hm':=hH x';have hp:=Ur (enc:=encS) (eq:=Z3) Z1Y [] id (h:=H x++[.map [] []]) (b:=(H x).length) (ZEG _ _ _);have hk:Qi Z3 [] id=[id]:=rfl;rw [hk] at hp;have hrep:List.replicate 1 (AV.bool true)=[.bool true]:=rfl;have hrep0:List.replicate 0 (AV.bool true)=[]:=rfl;rw [ZEV] at hp;simp only [encS,List.map,ZO,ZLb,ZLs,ZLB,hrep] at hp;simp only [wfp,kM,encS,List.map,ZO,ZLb,ZLs,ZLB,hrep] at hl;subst hm;have f1:∀ a b c h,Xq (H x).length [(0,a),(1,b),(2,c),(4,.mp (H x).length)] h=h:=fun a b c h=>by
  have hn:Nat.blt (H x).length (H x).length=false:=by rw [ZM6];simp [ZLR]
  have e:Zd (H x).length ([(0,a),(1,b),(2,c),(4,AV.mp (H x).length)].map (fun (p:Nat×AV)=>p.2))=false:=by simp [Zd,bel,hn]
  unfold Xq;rw [e];rfl
 have f2:∀ n a b c g o k ex h,Xq n [(0,a),(2,b),(4,c),(5,.sl n g o k ex)] h=h:=fun n a b c g o k ex h=>by
  have hn:Nat.blt n n=false:=by rw [ZM6];simp [ZLR]
  have e:Zd n ([(0,a),(2,b),(4,c),(5,AV.sl n g o k ex)].map (fun (p:Nat×AV)=>p.2))=false:=by simp [Zd,bel,hn]
  unfold Xq;rw [e];rfl
 have l1:∀ o:AObj,(H x++[o]).length=(H x).length+1:=fun o=>by simp
 have l2:∀ o p:AObj,(H x++[o]++[p]).length=(H x).length+2:=fun o p=>by simp
 have l3:H x++[AObj.map [.str id] [.bool true]]++[.row 1 [.str id]]=H x++[AObj.map [.str id] [.bool true],.row 1 [.str id]]:=by simp
 have hl:Zg rE [0,2,4,5] c71L1b _ (H x++[AObj.map [.str id] [.bool true],.row 1 [.str id]])=_:=hl;simp only [go_sem,qy,qq,qv,c71,c71L1,hp,f1,f2,l1,l3,hl];obtain ⟨tl,ht⟩:=ZGf (H x') (AObj.map (K'.map encS) (List.replicate K'.length (.bool true))::tl') ((H x).length+2) [] (by omega)
 exact ⟨[],tl,by rw [ht]⟩
def rG (s:Sta):AObj:=.row 8 [.agg (grC s++[oC])]
def wkO (X:List AObj) (id:Str):AV:=.clo (.func 71) [] [.iptr false [.str id],.ptr (X.length+4) 0 0 1]
theorem ZI9 (s:Sta) (S:List Str×List (List Str)) (bs:List Nat) (X:List AObj) (lp:AObj) (D:List Str):
 GRd (oH S bs X (rG s) lp D) (.ptr (X.length+4) 0 0 1) s oC (.ptr (X.length+4) 0 0 1) (.ptr (X.length+4) 0 3 1) (.ptr (X.length+4) 0 7 1):=by
 have hr:∀ x tl,rowAt (oH S bs X (rG s) lp D++x::tl) (X.length+4) 1=some (8,[.agg (grC s++[oC])]):=fun x tl=>by
  unfold oH rowAt;rw [ZLi,ZLK (by rw [ZE2];omega),ZE2,show X.length+4 - (X.length+2)=2 by omega]
  rfl
 refine ⟨fun x tl=>?_,fun x tl=>?_,fun x tl=>?_,fun x tl=>?_,fun x tl=>?_,fun x tl=>?_,fun n hn=>?_⟩
 ·rw [AH,hr];rfl
 ·rw [AH,hr];rfl
 ·rw [Az,hr];rfl
 ·rw [Az,hr];rfl
 ·rw [AH,hr];rfl
 ·rw [Az,hr];rfl
 ·have hl:(oH S bs X (rG s) lp D).length=X.length+6:=by simp [oH,ZE2]
  have:([X.length+4]:List Nat).contains n=false:=by
   rw [hl] at hn;simp;omega
  exact ⟨this,this,this⟩
theorem ZIa (s:Sta) (id:Str) {S:List Str×List (List Str)} {bs:List Nat} {X:List AObj} (H:HB S.1 S.2 bs X) {D:List Str} (R:RunsG s (fun d=>ZE6 S d.Id) (oF S) (fun D=>D.length≤1000) [id] [id] [] D):
 ∃ tl,rf rE (wkO X id) [51] c16R2a c16R2b (ofr X (wkO X id)) (bH S.1 S.2 bs X++[.row 1 [],.row 1 [.sl (X.length+2) 0 0 0 false],rG s]) =
  some (.normal,ofr X (wkO X id),bH S.1 S.2 bs X++[.row 1 (D.map encS),.row 1 [.sl (X.length+2) D.length 0 D.length false],rG s]++tl):=by
 have hm:∀ D,(oH S bs X (rG s) (oL .ready X (wkO X id)) D).length=X.length+6:=fun D=>by simp [oH,ZE2]
 obtain ⟨fr,tl,h⟩:=ZI8 (s:=s) (aft:=fun d=>ZE6 S d.Id) (f:=oF S) (ok:=fun D=>D.length≤1000) oC (.ptr (X.length+4) 0 0 1) (.ptr (X.length+4) 0 0 1) (.ptr (X.length+4) 0 3 1) (.ptr (X.length+4) 0 7 1) (X.length+5) (X.length+6) (fun D=>oH S bs X (rG s) (oL .ready X (wkO X id)) D) (fun D=>ZI9 s S bs X _ D) hm
  (fun d D K tl _ hD=>by
   have:=ZI5 H (wkO X id) d (rG s) D (kM K::(tl++[.row 16 [d.enc]])) hD;simpa only [ZLi,ZL8,ZL9] using this)
  (fun d D K tl _=>ZI7 H _ _ D d (kM K::tl)) id R
 refine ⟨.loop .exhausted .normal (ofr X (wkO X id)) [51] c16R2a c16R2b::tl,?_⟩;have e1:(bH S.1 S.2 bs X++[AObj.row 1 [],AObj.row 1 [.sl (X.length+2) 0 0 0 false],rG s]).length=X.length+5:=by simp [ZE2]
 have e2:bH S.1 S.2 bs X++[.row 1 [],.row 1 [.sl (X.length+2) 0 0 0 false],rG s]++[oL .ready X (wkO X id)]=oH S bs X (rG s) (oL .ready X (wkO X id)) []:=by
  unfold oH;rw [ZLi];rfl
 have e3:(oH S bs X (rG s) (oL .ready X (wkO X id)) D++tl)[X.length+5]? = some (oL .ready X (wkO X id)):=by
  unfold oH;rw [ZLi,ZLK (by rw [ZE2];omega),ZE2,show X.length+5 - (X.length+2)=3 by omega]
  rfl
 have e4:∀ o,setH (oH S bs X (rG s) (oL .ready X (wkO X id)) D++tl) (X.length+5) o=oH S bs X (rG s) o D++tl:=fun o=>by
  have hlt:X.length+5 < (oH S bs X (rG s) (oL .ready X (wkO X id)) D++tl).length:=by simp [oH,ZE2];omega
  rw [ZEC hlt];unfold oH;rw [ZLi,ZM0 _ _ (by rw [ZE2];omega),ZE2,show X.length+5 - (X.length+2)=3 by omega]
  simp [ZLi]
 have e5:rf rE (wkO X id) [51] c16R2a c16R2b (ofr X (wkO X id)) (bH S.1 S.2 bs X++[.row 1 [],.row 1 [.sl (X.length+2) 0 0 0 false],rG s])=J0 (ofr X (wkO X id)) (X.length+5) (fnd [] (Zb rE c71 (QP 0 ([]++[.yld (X.length+5)]++[.iptr false [.str id],AV.ptr (X.length+4) 0 0 1])) (oH S bs X (rG s) (oL .ready X (wkO X id)) []))):=by
  rw [←e2,←e1];unfold oL
  conv=>lhs;arg 2;unfold wkO
  exact Z1k (E:=rE) (g:=71) (first:=[]) (cap:=[.iptr false [.str id],AV.ptr (X.length+4) 0 0 1]) (c:=c71) (rs:=[]) rfl
 rw [e5,h];show J0 _ _ (some (.tup [],_))=_
 rw [Za3,e3];show some (AExit.normal,ofr X (wkO X id),setH (oH S bs X (rG s) (oL .ready X (wkO X id)) D++tl) (X.length+5) _)=_
 rw [e4];unfold oH;simp only [ZLi,ZL8,ZL9]
end Go.AM
namespace Go.AM
open Go
theorem ZIb (s:Sta) (id:Str) (h:Hp):fnV rE 35 [.agg (grC s++[oC]),.str id] h=some (.clo (.func 71) [] [.iptr false [.str id],.ptr h.length 0 0 1],h++[rG s]):=by
 rw [Q6 (f:=35) rfl rfl];have hi:Va h 8 (.agg (grC s++[oC]))=some (.ptr h.length 0 0 1,h++[rG s]):=rfl;have ht:Xq h.length [(2,AV.ptr h.length 0 0 1),(3,.iptr false [.str id])] (h++[rG s])=h++[rG s]:=by
  have hn:Nat.blt h.length h.length=false:=by rw [ZM6];simp [ZLR]
  have e:Zd h.length ([(2,AV.ptr h.length 0 0 1),(3,AV.iptr false [.str id])].map (fun (p:Nat×AV)=>p.2))=false:=by simp [Zd,bel,hn]
  unfold Xq;rw [e];rfl
 simp only [go_sem,qy,qq,c35,hi,ht]
theorem ZIc {D D2:List AV} (hD:ZE7 37 [ZEa 37] 1 D=some D2) {h:Hp} {b:Nat} (hb:h[b]? = some (.row 1 D)):
 fnV rE 36 [.sl b D.length 0 D.length false,.clo (.func 37) [] []] h=some (.sl b D.length 0 D.length false,setH h b (.row 1 D2)):=by
 rw [V8 (s:=ZEo (ZE7 37)) rfl];unfold ZEo ZE8;simp only [hb,beq_self_eq_true,ZLv,cond_true];have hD':ZE7 37 [.clo (.func 37) [] []] 1 D=some D2:=hD;rw [hD'];rfl
theorem ZId (s:Sta) (id:Str) (D D2:List Str) (hc:pfn rE 33 [stA s,.str id]=some (I 0)) (hk:s.Doors.length≤500) (hL:∀ d∈s.Doors,d.After.l.length≤1000)
 (R:RunsG s (fun d=>ZE6 (ZDX s.Doors) d.Id) (oF (ZDX s.Doors)) (fun D=>D.length≤1000) [id] [id] [] D) (hD:ZE7 37 [ZEa 37] 1 (D.map encS)=some (D2.map encS)) (hDl:D2.length=D.length):
 pfn rE 16 [stA s,.str id]=some (.tup [.isl false false 1 (D2.map encS),I 0]):=by
 obtain ⟨fr1,bs,X0,ho,H0,r1⟩:=ZI1 (.str id) (.iptr false (grC s)) (.isl false false 1 []) (I 0) s.Doors false false hk hL;have ho:Zg rE [1,2,4,5,7,22,23,24] c16L1b _ [.map [] [],.row 1 [.mp 0]]=_:=ho;obtain ⟨X,q1,H,_,_⟩:=ZFg H0 0 [(1,.str id),(2,.iptr false (grC s)),(4,.isl false false 1 []),(5,I 0),(7,.ptr 1 0 0 1)];obtain ⟨tl,hr⟩:=ZIa s id H R;have hw:=ZIb s id;have h00:((0:Int) != 0)=false:=rfl;simp only [stA] at hc;simp only [grC] at ho r1 q1;have hb:∀ h,GL h 1 .nilmap=some (.ptr h.length 0 0 1,h++[.row 1 [.nilmap]]):=fun h=>rfl
 have hst:stE 0 1 (.mp 0) .nilmap=some (.mp 0):=rfl;rw [Z5 (f:=16) rfl rfl];have n1:X.length+2+1=X.length+3:=rfl;have n2:X.length+3+1=X.length+4:=rfl;have hap:∀ o p:AObj,bH (ZDX s.Doors).1 (ZDX s.Doors).2 bs X++[o]++[p]=bH (ZDX s.Doors).1 (ZDX s.Doors).2 bs X++[o,p]:=fun o p=>by simp
 have hap3:∀ o p q:AObj,bH (ZDX s.Doors).1 (ZDX s.Doors).2 bs X++[o,p]++[q]=bH (ZDX s.Doors).1 (ZDX s.Doors).2 bs X++[o,p,q]:=fun o p q=>by simp
 have hl2:∀ o p:AObj,(bH (ZDX s.Doors).1 (ZDX s.Doors).2 bs X++[o,p]).length=X.length+4:=fun o p=>by simp [ZE2]
 have hl3:∀ o p q:AObj,(bH (ZDX s.Doors).1 (ZDX s.Doors).2 bs X++[o,p,q]).length=X.length+5:=fun o p q=>by simp [ZE2]
 have ht50:∀ a b c d i h,Xq (X.length+4) [(4,a),(5,b),(7,c),(12,d),(50,AV.clo (.func 71) [] [i,.ptr (X.length+4) 0 0 1])] h=h:=fun a b c d i h=>by
  have hn:Nat.blt (X.length+4) (X.length+4)=false:=by rw [ZM6];simp [ZLR]
  have e:Zd (X.length+4) ([(4,a),(5,b),(7,c),(12,d),(50,AV.clo (.func 71) [] [i,.ptr (X.length+4) 0 0 1])].map (fun (p:Nat×AV)=>p.2))=false:=by simp [Zd,bel,hn]
  unfold Xq;rw [e];rfl
 obtain ⟨tl2,hq⟩:=ZGf (bH (ZDX s.Doors).1 (ZDX s.Doors).2 bs X++[.row 1 (D.map encS),.row 1 [.sl (X.length+2) D.length 0 D.length false],rG s]) tl (X.length+5) [(12,.ptr (X.length+3) 0 0 1)] (by simp [ZE2])
 have hbl:(bH (ZDX s.Doors).1 (ZDX s.Doors).2 bs X).length=X.length+2:=rfl;have hg2:∀ (o:AObj) Z,(bH (ZDX s.Doors).1 (ZDX s.Doors).2 bs X++o::Z)[X.length+2]? = some o:=fun o Z=>by rw [←hbl,ZEG]
 have hh:∀ o p q:AObj,bH (ZDX s.Doors).1 (ZDX s.Doors).2 bs X++[o,p,q]++tl2=bH (ZDX s.Doors).1 (ZDX s.Doors).2 bs X++o::p::q::tl2:=fun o p q=>by simp
 have hr12:∀ o q:AObj,rowAt (bH (ZDX s.Doors).1 (ZDX s.Doors).2 bs X++[o,.row 1 [.sl (X.length+2) D.length 0 D.length false],q]++tl2) (X.length+3) 1=some (1,[.sl (X.length+2) D.length 0 D.length false]):=fun o q=>by
  rw [hh,show X.length+3=(bH (ZDX s.Doors).1 (ZDX s.Doors).2 bs X).length+(0+1) from rfl,ZEw]
  rfl
 have h36:=ZIc hD (h:=bH (ZDX s.Doors).1 (ZDX s.Doors).2 bs X++[.row 1 (D.map encS),.row 1 [.sl (X.length+2) D.length 0 D.length false],rG s]++tl2) (b:=X.length+2) (by rw [hh,hg2])
 have hset:∀ o,setH (bH (ZDX s.Doors).1 (ZDX s.Doors).2 bs X++[.row 1 (D.map encS),.row 1 [.sl (X.length+2) D.length 0 D.length false],rG s]++tl2) (X.length+2) o=bH (ZDX s.Doors).1 (ZDX s.Doors).2 bs X++[o,.row 1 [.sl (X.length+2) D.length 0 D.length false],rG s]++tl2:=fun o=>by
  rw [hh,hh,←hbl,ZEV]
 rw [ZL6,hset] at h36;have t3:∀ fr o,Xq (X.length+5+tl2.length) fr (bH (ZDX s.Doors).1 (ZDX s.Doors).2 bs X++[o,.row 1 [.sl (X.length+2) D.length 0 D.length false],rG s]++tl2)=bH (ZDX s.Doors).1 (ZDX s.Doors).2 bs X++[o,.row 1 [.sl (X.length+2) D.length 0 D.length false],rG s]++tl2:=fun fr o=>ZE5 (by simp [ZE2];omega)
 have hrw:rowAt (bH (ZDX s.Doors).1 (ZDX s.Doors).2 bs X++[.row 1 (D2.map encS),.row 1 [.sl (X.length+2) D.length 0 D.length false],rG s]++tl2) (X.length+2) D.length=some (1,D2.map encS):=by
  unfold rowAt;rw [hh,hg2];simp only [ZL6,hDl,beq_self_eq_true,cond_true]
 have t1:(D2.map encS).take D.length=D2.map encS:=ZLk (by rw [ZL6,hDl];exact ZLq _)
 have f1:∀ h n,ZC false h (n+1) (D2.map encS)=some (D2.map encS):=fun h n=>by simp only [ZC,ZET,cond_true]
 have f1:=fun h=>f1 h 36
 simp only [Nat.reduceAdd] at f1;have hg3:∀ o q:AObj,(bH (ZDX s.Doors).1 (ZDX s.Doors).2 bs X++[o,.row 1 [.sl (X.length+2) D.length 0 D.length false],q]++tl2)[X.length+2]? = some o:=fun o q=>by rw [hh,hg2]
 simp only [grC,oC,ZL8,ZL9] at hw;simp only [wkO,ofr] at hr;simp only [go_sem,qy,qq,qv,qk,reduceIte,c16,c16L1,stA,hc,h00,hb,hst,ho,r1,q1,put,ZE2,n1,hap,hw,hap3,hl2,Sr,hr,hl3,ht50,hq,hr12,h36,t3,hrw,t1,f1]
end Go.AM
namespace Go.AM
open Go
theorem ZFi (s:Sta) (hs:StE s) (id:Str) (h:ZEb s id≠0):pfn rE 12 [stA s,.str id]=some (.tup [ftA false false [] [],I (ZEb s id)]):=by
 have hc:=Zpq s hs id;simp only [stA] at hc;have h0:(ZEb s id != 0)=true:=by rw [bne_iff_ne];exact h
 rw [Z5 (f:=12) rfl rfl];generalize ZEb s id=e at hc h0 ⊢;simp only [go_sem,qy,qq,qv,qk,reduceIte,c12,stA,hc,h0,ftA,List.map]
theorem ZJc {a b c:Str} (h1:ltS a b) (h2:ltS b c):ltS a c:=List.lt_trans h1 h2
theorem ZIV (a:Str):¬ ltS a a:=List.lt_irrefl _
theorem ZIS {α:Type} {f:α→Str}:∀ {a b:List α},a.Pairwise (fun x y=>ltS (f x) (f y))→b.Pairwise (fun x y=>ltS (f x) (f y))→(∀ x,x∈a↔x∈b)→a=b
 | [],[],_,_,_=>rfl
 | [],y::s,_,_,h=>by have:=(h y).2 ZLG;cases this
 | x::r,[],_,_,h=>by have:=(h x).1 ZLG;cases this
 | x::r,y::s,ha,hb,h=>by
  rw [ZMs] at ha hb;have hxy:x=y:=by
   rcases ZLM.1 ((h x).1 ZLG) with e | hx
   ·exact e
   ·rcases ZLM.1 ((h y).2 ZLG) with e | hy
    ·exact e.symm
    ·exact absurd (ZJc (hb.1 x hx) (ha.1 y hy)) (ZIV _)
  subst hxy;rw [ZIS ha.2 hb.2 (fun z=>?_)]
  have hz:=h z;simp only [ZLM] at hz;constructor
  ·intro hr;rcases hz.1 (.inr hr) with e | hs
   ·subst e;exact absurd (ha.1 z hr) (ZIV _)
   ·exact hs
  ·intro hr;rcases hz.2 (.inr hr) with e | hs
   ·subst e;exact absurd (hb.1 z hr) (ZIV _)
   ·exact hs
theorem Zn6 {l:List Str} {v:Str}:hasB l v=true↔v∈l:=by
 unfold hasB;rw [ZLt,←ZMg,Zda];constructor
 ·intro h;refine Classical.byContradiction fun hn=>h fun j x hx=>?_
  cases c:Z3 x v with
  | false=>rfl
  | true=>exact absurd ((Ky _ _).1 c▸ZLe hx) hn
 ·intro h hA;obtain ⟨j,hj⟩:=ZLN h;have:=hA j v hj;rw [(Ky v v).2 rfl] at this;cases this
theorem ZGg {a b:End}:ZEq a b=true↔a=b:=by
 unfold ZEq;rw [ZL5,ZL5,Ky,beq_iff_eq,beq_iff_eq];constructor
 ·rintro ⟨h1,h2,h3⟩;cases a;cases b;simp_all
 ·rintro rfl;exact ⟨rfl,rfl,rfl⟩
theorem ZJ2 {l:List End} {v:End}:ZIL l v=true↔v∈l:=by
 unfold ZIL;rw [ZLt,←ZMg,Zda];constructor
 ·intro h;refine Classical.byContradiction fun hn=>h fun j x hx=>?_
  cases c:ZEq x v with
  | false=>rfl
  | true=>exact absurd (ZGg.1 c▸ZLe hx) hn
 ·intro h hA;obtain ⟨j,hj⟩:=ZLN h;have:=hA j v hj;rw [ZGg.2 rfl] at this;cases this
theorem within_iff {D D2:List Str} {E E2:List End}:ZIQ D D2 E E2=true↔(∀ x∈D,x∈D2)∧(∀ e∈E,e∈E2):=by
 unfold ZIQ;rw [ZL5,Zda,Zda];constructor
 ·rintro ⟨h1,h2⟩;exact ⟨fun x hx=>by obtain ⟨j,hj⟩:=ZLN hx;exact Zn6.1 (h1 j x hj),fun e he=>by obtain ⟨j,hj⟩:=ZLN he;exact ZJ2.1 (h2 j e hj)⟩
 ·rintro ⟨h1,h2⟩;exact ⟨fun j x hx=>Zn6.2 (h1 x (ZLe hx)),fun j e he=>ZJ2.2 (h2 e (ZLe he))⟩
theorem ZaX (l:List Str):HK l l=true:=by
 unfold HK;rw [beq_self_eq_true,ZLm,Zda];intro j x hx;rw [ZLB,hx];exact (Ky _ _).2 rfl
theorem ZIe (D:List Str) (E:List End):HL D D E E=true:=by
 unfold HL;rw [beq_self_eq_true,ZaX,ZLm,ZLm,Zda];intro j x hx;rw [ZLB,hx];exact ZGg.2 rfl
end Go.AM
namespace Go.AM
open Go
instance iEnEq:DecidableEq End:=fun a b=>decidable_of_iff (ZEq a b=true) ZGg
def ZEh (s:Sta) (aft:Door→List Str):Nat→List Str→List Str→List Door→Option (List Door)
 | 0,_,_,_=>none
 | _+1,_,[],Q=>some Q
 | n+1,K,id::r,Q=>
  match (bif decide (Zn s id < 0) then none else s.Doors[(Zn s id).toNat]?) with
  | none=>none
  | some d=>bif decide (Q.length≤1000)&&decide ((id::r).length+(aft d).length≤1000) then ZEh s aft n ((aft d).foldl wkS (K,id::r)).1 ((aft d).foldl wkS (K,id::r)).2.tail (Q++[d]) else none
theorem ZGh {s:Sta} (hs:StE s) {id:Str} {d:Door} (h:(bif decide (Zn s id < 0) then none else s.Doors[(Zn s id).toNat]?)=some d):∃ k:Nat,s.Doors[k]? = some d∧pfn rE 15 [stA s,.str id]=some (I k):=by
 cases c:decide (Zn s id < 0) with
 | true=>rw [c] at h;cases h
 | false=>
  rw [c] at h;have h0:0≤Zn s id:=by have:=of_decide_eq_false c;omega
  refine ⟨(Zn s id).toNat,h,?_⟩;rw [find_ok s hs.sizes id,Int.toNat_of_nonneg h0]
theorem ZGi {s:Sta} (hs:StE s):∀ (n:Nat) (K L:List Str) (Q Q':List Door),ZEh s (fun d=>d.After.l) n K L Q=some Q'→Runs s K L (ZEc Q) (ZEd Q) (ZEc Q') (ZEd Q')
 | 0,_,_,_,_,h=>by cases h
 | _+1,K,[],Q,Q',h=>by
  rw [ZEh] at h;cases h;exact Runs.stop _ _ _
 | n+1,K,id::r,Q,Q',h=>by
  rw [ZEh] at h;cases hd:(bif decide (Zn s id < 0) then none else s.Doors[(Zn s id).toNat]?) with
  | none=>rw [hd] at h;cases h
  | some d=>
   rw [hd] at h;dsimp only at h;cases c:decide (Q.length≤1000)&&decide ((id::r).length+d.After.l.length≤1000) with
   | false=>rw [c] at h;cases h
   | true=>
    rw [c,cond_true] at h;simp only [ZL5,decide_eq_true_eq] at c;obtain ⟨k,hk,hf⟩:=ZGh hs hd;have ih:=ZGi hs n _ _ _ _ h;refine Runs.step _ id r _ _ _ _ k d hk hf ?_ ?_ c.2 ?_
    ·unfold ZEc;rw [ZL6];have:=ZLQ (fun d:Door=>decide (d.Ended < 0)) Q;omega
    ·unfold ZEd;rw [ZL6];have:=ZLQ (fun d:Door=>!decide (d.Ended < 0)&&d.After.l.isEmpty) Q;omega
    ·rw [ZFY,ZFZ];exact ih
def ZEr (S:List Str×List (List Str)) (Q:List Door):List Str:=(Q.filter fun d=>(ZE6 S d.Id).isEmpty).map (·.Id)
theorem ZIf (S:List Str×List (List Str)) (d:Door) (Q:List Door):oF S d (ZEr S Q)=ZEr S (Q++[d]):=by
 unfold oF ZEr;rw [ZMx,ZLg];cases c:(ZE6 S d.Id).isEmpty<;>simp [List.filter,c]
theorem ZGj {s:Sta} (hs:StE s) (S:List Str×List (List Str)):∀ (n:Nat) (K L:List Str) (Q Q':List Door),ZEh s (fun d=>ZE6 S d.Id) n K L Q=some Q'→RunsG s (fun d=>ZE6 S d.Id) (oF S) (fun D=>D.length≤1000) K L (ZEr S Q) (ZEr S Q')
 | 0,_,_,_,_,h=>by cases h
 | _+1,K,[],Q,Q',h=>by
  rw [ZEh] at h;cases h;exact RunsG.stop _ _
 | n+1,K,id::r,Q,Q',h=>by
  rw [ZEh] at h;cases hd:(bif decide (Zn s id < 0) then none else s.Doors[(Zn s id).toNat]?) with
  | none=>rw [hd] at h;cases h
  | some d=>
   rw [hd] at h;dsimp only at h;cases c:decide (Q.length≤1000)&&decide ((id::r).length+(ZE6 S d.Id).length≤1000) with
   | false=>rw [c] at h;cases h
   | true=>
    rw [c,cond_true] at h;simp only [ZL5,decide_eq_true_eq] at c;obtain ⟨k,hk,hf⟩:=ZGh hs hd;have ih:=ZGj hs S n _ _ _ _ h;refine RunsG.step _ id r _ _ k d hk hf ?_ (Nat.le_trans c.2 (by decide)) ?_
    ·unfold ZEr;rw [ZL6];have:=ZLQ (fun d:Door=>(ZE6 S d.Id).isEmpty) Q;omega
    ·rw [ZIf];exact ih
def dOf (Q:List Door):List Str:=(Q.filter fun d=>decide (d.Ended < 0)).map (·.Id)
def eOf (Q:List Door):List End:=(Q.filter fun d=>!decide (d.Ended < 0)&&d.After.l.isEmpty).map ZEk
def ZEK (s:Sta) (id:Str) (D:List Str) (E:List End):Bool:=ZEb s id==0&&
 match ZEh s (fun d=>d.After.l) 100 [id] [id] [] with
 | some Q=>(decide (ZEi (dOf Q)=D)&&decide (ZEj (eOf Q)=E))&&(decide ((eOf Q).map (·.Id)).Nodup&&(decide ((dOf Q).length≤1000)&&decide ((eOf Q).length≤1000)))
 | none=>false
theorem ZFj {s:Sta} (hs:StE s) {id:Str} {D:List Str} {E:List End} (h:ZEK s id D E=true):pfn rE 12 [stA s,.str id]=some (.tup [ftA false false D E,I 0]):=by
 unfold ZEK at h;rw [ZL5,beq_iff_eq] at h;obtain ⟨h0,h⟩:=h;cases hq:ZEh s (fun d=>d.After.l) 100 [id] [id] [] with
 | none=>rw [hq] at h;cases h
 | some Q=>
  rw [hq] at h;simp only [ZL5,decide_eq_true_eq] at h;obtain ⟨⟨rfl,rfl⟩,h3,h4,h5⟩:=h;have hr:=ZGi hs _ _ _ _ _ hq;have eD:ZEc Q=(dOf Q).map encS:=by unfold ZEc dOf;rw [ZLI];rfl
  have eE:ZEd Q=(eOf Q).map End.enc:=by unfold ZEd eOf;rw [ZLI];rfl
  rw [eD,eE] at hr;have pD:=ZES (dOf Q);have pE:=ZF9 (eOf Q);have hc:=Zpq s hs id;rw [h0] at hc;exact ZFW s id _ _ _ _ hc hr (ZFb _ h4) (ZG5 _ h5 h3) (by simp [pD.length_eq]) (by simp [pE.length_eq]) (ZET _) (ZEU _)
def ZEY (s:Sta) (id:Str) (D:List Str):Bool:=ZEb s id==0&&(s.Doors.all (fun d=>decide (d.After.l.length≤1000))&&
 match ZEh s (fun d=>ZE6 (ZDX s.Doors) d.Id) 100 [id] [id] [] with
 | some Q=>decide (ZEi (ZEr (ZDX s.Doors) Q)=D)&&decide ((ZEr (ZDX s.Doors) Q).length≤1000)
 | none=>false)
theorem ZGk {s:Sta} (hs:StE s) (hN:s.Doors.length≤500) {id:Str} {D:List Str} (h:ZEY s id D=true):pfn rE 16 [stA s,.str id]=some (.tup [.isl false false 1 (D.map encS),I 0]):=by
 unfold ZEY at h;rw [ZL5,ZL5,beq_iff_eq] at h;obtain ⟨h0,ha,h⟩:=h;cases hq:ZEh s (fun d=>ZE6 (ZDX s.Doors) d.Id) 100 [id] [id] [] with
 | none=>rw [hq] at h;cases h
 | some Q=>
  rw [hq] at h;simp only [ZL5,decide_eq_true_eq] at h;obtain ⟨rfl,h4⟩:=h;have hr:=ZGj hs _ _ _ _ _ _ hq;have hc:=Zpq s hs id;rw [h0] at hc;exact ZId s id _ _ hc hN (fun d hd=>by have:=ZLh.1 ha d hd;simpa using this) hr (ZFb _ h4) (ZES _).length_eq
def ZGl (s:Sta):Bool:=YQ s&&(ZEK s (B [101,49]) [B [101,52]] [⟨B [101,50],12,10⟩]&&(ZEK s (B [101,53]) [B [101,52]] []&&(ZEK s (B [101,50]) [] [⟨B [101,50],12,10⟩]&&(ZEb s (B [101,57])==10&&
 (ZEY s (B [101,52]) [B [101,49],B [101,53]]&&ZEY s (B [101,53]) [B [101,53]])))))
theorem ZIg:ZGl (lsS 7)=true:=by decide +kernel
end Go.AM
namespace Go.AM
open Go
theorem ZIh:pfn rE 9 []=some (.bool true):=by
 have h:=ZIg;have hs23:=ZHz;generalize lsS 7=S at h hs23;unfold ZGl at h;simp only [ZL5,beq_iff_eq] at h;obtain ⟨h0,h1,h2,h3,h4,h5,h6⟩:=h;have hF:=Kl S h0;have f1:=ZFj hF.e h1;have f2:=ZFj hF.e h2;have f3:=ZFj hF.e h3;have f4:=ZFi S hF.e (B [101,57]) (by rw [h4];decide)
 rw [h4] at f4;have o1:=ZGk hF.e hF.doors h5;have o2:=ZGk hF.e hF.doors h6;have s1:=ZF5 false false false false [B [101,52]] [B [101,52]] [⟨B [101,50],12,10⟩] [⟨B [101,50],12,10⟩] (by decide) (by decide)
 have s2:=ZF5 false false false false [B [101,52]] [B [101,52]] [] [] (by decide) (by decide)
 have s3:=ZF5 false false false false [] [] [⟨B [101,50],12,10⟩] [⟨B [101,50],12,10⟩] (by decide) (by decide)
 have t1:=Z4L false false [B [101,49],B [101,53]] [B [101,49],B [101,53]] (by decide)
 have t2:=Z4L false false [B [101,53]] [B [101,53]] (by decide)
 rw [ZIe] at s1 s2 s3;rw [ZaX] at t1 t2;have z0:((0:Int)==0)=true:=rfl;have z10:((10:Int)==10)=true:=rfl;simp only [ftA,End.enc,encS,ZLl,ZLA,stA] at f1 f2 f3 f4 o1 o2 s1 s2 s3 t1 t2 hs23;rw [Z5 (f:=9) rfl rfl];simp only [go_sem,qy,qq,qv,qk,reduceIte,c9,hs23,f1,f2,f3,f4,o1,o2,s1,s2,s3,t1,t2,z0,z10]
end Go.AM
namespace Go.AM
open Go
theorem ZIi {s:Sta} {x y z:Str} (h1:Reach s x y) (h2:Reach s y z):Reach s x z:=by
 induction h2 with
 | refl=>exact h1
 | step _ w e _ hd hi hz ih=>exact Reach.step _ _ _ e ih hd hi hz
end Go.AM
namespace Go.AM
open Go
end Go.AM
namespace Go.AM
open Go
end Go.AM
namespace Go.AM
open Go
end Go.AM
namespace Go.AM
open Go
end Go.AM
namespace Go.AM
open Go
end Go.AM
namespace Go.AM
open Go
end Go.AM
namespace Go.AM
open Go
end Go.AM
namespace Go.AM
open Go
end Go.AM
namespace Go.AM
open Go
structure Dst (R:Door→Door→Prop) (s t:Sta) (N:List Door):Prop where
 fw:∀ x∈s.Doors,∃ y∈t.Doors,R x y
 bw:∀ y∈t.Doors,(∃ x∈s.Doors,R x y)∨y∈N
 nw:∀ y∈N,y∈t.Doors
 dj:∀ x∈s.Doors,∀ y∈N,y.Id≠x.Id
 ln:t.Doors.length=s.Doors.length+N.length
 nd:(N.map (·.Id)).Nodup
end Go.AM
namespace Go.AM
open Go
end Go.AM
namespace Go.AM
open Go
end Go.AM
namespace Go.AM
open Go
theorem ZGo (i:Nat):decide (((i+1:Nat):Int) > 0)=true:=decide_eq_true (by omega)
theorem ZGp {i:Nat} (h:i < 1000000):IntKind.i64.wrap (((i+1:Nat):Int) - 1)=(i:Int):=by
 rw [show ((i+1:Nat):Int) - 1=(i:Int) by omega]
 exact YM (by omega) (by omega)
theorem ZIk {a b:Str} (h:ltS a b):WW a b=true:=by
 rw [ZEA];exact decide_eq_true h
theorem ZGq {α:Type} {f:α→Str} {l:List α} (h:l.Pairwise fun a b=>ltS (f a) (f b)) {i:Nat} {x y:α} (hx:l[i]? = some x) (hy:l[i+1]? = some y):WW (f x) (f y)=true:=by
 have hi:=(ZLj.1 hx);have hj:=(ZLj.1 hy);have:=List.pairwise_iff_getElem.1 h i (i+1) hi.1 hj.1 (by omega)
 rw [hi.2,hj.2] at this;exact ZIk this
end Go.AM
namespace Go.AM
open Go
end Go.AM
namespace Go.AM
open Go
theorem ZJ5 {s:Sta} {x:Str} (h:∃ d∈s.Doors,d.Id=x):decide (Zn s x < 0)=false:=by
 obtain ⟨d,hd,rfl⟩:=h;rw [ZEz];exact Ze8 (f:=fun d:Door=>d.Id) hd
end Go.AM
namespace Go.AM
open Go
end Go.AM
namespace Go.AM
open Go
end Go.AM
namespace Go.AM
open Go
theorem ZJw {K:List Str} {x:Str} {j:Nat} (h:K.findIdx? (Z3 x)=some j):K[j]? = some x:=by
 obtain ⟨hj,h1,_⟩:=List.findIdx?_eq_some_iff_getElem.1 h;rw [ZLa hj,(Ky _ _).1 h1]
theorem ZJD {S:List Str×List (List Str)} (hl:S.2.length=S.1.length) (x d y z:Str):z∈ZE6 (ZDY S x d) y↔z∈ZE6 S y∨(y=x∧z=d):=by
 unfold ZDY ZE6;cases hx:S.1.findIdx? (Z3 x) with
 | some j=>
  have hj:=ZJw hx;have hjl:=(ZLj.1 hj).1;dsimp only;cases hy:S.1.findIdx? (Z3 y) with
  | some i=>
   have hi:=ZJw hy;dsimp only;by_cases c:i=j
   ·subst c;have hxy:y=x:=by rw [hj] at hi;exact (Option.some.inj hi).symm
    rw [ZMB (by omega),ZM5,ZLE,ZLF]
    simp [hxy]
   ·have hxy:y≠x:=fun e=>c (by rw [e,hx] at hy;exact (Option.some.inj hy).symm)
    rw [ZMm (fun e=>c e.symm)]
    simp [hxy]
  | none=>
   have hxy:y≠x:=fun e=>by rw [e,hx] at hy;cases hy
   simp [hxy]
 | none=>
  dsimp only;rw [List.findIdx?_append];cases hy:S.1.findIdx? (Z3 y) with
  | some i=>
   have hi:=(ZLj.1 (ZJw hy)).1;have hxy:y≠x:=fun e=>by rw [e,hx] at hy;cases hy
   simp only [Option.some_or];rw [ZLL (by omega)]
   simp [hxy]
  | none=>
   simp only [Option.none_or];by_cases c:y=x
   ·subst c;have e:Z3 y y=true:=ZJC y;simp [ZMA,e,←hl]
   ·have e:Z3 y x=false:=by
     cases h:Z3 y x with
     | false=>rfl
     | true=>exact absurd ((Ky _ _).1 h) c
    simp [ZMA,e,c]
theorem ZJE {S:List Str×List (List Str)} (hl:S.2.length=S.1.length) (x d:Str):(ZDY S x d).2.length=(ZDY S x d).1.length:=by
 unfold ZDY;split
 ·simpa using hl
 ·simp [hl]
theorem ZJx (d:Str):∀ (L:List Str) (S:List Str×List (List Str)),S.2.length=S.1.length→(ZE0 d S L).2.length=(ZE0 d S L).1.length∧∀ y z,z∈ZE6 (ZE0 d S L) y↔z∈ZE6 S y∨(y∈L∧z=d)
 | [],S,hl=>⟨hl,fun y z=>by simp [ZE0]⟩
 | x::L,S,hl=>by
  obtain ⟨h1,h2⟩:=ZJx d L (ZDY S x d) (ZJE hl x d);refine ⟨h1,fun y z=>?_⟩
  show z∈ZE6 (ZE0 d (ZDY S x d) L) y↔_
  rw [h2,ZJD hl,ZLM];constructor
  ·rintro ((h | ⟨h,e⟩) | ⟨h,e⟩)
   ·exact .inl h
   ·exact .inr ⟨.inl h,e⟩
   ·exact .inr ⟨.inr h,e⟩
  ·rintro (h | ⟨h | h,e⟩)
   ·exact .inl (.inl h)
   ·exact .inl (.inr ⟨h,e⟩)
   ·exact .inr ⟨h,e⟩
theorem ZJy:∀ (ds:List Door) (S:List Str×List (List Str)),S.2.length=S.1.length→∀ y z,z∈ZE6 (ds.foldl ZE3 S) y↔z∈ZE6 S y∨∃ c∈ds,c.Id=z∧y∈c.After.l
 | [],S,hl,y,z=>by simp
 | d::ds,S,hl,y,z=>by
  obtain ⟨h1,h2⟩:=ZJx d.Id d.After.l S hl;rw [ZMk,ZJy ds (ZE3 S d) h1];show z∈ZE6 (ZE0 d.Id S d.After.l) y∨_↔_
  rw [h2];constructor
  ·rintro ((h | ⟨h,e⟩) | ⟨c,hc,h⟩)
   ·exact .inl h
   ·exact .inr ⟨d,ZLG,e.symm,h⟩
   ·exact .inr ⟨c,ZLW _ hc,h⟩
  ·rintro (h | ⟨c,hc,e,h⟩)
   ·exact .inl (.inl h)
   ·rcases ZLM.1 hc with rfl | hc
    ·exact .inl (.inr ⟨h,e.symm⟩)
    ·exact .inr ⟨c,hc,e,h⟩
theorem ZJv (ds:List Door) (y z:Str):z∈ZE6 (ZDX ds) y↔∃ c∈ds,c.Id=z∧y∈c.After.l:=by
 unfold ZDX;rw [ZJy ds _ rfl];constructor
 ·rintro (h | h)
  ·exact absurd h (by simp [ZE6])
  ·exact h
 ·exact .inr
theorem ZJF {S:List Str×List (List Str)} {c:Nat} (h:∀ A∈S.2,A.length≤c) (x:Str):(ZE6 S x).length≤c:=by
 unfold ZE6;split
 ·rename_i j _;cases hj:S.2[j]? with
  | none=>simp
  | some A=>exact h A (ZLe hj)
 ·simp
theorem ZJz {σ:Type} (s:Sta) (hp:Prop' s) (hs:StE s) (hN:s.Doors.length≤500) (aft:Door→List Str) (haft:∀ d∈s.Doors,∀ y∈aft d,∃ e∈s.Doors,e.Id=y) (hal:∀ d∈s.Doors,(aft d).length≤900000) (f:Door→σ→σ) (ok:σ→Prop) (X:List Door→σ) (hX:∀ d Q,f d (X Q)=X (Q++[d])) (hok:∀ Q,Q.length≤500→ok (X Q))
 (R:Str→Prop) (hRs:∀ d∈s.Doors,R d.Id→∀ y∈aft d,R y):∀ (n:Nat) (P:List Door) (L:List Str),s.Doors.length≤P.length+n→(∀ d∈P,d∈s.Doors)→(P.map (·.Id)++L).Nodup→(∀ x∈L,∃ d∈s.Doors,d.Id=x)→
 (∀ x∈P.map (·.Id)++L,R x)→(∀ d∈P,∀ y∈aft d,y∈P.map (·.Id)++L)→
 ∃ Q,RunsG s aft f ok (P.map (·.Id)++L) L (X P) (X Q)∧(Q.map (·.Id)).Nodup∧(∀ d∈Q,d∈s.Doors)∧(∀ d∈Q,R d.Id)∧(∀ d∈Q,∀ y∈aft d,y∈Q.map (·.Id))∧(∀ x∈P.map (·.Id)++L,x∈Q.map (·.Id))
 | n,P,[],_,hP,hn,_,hR,hA=>by
  rw [ZLc] at hn hR hA ⊢;exact ⟨P,RunsG.stop _ _,hn,hP,fun d hd=>hR _ (ZLP hd),hA,fun x hx=>hx⟩
 | n,P,x::r,hle,hP,hn,hL,hR,hA=>by
  have hsub:∀ y∈P.map (·.Id)++x::r,y∈s.Doors.map (·.Id):=fun y hy=>by
   rcases ZLE.1 hy with h | h
   ·obtain ⟨d,hd,rfl⟩:=ZLx.1 h;exact ZLP (hP d hd)
   ·obtain ⟨d,hd,rfl⟩:=hL y h;exact ZLP hd
  have hlen:=ZF6 _ _ hn hsub;simp only [ZLf,ZL6,ZLb] at hlen;obtain ⟨d,hd,hid⟩:=hL x ZLG;obtain ⟨k,hk⟩:=ZLN hd;have hf:pfn rE 15 [stA s,.str x]=some (I k):=by
   rw [find_ok s hs.sizes x,ZEz,←hid,Zi1 (ZEF hp) hk]
  cases n with
  | zero=>omega
  | succ n=>
   obtain ⟨new,w1,w2,w3,w4⟩:=ZF7 (aft d) (P.map (·.Id)++x::r) (x::r);have eK:(P++[d]).map (·.Id)++(r++new)=P.map (·.Id)++x::r++new:=by simp [hid]
   obtain ⟨Q,q1,q2,q3,q4,q5,q6⟩:=ZJz s hp hs hN aft haft hal f ok X hX hok R hRs n (P++[d]) (r++new) (by simp;omega)
    (fun e he=>by
     rcases ZLE.1 he with h | h
     ·exact hP e h
     ·rw [ZLF.1 h];exact hd)
    (by rw [eK];exact w4 hn)
    (fun y hy=>by
     rcases ZLE.1 hy with h | h
     ·exact hL y (ZLW _ h)
     ·exact haft d hd y (w2 y h))
    (fun y hy=>by
     rw [eK] at hy;rcases ZLE.1 hy with h | h
     ·exact hR y h
     ·exact hRs d hd (hid▸hR x (by simp)) y (w2 y h))
    (fun e he y hy=>by
     rw [eK];rcases ZLE.1 he with h | h
     ·exact ZMc _ (hA e h y hy)
     ·rw [ZLF.1 h] at hy;exact w3 y hy)
   refine ⟨Q,?_,q2,q3,q4,q5,fun y hy=>q6 y (by rw [eK];exact ZMc _ hy)⟩
   refine RunsG.step _ x r _ _ k d hk hf (hok P (by omega)) ?_ ?_
   ·have:=hal d hd;simp only [ZLb];omega
   ·rw [w1,hX,←eK];exact q1
structure IsOrg (s:Sta) (id:Str) (D:List Str):Prop where
 ds:D.Pairwise ltS
 dm:∀ x,x∈D↔∃ d∈s.Doors,d.Id=x∧(∀ c∈s.Doors,x ∉ c.After.l)∧Reach s x id
 dl:D.length≤500
theorem ZJG (s:Sta) (hp:Jx s=true) (hs:StE s) (hN:s.Doors.length≤500) (id:Str) (hid:decide (Zn s id < 0)=false):∃ D,pfn rE 16 [stA s,.str id]=some (.tup [.isl false false 1 (D.map encS),I 0])∧IsOrg s id D:=by
 have hp':=((Zdb s).1 hp).1;have hc:=Zpq s hs id;have hk0:ZEb s id=0:=by unfold ZEb;rw [hp,hid];rfl
 rw [hk0] at hc;have hal:∀ d∈s.Doors,d.After.l.length≤1000:=fun d hd=>by have:=(hs.doors d hd).after;omega
 have hid':=hid;rw [ZEz] at hid';obtain ⟨j,e,_,h4,h5⟩:=ZcU hid';obtain ⟨Q,q1,q2,q3,q4,q5,q6⟩:=ZJz s hp' hs hN (fun d=>ZE6 (ZDX s.Doors) d.Id) (fun d hd y hy=>by
  obtain ⟨c,hc,hci,_⟩:=(ZJv _ _ _).1 hy;exact ⟨c,hc,hci⟩) (fun d hd=>by
  have h1:=ZGd s.Doors (S:=([],[])) (c:=0) (fun A hA=>by cases hA) hal
  have h2:=ZJF h1 d.Id;exact Nat.le_trans h2 (by omega)) (oF (ZDX s.Doors)) (fun D=>D.length≤1000) (ZEr (ZDX s.Doors)) (ZIf (ZDX s.Doors)) (fun Q hQ=>by
  unfold ZEr;rw [ZL6];have:=ZLQ (fun d:Door=>(ZE6 (ZDX s.Doors) d.Id).isEmpty) Q
  omega) (fun y=>Reach s y id) (fun d hd hR y hy=>by
  obtain ⟨c,hc,rfl,hca⟩:=(ZJv _ _ _).1 hy;exact ZIi (Reach.step _ _ _ c (Reach.refl _) hc rfl hca) hR) s.Doors.length [] [id] (by simp) (fun d hd=>by cases hd) (by simp) (fun x hx=>⟨e,ZLe h4,by rw [ZLF.1 hx];exact h5⟩)
  (fun x hx=>by rw [ZLF.1 hx];exact Reach.refl id) (fun d hd=>by cases hd)
 have hQ:Q.length≤500:=by
  have:=ZF6 (Q.map (·.Id)) (s.Doors.map (·.Id)) q2 (fun x hx=>by obtain ⟨d,hd,rfl⟩:=ZLx.1 hx;exact ZLP (q3 d hd))
  simp only [ZL6] at this;omega
 have hall:∀ x z,Reach s x z→z∈Q.map (·.Id)→x∈Q.map (·.Id):=fun x z h=>by
  induction h with
  | refl=>exact fun h=>h
  | step y z d h hd hi hz ih=>
   intro hm;obtain ⟨c,hc,rfl⟩:=ZLx.1 hm;exact ih (q5 c hc y ((ZJv _ _ _).2 ⟨d,hd,hi,hz⟩))
 have hD:(ZEr (ZDX s.Doors) Q).length≤500:=by
  unfold ZEr;rw [ZL6];have:=ZLQ (fun d:Door=>(ZE6 (ZDX s.Doors) d.Id).isEmpty) Q
  omega
 have hnd:(ZEr (ZDX s.Doors) Q).Nodup:=q2.sublist ((ZMz).map _);have hpm:=ZES (ZEr (ZDX s.Doors) Q);have hr:=ZId s id _ _ hc hN hal q1 (ZFb _ (by omega)) hpm.length_eq
 refine ⟨_,hr,ZHr _ hnd,fun x=>?_,by rw [hpm.length_eq];exact hD⟩
 rw [hpm.mem_iff];unfold ZEr;rw [ZLx];constructor
 ·rintro ⟨d,hd,rfl⟩;obtain ⟨h1,h2⟩:=ZM4.1 hd;refine ⟨d,q3 d h1,rfl,fun c hc hm=>?_,q4 d h1⟩
  have:=(ZJv s.Doors d.Id c.Id).2 ⟨c,hc,rfl,hm⟩;rw [ZMl.1 h2] at this;cases this
 ·rintro ⟨d,hd,rfl,h1,h2⟩;obtain ⟨d',hd',he⟩:=ZLx.1 (hall _ _ h2 (q6 id (by simp)))
  have:d'=d:=ZFX (ZEF hp') (q3 d' hd') hd he;subst this;refine ⟨d',ZM4.2 ⟨hd',?_⟩,rfl⟩;rw [ZMl,List.eq_nil_iff_forall_not_mem];intro c hc;obtain ⟨b,hb,_,hba⟩:=(ZJv _ _ _).1 hc;exact h1 b hb hba
theorem ZJA (s:Sta) (hp:Prop' s):∀ (n i:Nat) (d:Door),i < n→s.Doors[i]? = some d→∃ e∈s.Doors,Reach s e.Id d.Id∧∀ c∈s.Doors,e.Id ∉ c.After.l
 | 0,i,d,hi,hd=>by omega
 | n+1,i,d,hi,hd=>by
  by_cases h:∃ c∈s.Doors,d.Id∈c.After.l
  ·obtain ⟨c,hc,hm⟩:=h;obtain ⟨j,hj⟩:=ZLN hc;have h1:=of_decide_eq_false (((Zd0 s j c).1 (hp.dr j c hj)).2.1 d.Id hm);have h2:=Zi1 (f:=fun x:Door=>x.Id) (ZEF hp) hd
   rw [ZEz,h2] at h1;obtain ⟨e,g1,g2,g3⟩:=ZJA s hp n j c (by omega) hj
   exact ⟨e,g1,Reach.step _ _ _ c g2 hc rfl hm,g3⟩
  ·exact ⟨d,ZLe hd,Reach.refl _,fun c hc hm=>h ⟨c,hc,hm⟩⟩
theorem ZJH {s:Sta} (hp:Prop' s) {id:Str} (hid:decide (Zn s id < 0)=false) {D:List Str} (h:IsOrg s id D):0 < D.length:=by
 rw [ZEz] at hid;obtain ⟨j,x,_,h4,h5⟩:=ZcU hid;obtain ⟨e,g1,g2,g3⟩:=ZJA s hp (j+1) j x (by omega) h4
 rw [h5] at g2;exact List.length_pos_of_mem ((h.dm e.Id).2 ⟨e,g1,rfl,g3,g2⟩)
theorem ZJI {s:Sta} {d:Door} (hd:d∈s.Doors) (h0:∀ c∈s.Doors,d.Id ∉ c.After.l) {D:List Str} (h:IsOrg s d.Id D):D=[d.Id]:=by
 refine ZIS (f:=fun x=>x) h.ds (by simp) fun x=>?_
 rw [h.dm,ZLF];constructor
 ·rintro ⟨e,he,rfl,h1,h2⟩;have key:∀ z,Reach s e.Id z→z=d.Id→e.Id=d.Id:=fun z hz=>by
   cases hz with
   | refl=>exact fun h=>h
   | step y _ c h hc hi hz=>exact fun hzd=>absurd (hzd▸hz) (h0 c hc)
  exact key _ h2 rfl
 ·rintro rfl;exact ⟨d,hd,rfl,h0,Reach.refl _⟩
theorem ZJJ (s:Sta) (hs:StE s) (id:Str) (h:ZEb s id≠0):∃ ex,pfn rE 16 [stA s,.str id]=some (.tup [.isl false ex 1 [],I (ZEb s id)]):=by
 have hc:=Zpq s hs id;simp only [stA] at hc;have h0:(ZEb s id != 0)=true:=by rw [bne_iff_ne];exact h
 refine ⟨false,?_⟩;rw [Z5 (f:=16) rfl rfl];generalize ZEb s id=e at hc h0 ⊢;simp only [go_sem,qy,qq,qk,reduceIte,c16,stA,hc,h0]
end Go.AM
namespace Go.AM
open Go
theorem ZJK (s:Sta) (id:Str) (D:List Str) (hD:D.length≤500) (ft:AV) (fb:Bool) (i:Nat) (d:Door) (hd:s.Doors[i]? = some d) (hal:d.After.l.length≤1000) (H0:∀ x∈D,x ∉ d.After.l):
 ∃ fr',Zg rE [1,2,5,6,8,9,10,11,12] c5L0b [(1,.str id),(2,.iptr false (grC s)),(5,.bool true),(6,.isl false false 1 (D.map encS)),(8,.ptr 0 0 0 1),(9,I 0),(10,.bool fb),(11,I i),(12,.int .i64 0)] [.row 2 [ft]]=some (.exit 2,fr',[.row 2 [ft]])∧
  get fr' 1=.str id∧get fr' 2=.iptr false (grC s)∧get fr' 4=.bot∧get fr' 5=.bool true∧get fr' 6=.isl false false 1 (D.map encS)∧get fr' 8=.ptr 0 0 0 1∧get fr' 9=I 0∧get fr' 10=.bool fb∧get fr' 11=I i:=by
 have L:=Y8 (E:=rE) (live:=[1,2,5,6,8,9,10,11,12]) (b:=c5L0b) D.length (fun k=>[(1,.str id),(2,.iptr false (grC s)),(5,.bool true),(6,.isl false false 1 (D.map encS)),(8,.ptr 0 0 0 1),(9,I 0),(10,.bool fb),(11,I i),(12,I k)]) (fun _=>[.row 2 [ft]]) (fun i=>rfl)
  (fun k hk=>by
   obtain ⟨x,hx⟩:∃ x,D[k]? = some x:=⟨_,ZLa hk⟩;have hg:=Z6 (f:=encS) hx;have hgd:=Z6 (f:=Door.enc) hd;have hk':=Zh hk;have hw:=Zx (n:=k) (by omega)
   have hh:=Zna d.After.ex d.After.l x hal;have hf:hasB d.After.l x=false:=by
    cases c:hasB d.After.l x with
    | false=>rfl
    | true=>exact absurd (Zn6.1 c) (H0 x (ZLe hx))
   rw [hf] at hh;simp only [grC];exact ⟨_,by simp only [go_sem,qy,qq,reduceIte,c5L0b,hg,hgd,encS,Door.enc,NL.enc,hk',hw,hh];rfl,by simp only [go_sem,qy]⟩)
  (e:=.exit 2) (by simp only [go_sem,qy,qq,reduceIte,c5L0b,ZG,ZL6];rfl) (by simp)
 exact ⟨_,L,by simp only [go_sem,qy],by simp only [go_sem,qy],by simp only [go_sem,qy],by simp only [go_sem,qy],by simp only [go_sem,qy],by simp only [go_sem,qy],by simp only [go_sem,qy],by simp only [go_sem,qy],by simp only [go_sem,qy]⟩
def ZJt (s:Sta) (id:Str) (i:Nat):Bool:=(s.Doors.take i).any fun c=>hasB c.After.l id
theorem ZJL {s:Sta} {id:Str} {i:Nat} {d:Door} (hd:s.Doors[i]? = some d):ZJt s id (i+1)=(ZJt s id i||hasB d.After.l id):=by
 have hi:=(ZLj.1 hd);unfold ZJt;rw [ZMr hi.1,List.any_append,hi.2];simp
theorem ZJM (s:Sta) (id:Str) (D:List Str) (hD:D.length≤500) (ft:AV) (hN:s.Doors.length≤500) (hal:∀ d∈s.Doors,d.After.l.length≤1000) (H0:∀ x∈D,∀ d∈s.Doors,x ∉ d.After.l):
 ∃ fr',Zg rE [1,2,5,6,8,9,10,11] c5L1b [(1,.str id),(2,.iptr false (grC s)),(5,.bool true),(6,.isl false false 1 (D.map encS)),(8,.ptr 0 0 0 1),(9,.int .i64 0),(10,.bool false),(11,.int .i64 0)] [.row 2 [ft]]=some (.exit 0,fr',[.row 2 [ft]])∧
  get fr' 1=.str id∧get fr' 2=.iptr false (grC s)∧get fr' 4=.bot∧get fr' 5=.bool true∧get fr' 6=.isl false false 1 (D.map encS)∧get fr' 8=.ptr 0 0 0 1∧get fr' 9=I 0∧get fr' 10=.bool (ZJt s id s.Doors.length):=by
 have L:=Y8 (E:=rE) (live:=[1,2,5,6,8,9,10,11]) (b:=c5L1b) s.Doors.length (fun i=>[(1,.str id),(2,.iptr false (grC s)),(5,.bool true),(6,.isl false false 1 (D.map encS)),(8,.ptr 0 0 0 1),(9,I 0),(10,.bool (ZJt s id i)),(11,I i)]) (fun _=>[.row 2 [ft]]) (fun i=>rfl)
  (fun i hi=>by
   obtain ⟨d,hd⟩:∃ d,s.Doors[i]? = some d:=⟨_,ZLa hi⟩;have hdm:=ZLe hd;have hg:=Z6 (f:=Door.enc) hd;have hi':=Zh hi;have hw:=Zx (n:=i) (by omega)
   have hh:=Zna d.After.ex d.After.l id (hal d hdm);have hs:=ZJL (id:=id) hd;obtain ⟨fa,l0,q1,q2,q4,q5,q6,q8,q9,q10,q11⟩:=ZJK s id D hD ft (ZJt s id (i+1)) i d hd (hal d hdm) (fun x hx=>H0 x hx d hdm)
   simp only [grC] at l0 q2;simp only [grC];cases c:ZJt s id i with
   | true=>
    rw [c,ZLy] at hs;rw [hs] at l0 q10;rw [hs];exact ⟨_,by simp only [go_sem,qy,qq,reduceIte,c5L1b,c5L0,hi',hw,ZL6,l0,q1,q2,q4,q5,q6,q8,q9,q10,q11];rfl,by simp only [go_sem,qy]⟩
   | false=>
    rw [c,Bool.false_or] at hs;rw [hs] at l0 q10;rw [hs];exact ⟨_,by simp only [go_sem,qy,qq,reduceIte,c5L1b,c5L0,hg,Door.enc,NL.enc,hi',hw,hh,ZL6,l0,q1,q2,q4,q5,q6,q8,q9,q10,q11];rfl,by simp only [go_sem,qy]⟩)
  (e:=.exit 0) (by simp only [go_sem,qy,qq,reduceIte,c5L1b,grC,ZG,ZL6];rfl) (by simp)
 exact ⟨_,L,by simp only [go_sem,qy],by simp only [go_sem,qy,grC],by simp only [go_sem,qy],by simp only [go_sem,qy],by simp only [go_sem,qy],by simp only [go_sem,qy],by simp only [go_sem,qy],by simp only [go_sem,qy]⟩
theorem ZJN (s:Sta) (hs:StE s) (hp:Jx s=true) (id:Str) (D:List Str) (F:List Str) (E:List End) (hD:IsOrg s id D) (hF:IsFate s id F E) (hN:s.Doors.length≤500) (fb:Bool):
 ∃ fr',Zg rE [1,2,5,6,8,9,10,13] c5L2b [(1,.str id),(2,.iptr false (grC s)),(5,.bool true),(6,.isl false false 1 (D.map encS)),(8,.ptr 0 0 0 1),(9,I 0),(10,.bool fb),(13,.int .i64 0)] [.row 2 [ftA false false F E]]=some (.exit 4,fr',[.row 2 [ftA false false F E]])∧
  get fr' 1=.str id∧get fr' 4=.bot∧get fr' 5=.bool true∧get fr' 6=.isl false false 1 (D.map encS)∧get fr' 9=I 0∧get fr' 10=.bool fb:=by
 have hDl:=hD.dl;have L:=Y8 (E:=rE) (live:=[1,2,5,6,8,9,10,13]) (b:=c5L2b) D.length (fun i=>[(1,.str id),(2,.iptr false (grC s)),(5,.bool true),(6,.isl false false 1 (D.map encS)),(8,.ptr 0 0 0 1),(9,I 0),(10,.bool fb),(13,I i)]) (fun _=>[.row 2 [ftA false false F E]]) (fun i=>rfl)
  (fun i hi=>by
   obtain ⟨x,hx⟩:∃ x,D[i]? = some x:=⟨_,ZLa hi⟩;obtain ⟨d,hd,hdi,_,hR⟩:=(hD.dm x).1 (ZLe hx);have hg:=Z6 (f:=encS) hx;have hi':=Zh hi;have hw:=Zx (n:=i) (by omega)
   obtain ⟨G,E2,f2,hG⟩:=ZHv s hp hs hN x (ZJ5 ⟨d,hd,hdi⟩);have hwi:=ZJb false false false false F G E E2 (by have:=hF.dl;omega) (by have:=hF.el;omega) (by have:=hG.dl;omega) (by have:=hG.el;omega)
   rw [within_iff.2 ⟨fun y hy=>by
    obtain ⟨c,h1,h2,h3,h4⟩:=(hF.dm y).1 hy;exact (hG.dm y).2 ⟨c,h1,h2,h3,ZIi hR h4⟩,fun y hy=>by
    obtain ⟨c,h1,h2,h3,h4,h5⟩:=(hF.em y).1 hy;exact (hG.em y).2 ⟨c,h1,h2,h3,h4,ZIi hR h5⟩⟩] at hwi
   have h00:((0:Int) != 0)=false:=rfl;simp only [stA] at f2;simp only [ftA] at f2 hwi;simp only [grC];cases i with
   | zero=>
    have g0:decide (((0:Nat):Int) > 0)=false:=rfl;exact ⟨_,by simp only [go_sem,qy,qq,qv,qk,reduceIte,c5L2b,ftA,hg,encS,hi',hw,f2,hwi,h00,g0,ZLp];rfl,by simp only [go_sem,qy,qq]⟩
   | succ j=>
    obtain ⟨y,hy⟩:∃ y,D[j]? = some y:=⟨_,ZLa (by omega)⟩
    have hgy:=Z6 (f:=encS) hy;have hlt:=ZGq (f:=fun x=>x) hD.ds hy hx
    have g1:=ZGo j;have g2:=ZGp (i:=j) (by omega)
    exact ⟨_,by simp only [go_sem,qy,qq,qv,qk,reduceIte,c5L2b,ftA,hg,hgy,encS,hi',hw,f2,hwi,h00,g1,g2,hlt,ZLp];rfl,by simp only [go_sem,qy]⟩)
  (e:=.exit 4) (by simp only [go_sem,qy,qq,reduceIte,c5L2b,grC,ZG,ZL6];rfl) (by simp)
 exact ⟨_,L,by simp only [go_sem,qy],by simp only [go_sem,qy],by simp only [go_sem,qy],by simp only [go_sem,qy],by simp only [go_sem,qy],by simp only [go_sem,qy]⟩
theorem Zrb (hup:pfn rE 9 []=some (.bool true)) (s:Sta) (id:Str):pfn rE 5 [stA s,.str id]=some (.bool true):=by
 have hf:=ZHm s id;cases c1:YQ s&&decide ((id.size:Int)≤100) with
 | false=>
  rw [c1] at hf;rw [Z5 (f:=5) rfl rfl];simp only [go_sem,qy,qq,qk,c5,hup,hf,ZLw]
 | true=>
 rw [c1] at hf;have hfew:=(ZL5 _ _▸c1).1;have hs:=Kl s hfew;by_cases hk:ZEb s id=0
 ·have hpp:Jx s=true:=by
   cases c2:Jx s with
   | true=>rfl
   | false=>unfold ZEb at hk;rw [c2] at hk;cases hk
  have hid:decide (Zn s id < 0)=false:=by
   cases c3:decide (Zn s id < 0) with
   | false=>rfl
   | true=>unfold ZEb at hk;rw [hpp,c3] at hk;cases hk
  have hp':=((Zdb s).1 hpp).1;have hN:=hs.doors;obtain ⟨D,o1,hO⟩:=ZJG s hpp hs.e hN id hid;obtain ⟨F,E,f1,hF⟩:=ZHv s hpp hs.e hN id hid;have hal:∀ d∈s.Doors,d.After.l.length≤1000:=fun d hd=>by have:=(hs.e.doors d hd).after;omega
  obtain ⟨fa,l1,p1,p2,p4,p5,p6,p8,p9,p10⟩:=ZJM s id D hO.dl (ftA false false F E) hN hal (fun x hx c hc=>by
   obtain ⟨d,_,rfl,h1,_⟩:=(hO.dm x).1 hx;exact h1 c hc)
  have l2:=ZJN s hs.e hpp id D F E hO hF hN;have hlen:=ZJH hp' hid hO;have hgt:decide (((D.length:Nat):Int) > 0)=true:=decide_eq_true (by omega)
  have h00:((0:Int) != 0)=false:=rfl;have z00:((0:Int)==0)=true:=rfl;simp only [stA] at hf o1 f1;cases c:ZJt s id s.Doors.length with
  | true=>
   rw [c] at p10;obtain ⟨fb,l2,q1,q4,q5,q6,q9,q10⟩:=l2 true;simp only [ftA,grC] at f1 l1 l2 p2;rw [Z5 (f:=5) rfl rfl];simp only [go_sem,qy,qq,qv,qk,reduceIte,c5,c5L1,c5L2,stA,hup,hf,o1,f1,h00,z00,l1,p1,p2,p4,p5,p6,p8,p9,p10,l2,q1,q4,q5,q6,q9,q10,hgt,ZL6,ZLp]
  | false=>
   rw [c] at p10;obtain ⟨fb,l2,q1,q4,q5,q6,q9,q10⟩:=l2 false;obtain ⟨d,hd,hdi⟩:∃ d∈s.Doors,d.Id=id:=by
    have hid':=hid;rw [ZEz] at hid';obtain ⟨j,e,_,h4,h5⟩:=ZcU hid';exact ⟨e,ZLe h4,h5⟩
   have hown:D=[id]:=by
    have:=ZJI (s:=s) (d:=d) hd (fun b hb hm=>by
     unfold ZJt at c;rw [ZLr,ZMj] at c;exact c b hb (Zn6.2 (hdi▸hm))) (hdi▸hO)
    rw [hdi] at this;exact this
   subst hown;have ht:=Z4L false false [id] [id] (by simp)
   rw [ZaX] at ht;simp only [ZLl,ZLA,encS] at o1 l1 l2 p6 q6 ht;have g1:decide (((1:Nat):Int) > 0)=true:=rfl;simp only [ftA,grC] at f1 l1 l2 p2;rw [Z5 (f:=5) rfl rfl];simp only [go_sem,qy,qq,qv,qk,reduceIte,c5,c5L1,c5L2,stA,hup,hf,o1,f1,h00,z00,l1,p1,p2,p4,p5,p6,p8,p9,p10,l2,q1,q4,q5,q6,q9,q10,ht,g1,ZLb,ZLs,ZLp]
 ·have ht:=ZFi s hs.e id hk;obtain ⟨ex,ho⟩:=ZJJ s hs.e id hk;have h0:(ZEb s id != 0)=true:=bne_iff_ne.2 hk;have z2:(((0:Nat):Int)==0)=true:=rfl;simp only [stA] at hf ht ho;simp only [ftA,ZLA] at ht;generalize ZEb s id=er at ht ho h0;rw [Z5 (f:=5) rfl rfl];simp only [go_sem,qy,qq,qv,qk,reduceIte,c5,stA,hup,hf,ht,ho,h0,z2,beq_self_eq_true,ZLp,ZLs]
end Go.AM
namespace Go.AM
open Go
end Go.AM
namespace Go.AM
open Go
def h3 (p q r:AObj) (tl:Hp):Hp:=p::q::r::tl
end Go.AM
namespace Go.AM
open Go
end Go.AM
