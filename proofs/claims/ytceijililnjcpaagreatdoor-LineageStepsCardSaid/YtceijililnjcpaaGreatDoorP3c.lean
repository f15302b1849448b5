/- What the functions of the program compute, part 3, for LineageSteps. No condition. -/
import Derived.Test.YtceijililnjcpaaGreatDoorP3b
set_option linter.unusedVariables false
set_option linter.unusedSimpArgs false
set_option linter.unusedSectionVars false
open Nat renaming reduceAdd → qq, reduceSub → qx, reduceMul → qz, reduceLT → qv, reduceLeDiff → qk, reduceBEq → qy
namespace Go.AM
open Go
def toL (x:Str):List UInt8:=x.data.toList
def ofL (l:List UInt8):Str:=⟨l.toArray⟩
theorem ZER (x:Str):ofL (toL x)=x:=by unfold ofL toL;simp
theorem ZG1 (l:List UInt8):toL (ofL l)=l:=by unfold ofL toL;simp
theorem ZHp {x y:Str} (h:toL x=toL y):x=y:=by rw [←ZER x,h,ZER]
def ZEi (l:List Str):List Str:=(WD (l.map toL)).map ofL
theorem ZHq (l:List Str):Yk (l.map encS)=(ZEi l).map encS:=by
 have e:l.map encS=(l.map toL).map Qd:=by
  rw [ZLH];exact ZMu fun x _=>congrArg AV.str (ZER x).symm
 rw [e,D4];unfold ZEi;rw [ZLH];rfl
theorem ZES (l:List Str):(ZEi l).Perm l:=by
 have h:=(RS (l.map toL)).map ofL;rw [ZLH] at h;have e:l.map (ofL ∘ toL)=l:=by
  conv=>rhs;rw [←List.map_id l]
  exact ZMu fun x _=>ZER x
 rwa [e] at h
def ltS (a b:Str):Prop:=toL a < toL b
theorem ZHr (l:List Str) (hn:l.Nodup):(ZEi l).Pairwise ltS:=by
 have h1:=D8 (l.map toL);have h2:(ZEi l).Nodup:=(ZES l).nodup_iff.2 hn;unfold ZEi at h2 ⊢;rw [ZMk];rw [List.nodup_iff_pairwise_ne,ZMk] at h2;refine (h1.and h2).imp ?_;intro a b hab;unfold ltS;rw [ZG1,ZG1];refine Decidable.byContradiction fun h=>hab.2 ?_
 rw [List.le_antisymm (of_decide_eq_true hab.1) (List.not_lt.1 h)]
theorem ZHs (a b:Str):lexB (ZE4 a) (ZE4 b)=true↔ltS a b:=by
 unfold ZE4 ltS toL;rw [ZEM,decide_eq_true_iff]
theorem ZHt {a b:Str} (h:ZE4 a=ZE4 b):a=b:=by
 unfold ZE4 at h;apply ZHp;unfold toL;have:∀ x y:List UInt8,(x.map fun b=>(b.toNat:Int))=(y.map fun b=>(b.toNat:Int))→x=y:=by
  intro x;induction x with
  | nil=>intro y h;cases y with
   | nil=>rfl
   | cons=>simp at h
  | cons a r ih=>intro y h;cases y with
   | nil=>simp at h
   | cons c t=>
    simp only [ZLk,List.cons.injEq] at h;have hc:a=c:=UInt8.toNat_inj.1 (by omega)
    rw [ih t h.2,hc]
 exact this _ _ h
def gK (e:End):List Int×AV:=(ZE4 e.Id,e.enc)
def ZEy (x:End):List End→List End
 | []=>[x]
 | y::r=>bif lexB (ZE4 x.Id) (ZE4 y.Id) then x::y::r else y::ZEy x r
def ZEj:List End→List End
 | []=>[]
 | x::r=>ZEy x (ZEj r)
theorem ZG2 (x:End):∀ l:List End,ZvI (gK x) (l.map gK)=(ZEy x l).map gK
 | []=>rfl
 | y::r=>by
  rw [ZLk];unfold ZvI ZEy;rw [show lexB (gK x).1 (gK y).1=lexB (ZE4 x.Id) (ZE4 y.Id) from rfl]
  cases lexB (ZE4 x.Id) (ZE4 y.Id) with
  | true=>rfl
  | false=>simp only [cond_false,ZG2 x r,ZLk]
theorem ZF8:∀ l:List End,ZvN (l.map gK)=(ZEj l).map gK
 | []=>rfl
 | x::r=>by
  rw [ZLk];unfold ZvN ZEj;rw [ZF8 r,ZG2]
theorem ZG3 (x:End):∀ l,(ZEy x l).Perm (x::l)
 | []=>.refl _
 | y::r=>by
  unfold ZEy;cases lexB (ZE4 x.Id) (ZE4 y.Id) with
  | true=>exact .refl _
  | false=>exact ((ZG3 x r).cons y).trans (.swap x y r)
theorem ZF9:∀ l,(ZEj l).Perm l
 | []=>.refl _
 | x::r=>(ZG3 x (ZEj r)).trans ((ZF9 r).cons x)
theorem ZG4:∀ l:List End,keysOf ZEf (l.map End.enc)=some (l.map gK)
 | []=>rfl
 | x::r=>by
  rw [ZLk,ZLk];unfold keysOf;rw [ZG4 r];rfl
theorem ZFa:∀ l:List End,(l.map (·.Id)).Nodup→ZvJ (l.map gK)=true
 | [],_=>rfl
 | x::r,h=>by
  rw [ZLk,ZM3] at h;rw [ZLk];unfold ZvJ;rw [ZFa r h.2,ZLm,ZLh];intro y hy;obtain ⟨z,hz,rfl⟩:=ZLD.1 hy;have:((gK x).1==(gK z).1)=false:=by
   rw [beq_eq_false_iff_ne];intro e;exact h.1 (ZLD.2 ⟨z,hz,(ZHt e).symm⟩)
  rw [this];rfl
theorem ZHu (l:List End) (h:(l.map (·.Id)).Nodup):(ZEj l).Pairwise fun a b=>ltS a.Id b.Id:=by
 have h1:=ZwI (l.map gK) (ZFa l h);rw [ZF8,ZMk] at h1;exact h1.imp fun {a b} hab=>(ZHs a.Id b.Id).1 hab
theorem ZET:∀ l:List Str,Z4 (l.map encS)=true
 | []=>rfl
 | x::r=>by rw [ZLk];unfold Z4;rw [ZET r];rfl
theorem ZEU:∀ l:List End,Z4 (l.map End.enc)=true
 | []=>rfl
 | x::r=>by rw [ZLk];unfold Z4;rw [ZEU r];rfl
theorem ZFb (l:List Str) (hl:l.length≤1000):ZE7 37 [ZEa 37] 1 (l.map encS)=some ((ZEi l).map encS):=by
 unfold ZE7 ZEa;have h1:(l.map encS).all WB=true:=by rw [ZLh];intro x hx;obtain ⟨y,_,rfl⟩:=ZLD.1 hx;rfl
 have h2:Nat.ble (l.map encS).length 1000000=true:=ZLC (by rw [ZL6];omega)
 simp only [h1,h2,ZHq];rfl
theorem ZG5 (l:List End) (hl:l.length≤1000) (hn:(l.map (·.Id)).Nodup):ZEe 39 3 ZEf [ZEa 39] 3 (l.map End.enc)=some ((ZEj l).map End.enc):=by
 unfold ZEe ZEa;have h1:(l.map End.enc).all Zwl=true:=by rw [ZLh];intro x hx;obtain ⟨y,_,rfl⟩:=ZLD.1 hx;rfl
 have h2:Nat.ble (l.map End.enc).length 1000000=true:=ZLC (by rw [ZL6];omega)
 have h3:(l.map End.enc).all (fits 3)=true:=by rw [ZLh];intro x hx;obtain ⟨y,_,rfl⟩:=ZLD.1 hx;rfl
 simp only [ZG4,h1,h2,h3,ZEU,ZFa l hn,ZF8,ZLH];rfl
def ZEk (d:Door):End:=⟨d.Id,d.Why,d.Ended⟩
structure IsFate (s:Sta) (id:Str) (D:List Str) (E:List End):Prop where
 dn:D.Nodup
 ds:D.Pairwise ltS
 es:E.Pairwise fun a b=>ltS a.Id b.Id
 dm:∀ x,x∈D↔∃ d∈s.Doors,d.Id=x∧d.Ended < 0∧Reach s id d.Id
 em:∀ e,e∈E↔∃ d∈s.Doors,e=ZEk d∧¬ d.Ended < 0∧d.After.l=[]∧Reach s id d.Id
 dl:D.length≤500
 el:E.length≤500
theorem ZHv (s:Sta) (hp:Jx s=true) (hs:StE s) (hN:s.Doors.length≤500) (id:Str) (hid:decide (Zn s id < 0)=false):∃ D E,pfn rE 12 [stA s,.str id]=some (.tup [ftA false false D E,I 0])∧IsFate s id D E:=by
 have hp':=((Zdb s).1 hp).1;obtain ⟨Q,q1,q2,q3,q4,q5⟩:=ZHo s hp' hs hN id hid;have hQ:Q.length≤500:=by
  have:=ZF6 (Q.map (·.Id)) (s.Doors.map (·.Id)) q2 (fun x hx=>by obtain ⟨d,hd,rfl⟩:=ZLD.1 hx;exact ZLW (q3 d hd))
  simp only [ZL6] at this;omega
 have hin:∀ d,d∈Q↔d∈s.Doors∧Reach s id d.Id:=fun d=>⟨fun h=>⟨q3 d h,q4 d h⟩,fun ⟨h1,h2⟩=>by
  obtain ⟨d',h3,h4⟩:=ZLD.1 (q5 _ h2)
  rwa [←ZFX (ZEF hp') (q3 d' h3) h1 h4]⟩
 have eD:ZEc Q=((Q.filter fun d=>decide (d.Ended < 0)).map (·.Id)).map encS:=by unfold ZEc;rw [ZLH];rfl
 have eE:ZEd Q=((Q.filter fun d=>!decide (d.Ended < 0)&&d.After.l.isEmpty).map ZEk).map End.enc:=by unfold ZEd;rw [ZLH];rfl
 have nD:((Q.filter fun d=>decide (d.Ended < 0)).map (·.Id)).Nodup:=q2.sublist ((List.filter_sublist).map _)
 have nE:(((Q.filter fun d=>!decide (d.Ended < 0)&&d.After.l.isEmpty).map ZEk).map (·.Id)).Nodup:=by
  rw [ZLH];exact q2.sublist ((List.filter_sublist).map _)
 have lD:((Q.filter fun d=>decide (d.Ended < 0)).map (·.Id)).length≤500:=by rw [ZL6];have:=ZLX (fun d:Door=>decide (d.Ended < 0)) Q;omega
 have lE:((Q.filter fun d=>!decide (d.Ended < 0)&&d.After.l.isEmpty).map ZEk).length≤500:=by rw [ZL6];have:=ZLX (fun d:Door=>!decide (d.Ended < 0)&&d.After.l.isEmpty) Q;omega
 have mD:∀ x,x∈((Q.filter fun d=>decide (d.Ended < 0)).map (·.Id))↔∃ d∈s.Doors,d.Id=x∧d.Ended < 0∧Reach s id d.Id:=fun x=>by
  rw [ZLD];constructor
  ·rintro ⟨d,hd,rfl⟩;rw [ZMl] at hd;exact ⟨d,q3 d hd.1,rfl,of_decide_eq_true hd.2,q4 d hd.1⟩
  ·rintro ⟨d,h1,h2,h3,h4⟩;exact ⟨d,ZMl.2 ⟨(hin d).2 ⟨h1,h4⟩,decide_eq_true h3⟩,h2⟩
 have mE:∀ e,e∈((Q.filter fun d=>!decide (d.Ended < 0)&&d.After.l.isEmpty).map ZEk)↔∃ d∈s.Doors,e=ZEk d∧¬ d.Ended < 0∧d.After.l=[]∧Reach s id d.Id:=fun e=>by
  rw [ZLD];constructor
  ·rintro ⟨d,hd,rfl⟩;simp only [ZMl,ZL5,ZLr,decide_eq_false_iff_not,List.isEmpty_iff] at hd;exact ⟨d,q3 d hd.1,rfl,hd.2.1,hd.2.2,q4 d hd.1⟩
  ·rintro ⟨d,h1,h2,h3,h4,h5⟩;refine ⟨d,?_,h2.symm⟩;simp only [ZMl,ZL5,ZLr,decide_eq_false_iff_not,List.isEmpty_iff];exact ⟨(hin d).2 ⟨h1,h5⟩,h3,h4⟩
 rw [eD,eE] at q1;generalize (Q.filter fun d=>decide (d.Ended < 0)).map (·.Id)=D0 at *
 generalize (Q.filter fun d=>!decide (d.Ended < 0)&&d.After.l.isEmpty).map ZEk=E0 at *
 have hc:pfn rE 33 [stA s,.str id]=some (I 0):=by
  rw [Zpq s hs id];unfold ZEb;rw [hp,hid];rfl
 have pD:=ZES D0;have pE:=ZF9 E0;refine ⟨ZEi D0,ZEj E0,?_,pD.nodup_iff.2 nD,ZHr D0 nD,ZHu E0 nE,fun x=>by rw [pD.mem_iff,mD],fun e=>by rw [pE.mem_iff,mE],by rw [pD.length_eq];exact lD,by rw [pE.length_eq];exact lE⟩
 exact ZFW s id _ _ _ _ hc q1 (ZFb D0 (by omega)) (ZG5 E0 (by omega) nE) (by simp [pD.length_eq]) (by simp [pE.length_eq]) (ZET _) (ZEU _)
end Go.AM
namespace Go.AM
open Go
def zE:Event:=⟨0,0,0,0,0,emp,emp,emp,⟨false,[]⟩,⟨false,[]⟩,⟨0,emp,0,0⟩,⟨0,0⟩,⟨false,[]⟩,⟨false,[]⟩⟩
def nU (n:Int):HN:=⟨n,emp,0,0⟩
def le1:Event:={ zE with Kind:=2,Id:=B [115,49],Path:=⟨false,[⟨0,0⟩,⟨9,0⟩]⟩ }
def le2:Event:={ zE with Kind:=5,Id:=B [98,49],Path:=⟨false,[⟨1,1⟩,⟨4,1⟩,⟨1,4⟩]⟩ }
def le3:Event:={ zE with Kind:=6,Id:=B [101,49],Other:=B [98,49],Text:=B [115,49],Number:=nU 1 }
def le4:Event:={ zE with Kind:=6,Id:=B [101,53],Other:=B [98,49],Text:=B [115,49],Number:=nU 5 }
def le5:Event:={ zE with Kind:=9,Id:=B [101,49],Day:=7,Lst:=⟨false,[⟨B [101,50],nU 1,⟨0,0⟩⟩,⟨B [101,51],nU 3,⟨0,0⟩⟩]⟩ }
def le6:Event:={ zE with Kind:=10,Id:=B [101,52],Ids:=⟨false,[B [101,51],B [101,53]]⟩,Day:=9,Number:=nU 3 }
def le7:Event:={ zE with Kind:=12,Id:=B [101,50],Day:=10 }
def lsL:List Event:=[le1,le2,le3,le4,le5,le6,le7]
def lsS:Nat→Sta
 | 0=>Yh
 | i+1=>ZP (lsS i) 1 (lsL[i]?.getD zE)
def ZG6 (i:Nat):Bool:=YQ (lsS i)&&(Xn (lsL[i]?.getD zE)&&Qk (lsS i) 1 (lsL[i]?.getD zE)==0)
theorem ZHw:(List.range 7).all ZG6=true:=by decide +kernel
theorem ZHx (i:Nat) (e:Event) (h:lsL[i]? = some e):pfn rE 20 [stA (lsS i),I 1,evA e]=some (.tup [stA (lsS (i+1)),I 0]):=by
 have hi:i < 7:=Z7 h;have ho:=ZLh.1 ZHw i (List.mem_range.2 hi);unfold ZG6 at ho;rw [h] at ho;simp only [ZMb,ZL5,beq_iff_eq] at ho;rw [JJ _ (Kl _ ho.1) 1 _ (JL _ ho.2.1),ho.2.2];show _=some (AV.tup [stA (ZP (lsS i) 1 (lsL[i]?.getD zE)),_])
 rw [h];rfl
theorem ZHy:∃ fr',Zg rE [0,1,2,3] c23L0b [(0,.ptr 0 0 0 1),(1,.ptr 1 0 0 1),(2,.isl false false 18 (lsL.map evA)),(3,.int .i64 0)] [.row 7 [stA Yh],.row 7 [stA Yh]] =
 some (.exit 0,fr',[.row 7 [stA Yh],.row 7 [stA (lsS 7)]])∧get fr' 0=.ptr 0 0 0 1∧get fr' 1=.ptr 1 0 0 1:=by
 have L:=Y8 (E:=rE) (live:=[0,1,2,3]) (b:=c23L0b) 7 (fun i=>[(0,.ptr 0 0 0 1),(1,.ptr 1 0 0 1),(2,.isl false false 18 (lsL.map evA)),(3,I i)])
  (fun i=>[.row 7 [stA Yh],.row 7 [stA (lsS i)]]) (fun i=>rfl)
  (fun i hi=>by
   obtain ⟨x,hx⟩:∃ x,lsL[i]? = some x:=⟨_,ZLb hi⟩;have hg:=Z6 (f:=evA) hx;have hlen:lsL.length=7:=rfl;have hi':=Zh hi;have hwr:=Zx (n:=i) (by omega)
   have hA:=ZHx i x hx;have n0:((0:Int)==0)=true:=rfl;generalize lsS i=S at hA ⊢;generalize lsS (i+1)=S' at hA ⊢;refine ⟨_,by simp only [go_sem,qy,qq,qv,qk,reduceIte,c23L0b,hg,hlen,hi',hwr,hA,n0];rfl,?_⟩
   simp only [go_sem,qy])
  (e:=.exit 0) (fr:=[(0,.ptr 0 0 0 1),(1,.ptr 1 0 0 1),(2,.isl false false 18 (lsL.map evA)),(3,I (7:Nat))]) (h:=[.row 7 [stA Yh],.row 7 [stA (lsS 7)]])
  (by
   have hlen:lsL.length=7:=rfl;have hd:=ZG 7;simp only [go_sem,qy,qq,qv,reduceIte,c23L0b,hlen,hd]) (by simp)
 exact ⟨_,L,by simp only [go_sem,qy],by simp only [go_sem,qy]⟩
theorem ZFc (n:Int):pfn rE 63 [I n]=some (.agg [I n,.str emp,I 0,I 0]):=by
 rw [Z5 (f:=63) rfl rfl];simp only [go_sem,qy,qq,qv,qk,c63]
theorem ZHz:pfn rE 23 []=some (stA (lsS 7)):=by
 obtain ⟨fr',hL,q0,q1⟩:=ZHy;have h1:=ZFc 1;have h3:=ZFc 3;have h5:=ZFc 5;generalize lsS 7=S at hL ⊢;have hz:stA Yh=.agg HE:=rfl;rw [hz] at hL;simp only [lsL,le1,le2,le3,le4,le5,le6,le7,zE,nU,ZLk,ZLv,evA,Pt.enc,Ent.enc,encS] at hL;simp only [stA] at hL ⊢;rw [Z5 (f:=23) rfl rfl];simp only [go_sem,qy,qq,qv,qk,c23,c23L0,h1,h3,h5,hL,q0,q1]
end Go.AM
namespace Go.AM
open Go
theorem ZEw (hd tl:List AObj) (x:AObj) (bl g:Nat):rowAt (hd++x::tl) (hd.length+(bl+1)) g=rowAt tl bl g:=by
 unfold rowAt;rw [ZLJ (by omega),show hd.length+(bl+1) - hd.length=bl+1 by omega,ZLI]
theorem ZHA (hd tl:List AObj) (x:AObj) (bl:Nat):(hd++x::tl)[hd.length+(bl+1)]? = tl[bl]?:=by
 rw [ZLJ (by omega),show hd.length+(bl+1) - hd.length=bl+1 by omega,ZLI]
theorem ZEG (hd tl:List AObj) (x:AObj):(hd++x::tl)[hd.length]? = some x:=by
 rw [ZLJ (ZLs _),ZM4];rfl
theorem ZEV (hd tl:List AObj) (x o:AObj):setH (hd++x::tl) hd.length o=hd++o::tl:=by
 unfold setH;rw [show Nat.blt hd.length (hd++x::tl).length=true by simp,cond_true,ZM2 _ _ (ZLs _),ZM4]
 rfl
theorem ZFd (hd tl:List AObj) (x o:AObj) (bl:Nat):setH (hd++x::tl) (hd.length+(bl+1)) o=hd++x::setH tl bl o:=by
 unfold setH;have e:Nat.blt (hd.length+(bl+1)) (hd++x::tl).length=Nat.blt bl tl.length:=by
  rw [ZMe];simp only [ZLN,ZLe,ZLa];omega
 rw [e];cases Nat.blt bl tl.length with
 | true=>
  rw [cond_true,cond_true,ZM2 _ _ (by omega),show hd.length+(bl+1) - hd.length=bl+1 by omega]
  rfl
 | false=>simp
theorem ZEH (hd tl:List AObj) (x:AObj):(hd++x::tl).length=hd.length+(tl.length+1):=by simp
def LVm (m:Nat) (Lv:AV) (L:List Str) (tl:List AObj):Prop:=
 ∃ bl g off ex es,Lv=.sl (m+(bl+1)) g off L.length ex∧tl[bl]? = some (.row 1 es)∧es.length=g∧off+L.length=g∧es.drop off=L.map encS
theorem ZHB {m:Nat} {Lv:AV} {L:List Str} {tl:List AObj} (h:LVm m Lv L tl) (l:List AObj):LVm m Lv L (tl++l):=by
 obtain ⟨bl,g,off,ex,es,rfl,h2,h3⟩:=h;refine ⟨bl,g,off,ex,es,rfl,?_,h3⟩;rw [ZLF (ZLj.1 h2).1];exact h2
theorem ZHC {m:Nat} {Lv:AV} {L:List Str} {tl:List AObj} {n:Nat} (h:LVm m Lv L tl) (hb:bel (m+(n+1)) Lv=true):LVm m Lv L (tl.take n):=by
 obtain ⟨bl,g,off,ex,es,rfl,h2,h3⟩:=h;refine ⟨bl,g,off,ex,es,rfl,?_,h3⟩;have:m+(bl+1) < m+(n+1):=by simpa [bel] using hb
 rw [ZLV,if_pos (by omega)]
 exact h2
theorem ZHD (hd:List AObj) (p5:AObj) {Lv:AV} {L:List Str} {tl:List AObj} (x:Str) (hL:LVm hd.length Lv L tl) (hc:TC' tl) (hn:L.length≤1000000):
 ∃ tl',tl'.length=tl.length∧TC' tl'∧ZE9 (hd++p5::tl) 1 16 Lv (.isl false false 1 [.str x]) =
  some (.sl (hd.length+(tl.length+1)) (L.length+1) 0 (L.length+1) false,hd++p5::(tl'++[.row 1 ((L++[x]).map encS)])):=by
 obtain ⟨bl,g,off,ex,es,rfl,hb,hg,hoff,hes⟩:=hL;have hlt:bl < tl.length:=(ZLj.1 hb).1;have hbb:(hd++p5::tl)[hd.length+(bl+1)]? = some (.row 1 es):=by rw [ZHA];exact hb
 have hmap:(L++[x]).map encS=es.drop off++[.str x]:=by rw [ZLd,hes];rfl
 have hlen:(hd++p5::tl).length=hd.length+(tl.length+1):=ZEH _ _ _;cases ex with
 | true=>
  refine ⟨tl,rfl,hc,?_⟩;have hel:Q2 (hd++p5::tl) (.sl (hd.length+(bl+1)) g off L.length true)=some (es.drop off):=by
   simp only [Q2,hbb,hg,beq_self_eq_true,cond_true];rw [ZLg (by simp;omega)]
  have hz:Qq (hd++p5::tl) 1 (.sl (hd.length+(bl+1)) g off L.length true)=true:=by simp only [Qq,hbb];rfl
  have hl2:(es.drop off++[AV.str x]).length=L.length+1:=by simp;omega
  have hbd:((es.drop off).length+1) * 16≤70368744177664:=by simp;omega
  have he:Qt (hd++p5::tl) (hd++p5::tl).length false 1 16 (.sl (hd.length+(bl+1)) g off L.length true) (.isl false false 1 [.str x]) =
   some (.sl (hd++p5::tl).length (es.drop off++[AV.str x]).length 0 (es.drop off++[AV.str x]).length false,[hd.length+(bl+1)],some ((hd++p5::tl).length,.row 1 (es.drop off++[.str x]))):=by
   unfold Qt;rw [hel];dsimp only [Q2];rw [if_pos ⟨hz,rfl,Nat.zero_lt_one,by decide,hbd⟩]
   rfl
  unfold ZE9;dsimp only;rw [he,hmap,hl2,hlen];have e:setH (hd++p5::tl) (hd.length+(tl.length+1)) (.row 1 (es.drop off++[.str x]))=hd++p5::(tl++[.row 1 (es.drop off++[.str x])]):=by
   rw [←hlen,J1,ZLi];rfl
  exact congrArg some (Prod.ext rfl e)
 | false=>
  refine ⟨tl.set bl .gone,by simp,fun n=>ZEN (hc n) rfl,?_⟩
  have hz:Qq (hd++p5::tl) 1 (.isl false false 1 [.str x])=true:=rfl;have hcond:((es.length==g&&(1==1))&&((off+L.length==g)&&(Qq (hd++p5::tl) 1 (.isl false false 1 [.str x])&&(([AV.str x]:List AV).all (fits 1)&&(Nat.blt 0 ([AV.str x]:List AV).length&&(Nat.blt 0 1&&(Nat.blt 0 16&&Nat.ble ((L.length+([AV.str x]:List AV).length) * 16) 70368744177664)))))))=true:=by
   simp only [hg,hoff,hz,beq_self_eq_true,ZLn,ZLm];have:(L.length+([AV.str x]:List AV).length) * 16≤70368744177664:=by simp;omega
   have e2:Nat.ble ((L.length+([AV.str x]:List AV).length) * 16) 70368744177664=true:=ZLC this;rw [e2];rfl
  unfold ZE9;simp only [hbb,Q2,hcond,cond_true];rw [ZFd,ZEC hlt,hmap,hlen,ZLi];rfl
theorem ZEJ (hd:List AObj) (x:AObj) (tl:List AObj) (fr:Fr):Xq (hd.length+(tl.length+1)) fr (hd++x::tl)=hd++x::tl:=ZE5 (by simp)
theorem ZFe (n g o k:Nat) (ex:Bool) (a b c v q r:AV) (h:Hp):Xq n [(0,a),(2,b),(4,c),(5,.sl n g o k ex),(37,v),(38,q),(39,r)] h=h:=by
 have e:Zd n ([(0,a),(2,b),(4,c),(5,AV.sl n g o k ex),(37,v),(38,q),(39,r)].map (fun (p:Nat×AV)=>p.2))=false:=by
  simp [Zd,bel]
 unfold Xq;rw [e];rfl
def ZEl (hd:List AObj) (v:AV) (A:List Str):Prop:=
 (∀ x tl,lnV (hd++x::tl) 1 v=some (I A.length))∧∀ (i:Nat) (a:Str),A[i]? = some a→∃ p,(∀ x tl,iaV (hd++x::tl) 1 v (I i)=some p)∧∀ x tl,ldV (hd++x::tl) none p=some (.str a)
theorem ZHE (hd:List AObj) (ex:Bool) (A:List Str):ZEl hd (.isl false ex 1 (A.map encS)) A:=by
 refine ⟨fun x tl=>by rw [AX,ZL6],fun i a h=>⟨.iptr false [.str a],fun x tl=>?_,fun x tl=>rfl⟩⟩
 have hg:=Z6 (f:=encS) h;rw [AK];simp only [go_sem,hg,encS]
theorem ZHF {hd:List AObj} {b:Nat} {A:List Str} (hb:hd[b]? = some (.row 1 (A.map encS))):ZEl hd (.sl b A.length 0 A.length false) A:=by
 have hlt:b < hd.length:=(ZLj.1 hb).1;have hr:∀ x tl,rowAt (hd++x::tl) b A.length=some (1,A.map encS):=fun x tl=>by
  unfold rowAt;rw [ZLF hlt,hb];simp only [ZL6,beq_self_eq_true,cond_true]
 refine ⟨fun x tl=>by rw [AY,hr];rfl,fun i a h=>?_⟩
 have hi:i < A.length:=(ZLj.1 h).1;have hg:=Z6 (f:=encS) h;refine ⟨.ptr b i 0 A.length,fun x tl=>?_,fun x tl=>?_⟩
 ·rw [AL,hr];have:=VT b A.length 0 1 i A.length (A.map encS) ⟨Int.natCast_nonneg i,by omega⟩
  rw [this,ZMj,ZLA]
 ·rw [Az,hr];simp only [go_sem,hg,encS]
theorem ZHG (hd:List AObj) (Y G v:AV) (l:List Str) (hv:ZEl hd v l) (s0:List Str×List Str) (Lv0:AV) (tl0:List AObj) (hL0:LVm hd.length Lv0 s0.2 tl0) (hc0:TC' tl0) (hn:s0.2.length+l.length≤1000000):
 ∃ fr' Lv tl,Zg rE [0,2,4,5,37,38,39] c71L0b [(0,Y),(2,G),(4,.mp hd.length),(5,Lv0),(37,v),(38,I l.length),(39,I 0)] (hd++kM s0.1::tl0) =
  some (.exit 2,fr',hd++kM (l.foldl wkS s0).1::tl)∧LVm hd.length Lv (l.foldl wkS s0).2 tl∧TC' tl∧get fr' 0=Y∧get fr' 2=G∧get fr' 4=.mp hd.length∧get fr' 5=Lv:=by
 obtain ⟨e,fr',h',L,hQ⟩:=Z9Y (E:=rE) (live:=[0,2,4,5,37,38,39]) (b:=c71L0b) l.length
  (fun i fr h=>∃ Lv tl,fr=[(0,Y),(2,G),(4,.mp hd.length),(5,Lv),(37,v),(38,I l.length),(39,I i)]∧h=hd++kM ((l.take i).foldl wkS s0).1::tl∧LVm hd.length Lv ((l.take i).foldl wkS s0).2 tl∧TC' tl)
  (fun e fr h=>e=.exit 2∧∃ Lv tl,h=hd++kM (l.foldl wkS s0).1::tl∧LVm hd.length Lv (l.foldl wkS s0).2 tl∧TC' tl∧get fr 0=Y∧get fr 2=G∧get fr 4=.mp hd.length∧get fr 5=Lv)
  (fun i fr h m=>by obtain ⟨Lv,tl,rfl,_⟩:=m;rfl)
  (fun i fr h hi m=>by
   obtain ⟨Lv,tl,rfl,rfl,hL,hc⟩:=m;refine .inl ?_;obtain ⟨x,hx⟩:∃ x,l[i]? = some x:=⟨_,ZLb hi⟩;obtain ⟨p,hg1,hg2⟩:=hv.2 i x hx;have hi':=Zh hi;have hwr:=Zx (n:=i) (by omega)
   have hf:(l.take (i+1)).foldl wkS s0=wkS ((l.take i).foldl wkS s0) x:=Us wkS s0 hx;have hlen:=ZF4 (l.take i) s0;have hle:(l.take i).length≤l.length:=by simp;omega
   rw [hf];generalize (l.take i).foldl wkS s0=s at hL hlen ⊢;obtain ⟨K,L⟩:=s;have hq:=fun (tl:List AObj)=>H5 (enc:=encS) (eq:=Z3) Z1Y K x (h:=hd++.map (K.map encS) (ZO K.length)::tl) (b:=hd.length) (ZEG _ _ _)
   have hp:=fun (tl:List AObj)=>Ur (enc:=encS) (eq:=Z3) Z1Y K x (h:=hd++.map (K.map encS) (ZO K.length)::tl) (b:=hd.length) (ZEG _ _ _)
   have hlen':L.length≤s0.2.length+(l.take i).length:=hlen;have hL:LVm hd.length Lv L tl:=hL;unfold encS at hq hp;cases c:K.any (Z3 x) with
   | true=>
    have hw:wkS (K,L) x=(K,L):=by unfold wkS;rw [c];rfl
    rw [hw];unfold kM encS;refine ⟨_,_,by simp only [go_sem,qy,reduceIte,c71L0b,hg1,hg2,hi',hwr,hq,c,ZEJ,ZLp,ZLa,ZLe]<;>rfl,Lv,tl,?_,rfl,hL,hc⟩
    simp only [go_sem,qy]
   | false=>
    obtain ⟨tl',hl',hc',ha⟩:=ZHD hd (.map ((Qi Z3 K x).map encS) (ZO (Qi Z3 K x).length)) x hL hc (by omega)
    unfold encS at ha;have hak:Qi Z3 K x=K++[x]:=by unfold Qi;rw [c];rfl
    have hirr:decide (hd.length+(tl.length+1) < hd.length+(tl.length+1))=false:=by simp
    have e1:(K++[x]).length=K.length+1:=by simp
    rw [hak,e1] at ha;have hw:wkS (K,L) x=(K++[x],L++[x]):=by unfold wkS;rw [c];rfl
    rw [hw];unfold kM encS;rw [e1];refine ⟨_,_,by simp only [go_sem,qy,qq,qv,reduceIte,c71L0b,hg1,hg2,hi',hwr,hq,hp,c,hak,ha,ZEV,ZEJ,ZFe,ZLq,ZLa,ZLe]<;>rfl,.sl (hd.length+(tl.length+1)) (L.length+1) 0 (L.length+1) false,_,?_,rfl,?_,?_⟩
    ·simp only [go_sem,qy]
    ·refine ⟨tl.length,L.length+1,0,false,(L++[x]).map encS,by simp,by rw [←hl'];exact ZF3 _ _,by simp,by simp,by simp⟩
    ·intro n;rw [ZEu,hc' n];show (true&&(Zj n (.row 1 ((L++[x]).map encS))&&true))=true
     simp only [Zj,ZEv,ZLm])
  (fun fr h m=>by
   obtain ⟨Lv,tl,rfl,rfl,hL,hc⟩:=m;rw [ZLt] at hL ⊢;refine ⟨.exit 2,_,_,by simp only [go_sem,qy,reduceIte,c71L0b,ZG,ZEJ,kM,ZLa,ZLe]<;>rfl,by simp,rfl,Lv,tl,rfl,hL,hc,?_⟩
   refine ⟨?_,?_,?_,?_⟩<;>simp only [go_sem,qy])
  l.length 0 [(0,Y),(2,G),(4,.mp hd.length),(5,Lv0),(37,v),(38,I l.length),(39,I 0)] (hd++kM s0.1::tl0) (by omega) ⟨Lv0,tl0,rfl,rfl,hL0,hc0⟩
 obtain ⟨rfl,Lv,tl,rfl,h1,h2,h3,h4,h5,h6⟩:=hQ;exact ⟨fr',Lv,tl,L,h1,h2,h3,h4,h5,h6⟩
end Go.AM
namespace Go.AM
open Go
structure GRd (hd:List AObj) (G:AV) (s:Sta) (FC p0 p3 p7:AV):Prop where
 f0:∀ x tl,faV (hd++x::tl) 0 G=some p0
 f3:∀ x tl,faV (hd++x::tl) 3 p0=some p3
 l3:∀ x tl,ldV (hd++x::tl) none p3=some (.isl false false 16 (s.Doors.map Door.enc))
 l0:∀ x tl,ldV (hd++x::tl) (some 7) p0=some (stA s)
 f7:∀ x tl,faV (hd++x::tl) 7 G=some p7
 l7:∀ x tl,ldV (hd++x::tl) none p7=some FC
 t:∀ n,hd.length≤n→(Zs G).contains n=false∧(Zs p0).contains n=false∧(Zs p3).contains n=false
inductive RunsG {σ:Type} (s:Sta) (aft:Door→List Str) (f:Door→σ→σ) (ok:σ→Prop):List Str→List Str→σ→σ→Prop
 | stop (K:List Str) (x:σ):RunsG s aft f ok K [] x x
 | step (K:List Str) (id:Str) (r:List Str) (x x':σ) (k:Nat) (d:Door) (hd:s.Doors[k]? = some d) (hf:pfn rE 15 [stA s,.str id]=some (I k)) (hx:ok x)
  (h3:(id::r).length+(aft d).length≤1000000) (h:RunsG s aft f ok ((aft d).foldl wkS (K,id::r)).1 ((aft d).foldl wkS (K,id::r)).2.tail (f d x) x'):RunsG s aft f ok K (id::r) x x'
def wfp (y m:Nat) (G Lv:AV):Fr:=[(0,.yld y),(2,G),(4,.mp m),(5,Lv)]
theorem ZG7 {fr:Fr} {Y G Lv:AV} {L:List Str} (hd:List AObj) (p5:AObj) {tl:List AObj} (n:Nat) (e:AExit) (h0:get fr 0=Y) (h2:get fr 2=G) (h4:get fr 4=.mp hd.length) (h5:get fr 5=Lv) (hL:LVm hd.length Lv L tl) (hc:TC' tl):
 ∃ tl',kp [0,2,4,5] (hd.length+(n+1)) (some (e,fr,hd++p5::tl))=some (e,[(0,Y),(2,G),(4,.mp hd.length),(5,Lv)],hd++p5::tl')∧LVm hd.length Lv L tl'∧TC' tl':=by
 have hr:Z2 [0,2,4,5] fr=[(0,Y),(2,G),(4,.mp hd.length),(5,Lv)]:=by
  show [(0,get fr 0),(2,get fr 2),(4,get fr 4),(5,get fr 5)]=_
  rw [h0,h2,h4,h5]
 have ht:(hd++p5::tl).take (hd.length+(n+1))=hd++p5::tl.take n:=by
  rw [ZMa,ZLg (by omega),show hd.length+(n+1) - hd.length=n+1 by omega]
  rfl
 rw [Sd,hr];unfold Xq;cases c:Zd (hd.length+(n+1)) (List.map (·.2) [(0,Y),(2,G),(4,AV.mp hd.length),(5,Lv)])&&X4 (hd.length+(n+1)) ((hd++p5::tl).take (hd.length+(n+1))) with
 | false=>exact ⟨tl,rfl,hL,hc⟩
 | true=>
  refine ⟨tl.take n,by rw [cond_true,ht],ZHC hL ?_,fun m=>ZEO (hc m)⟩
  simp only [List.map,Zd,ZL5,ZLm] at c;exact c.1.2.2.2
theorem ZHH (n i o g:Nat) (a b c e:AV) (h:Hp):Xq n [(0,a),(2,b),(4,c),(5,e),(6,.ptr n i o g)] h=h:=by
 have e:Zd n ([(0,a),(2,b),(4,c),(5,e),(6,AV.ptr n i o g)].map (fun (p:Nat×AV)=>p.2))=false:=by
  have hn:Nat.blt n n=false:=by rw [ZLY];simp [ZLN]
  simp [Zd,bel,hn]
 unfold Xq;rw [e];rfl
section
variable (y:Nat) (s:Sta) (FC G p0 p3 p7:AV) (hd hd':List AObj) (K:List Str) (Lv:AV) (id:Str) (r:List Str) (tl L:List AObj) (d:Door)
theorem pd (hG:GRd hd G s FC p0 p3 p7) (hL:LVm hd.length Lv (id::r) tl) (k:Nat) (hk':s.Doors[k]? = some d) (hf:pfn rE 15 [stA s,.str id]=some (I k)):
 Zb rE c71D (wfp y hd.length G Lv++[(16,.bool true)]) (hd++kM K::tl)=some (.normal,[(0,.yld y),(2,G),(4,.mp hd.length),(5,Lv),(6,.ptr (hd.length+(tl.length+1)) 0 0 1)],hd++kM K::(tl++[.row 16 [d.enc]])):=by
 obtain ⟨bl,g,off,ex,es,rfl,hb,hg1,hg2,hes⟩:=hL;have hlt:bl < tl.length:=(ZLj.1 hb).1;have hr:rowAt tl bl g=some (1,es):=by unfold rowAt;rw [hb];simp only [hg1,beq_self_eq_true,cond_true]
 have hes0:es[off]? = some (.str id):=by
  have:=congrArg List.head? hes;rw [List.head?_drop] at this;exact this
 have hg:=Z6 (f:=Door.enc) hk';have hk:(0≤(k:Int))=True:=by simp
 have hk2:((k:Int)).toNat=k:=ZMj k;have z0:((0:Int)).toNat=0:=rfl;have hlen:(id::r).length=r.length+1:=rfl;have hi0:iaP (hd.length+(bl+1)) g off 1 0 (r.length+1) (some (1,es))=some (.ptr (hd.length+(bl+1)) off 0 g):=VT _ _ _ _ _ _ _ ⟨Int.le_refl _,by omega⟩
 have hne:(hd.length+(tl.length+1)==hd.length+(bl+1))=false:=by rw [beq_eq_false_iff_ne];omega
 have hirr:decide (hd.length+(tl.length+1) < hd.length+(tl.length+1))=false:=by simp
 have l0:=hG.l0;obtain ⟨tG1,tG2,tG3⟩:=hG.t (hd.length+(tl.length+1)) (by omega)
 simp only [Zs] at tG1 tG2 tG3;simp only [stA] at hf l0;simp only [Door.enc,NL.enc] at hg;simp only [go_sem,qy,qq,qk,c71D,c71L1m,c71L1b,wfp,kM,hG.f0,hG.f3,hG.l3,l0,tG1,tG2,tG3,ZLq,ZLx,hne,Door.enc,NL.enc,ZEw,hr,ZLa,ZLe,ZHH,hf,hg,hi0,hes0,ZFd,ZEp,ZL8,ZLi]
theorem ZHI (hd:List AObj) (p5 x y:AObj) (tl:List AObj) (b:Bool):trimB (hd.length+(tl.length+1+1)) (hd++p5::(tl++[x,y])) b=hd++p5::(tl++x::bif b then [] else [y]):=by
 unfold trimB;cases b with
 | false=>rfl
 | true=>
  simp only [cond_true];rw [ZMa,ZLg (by omega),show hd.length+(tl.length+1+1) - hd.length=tl.length+1+1 by omega,ZMd,ZMa,ZLg (by omega)]
  simp
theorem ZHJ (hd:List AObj) (p5 x y:AObj) (tl:List AObj) (fr:Fr):∃ b:Bool,Xq (hd.length+(tl.length+1+1)) fr (hd++p5::(tl++[x,y]))=hd++p5::(tl++x::bif b then [] else [y]):=by
 refine ⟨Zd (hd.length+(tl.length+1+1)) (fr.map (·.2))&&X4 (hd.length+(tl.length+1+1)) ((hd++p5::(tl++[x,y])).take (hd.length+(tl.length+1+1))),?_⟩;have:=ZHI hd p5 x y tl (Zd (hd.length+(tl.length+1+1)) (fr.map (·.2))&&X4 (hd.length+(tl.length+1+1)) ((hd++p5::(tl++[x,y])).take (hd.length+(tl.length+1+1))));exact this
theorem ZG8 (hd tl L:List AObj) (p5:AObj) (x:AV) (sz:Nat):rowAt (hd++p5::(tl++.row sz [x]::L)) (hd.length+(tl.length+1)) 1=some (sz,[x]):=by rw [ZEw,ZEP]
theorem py (hl:hd'.length=hd.length) (hy:U4 rE y [d.enc] (hd++kM K::(tl++[.row 16 [d.enc]]))=some (.bool true,hd'++kM K::(tl++[.row 16 [d.enc],.row 16 [d.enc]]))):
 ∃ b:Bool,Zb rE c71Y [(0,.yld y),(2,G),(4,.mp hd.length),(5,Lv),(6,.ptr (hd.length+(tl.length+1)) 0 0 1)] (hd++kM K::(tl++[.row 16 [d.enc]])) =
  some (.normal,[(0,.yld y),(2,G),(4,.mp hd.length),(5,Lv),(6,.ptr (hd.length+(tl.length+1)) 0 0 1),(33,.bool false)],hd'++kM K::(tl++.row 16 [d.enc]::bif b then [] else [.row 16 [d.enc]])):=by
 obtain ⟨b,ht⟩:=ZHJ hd' (kM K) (.row 16 [d.enc]) (.row 16 [d.enc]) tl [(0,.yld y),(2,G),(4,.mp hd.length),(5,Lv),(6,.ptr (hd.length+(tl.length+1)) 0 0 1),(33,.bool false)];rw [hl] at ht;simp only [Door.enc,NL.enc,kM] at hy ht;refine ⟨b,?_⟩;simp only [go_sem,qy,qq,qk,S3,c71Y,c71L1m,c71L1b,kM,Door.enc,NL.enc,ZLa,ZLe,ZLu,ZG8,hy,ZLp,ht]
theorem ZHL (hd:List AObj) (p5 x:AObj) (tl L:List AObj) (fr:Fr):Xq (hd.length+(tl.length+(L.length+1)+1)) fr (hd++p5::(tl++x::L))=hd++p5::(tl++x::L):=ZE5 (by simp)
theorem pr (hG:GRd hd G s FC p0 p3 p7) (v:AV) (A:List Str) (hv:ZEl hd v A) (hA:Xy rE false FC [d.enc] (hd++kM K::(tl++.row 16 [d.enc]::L))=some (v,hd++kM K::(tl++.row 16 [d.enc]::L))):
 Zb rE c71R [(0,.yld y),(2,G),(4,.mp hd.length),(5,Lv),(6,.ptr (hd.length+(tl.length+1)) 0 0 1),(33,.bool false)] (hd++kM K::(tl++.row 16 [d.enc]::L)) =
  some (.normal,[(0,.yld y),(2,G),(4,.mp hd.length),(5,Lv),(37,v),(38,I A.length),(39,I 0)],hd++kM K::(tl++.row 16 [d.enc]::L)):=by
 have hln:=hv.1;simp only [Door.enc,NL.enc,kM] at hA;simp only [go_sem,qy,qq,qk,c71R,c71Z,c71L1m,c71L1b,kM,hG.f7,hG.l7,Door.enc,NL.enc,ZLa,ZLe,ZG8,hA,hln,ZHL]
theorem pA (hL:LVm hd.length Lv (id::r) tl):
 Zb rE c71A (wfp y hd.length G Lv) (hd++kM K::tl)=some (.normal,wfp y hd.length G Lv++[(16,.bool true)],hd++kM K::tl):=by
 obtain ⟨bl,g,off,ex,es,rfl,hb,hg1,hg2,hes⟩:=hL;have hr:rowAt tl bl g=some (1,es):=by unfold rowAt;rw [hb];simp only [hg1,beq_self_eq_true,cond_true]
 have hlen:(id::r).length=r.length+1:=rfl;simp only [go_sem,qy,reduceIte,c71A,c71L1b,wfp,kM,hlen,ZEw,hr,ZLa,ZLe,ZFT,ZEJ,ZL8,ZL9]
theorem pE (hL:LVm hd.length Lv [] tl):
 Zb rE c71A (wfp y hd.length G Lv) (hd++kM K::tl)=some (.exit 0,wfp y hd.length G Lv++[(16,.bool false)],hd++kM K::tl):=by
 obtain ⟨bl,g,off,ex,es,rfl,hb,hg1,hg2,hes⟩:=hL;have hr:rowAt tl bl g=some (1,es):=by unfold rowAt;rw [hb];simp only [hg1,beq_self_eq_true,cond_true]
 have hlen:([]:List Str).length=0:=rfl;have h0:decide (((0:Nat):Int) > 0)=false:=rfl;simp only [go_sem,qy,reduceIte,c71A,c71L1b,wfp,kM,hlen,ZEw,hr,ZLa,ZLe,h0,ZEJ,ZL8,ZL9]
theorem pC (hL:LVm hd.length Lv (id::r) tl):
 ∃ fr Lv',Zb rE c71C (wfp y hd.length G Lv) (hd++kM K::tl)=some (.normal,fr,hd++kM K::tl)∧get fr 0=.yld y∧get fr 2=G∧get fr 4=.mp hd.length∧get fr 5=Lv'∧LVm hd.length Lv' r tl:=by
 obtain ⟨bl,g,off,ex,es,rfl,hb,hg1,hg2,hes⟩:=hL;have hlen:(id::r).length=r.length+1:=rfl;have hr:rowAt tl bl g=some (1,es):=by unfold rowAt;rw [hb];simp only [hg1,beq_self_eq_true,cond_true]
 refine ⟨[(5,.sl (hd.length+(bl+1)) g (off+1) r.length ex),(18,.sl (hd.length+(bl+1)) g (off+1) r.length ex),(17,.sl (hd.length+(bl+1)) g off (r.length+1) ex)]++wfp y hd.length G (.sl (hd.length+(bl+1)) g off (r.length+1) ex),.sl (hd.length+(bl+1)) g (off+1) r.length ex,?_,rfl,rfl,rfl,rfl,?_⟩
 ·have hs:=ZFV (h:=hd++.map (K.map encS) (ZO K.length)::tl) (b:=hd.length+(bl+1)) (off:=off) (n:=r.length) (ex:=ex) (by rw [ZEw];exact hr)
  simp only [go_sem,qy,c71C,c71L1b,wfp,kM,hlen,ZFU,hs,ZL8,ZL9]
 ·refine ⟨bl,g,off+1,ex,es,rfl,hb,hg1,by simp at hg2;omega,?_⟩
  have:=congrArg List.tail hes
  rwa [List.tail_drop] at this
theorem ZHM (hG:GRd hd G s FC p0 p3 p7) (hG':GRd hd' G s FC p0 p3 p7) (hl:hd'.length=hd.length) (hL:LVm hd.length Lv (id::r) tl) (hc:TC' tl) (k:Nat) (hk:s.Doors[k]? = some d) (hf:pfn rE 15 [stA s,.str id]=some (I k)) (A:List Str) (h3:(id::r).length+A.length≤1000000)
 (hy:U4 rE y [d.enc] (hd++kM K::(tl++[.row 16 [d.enc]]))=some (.bool true,hd'++kM K::(tl++[.row 16 [d.enc],.row 16 [d.enc]])))
 (hA:∀ L,∃ v,Xy rE false FC [d.enc] (hd'++kM K::(tl++.row 16 [d.enc]::L))=some (v,hd'++kM K::(tl++.row 16 [d.enc]::L))∧ZEl hd' v A):
 ∃ Lv' tl',Zb rE c71L1b (wfp y hd.length G Lv) (hd++kM K::tl)=some (.normal,wfp y hd.length G Lv',hd'++kM (A.foldl wkS (K,id::r)).1::tl')∧
  LVm hd.length Lv' (A.foldl wkS (K,id::r)).2.tail tl'∧TC' tl':=by
 obtain ⟨b,hy'⟩:=py y G hd hd' K Lv tl d hl hy;have hT:TC' (tl++.row 16 [d.enc]::bif b then [] else [.row 16 [d.enc]]):=fun n=>by
  have e:Zj n (.row 16 [d.enc])=true:=by simp only [Zj,Zd,Door.enc,NL.enc,bel,ZLx]
  rw [ZEu,hc n];cases b<;>simp only [cond_true,cond_false,X4,e,ZLx]
 generalize (bif b then [] else [AObj.row 16 [d.enc]])=X at hy' hT;obtain ⟨v,hA,hv⟩:=hA X;have hin:=ZHG hd' (.yld y) (G) v A hv (K,id::r) Lv (tl++.row 16 [d.enc]::X) (by rw [hl];exact ZHB hL _) hT h3
 have hr:=pr y s FC G p0 p3 p7 hd' K Lv tl X d hG' v A hv hA;have kq:=fun {fr:Fr} {Y G Lv:AV} {L:List Str}=>@ZG7 fr Y G Lv L hd'
 have cq:=fun (K:List Str) (Lv:AV) (id:Str) (r:List Str) (tl:List AObj)=>pC y G hd' K Lv id r tl
 rw [hl] at hin hr;simp only [hl] at kq cq;obtain ⟨fr',Lv0,tl0,hin,z1,z2,z3,z4,z5,z6⟩:=hin;obtain ⟨tl1,hk1,l1,c1⟩:=kq (kM (A.foldl wkS (K,id::r)).1) (tl++.row 16 [d.enc]::X).length .normal z3 z4 z5 z6 z1 z2;have hlen1:(hd'++kM K::(tl++.row 16 [d.enc]::X)).length=hd.length+((tl++.row 16 [d.enc]::X).length+1):=by rw [ZEH,hl]
 have e1:Zb rE c71L1m (wfp y hd.length G Lv++[(16,.bool true)]) (hd++kM K::tl)=some (.normal,wfp y hd.length G Lv0,hd'++kM (A.foldl wkS (K,id::r)).1::tl1):=by
  show Zb rE (.seq c71D (.seq c71Y (.seq c71R (.keep [0,2,4,5] (.block 2 c71L0))))) _ _=_
  rw [SK,pd y s FC G p0 p3 p7 hd K Lv id r tl d hG hL k hk hf,SH,SK,hy',SH,SK,hr,SH,Sm,Sl];show kp _ _ (blk 2 (Zg rE [0,2,4,5,37,38,39] c71L0b _ _))=_
  rw [hin,hlen1];exact hk1
 obtain ⟨r',hne⟩:=ZEQ A K (id::r) id r rfl;generalize A.foldl wkS (K,id::r)=q at hne e1 l1 ⊢;obtain ⟨K',L'⟩:=q;have hne:L'=id::r':=hne;subst hne;have l1:LVm hd.length Lv0 (id::r') tl1:=l1;obtain ⟨tl2,e2,l2,c2⟩:=kq (Y:=.yld y) (G:=G) (Lv:=Lv0) (fr:=wfp y hd.length G Lv0) (kM K') tl.length .normal rfl rfl rfl rfl l1 c1;obtain ⟨fr3,Lv3,e3,g0,g2,g4,g5,l3⟩:=cq K' Lv0 id r' tl2 l2;obtain ⟨tl4,e4,l4,c4⟩:=kq (Y:=.yld y) (G:=G) (Lv:=Lv3) (fr:=fr3) (kM K') tl2.length .normal g0 g2 g4 g5 l3 c2;obtain ⟨tl5,e5,l5,c5⟩:=kq (Y:=.yld y) (G:=G) (Lv:=Lv3) (fr:=wfp y hd.length G Lv3) (kM K') tl.length .normal rfl rfl rfl rfl l4 c4;refine ⟨Lv3,tl5,?_,l5,c5⟩;show Zb rE (.keep [0,2,4,5] (.seq c71A (.seq (.keep [0,2,4,5] (.block 1 c71L1m)) (.keep [0,2,4,5] c71C)))) _ _=_
 rw [Sm,SK,pA y G hd K Lv id r tl hL,SH,SK,Sm,Sl,e1];show kp _ _ (sq rE _ (kp _ _ (some (.normal,wfp y hd.length G Lv0,_))))=_
 rw [ZEH,e2,SH,Sm];rw [show Zb rE c71C [(0,.yld y),(2,G),(4,.mp hd.length),(5,Lv0)] (hd'++kM K'::tl2)=_ from e3,ZEH,hl,e4]
 exact e5
end
theorem ZHN {σ:Type} {s:Sta} {aft:Door→List Str} {f:Door→σ→σ} {ok:σ→Prop} (FC G p0 p3 p7:AV) (y m:Nat) (H:σ→List AObj) (hG:∀ x,GRd (H x) G s FC p0 p3 p7) (hH:∀ x,(H x).length=m)
 (hy:∀ (d:Door) (x:σ) (K:List Str) (tl:List AObj),d∈s.Doors→ok x→U4 rE y [d.enc] (H x++kM K::(tl++[.row 16 [d.enc]]))=some (.bool true,H (f d x)++kM K::(tl++[.row 16 [d.enc],.row 16 [d.enc]])))
 (hA:∀ (d:Door) (x:σ) (K:List Str) (tl:List AObj),d∈s.Doors→∃ v,Xy rE false FC [d.enc] (H x++kM K::tl)=some (v,H x++kM K::tl)∧ZEl (H x) v (aft d))
 {K L:List Str} {x x':σ} (R:RunsG s aft f ok K L x x'):∀ (Lv:AV) (tl:List AObj),LVm m Lv L tl→TC' tl→
 ∃ K' Lv' tl',Zg rE [0,2,4,5] c71L1b (wfp y m G Lv) (H x++kM K::tl)=some (.exit 0,wfp y m G Lv',H x'++kM K'::tl'):=by
 induction R with
 | stop K x=>
  intro Lv tl hL hc;have hm:=hH x;subst hm;obtain ⟨tl2,e2,l2,c2⟩:=ZG7 (Y:=.yld y) (G:=G) (Lv:=Lv) (fr:=wfp y (H x).length G Lv++[(16,.bool false)]) (H x) (kM K) tl.length (.exit 0) rfl rfl rfl rfl hL hc;refine ⟨K,Lv,tl2,Q7 rfl ?_ (fun h=>by cases h)⟩
  show Zb rE (.keep [0,2,4,5] (.seq c71A (.seq (.keep [0,2,4,5] (.block 1 c71L1m)) (.keep [0,2,4,5] c71C)))) _ _=_
  rw [Sm,SK,pE y G (H x) K Lv tl hL,SI,ZEH];exact e2
 | step K id r x x' k d hd hf hx h3 h ih=>
  intro Lv tl hL hc;have hm:=ZLl hd;have hl:(H (f d x)).length=(H x).length:=by rw [hH,hH]
  have hm':=hH x;obtain ⟨Lv1,tl1,e1,l1,c1⟩:=ZHM y s FC G p0 p3 p7 (H x) (H (f d x)) K Lv id r tl d (hG x) (hG (f d x)) hl (by rw [hm'];exact hL) hc k hd hf (aft d) h3 (hy d x K tl hm hx) (fun L=>hA d (f d x) K _ hm)
  rw [hm'] at e1 l1;obtain ⟨K',Lv',tl',e⟩:=ih Lv1 tl1 l1 c1;refine ⟨K',Lv',tl',?_⟩;rw [Yt rfl e1];exact e
end Go.AM
namespace Go.AM
open Go
theorem ZEW (x:Str):∀ (K:List Str) (i:Nat),ZW false [2] (.str x) (K.map encS) i=some ((K.findIdx? (Z3 x)).map (· + i))
 | [],i=>rfl
 | y::r,i=>by
  rw [ZLk];unfold encS;rw [ZW,Z1Y];have h:=ZEW x r (i+1);unfold encS at h;simp only [h,List.findIdx?_cons];cases Z3 x y with
  | true=>simp
  | false=>
   cases List.findIdx? (Z3 x) r<;>simp
   omega
def ZE1 (bs:List Nat) (V:List (List Str)):List AV:=List.zipWith (fun b A=>AV.sl (b+2) A.length 0 A.length false) bs V
def bH (K:List Str) (V:List (List Str)) (bs:List Nat) (X:List AObj):Hp:=.map (K.map encS) (ZE1 bs V)::.row 1 [.mp 0]::X
structure HB (K:List Str) (V:List (List Str)) (bs:List Nat) (X:List AObj):Prop where
 lk:V.length=K.length
 lb:bs.length=K.length
 nd:bs.Nodup
 row:∀ (j b:Nat) (A:List Str),bs[j]? = some b→V[j]? = some A→X[b]? = some (.row 1 (A.map encS))
 cl:TC' X
theorem ZFf {bs:List Nat} {V:List (List Str)} {j b:Nat} {A:List Str} (h1:bs[j]? = some b) (h2:V[j]? = some A):(ZE1 bs V)[j]? = some (.sl (b+2) A.length 0 A.length false):=by
 unfold ZE1;rw [List.getElem?_zipWith,h1,h2]
theorem ZG9:∀ {n:Nat} {l:List AV} {j:Nat} {v:AV},Zd n l=true→l[j]? = some v→bel n v=true
 | n,[],j,v,_,h=>by simp at h
 | n,x::r,0,v,h,hj=>by
  simp only [Zd,ZL5] at h;simp only [ZLB,Option.some.injEq] at hj;rw [←hj];exact h.1
 | n,x::r,j+1,v,h,hj=>by
  simp only [Zd,ZL5] at h;rw [ZLI] at hj;exact ZG9 h.2 hj
theorem HB.at {K:List Str} {V:List (List Str)} {bs:List Nat} {X:List AObj} (H:HB K V bs X) {j:Nat} (hj:j < K.length):∃ b A,bs[j]? = some b∧V[j]? = some A∧X[b]? = some (.row 1 (A.map encS))∧b < X.length:=by
 have h1:bs[j]? = some (bs[j]'(by rw [H.lb];exact hj)):=ZLb _
 have h2:V[j]? = some (V[j]'(by rw [H.lk];exact hj)):=ZLb _
 have h3:=H.row j _ _ h1 h2;exact ⟨_,_,h1,h2,h3,(ZLj.1 h3).1⟩
theorem ZFg {K:List Str} {V:List (List Str)} {bs:List Nat} {X:List AObj} (H:HB K V bs X) (n:Nat) (fr:Fr):
 ∃ X',Xq (n+2) fr (bH K V bs X)=bH K V bs X'∧HB K V bs X'∧(∀ i,i < n→X'[i]? = X[i]?)∧X'.length≤X.length:=by
 unfold Xq;cases c:Zd (n+2) (fr.map (·.2))&&X4 (n+2) ((bH K V bs X).take (n+2)) with
 | false=>exact ⟨X,rfl,H,fun i _=>rfl,ZLs _⟩
 | true=>
  have ht:(bH K V bs X).take (n+2)=bH K V bs (X.take n):=rfl;refine ⟨X.take n,by rw [cond_true,ht],⟨H.lk,H.lb,H.nd,fun j b A h1 h2=>?_,fun m=>ZEO (H.cl m)⟩,fun i hi=>by rw [ZLV,if_pos hi],by simp;omega⟩
  simp only [ZL5] at c;have c2:=c.2;rw [ht] at c2;simp only [bH,X4,Zj,ZL5] at c2;have:=ZG9 c2.1.2 (ZFf h1 h2);have hb:b+2 < n+2:=by simpa [bel] using this
  rw [ZLV,if_pos (by omega)]
  exact H.row j b A h1 h2
def ZDY (S:List Str×List (List Str)) (x d:Str):List Str×List (List Str):=
 match S.1.findIdx? (Z3 x) with
 | some j=>(S.1,S.2.set j ((S.2[j]?.getD [])++[d]))
 | none=>(S.1++[x],S.2++[[d]])
def ZE6 (S:List Str×List (List Str)) (x:Str):List Str:=
 match S.1.findIdx? (Z3 x) with
 | some j=>S.2[j]?.getD []
 | none=>[]
theorem ZEX {K:List Str} {V:List (List Str)} {bs:List Nat} (x:Str) (z:AV) (tl:List AObj):W5 (.map (K.map encS) (ZE1 bs V)::tl) false [2] false z (.mp 0) (.str x) =
 (match K.findIdx? (Z3 x) with | some j=>(ZE1 bs V)[j]? | none=>some z):=by
 simp only [W5,ZLB,QW,Z1Y,ZEW];cases K.findIdx? (Z3 x) with
 | none=>rfl
 | some j=>
  simp only [ZLw,Nat.add_zero];cases (ZE1 bs V)[j]?<;>rfl
theorem ZGa {α:Type} {p:α→Bool} {l:List α} {j:Nat} (h:l.findIdx? p=some j):j < l.length:=by
 rw [List.findIdx?_eq_some_iff_findIdx_eq] at h;exact h.1
theorem ZGb:∀ (bs:List Nat) (V:List (List Str)) (j b:Nat) (A:List Str),bs[j]? = some b→(ZE1 bs V).set j (.sl (b+2) A.length 0 A.length false)=ZE1 bs (V.set j A)
 | [],V,j,b,A,h=>by simp at h
 | b'::bs,[],j,b,A,h=>by simp [ZE1]
 | b'::bs,v::V,0,b,A,h=>by
  simp only [ZLB,Option.some.injEq] at h;subst h;rfl
 | b'::bs,v::V,j+1,b,A,h=>by
  rw [ZLI] at h;have:=ZGb bs V j b A h;unfold ZE1 at this ⊢;simp only [List.zipWith_cons_cons,List.set_cons_succ,this]
theorem HB.lt {K:List Str} {V:List (List Str)} {bs:List Nat} {X:List AObj} (H:HB K V bs X):∀ b∈bs,b < X.length:=fun b hb=>by
 obtain ⟨j,hj⟩:=List.mem_iff_getElem?.1 hb;obtain ⟨b',A,h1,_,_,h4⟩:=H.at (j:=j) (by rw [←H.lb];exact (ZLj.1 hj).1)
 rw [hj] at h1;cases h1;exact h4
theorem ZHO {K:List Str} {V:List (List Str)} {bs:List Nat} {X:List AObj} (H:HB K V bs X) (x d:Str) (hV:∀ A∈V,A.length≤1000000):
 ∃ v w rs b o bs' X',W5 (bH K V bs X) false [2] false (.isl false true 1 []) (.mp 0) (.str x)=some v∧
  Qt (bH K V bs X) (bH K V bs X).length false 1 16 v (.isl false false 1 [.str d])=some (w,rs,some (b+2,o))∧
  YK (setH (bH K V bs X) (b+2) o) false [2] (.mp 0) (.str x) w=some (.bot,bH (ZDY (K,V) x d).1 (ZDY (K,V) x d).2 bs' X')∧
  HB (ZDY (K,V) x d).1 (ZDY (K,V) x d).2 bs' X'∧X.length≤X'.length∧(∀ i,i < X.length→i ∉ bs→X'[i]? = X[i]?)∧(∀ b'∈bs',b'∈bs∨b'=X.length):=by
 unfold ZDY bH;have hcl:∀ (L:List Str) m,Zj m (.row 1 (L.map encS))=true:=fun L m=>ZEv m L
 cases hf:K.findIdx? (Z3 x) with
 | none=>
  refine ⟨.isl false true 1 [],.sl (X.length+2) 1 0 1 false,[],X.length,.row 1 [.str d],bs++[X.length],X++[.row 1 [.str d]],by rw [ZEX,hf],rfl,?_,?_,by simp,fun i hi _=>ZLF hi,?_⟩
  ·have hs:setH (.map (K.map encS) (ZE1 bs V)::.row 1 [.mp 0]::X) (X.length+2) (.row 1 [.str d])=.map (K.map encS) (ZE1 bs V)::.row 1 [.mp 0]::(X++[.row 1 [.str d]]):=J1 _ _;rw [hs];simp only [YK,ZLB,Yo,Z1Y,ZEW,hf,Option.map_none,ZM,ZH];have hz:ZE1 (bs++[X.length]) (V++[[d]])=ZE1 bs V++[.sl (X.length+2) 1 0 1 false]:=by
    unfold ZE1;rw [List.zipWith_append (by rw [H.lb,H.lk])]
    rfl
   rw [hz,ZLd];rfl
  ·have hbn:X.length ∉ bs:=fun hm=>Nat.lt_irrefl _ (H.lt _ hm)
   refine ⟨by simp [H.lk],by simp [H.lb],?_,fun j b A h1 h2=>?_,fun m=>?_⟩
   ·rw [ZM6];exact ⟨H.nd,by simp,fun a ha b hb=>by simp only [ZLM] at hb;subst hb;exact fun e=>hbn (e▸ha)⟩
   ·by_cases hj:j < bs.length
    ·rw [ZLF hj] at h1;rw [ZLF (by rw [H.lk,←H.lb];exact hj)] at h2
     have:=H.row j b A h1 h2;rw [ZLF (ZLj.1 this).1];exact this
    ·have hj2:j=bs.length:=by
      have:=(ZLj.1 h1).1;simp at this;omega
     subst hj2;rw [ZLJ (ZLs _),ZM4] at h1;rw [show bs.length=V.length by rw [H.lb,H.lk],ZLJ (ZLs _),ZM4] at h2
     simp only [ZLB,Option.some.injEq] at h1 h2;subst h1 h2;rw [ZLJ (ZLs _),ZM4];rfl
   ·rw [ZEu,H.cl m];show (true&&(Zj m (.row 1 [.str d])&&true))=true
    rw [show Zj m (.row 1 [.str d])=true from hcl [d] m]
    rfl
  ·intro b' hb';simp only [ZLS,ZLM] at hb';exact hb'
 | some j=>
  have hj:=ZGa hf;obtain ⟨b,A,h1,h2,h3,h4⟩:=H.at hj;have hA:=hV A (ZLl h2);have hv:=ZFf h1 h2;have hbb:(AObj.map (K.map encS) (ZE1 bs V)::.row 1 [.mp 0]::X)[b+2]? = some (.row 1 (A.map encS)):=h3;have hg:(A.map encS).length=A.length:=ZL6 _;refine ⟨_,.sl (b+2) (A.length+1) 0 (A.length+1) false,[b+2],b,.row 1 (A.map encS++[.str d]),bs,X.set b (.row 1 (A.map encS++[.str d])),by rw [ZEX,hf];exact hv,?_,?_,?_,by simp,fun i hi hib=>?_,fun b' hb'=>.inl hb'⟩
  ·have hel:Q2 (AObj.map (K.map encS) (ZE1 bs V)::.row 1 [.mp 0]::X) (.sl (b+2) A.length 0 A.length false)=some (A.map encS):=by
    simp only [Q2,hbb,hg,beq_self_eq_true,cond_true,ZLE];rw [ZLg (by simp)]
   have hz:Qq (AObj.map (K.map encS) (ZE1 bs V)::.row 1 [.mp 0]::X) 1 (.sl (b+2) A.length 0 A.length false)=true:=by simp only [Qq,hbb];rfl
   have hbd:((A.map encS).length+1) * 16≤70368744177664:=by simp;omega
   unfold Qt;rw [hel];dsimp only [Q2];rw [if_pos ⟨hz,rfl,Nat.zero_lt_one,by decide,hbd⟩]
   simp only [ZMw,cond_false,hbb,beq_self_eq_true,ZLn,ZLa,ZLu];rfl
  ·have hs:setH (AObj.map (K.map encS) (ZE1 bs V)::.row 1 [.mp 0]::X) (b+2) (.row 1 (A.map encS++[.str d]))=.map (K.map encS) (ZE1 bs V)::.row 1 [.mp 0]::X.set b (.row 1 (A.map encS++[.str d])):=ZEC (by simp;omega)
   rw [hs];simp only [YK,ZLB,Yo,Z1Y,ZEW,hf,ZLw,Nat.add_zero,ZM,ZH,h2,ZMb];have hz:=ZGb bs V j b (A++[d]) h1;rw [ZLe,ZM7] at hz;rw [hz];rfl
  ·simp only [h2,ZMb];refine ⟨by simp [H.lk],H.lb,H.nd,fun j' b' A' e1 e2=>?_,fun m=>ZEN (H.cl m) ?_⟩
   ·by_cases hjj:j=j'
    ·subst hjj;rw [h1] at e1;cases e1;rw [List.getElem?_set_self (by rw [H.lk];exact hj)] at e2
     cases e2;rw [List.getElem?_set_self h4,ZLd];rfl
    ·rw [ZMm hjj] at e2;have hne:b≠b':=fun e=>by
      subst e;exact hjj ((List.getElem?_inj (by rw [H.lb];exact hj) H.nd).1 (by rw [h1,e1]))
     rw [ZMm hne];exact H.row j' b' A' e1 e2
   ·have:=hcl (A++[d]) m
    rwa [ZLd] at this
  ·have hne:b≠i:=fun e=>hib (by rw [←e];exact ZLl h1)
   rw [ZMm hne]
end Go.AM
namespace Go.AM
open Go
def c16B:ACode:=match c16L0b with | .keep _ (.seq _ (.seq _ (.seq (.keep _ (.block _ b)) _)))=>b | _=>.skip
def c16Dr:ACode:=match c16B with | .seq _ (.keep _ d)=>d | _=>.skip
theorem ZHP (r1:List Nat) (b:Nat):Qy ⟨false,r1,some (b+2),none⟩ ⟨false,[1],none,none⟩=true:=by
 have:(b+2==1)=false:=by rw [beq_eq_false_iff_ne];omega
 simp [Qy]
theorem ZHQ (r1:List Nat) (b:Nat):Qy ⟨false,r1,some b,none⟩ ⟨false,[],none,none⟩=true:=by simp [Qy]
theorem ZHR (a1 a2 a4 a5 a22 a23 a24 a29 a30 a31:AV) {h3:Hp} {m:AObj} {X:List AObj} {nb b:Nat} {x:Str} {d:Door} {v w:AV} {rs:List Nat} {o:AObj}
 (hr9:rowAt (m::.row 1 [.mp 0]::X) nb 1=some (16,[d.enc]))
 (hg:W5 (m::.row 1 [.mp 0]::X) false [2] false (.isl false true 1 []) (.mp 0) (.str x)=some v)
 (ha:Qt (m::.row 1 [.mp 0]::X) (m::AObj.row 1 [.mp 0]::X).length false 1 16 v (.isl false false 1 [.str d.Id])=some (w,rs,some (b+2,o)))
 (hp:YK (setH (m::.row 1 [.mp 0]::X) (b+2) o) false [2] (.mp 0) (.str x) w=some (.bot,h3)):
 ∃ fr',Zb rE c16Dr [(1,a1),(2,a2),(4,a4),(5,a5),(7,.ptr 1 0 0 1),(9,.ptr nb 0 0 1),(11,.str x),(22,a22),(23,a23),(24,a24),(29,a29),(30,a30),(31,a31)] (m::.row 1 [.mp 0]::X)=some (.normal,fr',h3)∧
  Z2 [1,2,4,5,7,9,22,23,24,29,30,31] fr'=[(1,a1),(2,a2),(4,a4),(5,a5),(7,.ptr 1 0 0 1),(9,.ptr nb 0 0 1),(22,a22),(23,a23),(24,a24),(29,a29),(30,a30),(31,a31)]:=by
 have haw:appW (m::.row 1 [.mp 0]::X) false 1 16 v (.isl false false 1 [.str d.Id])=some (w,setH (m::.row 1 [.mp 0]::X) (b+2) o):=by
  unfold appW;rw [ha];rfl
 have ha:Qt (m::.row 1 [.mp 0]::X) (X.length+1+1) false 1 16 v (.isl false false 1 [.str d.Id])=some (w,rs,some (b+2,o)):=ha;have e:setH (m::.row 1 [.mp 0]::X) (b+2) o=m::.row 1 [.mp 0]::setH X b o:=by simp only [go_sem]
 rw [e] at hp;simp only [Door.enc,NL.enc] at hr9;refine ⟨_,by simp only [go_sem,qy,qq,qv,c16Dr,c16B,c16L0b,hr9,hg,haw,hp,Za,QG,Wm,opT,Z8,ha,ZHP,ZHQ,ZLx,ZLB,ZLI,Option.map]<;>rfl,?_⟩
 simp only [go_sem,qy]
theorem ZHS (a1 a2 a4 a5 a22 a23 a24:AV) (d:Door) (ex:Bool) {K:List Str} {V:List (List Str)} {bs:List Nat} {X:List AObj} (H:HB K V bs X) (hV:∀ A∈V,A.length≤1000000) {nb:Nat} (hnb:nb ∉ bs) (hX:X[nb]? = some (.row 16 [d.enc]))
 {L:List Str} {i:Nat} {x:Str} (hx:L[i]? = some x) (hL:L.length≤1000):
 ∃ bs' X',Zb rE c16L0b [(1,a1),(2,a2),(4,a4),(5,a5),(7,.ptr 1 0 0 1),(9,.ptr (nb+2) 0 0 1),(22,a22),(23,a23),(24,a24),(29,.isl false ex 1 (L.map encS)),(30,I L.length),(31,I i)] (bH K V bs X) =
  some (.normal,[(1,a1),(2,a2),(4,a4),(5,a5),(7,.ptr 1 0 0 1),(9,.ptr (nb+2) 0 0 1),(22,a22),(23,a23),(24,a24),(29,.isl false ex 1 (L.map encS)),(30,I L.length),(31,I (i+1:Nat))],bH (ZDY (K,V) x d.Id).1 (ZDY (K,V) x d.Id).2 bs' X')∧
  HB (ZDY (K,V) x d.Id).1 (ZDY (K,V) x d.Id).2 bs' X'∧nb ∉ bs'∧X'[nb]? = some (.row 16 [d.enc])∧(∀ b'∈bs',b'∈bs∨X.length≤b'):=by
 have hi:i < L.length:=(ZLj.1 hx).1;have hg:=Z6 (f:=encS) hx;have hi':=Zh hi;have hwr:=Zx (n:=i) (by omega)
 have hnl:nb < X.length:=(ZLj.1 hX).1;obtain ⟨v,w,rs,b,ob,bs',X1,e1,e2,e3,H1,l1,k1,m1⟩:=ZHO H x d.Id hV;have hr9:rowAt (bH K V bs X) (nb+2) 1=some (16,[d.enc]):=by
  show rowAt X nb 1=_
  unfold rowAt;rw [hX];rfl
 obtain ⟨fr1,e4,r1⟩:=ZHR a1 a2 a4 a5 a22 a23 a24 (.isl false ex 1 (L.map encS)) (I L.length) (I i) (h3:=bH (ZDY (K,V) x d.Id).1 (ZDY (K,V) x d.Id).2 bs' X1) hr9 e1 e2 e3;have e4:Zb rE c16Dr _ (bH K V bs X)=_:=e4;have kpx:∀ {X2:List AObj} (fr:Fr),HB (ZDY (K,V) x d.Id).1 (ZDY (K,V) x d.Id).2 bs' X2→∃ ZIK,Xq (bH K V bs X).length fr (bH (ZDY (K,V) x d.Id).1 (ZDY (K,V) x d.Id).2 bs' X2)=bH (ZDY (K,V) x d.Id).1 (ZDY (K,V) x d.Id).2 bs' ZIK∧HB (ZDY (K,V) x d.Id).1 (ZDY (K,V) x d.Id).2 bs' ZIK∧∀ i,i < X.length→ZIK[i]? = X2[i]?:=by
  intro X2 fr H2;obtain ⟨ZIK,t1,t2,t3,t4⟩:=ZFg H2 X.length fr;exact ⟨ZIK,t1,t2,t3⟩
 obtain ⟨X2,q1,H2,g2⟩:=kpx [(1,a1),(2,a2),(4,a4),(5,a5),(7,.ptr 1 0 0 1),(9,.ptr (nb+2) 0 0 1),(22,a22),(23,a23),(24,a24),(29,.isl false ex 1 (L.map encS)),(30,I L.length),(31,I i)] H1;obtain ⟨ZIK,q2,H3,g3⟩:=kpx [(1,a1),(2,a2),(4,a4),(5,a5),(7,.ptr 1 0 0 1),(9,.ptr (nb+2) 0 0 1),(22,a22),(23,a23),(24,a24),(29,.isl false ex 1 (L.map encS)),(30,I L.length),(31,I i)] H2;obtain ⟨ZCU,q3,H4,g4⟩:=kpx [(1,a1),(2,a2),(4,a4),(5,a5),(7,.ptr 1 0 0 1),(9,.ptr (nb+2) 0 0 1),(22,a22),(23,a23),(24,a24),(29,.isl false ex 1 (L.map encS)),(30,I L.length),(31,I (i+1:Nat))] H3;have t0:∀ fr,Xq (bH K V bs X).length fr (bH K V bs X)=bH K V bs X:=fun fr=>ZE5 rfl
 refine ⟨bs',ZCU,?_,H4,fun hm=>?_,?_,fun b' hb'=>(m1 b' hb').imp id fun e=>by omega⟩
 ·show Zb rE (.keep [1,2,4,5,7,9,22,23,24,29,30,31]<|.seq (.region [o 32 (.bin .lss (.t 31) (.t 30))])<|
   .seq (.cond (.t 32) .skip (.exit 2))<|
   .seq (.keep [1,2,4,5,7,9,22,23,24,29,30,31]<|.block 3<|
    .seq (.keep [1,2,4,5,7,9,11,22,23,24,29,30,31]<|.region [o 33 (.iadr 1 (.t 29) (.t 31)),o 34 (.load none (.t 33)),o 11 (.mv (.t 34))])<|
    .keep [1,2,4,5,7,9,22,23,24,29,30,31] c16Dr)<|
   .region [o 44 (.bin .add (.t 31) (.c (.int .i64 1))),o 31 (.mv (.t 44))]) _ _=_
  simp only [go_sem,qy,reduceIte,hi',hwr,hg,t0,e4,encS,r1,q1,q2,q3]
 ·rcases m1 nb hm with h | h
  ·exact hnb h
  ·omega
 ·rw [g4 nb hnl,g3 nb hnl,g2 nb hnl,k1 nb hnl hnb];exact hX
theorem ZHT {S:List Str×List (List Str)} {c:Nat} (h:∀ A∈S.2,A.length≤c) (x d:Str):∀ A∈(ZDY S x d).2,A.length≤c+1:=by
 intro A hA;unfold ZDY at hA;cases hf:S.1.findIdx? (Z3 x) with
 | none=>
  rw [hf] at hA;simp only [ZLS,ZLM] at hA;rcases hA with hA | rfl
  ·have:=h A hA;omega
  ·simp
 | some j=>
  rw [hf] at hA;rcases List.mem_or_eq_of_mem_set hA with hA | rfl
  ·have:=h A hA;omega
  ·rw [ZLe,ZM7];cases hj:S.2[j]? with
   | none=>simp
   | some B=>
    have:=h B (ZLl hj);simp only [ZMb];omega
def ZE0 (d:Str) (S:List Str×List (List Str)) (L:List Str):List Str×List (List Str):=L.foldl (fun S x=>ZDY S x d) S
theorem ZFh {d:Str}:∀ (L:List Str) {S:List Str×List (List Str)} {c:Nat} (h:∀ A∈S.2,A.length≤c),∀ A∈(ZE0 d S L).2,A.length≤c+L.length
 | [],S,c,h=>h
 | x::r,S,c,h=>fun A hA=>by
  have:=ZFh r (ZHT h x d) A hA;simp only [ZLa];omega
theorem ZHU (a1 a2 a4 a5 a22 a23 a24:AV) (d:Door) (ex:Bool) {K:List Str} {V:List (List Str)} {bs:List Nat} {X:List AObj} (H:HB K V bs X) {c:Nat} (hV:∀ A∈V,A.length≤c) {nb:Nat} (hnb:nb ∉ bs) (hX:X[nb]? = some (.row 16 [d.enc]))
 (L:List Str) (hL:L.length≤1000) (hc:c+L.length≤1000000):
 ∃ fr' bs' X',Zg rE [1,2,4,5,7,9,22,23,24,29,30,31] c16L0b [(1,a1),(2,a2),(4,a4),(5,a5),(7,.ptr 1 0 0 1),(9,.ptr (nb+2) 0 0 1),(22,a22),(23,a23),(24,a24),(29,.isl false ex 1 (L.map encS)),(30,I L.length),(31,I 0)] (bH K V bs X) =
  some (.exit 2,fr',bH (ZE0 d.Id (K,V) L).1 (ZE0 d.Id (K,V) L).2 bs' X')∧HB (ZE0 d.Id (K,V) L).1 (ZE0 d.Id (K,V) L).2 bs' X'∧
  Z2 [1,2,4,5,7,22,23,24] fr'=[(1,a1),(2,a2),(4,a4),(5,a5),(7,.ptr 1 0 0 1),(22,a22),(23,a23),(24,a24)]:=by
 obtain ⟨e,fr',h',Lp,hQ⟩:=Z9Y (E:=rE) (live:=[1,2,4,5,7,9,22,23,24,29,30,31]) (b:=c16L0b) L.length
  (fun i fr h=>∃ bs' X',fr=[(1,a1),(2,a2),(4,a4),(5,a5),(7,.ptr 1 0 0 1),(9,.ptr (nb+2) 0 0 1),(22,a22),(23,a23),(24,a24),(29,.isl false ex 1 (L.map encS)),(30,I L.length),(31,I i)]∧h=bH (ZE0 d.Id (K,V) (L.take i)).1 (ZE0 d.Id (K,V) (L.take i)).2 bs' X'∧
   HB (ZE0 d.Id (K,V) (L.take i)).1 (ZE0 d.Id (K,V) (L.take i)).2 bs' X'∧nb ∉ bs'∧X'[nb]? = some (.row 16 [d.enc]))
  (fun e fr h=>e=.exit 2∧∃ bs' X',h=bH (ZE0 d.Id (K,V) L).1 (ZE0 d.Id (K,V) L).2 bs' X'∧HB (ZE0 d.Id (K,V) L).1 (ZE0 d.Id (K,V) L).2 bs' X'∧
   Z2 [1,2,4,5,7,22,23,24] fr=[(1,a1),(2,a2),(4,a4),(5,a5),(7,.ptr 1 0 0 1),(22,a22),(23,a23),(24,a24)])
  (fun i fr h m=>by obtain ⟨bs',X',rfl,_⟩:=m;rfl)
  (fun i fr h hi m=>by
   obtain ⟨bs1,X1,rfl,rfl,H1,n1,x1⟩:=m;refine .inl ?_;obtain ⟨x,hx⟩:∃ x,L[i]? = some x:=⟨_,ZLb hi⟩;have hf:ZE0 d.Id (K,V) (L.take (i+1))=ZDY (ZE0 d.Id (K,V) (L.take i)) x d.Id:=Us (fun S x=>ZDY S x d.Id) (K,V) hx
   have hlen:=ZFh (d:=d.Id) (L.take i) (S:=(K,V)) hV;have hle:(L.take i).length≤L.length:=by simp;omega
   rw [hf];generalize ZE0 d.Id (K,V) (L.take i)=S at H1 hlen ⊢;obtain ⟨K1,V1⟩:=S;obtain ⟨bs2,X2,e2,H2,n2,x2,_⟩:=ZHS a1 a2 a4 a5 a22 a23 a24 d ex H1 (fun A hA=>by have:=hlen A hA;omega) n1 x1 hx hL
   exact ⟨_,_,e2,bs2,X2,rfl,rfl,H2,n2,x2⟩)
  (fun fr h m=>by
   obtain ⟨bs1,X1,rfl,rfl,H1,n1,x1⟩:=m;rw [ZLt] at H1 ⊢;have t0:∀ fr,Xq (bH (ZE0 d.Id (K,V) L).1 (ZE0 d.Id (K,V) L).2 bs1 X1).length fr (bH (ZE0 d.Id (K,V) L).1 (ZE0 d.Id (K,V) L).2 bs1 X1)=bH (ZE0 d.Id (K,V) L).1 (ZE0 d.Id (K,V) L).2 bs1 X1:=fun fr=>ZE5 rfl
   refine ⟨.exit 2,_,_,by simp only [go_sem,qy,reduceIte,c16L0b,ZG,t0]<;>rfl,by simp,rfl,bs1,X1,rfl,H1,?_⟩
   simp only [go_sem,qy])
  L.length 0 _ (bH K V bs X) (by omega) ⟨bs,X,rfl,rfl,H,hnb,hX⟩
 obtain ⟨rfl,bs',X',rfl,h1,h2⟩:=hQ;exact ⟨fr',bs',X',Lp,h1,h2⟩
end Go.AM
namespace Go.AM
open Go
theorem ZHV (K:List Str) (V:List (List Str)) (bs:List Nat) (X:List AObj) (o:AObj):bH K V bs X++[o]=bH K V bs (X++[o]):=rfl
theorem ZE2 (K:List Str) (V:List (List Str)) (bs:List Nat) (X:List AObj):(bH K V bs X).length=X.length+2:=rfl
theorem ZHW (K:List Str) (V:List (List Str)) (bs:List Nat) (X:List AObj) (b g:Nat):rowAt (bH K V bs X) (b+2) g=rowAt X b g:=rfl
theorem ZHX (K:List Str) (V:List (List Str)) (bs:List Nat) (X:List AObj) (x y:AObj):setH (bH K V bs (X++[x])) (X.length+2) y=bH K V bs (X++[y]):=ZEp (bH K V bs X) x y
theorem ZGc (X:List AObj) (x:AV) (sz:Nat):rowAt (X++[.row sz [x]]) X.length 1=some (sz,[x]):=ZEP X [] x sz
def ZE3 (S:List Str×List (List Str)) (d:Door):List Str×List (List Str):=ZE0 d.Id S d.After.l
theorem ZHY (a1 a2 a4 a5:AV) (ds:List Door) (bw ex:Bool) {K:List Str} {V:List (List Str)} {bs:List Nat} {X:List AObj} (H:HB K V bs X) {c:Nat} (hV:∀ A∈V,A.length≤c)
 {k:Nat} {d:Door} (hd:ds[k]? = some d) (hk:ds.length≤1000) (hL:d.After.l.length≤1000) (hc:c+d.After.l.length≤1000000):
 ∃ bs' X',Zb rE c16L1b [(1,a1),(2,a2),(4,a4),(5,a5),(7,.ptr 1 0 0 1),(22,.isl bw ex 16 (ds.map Door.enc)),(23,I ds.length),(24,I k)] (bH K V bs X) =
  some (.normal,[(1,a1),(2,a2),(4,a4),(5,a5),(7,.ptr 1 0 0 1),(22,.isl bw ex 16 (ds.map Door.enc)),(23,I ds.length),(24,I (k+1:Nat))],bH (ZE3 (K,V) d).1 (ZE3 (K,V) d).2 bs' X')∧
  HB (ZE3 (K,V) d).1 (ZE3 (K,V) d).2 bs' X':=by
 have hlt:k < ds.length:=(ZLj.1 hd).1;have hg:=Z6 (f:=Door.enc) hd;have hi':=Zh hlt;have hwr:=Zx (n:=k) (by omega)
 have hbn:X.length ∉ bs:=fun hm=>Nat.lt_irrefl _ (H.lt _ hm)
 have H0:HB K V bs (X++[.row 16 [d.enc]]):=by
  refine ⟨H.lk,H.lb,H.nd,fun j b A h1 h2=>?_,fun m=>?_⟩
  ·have:=H.row j b A h1 h2;rw [ZLF (ZLj.1 this).1];exact this
  ·have e:Zj m (.row 16 [d.enc])=true:=by simp only [Zj,Zd,Door.enc,NL.enc,bel,ZLx]
   rw [ZEu,H.cl m];show (true&&(Zj m (.row 16 [d.enc])&&true))=true
   rw [e];rfl
 obtain ⟨fr1,bs1,X1,e1,H1,r1⟩:=ZHU a1 a2 a4 a5 (.isl bw ex 16 (ds.map Door.enc)) (I ds.length) (I k) d d.After.ex H0 hV hbn (ZF3 X _) d.After.l hL hc;have kpx:∀ {X2:List AObj} (n:Nat) (fr:Fr),HB (ZE3 (K,V) d).1 (ZE3 (K,V) d).2 bs1 X2→∃ ZIK,Xq (n+2) fr (bH (ZE3 (K,V) d).1 (ZE3 (K,V) d).2 bs1 X2)=bH (ZE3 (K,V) d).1 (ZE3 (K,V) d).2 bs1 ZIK∧HB (ZE3 (K,V) d).1 (ZE3 (K,V) d).2 bs1 ZIK:=by
  intro X2 n fr H2;obtain ⟨ZIK,t1,t2,t3,t4⟩:=ZFg H2 n fr;exact ⟨ZIK,t1,t2⟩
 obtain ⟨X2,q1,H2⟩:=kpx (X.length+1) [(1,a1),(2,a2),(4,a4),(5,a5),(7,.ptr 1 0 0 1),(22,.isl bw ex 16 (ds.map Door.enc)),(23,I ds.length),(24,I k)] H1;obtain ⟨ZIK,q2,H3⟩:=kpx X.length [(1,a1),(2,a2),(4,a4),(5,a5),(7,.ptr 1 0 0 1),(22,.isl bw ex 16 (ds.map Door.enc)),(23,I ds.length),(24,I k)] H2;obtain ⟨ZCU,q3,H4⟩:=kpx X.length [(1,a1),(2,a2),(4,a4),(5,a5),(7,.ptr 1 0 0 1),(22,.isl bw ex 16 (ds.map Door.enc)),(23,I ds.length),(24,I (k+1:Nat))] H3;have t0:∀ fr X,Xq (X.length+2) fr (bH K V bs X)=bH K V bs X:=fun fr X=>ZE5 rfl
 have t1:∀ fr o,Xq (X.length+1+2) fr (bH K V bs (X++[o]))=bH K V bs (X++[o]):=fun fr o=>ZE5 (by rw [ZE2,ZLe];rfl)
 have t9:∀ o,Xq (X.length+2) [(1,a1),(2,a2),(4,a4),(5,a5),(7,AV.ptr 1 0 0 1),(9,.ptr (X.length+2) 0 0 1),(22,.isl bw ex 16 (ds.map Door.enc)),(23,I ds.length),(24,I k)] (bH K V bs (X++[o]))=bH K V bs (X++[o]):=fun o=>by
  have e:Zd (X.length+2) ([(1,a1),(2,a2),(4,a4),(5,a5),(7,AV.ptr 1 0 0 1),(9,.ptr (X.length+2) 0 0 1),(22,.isl bw ex 16 (ds.map Door.enc)),(23,I ds.length),(24,I k)].map (fun (p:Nat×AV)=>p.2))=false:=by
   have hn:Nat.blt (X.length+2) (X.length+2)=false:=by rw [ZLY];simp [ZLN]
   simp [Zd,bel,hn]
  unfold Xq;rw [e];rfl
 refine ⟨bs1,ZCU,?_,H4⟩;simp only [ZE3] at q1 q2 q3 ⊢;simp only [Door.enc,NL.enc] at hg e1 q1 t9;have rl:=fun (x:AV)=>ZGc X x 16
 simp only [go_sem,qy,qq,qk,reduceIte,c16L1b,c16L0,hi',hwr,hg,ZHV,ZE2,ZHX,ZHW,rl,t1,t9,e1,r1,q1,q2,q3,ZL6]
end Go.AM
namespace Go.AM
open Go
def ZDX (ds:List Door):List Str×List (List Str):=ds.foldl ZE3 ([],[])
theorem ZHZ {S:List Str×List (List Str)} {c:Nat} (h:∀ A∈S.2,A.length≤c) (d:Door) (hd:d.After.l.length≤1000):∀ A∈(ZE3 S d).2,A.length≤c+1000:=fun A hA=>by
 have:=ZFh d.After.l h A hA;omega
theorem ZGd:∀ (ds:List Door) {S:List Str×List (List Str)} {c:Nat} (h:∀ A∈S.2,A.length≤c) (hd:∀ d∈ds,d.After.l.length≤1000),∀ A∈(ds.foldl ZE3 S).2,A.length≤c+ds.length * 1000
 | [],S,c,h,_=>fun A hA=>by have:=h A hA;omega
 | d::r,S,c,h,hd=>fun A hA=>by
  have:=ZGd r (ZHZ h d (hd d (ZLK ..))) (fun x hx=>hd x (ZM5 _ hx)) A hA
  simp only [ZLa];omega
theorem ZI0:HB [] [] [] []:=⟨rfl,rfl,List.nodup_nil,fun j b A h _=>by simp at h,fun n=>rfl⟩
theorem ZI1 (a1 a2 a4 a5:AV) (ds:List Door) (bw ex:Bool) (hk:ds.length≤500) (hL:∀ d∈ds,d.After.l.length≤1000):
 ∃ fr' bs X,Zg rE [1,2,4,5,7,22,23,24] c16L1b [(1,a1),(2,a2),(4,a4),(5,a5),(7,.ptr 1 0 0 1),(22,.isl bw ex 16 (ds.map Door.enc)),(23,I ds.length),(24,I 0)] (bH [] [] [] []) =
  some (.exit 0,fr',bH (ZDX ds).1 (ZDX ds).2 bs X)∧HB (ZDX ds).1 (ZDX ds).2 bs X∧Z2 [1,2,4,5,7] fr'=[(1,a1),(2,a2),(4,a4),(5,a5),(7,.ptr 1 0 0 1)]:=by
 obtain ⟨e,fr',h',Lp,hQ⟩:=Z9Y (E:=rE) (live:=[1,2,4,5,7,22,23,24]) (b:=c16L1b) ds.length
  (fun i fr h=>∃ bs' X',fr=[(1,a1),(2,a2),(4,a4),(5,a5),(7,.ptr 1 0 0 1),(22,.isl bw ex 16 (ds.map Door.enc)),(23,I ds.length),(24,I i)]∧h=bH (ZDX (ds.take i)).1 (ZDX (ds.take i)).2 bs' X'∧HB (ZDX (ds.take i)).1 (ZDX (ds.take i)).2 bs' X')
  (fun e fr h=>e=.exit 0∧∃ bs' X',h=bH (ZDX ds).1 (ZDX ds).2 bs' X'∧HB (ZDX ds).1 (ZDX ds).2 bs' X'∧Z2 [1,2,4,5,7] fr=[(1,a1),(2,a2),(4,a4),(5,a5),(7,.ptr 1 0 0 1)])
  (fun i fr h m=>by obtain ⟨bs',X',rfl,_⟩:=m;rfl)
  (fun i fr h hi m=>by
   obtain ⟨bs1,X1,rfl,rfl,H1⟩:=m;refine .inl ?_;obtain ⟨d,hd⟩:∃ x,ds[i]? = some x:=⟨_,ZLb hi⟩;have hf:ZDX (ds.take (i+1))=ZE3 (ZDX (ds.take i)) d:=Us ZE3 ([],[]) hd;have hlen:=ZGd (ds.take i) (S:=([],[])) (c:=0) (fun A h=>by simp at h) (fun d hd=>hL d (ZM8 hd))
   have hle:(ds.take i).length≤ds.length:=by simp;omega
   have hdl:=hL d (ZLl hd);rw [hf];have hlen:∀ A∈(ZDX (ds.take i)).2,A.length≤0+(ds.take i).length * 1000:=hlen;generalize ZDX (ds.take i)=S at H1 hlen ⊢;obtain ⟨K1,V1⟩:=S;obtain ⟨bs2,X2,e2,H2⟩:=ZHY a1 a2 a4 a5 ds bw ex H1 hlen hd (by omega) hdl (by omega)
   exact ⟨_,_,e2,bs2,X2,rfl,rfl,H2⟩)
  (fun fr h m=>by
   obtain ⟨bs1,X1,rfl,rfl,H1⟩:=m;rw [ZLt] at H1 ⊢;have t0:∀ fr,Xq (bH (ZDX ds).1 (ZDX ds).2 bs1 X1).length fr (bH (ZDX ds).1 (ZDX ds).2 bs1 X1)=bH (ZDX ds).1 (ZDX ds).2 bs1 X1:=fun fr=>ZE5 rfl
   refine ⟨.exit 0,_,_,by simp only [go_sem,qy,reduceIte,c16L1b,ZG,t0]<;>rfl,by simp,rfl,bs1,X1,rfl,H1,?_⟩
   simp only [go_sem,qy])
  ds.length 0 _ (bH [] [] [] []) (by omega) ⟨[],[],rfl,rfl,ZI0⟩
 obtain ⟨rfl,bs',X',rfl,h1,h2⟩:=hQ;exact ⟨fr',bs',X',Lp,h1,h2⟩
theorem ZGe {S:List Str×List (List Str)} {bs:List Nat} {X:List AObj} (H:HB S.1 S.2 bs X) (x:Str) (hd:List AObj) (hh:∃ Z,hd=bH S.1 S.2 bs X++Z):
 ∃ v,(∀ tl,W5 (hd++tl) false [2] false (.isl false false 1 []) (.mp 0) (.str x)=some v)∧ZEl hd v (ZE6 S x):=by
 obtain ⟨Z,rfl⟩:=hh;obtain ⟨K,V⟩:=S;unfold ZE6;cases hf:K.findIdx? (Z3 x) with
 | none=>exact ⟨.isl false false 1 [],fun tl=>by show W5 (.map (K.map encS) (ZE1 bs V)::_) _ _ _ _ _ _=_;rw [ZEX,hf],ZHE _ false []⟩
 | some j=>
  obtain ⟨b,A,h1,h2,h3,h4⟩:=H.at (ZGa hf);have h2:V[j]? = some A:=h2;refine ⟨.sl (b+2) A.length 0 A.length false,fun tl=>?_,?_⟩
  ·show W5 (.map (K.map encS) (ZE1 bs V)::_) _ _ _ _ _ _=_
   rw [ZEX,hf];exact ZFf h1 h2
  ·simp only [h2,ZMb];refine ZHF ?_;show (X++Z)[b]? = _
   rw [ZLF h4];exact h3
def ofr (X:List AObj) (t:AV):Fr:=[(4,.isl false false 1 []),(5,I 0),(7,.ptr 1 0 0 1),(12,.ptr (X.length+3) 0 0 1),(50,t)]
def oL (st:LoopState) (X:List AObj) (t:AV):AObj:=.loop st .normal (ofr X t) [51] c16R2a c16R2b
def oH (S:List Str×List (List Str)) (bs:List Nat) (X:List AObj) (rg lp:AObj) (D:List Str):List AObj:=
 bH S.1 S.2 bs X++[.row 1 (D.map encS),.row 1 [.sl (X.length+2) D.length 0 D.length false],rg,lp]
theorem ZI2 (X:List AObj) (t:AV) (d:Door) (h:Hp):Zb rE c16R2a ((51,d.enc)::ofr X t) h=some (.normal,(13,.ptr h.length 0 0 1)::(51,d.enc)::ofr X t,h++[.row 16 [d.enc]]):=by
 simp only [go_sem,qy,qq,qk,c16R2a,ofr,Door.enc,NL.enc,ZEp]
def oF (S:List Str×List (List Str)) (d:Door) (D:List Str):List Str:=bif (ZE6 S d.Id).isEmpty then D++[d.Id] else D
theorem ZI3 (X:List AObj) (t:AV) (d:Door) {h h1 h2:Hp} {n k bb g g2:Nat} {v:AV} (r1:rowAt h 1 1=some (1,[.mp 0])) (r13:rowAt h n 1=some (16,[d.enc]))
 (hv:W5 h false [2] false (.isl false false 1 []) (.mp 0) (.str d.Id)=some v) (hl:lnV h 1 v=some (I k))
 (r12:k=0→rowAt h (X.length+3) 1=some (1,[.sl bb g 0 g false])) (ha:k=0→appW h false 1 16 (.sl bb g 0 g false) (.isl false false 1 [.str d.Id])=some (.sl bb g2 0 g2 false,h1)) (r12':k=0→rowAt h1 (X.length+3) 1=some (1,[.sl bb g 0 g false]))
 (hs:k=0→setH h1 (X.length+3) (.row 1 [.sl bb g2 0 g2 false])=h2) (hlen:h2.length=h.length) (hk:k≠0→h2=h):
 Zb rE c16R2b ((13,.ptr n 0 0 1)::(51,d.enc)::ofr X t) h=some (.normal,[],h2):=by
 have t2:Xq h.length [] h2=h2:=ZE5 hlen;have t0:∀ fr,Xq h.length fr h=h:=fun fr=>ZE5 rfl
 simp only [Door.enc,NL.enc] at r13;cases k with
 | zero=>
  have z0:(((0:Nat):Int)==0)=true:=rfl;simp only [go_sem,qy,qq,qv,reduceIte,c16R2b,ofr,Door.enc,NL.enc,r1,r13,hv,hl,z0,r12 rfl,ha rfl,r12' rfl,hs rfl,t0,t2]
 | succ k=>
  have z0:(((k+1:Nat):Int)==0)=false:=by rw [beq_eq_false_iff_ne];omega
  have he:=hk (by simp)
  subst he;simp only [go_sem,qy,qq,reduceIte,c16R2b,ofr,Door.enc,NL.enc,r1,r13,hv,hl,z0,t0]
theorem ZI4 {S:List Str×List (List Str)} {bs:List Nat} {X:List AObj} (H:HB S.1 S.2 bs X) (t:AV) (d:Door) (rg lp:AObj) (D:List Str) (tl:List AObj) (h1:D.length≤1000):
 Zb rE c16R2b ((13,.ptr (oH S bs X rg lp D++tl).length 0 0 1)::(51,d.enc)::ofr X t) ((oH S bs X rg lp D++tl)++[.row 16 [d.enc]])=some (.normal,[],(oH S bs X rg lp (oF S d D)++tl)++[.row 16 [d.enc]]):=by
 obtain ⟨v,hv,hr⟩:=ZGe H d.Id (oH S bs X rg lp D) ⟨_,rfl⟩;have hh:∀ D:List Str,(oH S bs X rg lp D++tl)++[.row 16 [d.enc]]=bH S.1 S.2 bs X++.row 1 (D.map encS)::(.row 1 [.sl (X.length+2) D.length 0 D.length false]::rg::lp::(tl++[.row 16 [d.enc]])):=fun D=>by
  unfold oH;simp only [ZLi,ZL8,ZL9]
 have hb2:(bH S.1 S.2 bs X).length=X.length+2:=rfl;have hrD:rowAt ((oH S bs X rg lp D++tl)++[.row 16 [d.enc]]) (X.length+2) D.length=some (1,D.map encS):=by
  rw [hh];unfold rowAt;rw [←hb2,ZEG];simp only [ZL6,beq_self_eq_true,cond_true]
 have hr12:∀ o:AObj,rowAt (bH S.1 S.2 bs X++o::(.row 1 [.sl (X.length+2) D.length 0 D.length false]::rg::lp::(tl++[.row 16 [d.enc]]))) (X.length+3) 1=some (1,[.sl (X.length+2) D.length 0 D.length false]):=fun o=>by
  rw [show X.length+3=(bH S.1 S.2 bs X).length+(0+1) from rfl,ZEw]
  rfl
 refine ZI3 X t d (h1:=bH S.1 S.2 bs X++.row 1 (D.map encS++[.str d.Id])::(.row 1 [.sl (X.length+2) D.length 0 D.length false]::rg::lp::(tl++[.row 16 [d.enc]]))) (k:=(ZE6 S d.Id).length) (v:=v) (bb:=X.length+2) (g:=D.length) (g2:=D.length+1) ?_ (ZGc _ _ _) ?_ ?_ ?_ ?_ ?_ ?_ ?_ ?_
 ·rw [hh];rfl
 ·rw [ZLi];exact hv _
 ·rw [ZLi];have:=hr.1;cases tl with
  | nil=>exact this _ _
  | cons o r=>exact this _ _
 ·intro _;rw [hh];exact hr12 _
 ·intro _;rw [XC hrD rfl (by rfl) (by omega) (by omega) (by simp;omega)]
  rw [hh,←hb2,ZEV];rfl
 ·intro _;exact hr12 _
 ·intro h0;have e:oF S d D=D++[d.Id]:=by
   unfold oF;rw [List.length_eq_zero_iff.1 h0];rfl
  rw [e,hh,show X.length+3=(bH S.1 S.2 bs X).length+(0+1) from rfl,ZFd,ZLd,ZLe]
  rfl
 ·simp [oH]
 ·intro h0;have e:oF S d D=D:=by
   unfold oF;cases hl:ZE6 S d.Id with
   | nil=>rw [hl] at h0;exact absurd rfl h0
   | cons a r=>rfl
  rw [e]
theorem ZI5 {S:List Str×List (List Str)} {bs:List Nat} {X:List AObj} (H:HB S.1 S.2 bs X) (t:AV) (d:Door) (rg:AObj) (D:List Str) (tl:List AObj) (h1:D.length≤1000):
 U4 rE (X.length+5) [d.enc] (oH S bs X rg (oL .ready X t) D++tl)=some (.bool true,(oH S bs X rg (oL .ready X t) (oF S d D)++tl)++[.row 16 [d.enc]]):=by
 have hgl:∀ (lp:AObj) D tl,(oH S bs X rg lp D++tl)[X.length+5]? = some lp:=fun lp D tl=>by
  unfold oH;rw [ZLi,ZLJ (by rw [ZE2];omega),ZE2,show X.length+5 - (X.length+2)=3 by omega]
  rfl
 have hsl:∀ (lp o:AObj) D tl,setH (oH S bs X rg lp D++tl) (X.length+5) o=oH S bs X rg o D++tl:=fun lp o D tl=>by
  have hlt:X.length+5 < (oH S bs X rg lp D++tl).length:=by simp [oH,ZE2];omega
  rw [ZEC hlt];unfold oH;rw [ZLi,ZM2 _ _ (by rw [ZE2];omega),ZE2,show X.length+5 - (X.length+2)=3 by omega]
  simp [ZLi]
 have b1:∀ (lp:AObj) D o,(oH S bs X rg lp D++tl++[o])[X.length+5]? = some lp:=fun lp D o=>by rw [ZLi];exact hgl _ _ _
 have b2:∀ (lp lp':AObj) D o,setH (oH S bs X rg lp D++tl++[o]) (X.length+5) lp'=oH S bs X rg lp' D++tl++[o]:=fun lp lp' D o=>by rw [ZLi,hsl,←ZLi]
 have b3:Zb rE c16R2b ((13,.ptr (oH S bs X rg (oL .ready X t) D++tl).length 0 0 1)::(51,d.enc)::ofr X t) (setH (oH S bs X rg (oL .ready X t) D++tl++[.row 16 [d.enc]]) (X.length+5) (oL .busy X t))=some (.normal,[],(oH S bs X rg (oL .busy X t) (oF S d D)++tl)++[.row 16 [d.enc]]):=by
  have:=ZI4 H t d rg (oL .busy X t) D tl h1;have hl:(oH S bs X rg (oL .ready X t) D++tl).length=(oH S bs X rg (oL .busy X t) D++tl).length:=by simp only [oH,ZLe,ZLa]
  rw [b2,hl];exact this
 have h:=Ss (E:=rE) (b:=X.length+5) (args:=[d.enc]) (h:=oH S bs X rg (oL .ready X t) D++tl) (fr:=ofr X t) (ps:=[51]) (assign:=c16R2a) (body:=c16R2b)
  (fr0:=(51,d.enc)::ofr X t) (hgl _ _ _) rfl (ZI2 X t d _) (h1:=(oH S bs X rg (oL .ready X t) D++tl)++[.row 16 [d.enc]]) (b1 _ _ _)
  (e:=.normal) (fr2:=[]) (h2:=(oH S bs X rg (oL .busy X t) (oF S d D)++tl)++[.row 16 [d.enc]]) b3 (b1 _ _ _)
 rw [h];exact congrArg (fun z=>some (AV.bool true,z)) (b2 _ _ _ _)
end Go.AM
namespace Go.AM
open Go
theorem ZI6 (d:Door) {h:Hp} {v:AV} (r1:rowAt h 1 1=some (1,[.mp 0])) (hv:W5 h false [2] false (.isl false false 1 []) (.mp 0) (.str d.Id)=some v):fnV rE 42 [d.enc,.ptr 1 0 0 1] h=some (v,h):=by
 rw [Q6 (f:=42) rfl rfl];have t0:∀ fr,Xq h.length fr h=h:=fun fr=>ZE5 rfl
 simp only [go_sem,qy,qq,c42,Door.enc,NL.enc,r1,hv,t0]
def oC:AV:=.clo (.func 42) [] [.ptr 1 0 0 1]
theorem ZI7 {S:List Str×List (List Str)} {bs:List Nat} {X:List AObj} (H:HB S.1 S.2 bs X) (rg lp:AObj) (D:List Str) (d:Door) (tl:List AObj):
 ∃ v,Xy rE false oC [d.enc] (oH S bs X rg lp D++tl)=some (v,oH S bs X rg lp D++tl)∧ZEl (oH S bs X rg lp D) v (ZE6 S d.Id):=by
 obtain ⟨v,hv,hr⟩:=ZGe H d.Id (oH S bs X rg lp D) ⟨_,rfl⟩;refine ⟨v,?_,hr⟩;unfold oC;rw [RL];exact ZI6 d rfl (hv tl)
theorem ZGf (hd Z:List AObj) (n:Nat) (fr:Fr) (hn:hd.length≤n):∃ tl,Xq n fr (hd++Z)=hd++tl:=by
 unfold Xq;cases Zd n (fr.map (·.2))&&X4 n ((hd++Z).take n) with
 | false=>exact ⟨Z,rfl⟩
 | true=>exact ⟨Z.take (n - hd.length),by rw [cond_true,ZMa,ZLg hn]⟩
theorem ZI8 {σ:Type} {s:Sta} {aft:Door→List Str} {f:Door→σ→σ} {ok:σ→Prop} (FC G p0 p3 p7:AV) (y m:Nat) (H:σ→List AObj) (hG:∀ x,GRd (H x) G s FC p0 p3 p7) (hH:∀ x,(H x).length=m)
 (hy:∀ (d:Door) (x:σ) (K:List Str) (tl:List AObj),d∈s.Doors→ok x→U4 rE y [d.enc] (H x++kM K::(tl++[.row 16 [d.enc]]))=some (.bool true,H (f d x)++kM K::(tl++[.row 16 [d.enc],.row 16 [d.enc]])))
 (hA:∀ (d:Door) (x:σ) (K:List Str) (tl:List AObj),d∈s.Doors→∃ v,Xy rE false FC [d.enc] (H x++kM K::tl)=some (v,H x++kM K::tl)∧ZEl (H x) v (aft d))
 (id:Str) {x x':σ} (R:RunsG s aft f ok [id] [id] x x'):
 ∃ fr tl,Zb rE c71 (QP 0 ([]++[.yld y]++[.iptr false [.str id],G])) (H x)=some (.normal,fr,H x'++tl):=by
 obtain ⟨K',Lv',tl',hl⟩:=ZHN FC G p0 p3 p7 y m H hG hH hy hA R (.sl (m+(0+1)) 1 0 1 true) [.row 1 [.str id]] ⟨0,1,0,true,[.str id],rfl,rfl,rfl,rfl,rfl⟩ (fun n=>rfl)
 have hm:=hH x;have hm':=hH x';have hp:=Ur (enc:=encS) (eq:=Z3) Z1Y [] id (h:=H x++[.map [] []]) (b:=(H x).length) (ZEG _ _ _);have hk:Qi Z3 [] id=[id]:=rfl;rw [hk] at hp;have hrep:List.replicate 1 (AV.bool true)=[.bool true]:=rfl;have hrep0:List.replicate 0 (AV.bool true)=[]:=rfl;rw [ZEV] at hp;simp only [encS,List.map,ZO,ZLa,ZLu,ZLA,hrep] at hp;simp only [wfp,kM,encS,List.map,ZO,ZLa,ZLu,ZLA,hrep] at hl;subst hm;have f1:∀ a b c h,Xq (H x).length [(0,a),(1,b),(2,c),(4,.mp (H x).length)] h=h:=fun a b c h=>by
  have hn:Nat.blt (H x).length (H x).length=false:=by rw [ZLY];simp [ZLN]
  have e:Zd (H x).length ([(0,a),(1,b),(2,c),(4,AV.mp (H x).length)].map (fun (p:Nat×AV)=>p.2))=false:=by simp [Zd,bel,hn]
  unfold Xq;rw [e];rfl
 have f2:∀ n a b c g o k ex h,Xq n [(0,a),(2,b),(4,c),(5,.sl n g o k ex)] h=h:=fun n a b c g o k ex h=>by
  have hn:Nat.blt n n=false:=by rw [ZLY];simp [ZLN]
  have e:Zd n ([(0,a),(2,b),(4,c),(5,AV.sl n g o k ex)].map (fun (p:Nat×AV)=>p.2))=false:=by simp [Zd,bel,hn]
  unfold Xq;rw [e];rfl
 have l1:∀ o:AObj,(H x++[o]).length=(H x).length+1:=fun o=>by simp
 have l2:∀ o p:AObj,(H x++[o]++[p]).length=(H x).length+2:=fun o p=>by simp
 have l3:H x++[AObj.map [.str id] [.bool true]]++[.row 1 [.str id]]=H x++[AObj.map [.str id] [.bool true],.row 1 [.str id]]:=by simp
 have hl:Zg rE [0,2,4,5] c71L1b _ (H x++[AObj.map [.str id] [.bool true],.row 1 [.str id]])=_:=hl;simp only [go_sem,qy,qq,qv,c71,c71L1,hp,f1,f2,l1,l3,hl];obtain ⟨tl,ht⟩:=ZGf (H x') (AObj.map (K'.map encS) (List.replicate K'.length (.bool true))::tl') ((H x).length+2) [] (by omega)
 exact ⟨[],tl,by rw [ht]⟩
def rG (s:Sta):AObj:=.row 8 [.agg (grC s++[oC])]
def wkO (X:List AObj) (id:Str):AV:=.clo (.func 71) [] [.iptr false [.str id],.ptr (X.length+4) 0 0 1]
theorem ZI9 (s:Sta) (S:List Str×List (List Str)) (bs:List Nat) (X:List AObj) (lp:AObj) (D:List Str):
 GRd (oH S bs X (rG s) lp D) (.ptr (X.length+4) 0 0 1) s oC (.ptr (X.length+4) 0 0 1) (.ptr (X.length+4) 0 3 1) (.ptr (X.length+4) 0 7 1):=by
 have hr:∀ x tl,rowAt (oH S bs X (rG s) lp D++x::tl) (X.length+4) 1=some (8,[.agg (grC s++[oC])]):=fun x tl=>by
  unfold oH rowAt;rw [ZLi,ZLJ (by rw [ZE2];omega),ZE2,show X.length+4 - (X.length+2)=2 by omega]
  rfl
 refine ⟨fun x tl=>?_,fun x tl=>?_,fun x tl=>?_,fun x tl=>?_,fun x tl=>?_,fun x tl=>?_,fun n hn=>?_⟩
 ·rw [AH,hr];rfl
 ·rw [AH,hr];rfl
 ·rw [Az,hr];rfl
 ·rw [Az,hr];rfl
 ·rw [AH,hr];rfl
 ·rw [Az,hr];rfl
 ·have hl:(oH S bs X (rG s) lp D).length=X.length+6:=by simp [oH,ZE2]
  have:([X.length+4]:List Nat).contains n=false:=by
   rw [hl] at hn;simp;omega
  exact ⟨this,this,this⟩
theorem ZIa (s:Sta) (id:Str) {S:List Str×List (List Str)} {bs:List Nat} {X:List AObj} (H:HB S.1 S.2 bs X) {D:List Str} (R:RunsG s (fun d=>ZE6 S d.Id) (oF S) (fun D=>D.length≤1000) [id] [id] [] D):
 ∃ tl,rf rE (wkO X id) [51] c16R2a c16R2b (ofr X (wkO X id)) (bH S.1 S.2 bs X++[.row 1 [],.row 1 [.sl (X.length+2) 0 0 0 false],rG s]) =
  some (.normal,ofr X (wkO X id),bH S.1 S.2 bs X++[.row 1 (D.map encS),.row 1 [.sl (X.length+2) D.length 0 D.length false],rG s]++tl):=by
 have hm:∀ D,(oH S bs X (rG s) (oL .ready X (wkO X id)) D).length=X.length+6:=fun D=>by simp [oH,ZE2]
 obtain ⟨fr,tl,h⟩:=ZI8 (s:=s) (aft:=fun d=>ZE6 S d.Id) (f:=oF S) (ok:=fun D=>D.length≤1000) oC (.ptr (X.length+4) 0 0 1) (.ptr (X.length+4) 0 0 1) (.ptr (X.length+4) 0 3 1) (.ptr (X.length+4) 0 7 1) (X.length+5) (X.length+6) (fun D=>oH S bs X (rG s) (oL .ready X (wkO X id)) D) (fun D=>ZI9 s S bs X _ D) hm
  (fun d D K tl _ hD=>by
   have:=ZI5 H (wkO X id) d (rG s) D (kM K::(tl++[.row 16 [d.enc]])) hD;simpa only [ZLi,ZL8,ZL9] using this)
  (fun d D K tl _=>ZI7 H _ _ D d (kM K::tl)) id R
 refine ⟨.loop .exhausted .normal (ofr X (wkO X id)) [51] c16R2a c16R2b::tl,?_⟩;have e1:(bH S.1 S.2 bs X++[AObj.row 1 [],AObj.row 1 [.sl (X.length+2) 0 0 0 false],rG s]).length=X.length+5:=by simp [ZE2]
 have e2:bH S.1 S.2 bs X++[.row 1 [],.row 1 [.sl (X.length+2) 0 0 0 false],rG s]++[oL .ready X (wkO X id)]=oH S bs X (rG s) (oL .ready X (wkO X id)) []:=by
  unfold oH;rw [ZLi];rfl
 have e3:(oH S bs X (rG s) (oL .ready X (wkO X id)) D++tl)[X.length+5]? = some (oL .ready X (wkO X id)):=by
  unfold oH;rw [ZLi,ZLJ (by rw [ZE2];omega),ZE2,show X.length+5 - (X.length+2)=3 by omega]
  rfl
 have e4:∀ o,setH (oH S bs X (rG s) (oL .ready X (wkO X id)) D++tl) (X.length+5) o=oH S bs X (rG s) o D++tl:=fun o=>by
  have hlt:X.length+5 < (oH S bs X (rG s) (oL .ready X (wkO X id)) D++tl).length:=by simp [oH,ZE2];omega
  rw [ZEC hlt];unfold oH;rw [ZLi,ZM2 _ _ (by rw [ZE2];omega),ZE2,show X.length+5 - (X.length+2)=3 by omega]
  simp [ZLi]
 have e5:rf rE (wkO X id) [51] c16R2a c16R2b (ofr X (wkO X id)) (bH S.1 S.2 bs X++[.row 1 [],.row 1 [.sl (X.length+2) 0 0 0 false],rG s])=J0 (ofr X (wkO X id)) (X.length+5) (fnd [] (Zb rE c71 (QP 0 ([]++[.yld (X.length+5)]++[.iptr false [.str id],AV.ptr (X.length+4) 0 0 1])) (oH S bs X (rG s) (oL .ready X (wkO X id)) []))):=by
  rw [←e2,←e1];unfold oL
  conv=>lhs;arg 2;unfold wkO
  exact Z1k (E:=rE) (g:=71) (first:=[]) (cap:=[.iptr false [.str id],AV.ptr (X.length+4) 0 0 1]) (c:=c71) (rs:=[]) rfl
 rw [e5,h];show J0 _ _ (some (.tup [],_))=_
 rw [Za3,e3];show some (AExit.normal,ofr X (wkO X id),setH (oH S bs X (rG s) (oL .ready X (wkO X id)) D++tl) (X.length+5) _)=_
 rw [e4];unfold oH;simp only [ZLi,ZL8,ZL9]
end Go.AM
namespace Go.AM
open Go
theorem ZIb (s:Sta) (id:Str) (h:Hp):fnV rE 35 [.agg (grC s++[oC]),.str id] h=some (.clo (.func 71) [] [.iptr false [.str id],.ptr h.length 0 0 1],h++[rG s]):=by
 rw [Q6 (f:=35) rfl rfl];have hi:Va h 8 (.agg (grC s++[oC]))=some (.ptr h.length 0 0 1,h++[rG s]):=rfl;have ht:Xq h.length [(2,AV.ptr h.length 0 0 1),(3,.iptr false [.str id])] (h++[rG s])=h++[rG s]:=by
  have hn:Nat.blt h.length h.length=false:=by rw [ZLY];simp [ZLN]
  have e:Zd h.length ([(2,AV.ptr h.length 0 0 1),(3,AV.iptr false [.str id])].map (fun (p:Nat×AV)=>p.2))=false:=by simp [Zd,bel,hn]
  unfold Xq;rw [e];rfl
 simp only [go_sem,qy,qq,c35,hi,ht]
theorem ZIc {D D2:List AV} (hD:ZE7 37 [ZEa 37] 1 D=some D2) {h:Hp} {b:Nat} (hb:h[b]? = some (.row 1 D)):
 fnV rE 36 [.sl b D.length 0 D.length false,.clo (.func 37) [] []] h=some (.sl b D.length 0 D.length false,setH h b (.row 1 D2)):=by
 rw [V8 (s:=ZEo (ZE7 37)) rfl];unfold ZEo ZE8;simp only [hb,beq_self_eq_true,ZLx,cond_true];have hD':ZE7 37 [.clo (.func 37) [] []] 1 D=some D2:=hD;rw [hD'];rfl
theorem ZId (s:Sta) (id:Str) (D D2:List Str) (hc:pfn rE 33 [stA s,.str id]=some (I 0)) (hk:s.Doors.length≤500) (hL:∀ d∈s.Doors,d.After.l.length≤1000)
 (R:RunsG s (fun d=>ZE6 (ZDX s.Doors) d.Id) (oF (ZDX s.Doors)) (fun D=>D.length≤1000) [id] [id] [] D) (hD:ZE7 37 [ZEa 37] 1 (D.map encS)=some (D2.map encS)) (hDl:D2.length=D.length):
 pfn rE 16 [stA s,.str id]=some (.tup [.isl false false 1 (D2.map encS),I 0]):=by
 obtain ⟨fr1,bs,X0,ho,H0,r1⟩:=ZI1 (.str id) (.iptr false (grC s)) (.isl false false 1 []) (I 0) s.Doors false false hk hL;have ho:Zg rE [1,2,4,5,7,22,23,24] c16L1b _ [.map [] [],.row 1 [.mp 0]]=_:=ho;obtain ⟨X,q1,H,_,_⟩:=ZFg H0 0 [(1,.str id),(2,.iptr false (grC s)),(4,.isl false false 1 []),(5,I 0),(7,.ptr 1 0 0 1)];obtain ⟨tl,hr⟩:=ZIa s id H R;have hw:=ZIb s id;have h00:((0:Int) != 0)=false:=rfl;simp only [stA] at hc;simp only [grC] at ho r1 q1;have hb:∀ h,GL h 1 .nilmap=some (.ptr h.length 0 0 1,h++[.row 1 [.nilmap]]):=fun h=>rfl
 have hst:stE 0 1 (.mp 0) .nilmap=some (.mp 0):=rfl;rw [Z5 (f:=16) rfl rfl];have n1:X.length+2+1=X.length+3:=rfl;have n2:X.length+3+1=X.length+4:=rfl;have hap:∀ o p:AObj,bH (ZDX s.Doors).1 (ZDX s.Doors).2 bs X++[o]++[p]=bH (ZDX s.Doors).1 (ZDX s.Doors).2 bs X++[o,p]:=fun o p=>by simp
 have hap3:∀ o p q:AObj,bH (ZDX s.Doors).1 (ZDX s.Doors).2 bs X++[o,p]++[q]=bH (ZDX s.Doors).1 (ZDX s.Doors).2 bs X++[o,p,q]:=fun o p q=>by simp
 have hl2:∀ o p:AObj,(bH (ZDX s.Doors).1 (ZDX s.Doors).2 bs X++[o,p]).length=X.length+4:=fun o p=>by simp [ZE2]
 have hl3:∀ o p q:AObj,(bH (ZDX s.Doors).1 (ZDX s.Doors).2 bs X++[o,p,q]).length=X.length+5:=fun o p q=>by simp [ZE2]
 have ht50:∀ a b c d i h,Xq (X.length+4) [(4,a),(5,b),(7,c),(12,d),(50,AV.clo (.func 71) [] [i,.ptr (X.length+4) 0 0 1])] h=h:=fun a b c d i h=>by
  have hn:Nat.blt (X.length+4) (X.length+4)=false:=by rw [ZLY];simp [ZLN]
  have e:Zd (X.length+4) ([(4,a),(5,b),(7,c),(12,d),(50,AV.clo (.func 71) [] [i,.ptr (X.length+4) 0 0 1])].map (fun (p:Nat×AV)=>p.2))=false:=by simp [Zd,bel,hn]
  unfold Xq;rw [e];rfl
 obtain ⟨tl2,hq⟩:=ZGf (bH (ZDX s.Doors).1 (ZDX s.Doors).2 bs X++[.row 1 (D.map encS),.row 1 [.sl (X.length+2) D.length 0 D.length false],rG s]) tl (X.length+5) [(12,.ptr (X.length+3) 0 0 1)] (by simp [ZE2])
 have hbl:(bH (ZDX s.Doors).1 (ZDX s.Doors).2 bs X).length=X.length+2:=rfl;have hg2:∀ (o:AObj) Z,(bH (ZDX s.Doors).1 (ZDX s.Doors).2 bs X++o::Z)[X.length+2]? = some o:=fun o Z=>by rw [←hbl,ZEG]
 have hh:∀ o p q:AObj,bH (ZDX s.Doors).1 (ZDX s.Doors).2 bs X++[o,p,q]++tl2=bH (ZDX s.Doors).1 (ZDX s.Doors).2 bs X++o::p::q::tl2:=fun o p q=>by simp
 have hr12:∀ o q:AObj,rowAt (bH (ZDX s.Doors).1 (ZDX s.Doors).2 bs X++[o,.row 1 [.sl (X.length+2) D.length 0 D.length false],q]++tl2) (X.length+3) 1=some (1,[.sl (X.length+2) D.length 0 D.length false]):=fun o q=>by
  rw [hh,show X.length+3=(bH (ZDX s.Doors).1 (ZDX s.Doors).2 bs X).length+(0+1) from rfl,ZEw]
  rfl
 have h36:=ZIc hD (h:=bH (ZDX s.Doors).1 (ZDX s.Doors).2 bs X++[.row 1 (D.map encS),.row 1 [.sl (X.length+2) D.length 0 D.length false],rG s]++tl2) (b:=X.length+2) (by rw [hh,hg2])
 have hset:∀ o,setH (bH (ZDX s.Doors).1 (ZDX s.Doors).2 bs X++[.row 1 (D.map encS),.row 1 [.sl (X.length+2) D.length 0 D.length false],rG s]++tl2) (X.length+2) o=bH (ZDX s.Doors).1 (ZDX s.Doors).2 bs X++[o,.row 1 [.sl (X.length+2) D.length 0 D.length false],rG s]++tl2:=fun o=>by
  rw [hh,hh,←hbl,ZEV]
 rw [ZL6,hset] at h36;have t3:∀ fr o,Xq (X.length+5+tl2.length) fr (bH (ZDX s.Doors).1 (ZDX s.Doors).2 bs X++[o,.row 1 [.sl (X.length+2) D.length 0 D.length false],rG s]++tl2)=bH (ZDX s.Doors).1 (ZDX s.Doors).2 bs X++[o,.row 1 [.sl (X.length+2) D.length 0 D.length false],rG s]++tl2:=fun fr o=>ZE5 (by simp [ZE2];omega)
 have hrw:rowAt (bH (ZDX s.Doors).1 (ZDX s.Doors).2 bs X++[.row 1 (D2.map encS),.row 1 [.sl (X.length+2) D.length 0 D.length false],rG s]++tl2) (X.length+2) D.length=some (1,D2.map encS):=by
  unfold rowAt;rw [hh,hg2];simp only [ZL6,hDl,beq_self_eq_true,cond_true]
 have t1:(D2.map encS).take D.length=D2.map encS:=ZLg (by rw [ZL6,hDl];exact ZLs _)
 have f1:∀ h n,ZC false h (n+1) (D2.map encS)=some (D2.map encS):=fun h n=>by simp only [ZC,ZET,cond_true]
 have f1:=fun h=>f1 h 36
 simp only [Nat.reduceAdd] at f1;have hg3:∀ o q:AObj,(bH (ZDX s.Doors).1 (ZDX s.Doors).2 bs X++[o,.row 1 [.sl (X.length+2) D.length 0 D.length false],q]++tl2)[X.length+2]? = some o:=fun o q=>by rw [hh,hg2]
 simp only [grC,oC,ZL8,ZL9] at hw;simp only [wkO,ofr] at hr;simp only [go_sem,qy,qq,qv,qk,reduceIte,c16,c16L1,stA,hc,h00,hb,hst,ho,r1,q1,put,ZE2,n1,hap,hw,hap3,hl2,Sr,hr,hl3,ht50,hq,hr12,h36,t3,hrw,t1,f1]
end Go.AM
namespace Go.AM
open Go
theorem ZFi (s:Sta) (hs:StE s) (id:Str) (h:ZEb s id≠0):pfn rE 12 [stA s,.str id]=some (.tup [ftA false false [] [],I (ZEb s id)]):=by
 have hc:=Zpq s hs id;simp only [stA] at hc;have h0:(ZEb s id != 0)=true:=by rw [bne_iff_ne];exact h
 rw [Z5 (f:=12) rfl rfl];generalize ZEb s id=e at hc h0 ⊢;simp only [go_sem,qy,qq,qv,qk,reduceIte,c12,stA,hc,h0,ftA,List.map]
theorem ZJc {a b c:Str} (h1:ltS a b) (h2:ltS b c):ltS a c:=List.lt_trans h1 h2
theorem ZIV (a:Str):¬ ltS a a:=List.lt_irrefl _
theorem ZIS {α:Type} {f:α→Str}:∀ {a b:List α},a.Pairwise (fun x y=>ltS (f x) (f y))→b.Pairwise (fun x y=>ltS (f x) (f y))→(∀ x,x∈a↔x∈b)→a=b
 | [],[],_,_,_=>rfl
 | [],y::s,_,_,h=>by have:=(h y).2 ZLK;cases this
 | x::r,[],_,_,h=>by have:=(h x).1 ZLK;cases this
 | x::r,y::s,ha,hb,h=>by
  rw [ZMt] at ha hb;have hxy:x=y:=by
   rcases ZLR.1 ((h x).1 ZLK) with e | hx
   ·exact e
   ·rcases ZLR.1 ((h y).2 ZLK) with e | hy
    ·exact e.symm
    ·exact absurd (ZJc (hb.1 x hx) (ha.1 y hy)) (ZIV _)
  subst hxy;rw [ZIS ha.2 hb.2 (fun z=>?_)]
  have hz:=h z;simp only [ZLR] at hz;constructor
  ·intro hr;rcases hz.1 (.inr hr) with e | hs
   ·subst e;exact absurd (ha.1 z hr) (ZIV _)
   ·exact hs
  ·intro hr;rcases hz.2 (.inr hr) with e | hs
   ·subst e;exact absurd (hb.1 z hr) (ZIV _)
   ·exact hs
theorem Zn6 {l:List Str} {v:Str}:hasB l v=true↔v∈l:=by
 unfold hasB;rw [ZLr,←ZMf,Zda];constructor
 ·intro h;refine Classical.byContradiction fun hn=>h fun j x hx=>?_
  cases c:Z3 x v with
  | false=>rfl
  | true=>exact absurd ((Ky _ _).1 c▸ZLl hx) hn
 ·intro h hA;obtain ⟨j,hj⟩:=ZLL h;have:=hA j v hj;rw [(Ky v v).2 rfl] at this;cases this
theorem ZGg {a b:End}:ZEq a b=true↔a=b:=by
 unfold ZEq;rw [ZL5,ZL5,Ky,beq_iff_eq,beq_iff_eq];constructor
 ·rintro ⟨h1,h2,h3⟩;cases a;cases b;simp_all
 ·rintro rfl;exact ⟨rfl,rfl,rfl⟩
theorem ZJ2 {l:List End} {v:End}:ZIL l v=true↔v∈l:=by
 unfold ZIL;rw [ZLr,←ZMf,Zda];constructor
 ·intro h;refine Classical.byContradiction fun hn=>h fun j x hx=>?_
  cases c:ZEq x v with
  | false=>rfl
  | true=>exact absurd (ZGg.1 c▸ZLl hx) hn
 ·intro h hA;obtain ⟨j,hj⟩:=ZLL h;have:=hA j v hj;rw [ZGg.2 rfl] at this;cases this
theorem within_iff {D D2:List Str} {E E2:List End}:ZIQ D D2 E E2=true↔(∀ x∈D,x∈D2)∧(∀ e∈E,e∈E2):=by
 unfold ZIQ;rw [ZL5,Zda,Zda];constructor
 ·rintro ⟨h1,h2⟩;exact ⟨fun x hx=>by obtain ⟨j,hj⟩:=ZLL hx;exact Zn6.1 (h1 j x hj),fun e he=>by obtain ⟨j,hj⟩:=ZLL he;exact ZJ2.1 (h2 j e hj)⟩
 ·rintro ⟨h1,h2⟩;exact ⟨fun j x hx=>Zn6.2 (h1 x (ZLl hx)),fun j e he=>ZJ2.2 (h2 e (ZLl he))⟩
theorem ZaX (l:List Str):HK l l=true:=by
 unfold HK;rw [beq_self_eq_true,ZLn,Zda];intro j x hx;rw [ZLA,hx];exact (Ky _ _).2 rfl
theorem ZIe (D:List Str) (E:List End):HL D D E E=true:=by
 unfold HL;rw [beq_self_eq_true,ZaX,ZLn,ZLn,Zda];intro j x hx;rw [ZLA,hx];exact ZGg.2 rfl
end Go.AM
namespace Go.AM
open Go
instance iEnEq:DecidableEq End:=fun a b=>decidable_of_iff (ZEq a b=true) ZGg
def ZEh (s:Sta) (aft:Door→List Str):Nat→List Str→List Str→List Door→Option (List Door)
 | 0,_,_,_=>none
 | _+1,_,[],Q=>some Q
 | n+1,K,id::r,Q=>
  match (bif decide (Zn s id < 0) then none else s.Doors[(Zn s id).toNat]?) with
  | none=>none
  | some d=>bif decide (Q.length≤1000)&&decide ((id::r).length+(aft d).length≤1000) then ZEh s aft n ((aft d).foldl wkS (K,id::r)).1 ((aft d).foldl wkS (K,id::r)).2.tail (Q++[d]) else none
theorem ZGh {s:Sta} (hs:StE s) {id:Str} {d:Door} (h:(bif decide (Zn s id < 0) then none else s.Doors[(Zn s id).toNat]?)=some d):∃ k:Nat,s.Doors[k]? = some d∧pfn rE 15 [stA s,.str id]=some (I k):=by
 cases c:decide (Zn s id < 0) with
 | true=>rw [c] at h;cases h
 | false=>
  rw [c] at h;have h0:0≤Zn s id:=by have:=of_decide_eq_false c;omega
  refine ⟨(Zn s id).toNat,h,?_⟩;rw [find_ok s hs.sizes id,Int.toNat_of_nonneg h0]
theorem ZGi {s:Sta} (hs:StE s):∀ (n:Nat) (K L:List Str) (Q Q':List Door),ZEh s (fun d=>d.After.l) n K L Q=some Q'→Runs s K L (ZEc Q) (ZEd Q) (ZEc Q') (ZEd Q')
 | 0,_,_,_,_,h=>by cases h
 | _+1,K,[],Q,Q',h=>by
  rw [ZEh] at h;cases h;exact Runs.stop _ _ _
 | n+1,K,id::r,Q,Q',h=>by
  rw [ZEh] at h;cases hd:(bif decide (Zn s id < 0) then none else s.Doors[(Zn s id).toNat]?) with
  | none=>rw [hd] at h;cases h
  | some d=>
   rw [hd] at h;dsimp only at h;cases c:decide (Q.length≤1000)&&decide ((id::r).length+d.After.l.length≤1000) with
   | false=>rw [c] at h;cases h
   | true=>
    rw [c,cond_true] at h;simp only [ZL5,decide_eq_true_eq] at c;obtain ⟨k,hk,hf⟩:=ZGh hs hd;have ih:=ZGi hs n _ _ _ _ h;refine Runs.step _ id r _ _ _ _ k d hk hf ?_ ?_ c.2 ?_
    ·unfold ZEc;rw [ZL6];have:=ZLX (fun d:Door=>decide (d.Ended < 0)) Q;omega
    ·unfold ZEd;rw [ZL6];have:=ZLX (fun d:Door=>!decide (d.Ended < 0)&&d.After.l.isEmpty) Q;omega
    ·rw [ZFY,ZFZ];exact ih
def ZEr (S:List Str×List (List Str)) (Q:List Door):List Str:=(Q.filter fun d=>(ZE6 S d.Id).isEmpty).map (·.Id)
theorem ZIf (S:List Str×List (List Str)) (d:Door) (Q:List Door):oF S d (ZEr S Q)=ZEr S (Q++[d]):=by
 unfold oF ZEr;rw [ZMy,ZLd];cases c:(ZE6 S d.Id).isEmpty<;>simp [List.filter,c]
theorem ZGj {s:Sta} (hs:StE s) (S:List Str×List (List Str)):∀ (n:Nat) (K L:List Str) (Q Q':List Door),ZEh s (fun d=>ZE6 S d.Id) n K L Q=some Q'→RunsG s (fun d=>ZE6 S d.Id) (oF S) (fun D=>D.length≤1000) K L (ZEr S Q) (ZEr S Q')
 | 0,_,_,_,_,h=>by cases h
 | _+1,K,[],Q,Q',h=>by
  rw [ZEh] at h;cases h;exact RunsG.stop _ _
 | n+1,K,id::r,Q,Q',h=>by
  rw [ZEh] at h;cases hd:(bif decide (Zn s id < 0) then none else s.Doors[(Zn s id).toNat]?) with
  | none=>rw [hd] at h;cases h
  | some d=>
   rw [hd] at h;dsimp only at h;cases c:decide (Q.length≤1000)&&decide ((id::r).length+(ZE6 S d.Id).length≤1000) with
   | false=>rw [c] at h;cases h
   | true=>
    rw [c,cond_true] at h;simp only [ZL5,decide_eq_true_eq] at c;obtain ⟨k,hk,hf⟩:=ZGh hs hd;have ih:=ZGj hs S n _ _ _ _ h;refine RunsG.step _ id r _ _ k d hk hf ?_ (Nat.le_trans c.2 (by decide)) ?_
    ·unfold ZEr;rw [ZL6];have:=ZLX (fun d:Door=>(ZE6 S d.Id).isEmpty) Q;omega
    ·rw [ZIf];exact ih
def dOf (Q:List Door):List Str:=(Q.filter fun d=>decide (d.Ended < 0)).map (·.Id)
def eOf (Q:List Door):List End:=(Q.filter fun d=>!decide (d.Ended < 0)&&d.After.l.isEmpty).map ZEk
def ZEK (s:Sta) (id:Str) (D:List Str) (E:List End):Bool:=ZEb s id==0&&
 match ZEh s (fun d=>d.After.l) 100 [id] [id] [] with
 | some Q=>(decide (ZEi (dOf Q)=D)&&decide (ZEj (eOf Q)=E))&&(decide ((eOf Q).map (·.Id)).Nodup&&(decide ((dOf Q).length≤1000)&&decide ((eOf Q).length≤1000)))
 | none=>false
theorem ZFj {s:Sta} (hs:StE s) {id:Str} {D:List Str} {E:List End} (h:ZEK s id D E=true):pfn rE 12 [stA s,.str id]=some (.tup [ftA false false D E,I 0]):=by
 unfold ZEK at h;rw [ZL5,beq_iff_eq] at h;obtain ⟨h0,h⟩:=h;cases hq:ZEh s (fun d=>d.After.l) 100 [id] [id] [] with
 | none=>rw [hq] at h;cases h
 | some Q=>
  rw [hq] at h;simp only [ZL5,decide_eq_true_eq] at h;obtain ⟨⟨rfl,rfl⟩,h3,h4,h5⟩:=h;have hr:=ZGi hs _ _ _ _ _ hq;have eD:ZEc Q=(dOf Q).map encS:=by unfold ZEc dOf;rw [ZLH];rfl
  have eE:ZEd Q=(eOf Q).map End.enc:=by unfold ZEd eOf;rw [ZLH];rfl
  rw [eD,eE] at hr;have pD:=ZES (dOf Q);have pE:=ZF9 (eOf Q);have hc:=Zpq s hs id;rw [h0] at hc;exact ZFW s id _ _ _ _ hc hr (ZFb _ h4) (ZG5 _ h5 h3) (by simp [pD.length_eq]) (by simp [pE.length_eq]) (ZET _) (ZEU _)
def ZEY (s:Sta) (id:Str) (D:List Str):Bool:=ZEb s id==0&&(s.Doors.all (fun d=>decide (d.After.l.length≤1000))&&
 match ZEh s (fun d=>ZE6 (ZDX s.Doors) d.Id) 100 [id] [id] [] with
 | some Q=>decide (ZEi (ZEr (ZDX s.Doors) Q)=D)&&decide ((ZEr (ZDX s.Doors) Q).length≤1000)
 | none=>false)
theorem ZGk {s:Sta} (hs:StE s) (hN:s.Doors.length≤500) {id:Str} {D:List Str} (h:ZEY s id D=true):pfn rE 16 [stA s,.str id]=some (.tup [.isl false false 1 (D.map encS),I 0]):=by
 unfold ZEY at h;rw [ZL5,ZL5,beq_iff_eq] at h;obtain ⟨h0,ha,h⟩:=h;cases hq:ZEh s (fun d=>ZE6 (ZDX s.Doors) d.Id) 100 [id] [id] [] with
 | none=>rw [hq] at h;cases h
 | some Q=>
  rw [hq] at h;simp only [ZL5,decide_eq_true_eq] at h;obtain ⟨rfl,h4⟩:=h;have hr:=ZGj hs _ _ _ _ _ _ hq;have hc:=Zpq s hs id;rw [h0] at hc;exact ZId s id _ _ hc hN (fun d hd=>by have:=ZLh.1 ha d hd;simpa using this) hr (ZFb _ h4) (ZES _).length_eq
def ZGl (s:Sta):Bool:=YQ s&&(ZEK s (B [101,49]) [B [101,52]] [⟨B [101,50],12,10⟩]&&(ZEK s (B [101,53]) [B [101,52]] []&&(ZEK s (B [101,50]) [] [⟨B [101,50],12,10⟩]&&(ZEb s (B [101,57])==10&&
 (ZEY s (B [101,52]) [B [101,49],B [101,53]]&&ZEY s (B [101,53]) [B [101,53]])))))
theorem ZIg:ZGl (lsS 7)=true:=by decide +kernel
end Go.AM
namespace Go.AM
open Go
theorem ZIh:pfn rE 9 []=some (.bool true):=by
 have h:=ZIg;have hs23:=ZHz;generalize lsS 7=S at h hs23;unfold ZGl at h;simp only [ZL5,beq_iff_eq] at h;obtain ⟨h0,h1,h2,h3,h4,h5,h6⟩:=h;have hF:=Kl S h0;have f1:=ZFj hF.e h1;have f2:=ZFj hF.e h2;have f3:=ZFj hF.e h3;have f4:=ZFi S hF.e (B [101,57]) (by rw [h4];decide)
 rw [h4] at f4;have o1:=ZGk hF.e hF.doors h5;have o2:=ZGk hF.e hF.doors h6;have s1:=ZF5 false false false false [B [101,52]] [B [101,52]] [⟨B [101,50],12,10⟩] [⟨B [101,50],12,10⟩] (by decide) (by decide)
 have s2:=ZF5 false false false false [B [101,52]] [B [101,52]] [] [] (by decide) (by decide)
 have s3:=ZF5 false false false false [] [] [⟨B [101,50],12,10⟩] [⟨B [101,50],12,10⟩] (by decide) (by decide)
 have t1:=Z4L false false [B [101,49],B [101,53]] [B [101,49],B [101,53]] (by decide)
 have t2:=Z4L false false [B [101,53]] [B [101,53]] (by decide)
 rw [ZIe] at s1 s2 s3;rw [ZaX] at t1 t2;have z0:((0:Int)==0)=true:=rfl;have z10:((10:Int)==10)=true:=rfl;simp only [ftA,End.enc,encS,ZLk,ZLv,stA] at f1 f2 f3 f4 o1 o2 s1 s2 s3 t1 t2 hs23;rw [Z5 (f:=9) rfl rfl];simp only [go_sem,qy,qq,qv,qk,reduceIte,c9,hs23,f1,f2,f3,f4,o1,o2,s1,s2,s3,t1,t2,z0,z10]
end Go.AM
namespace Go.AM
open Go
theorem ZIW {s:Sta} (hn:(s.Doors.map (·.Id)).Nodup) {d:Door} (hd:d∈s.Doors) (ha:d.After.l=[]) {x:Str} (h:Reach s d.Id x):x=d.Id:=by
 generalize he:d.Id=i at h;induction h with
 | refl=>rfl
 | step y z e h hde hi hz ih=>
  have:=ih;rw [ZFX hn hde hd (hi.trans (this.trans he.symm)),ha] at hz;cases hz
theorem ZJd {s:Sta} (hn:(s.Doors.map (·.Id)).Nodup) {d:Door} (hd:d∈s.Doors) (ha:d.After.l=[]) (he:d.Ended < 0) {D:List Str} {E:List End} (h:IsFate s d.Id D E):D=[d.Id]∧E=[]:=by
 constructor
 ·refine ZIS (f:=fun x=>x) h.ds (by simp) fun x=>?_
  rw [h.dm x,ZLM];constructor
  ·rintro ⟨e,h1,rfl,h3,h4⟩;exact ZIW hn hd ha h4
  ·rintro rfl;exact ⟨d,hd,rfl,he,Reach.refl _⟩
 ·refine ZIS (f:=fun e:End=>e.Id) h.es (by simp) fun x=>?_
  rw [h.em x];constructor
  ·rintro ⟨e,h1,rfl,h3,h4,h5⟩;rw [ZFX hn h1 hd (ZIW hn hd ha h5)] at h3;exact absurd he h3
  ·intro hx;cases hx
theorem ZJe {s:Sta} (hn:(s.Doors.map (·.Id)).Nodup) {d:Door} (hd:d∈s.Doors) (ha:d.After.l=[]) (he:¬ d.Ended < 0) {D:List Str} {E:List End} (h:IsFate s d.Id D E):D=[]∧E=[ZEk d]:=by
 constructor
 ·refine ZIS (f:=fun x=>x) h.ds (by simp) fun x=>?_
  rw [h.dm x];constructor
  ·rintro ⟨e,h1,rfl,h3,h4⟩;rw [ZFX hn h1 hd (ZIW hn hd ha h4)] at h3;exact absurd h3 he
  ·intro hx;cases hx
 ·refine ZIS (f:=fun e:End=>e.Id) h.es (by simp) fun x=>?_
  rw [h.em x,ZLM];constructor
  ·rintro ⟨e,h1,rfl,h3,h4,h5⟩;rw [ZFX hn h1 hd (ZIW hn hd ha h5)]
  ·rintro rfl;exact ⟨d,hd,rfl,he,ha,Reach.refl _⟩
theorem ZIi {s:Sta} {x y z:Str} (h1:Reach s x y) (h2:Reach s y z):Reach s x z:=by
 induction h2 with
 | refl=>exact h1
 | step _ w e _ hd hi hz ih=>exact Reach.step _ _ _ e ih hd hi hz
theorem ZJ3 {s:Sta} (hn:(s.Doors.map (·.Id)).Nodup) {d:Door} (hd:d∈s.Doors) {z:Str} (h:Reach s d.Id z):z=d.Id∨∃ a∈d.After.l,Reach s a z:=by
 generalize he:d.Id=i at h;induction h with
 | refl=>exact .inl rfl
 | step y z e h hde hi hz ih=>
  rcases ih with h1 | ⟨a,h1,h2⟩
  ·rw [ZFX hn hde hd (hi.trans (h1.trans he.symm))] at hz;exact .inr ⟨z,hz,Reach.refl z⟩
  ·exact .inr ⟨a,h1,Reach.step _ _ _ e h2 hde hi hz⟩
theorem ZJf {s:Sta} (hn:(s.Doors.map (·.Id)).Nodup) {d:Door} (hd:d∈s.Doors) (ha:d.After.l≠[]) (he:¬ d.Ended < 0) {D:List Str} {E:List End} (h:IsFate s d.Id D E) (Fa:Str→List Str×List End) (hF:∀ a∈d.After.l,IsFate s a (Fa a).1 (Fa a).2):
 (∀ x,x∈D↔∃ a∈d.After.l,x∈(Fa a).1)∧(∀ e,e∈E↔∃ a∈d.After.l,e∈(Fa a).2):=by
 constructor
 ·intro x;rw [h.dm x];constructor
  ·rintro ⟨e,h1,rfl,h3,h4⟩;rcases ZJ3 hn hd h4 with h5 | ⟨a,h5,h6⟩
   ·rw [ZFX hn h1 hd h5] at h3;exact absurd h3 he
   ·exact ⟨a,h5,((hF a h5).dm _).2 ⟨e,h1,rfl,h3,h6⟩⟩
  ·rintro ⟨a,h5,hx⟩;obtain ⟨e,h1,h2,h3,h4⟩:=((hF a h5).dm x).1 hx;exact ⟨e,h1,h2,h3,ZIi (Reach.step _ _ _ d (Reach.refl _) hd rfl h5) h4⟩
 ·intro x;rw [h.em x];constructor
  ·rintro ⟨e,h1,rfl,h3,h4,h6⟩;rcases ZJ3 hn hd h6 with h5 | ⟨a,h5,h7⟩
   ·rw [ZFX hn h1 hd h5] at h4;exact absurd h4 ha
   ·exact ⟨a,h5,((hF a h5).em _).2 ⟨e,h1,rfl,h3,h4,h7⟩⟩
  ·rintro ⟨a,h5,hx⟩;obtain ⟨e,h1,h2,h3,h4,h6⟩:=((hF a h5).em x).1 hx;exact ⟨e,h1,h2,h3,h4,ZIi (Reach.step _ _ _ d (Reach.refl _) hd rfl h5) h6⟩
theorem ZGm {s:Sta} (hp:Prop' s) {d:Door} (hd:d∈s.Doors):-1≤d.Ended:=by
 obtain ⟨i,hi⟩:=ZLL hd;have h:=((Zd0 s i d).1 (hp.dr i d hi)).1;unfold QM ZD at h;simp only [ZL5,decide_eq_true_iff] at h;omega
theorem ZJg {s:Sta} (hp:Prop' s) {d:Door} (hd:d∈s.Doors) (he:d.Ended < 0):d.After.l=[]:=by
 obtain ⟨i,hi⟩:=ZLL hd;have h:=((Zd0 s i d).1 (hp.dr i d hi)).2.2.1;have h0:=ZGm hp hd;have h1:d.Ended=-1:=by omega
 unfold UC exD Yf at h;rw [h1] at h;cases c:d.After.l with
 | nil=>rfl
 | cons a r=>
  exfalso;rw [c] at h;simp at h
end Go.AM
namespace Go.AM
open Go
end Go.AM
namespace Go.AM
open Go
end Go.AM
namespace Go.AM
open Go
end Go.AM
namespace Go.AM
open Go
end Go.AM
namespace Go.AM
open Go
end Go.AM
namespace Go.AM
open Go
theorem ZJ4 (s:Sta):pfn rE 10 [stA s,.str emp]=some (.bool (YQ s)):=by
 rw [ZHm];have:decide (((emp:Str).size:Int)≤100)=true:=by decide
 rw [this,ZLm]
end Go.AM
namespace Go.AM
open Go
theorem ZJh {s:Sta} (h:YQ s=true):s.Doors.length≤16:=by
 simp only [YQ,M3,ZL5,ZLr] at h;obtain ⟨⟨_,_,_,d3,_⟩,_⟩:=h;have:=of_decide_eq_false d3;omega
end Go.AM
namespace Go.AM
open Go
end Go.AM
namespace Go.AM
open Go
structure Dst (R:Door→Door→Prop) (s t:Sta) (N:List Door):Prop where
 fw:∀ x∈s.Doors,∃ y∈t.Doors,R x y
 bw:∀ y∈t.Doors,(∃ x∈s.Doors,R x y)∨y∈N
 nw:∀ y∈N,y∈t.Doors
 dj:∀ x∈s.Doors,∀ y∈N,y.Id≠x.Id
 ln:t.Doors.length=s.Doors.length+N.length
 nd:(N.map (·.Id)).Nodup
end Go.AM
namespace Go.AM
open Go
end Go.AM
namespace Go.AM
open Go
end Go.AM
namespace Go.AM
open Go
end Go.AM
namespace Go.AM
open Go
end Go.AM
namespace Go.AM
open Go
theorem ZJi {E:List End} (h:E.Pairwise fun a b=>ltS a.Id b.Id):(E.map (·.Id)).Nodup:=by
 rw [List.nodup_iff_pairwise_ne,ZMk];refine h.imp ?_;intro a b hab he;rw [he] at hab;exact ZIV _ hab
theorem ZJ5 {s:Sta} {x:Str} (h:∃ d∈s.Doors,d.Id=x):decide (Zn s x < 0)=false:=by
 obtain ⟨d,hd,rfl⟩:=h;rw [ZEz];exact Ze8 (f:=fun d:Door=>d.Id) hd
end Go.AM
namespace Go.AM
open Go
end Go.AM
namespace Go.AM
open Go
end Go.AM
namespace Go.AM
open Go
structure IsOrg (s:Sta) (id:Str) (D:List Str):Prop where
 ds:D.Pairwise ltS
 dm:∀ x,x∈D↔∃ d∈s.Doors,d.Id=x∧(∀ c∈s.Doors,x ∉ c.After.l)∧Reach s x id
 dl:D.length≤500
end Go.AM
namespace Go.AM
open Go
end Go.AM
namespace Go.AM
open Go
def ZIJ (v:AV) (sz:Nat) (es:List AV) (tl:Hp):Prop:=(v=.isl false true sz []∧es=[])∨∃ b,v=.sl (b+1+1+1) es.length 0 es.length false∧tl[b]? = some (.row sz es)
theorem ZJ6 {v:AV} {sz:Nat} {es:List AV} {tl:Hp} (h:ZIJ v sz es tl):fits 1 v=true:=by
 rcases h with ⟨rfl,_⟩ | ⟨b,rfl,_⟩<;>rfl
theorem ZJ7 {v:AV} {sz:Nat} {es:List AV} {tl:Hp} (h:ZIJ v sz es tl) (p q r:AObj) (bytes:Nat) (ex:Bool) (ys:List AV) (hy:ys.all (fits sz)=true) (h0:0 < sz) (h1:0 < bytes) (h2:(es.length+ys.length) * bytes≤70368744177664):
 ∃ w tl',appW (p::q::r::tl) false sz bytes v (.isl false ex sz ys)=some (w,p::q::r::tl')∧ZIJ w sz (es++ys) tl'∧(∀ (j:Nat) (x:AObj),tl[j]? = some x→(∀ zs,x≠.row sz zs)→tl'[j]? = some x):=by
 rcases h with ⟨rfl,rfl⟩ | ⟨b,rfl,hb⟩
 ·cases ys with
  | nil=>exact ⟨_,tl,Z9Z (es:=[]) rfl (by simp [Qq]) h0 h1 (by simp),.inl ⟨rfl,rfl⟩,fun j x hx _=>hx⟩
  | cons y ys=>
   refine ⟨.sl (tl.length+3) (y::ys).length 0 (y::ys).length false,tl++[.row sz (y::ys)],?_,.inr ⟨tl.length,rfl,by simp⟩,fun j x hx _=>by rw [ZLF (ZLj.1 hx).1];exact hx⟩
   have:=Z2e (h:=p::q::r::tl) (aid:=(p::q::r::tl).length) (sz:=sz) (bytes:=bytes) (es:=[]) (ys:=y::ys) (bw:=false) (bw2:=false) (ex:=ex) rfl h0 h1 (by simpa using h2)
   unfold appW;rw [this];show some (AV.sl (List.length tl+3) (y::ys).length 0 (y::ys).length false,setH (p::q::r::tl) (p::q::r::tl).length (.row sz (y::ys)))=_
   rw [J1];rfl
 ·have hr:rowAt (p::q::r::tl) (b+3) es.length=some (sz,es):=by
   show rowAt tl b es.length=_
   unfold rowAt;rw [hb];simp
  have hbl:=(ZLj.1 hb).1;cases ys with
  | nil=>
   refine ⟨_,tl,Z9Z (es:=es) ?_ ?_ h0 h1 (by simpa using h2),.inr ⟨b,by simp,by simpa using hb⟩,fun j x hx _=>hx⟩
   ·show (match tl[b]? with | some (.row _ es')=>bif es'.length==es.length then some ((es'.drop 0).take es.length) else none | _=>none)=_
    rw [hb];simp
   ·show (match tl[b]? with | some (.row z _)=>z==sz | _=>false)=true
    rw [hb];simp
  | cons y ys=>
   refine ⟨.sl (b+3) (es.length+(y::ys).length) 0 (es.length+(y::ys).length) false,tl.set b (.row sz (es++y::ys)),?_,.inr ⟨b,by rw [ZLe],by simp [hbl]⟩,fun j x hx hne=>?_⟩
   ·rw [XC hr rfl hy h0 h1 h2];have:setH (p::q::r::tl) (b+3) (.row sz (es++y::ys))=p::q::r::tl.set b (.row sz (es++y::ys)):=by
     rw [show b+3=b+1+1+1 from rfl,GN,GN,GN]
     unfold setH;rw [show Nat.blt b tl.length=true by simpa using hbl,cond_true]
    rw [this]
   ·by_cases hj:j=b
    ·subst hj;rw [hb] at hx;exact absurd (Option.some.inj hx).symm (hne es)
    ·rw [ZMm (fun e=>hj e.symm)];exact hx
theorem ZIZ {v:AV} {sz:Nat} {es:List AV} {tl tl':Hp} (h:ZIJ v sz es tl) (hk:∀ (j:Nat) (x:AObj),tl[j]? = some x→(∃ zs,x=.row sz zs)→tl'[j]? = some x):ZIJ v sz es tl':=by
 rcases h with h | ⟨b,h1,h2⟩
 ·exact .inl h
 ·exact .inr ⟨b,h1,hk b _ h2 ⟨_,rfl⟩⟩
theorem ZIT {v1 v2:AV} {es1 es2:List AV} {tl:Hp} (H1:ZIJ v1 1 es1 tl) (H2:ZIJ v2 3 es2 tl) (p q:AObj) (n:Nat) (fr:Fr):
 ∃ tl',Xq (n+1+1+1) fr (p::q::.row 2 [.agg [v1,v2]]::tl)=p::q::.row 2 [.agg [v1,v2]]::tl'∧ZIJ v1 1 es1 tl'∧ZIJ v2 3 es2 tl'∧∀ j,j < n→tl'[j]? = tl[j]?:=by
 unfold Xq;cases c:Zd (n+1+1+1) (fr.map (·.2))&&X4 (n+1+1+1) ((p::q::.row 2 [.agg [v1,v2]]::tl).take (n+1+1+1)) with
 | false=>exact ⟨tl,rfl,H1,H2,fun _ _=>rfl⟩
 | true=>
  have ht:(p::q::AObj.row 2 [.agg [v1,v2]]::tl).take (n+1+1+1)=p::q::.row 2 [.agg [v1,v2]]::tl.take n:=rfl;rw [ZL5] at c;have c2:=c.2;rw [ht] at c2;simp only [X4,Zj,Zd,bel,ZL5,ZLm] at c2;have key:∀ {v:AV} {sz:Nat} {es:List AV},ZIJ v sz es tl→bel (n+1+1+1) v=true→ZIJ v sz es (tl.take n):=by
   intro v sz es h hb;rcases h with h | ⟨b,rfl,h2⟩
   ·exact .inl h
   ·have:b+3 < n+1+1+1:=by simpa [bel] using hb
    exact .inr ⟨b,rfl,by rw [ZLV,if_pos (by omega)];exact h2⟩
  exact ⟨tl.take n,by rw [cond_true,ht],key H1 c2.2.2.1.1,key H2 c2.2.2.1.2,fun j hj=>by rw [ZLV,if_pos hj]⟩
end Go.AM
namespace Go.AM
open Go
def h3 (p q r:AObj) (tl:Hp):Hp:=p::q::r::tl
theorem ZIM (p q r:AObj) (X:Hp) (g:Nat):rowAt (h3 p q r X) 0 g=rowAt [p] 0 g:=rfl
theorem ZIN (p q r:AObj) (X:Hp) (g:Nat):rowAt (h3 p q r X) 1 g=rowAt [q] 0 g:=rfl
theorem ZIO (p q r:AObj) (X:Hp) (g:Nat):rowAt (h3 p q r X) 2 g=rowAt [r] 0 g:=rfl
theorem ZIP (p q r:AObj) (X:Hp) (n g:Nat):rowAt (h3 p q r X) (n+1+1+1) g=rowAt X n g:=rfl
theorem ZJj (p q r o:AObj) (X:Hp):setH (h3 p q r X) 2 o=h3 p q o X:=rfl
theorem ZJk (p q r o:AObj) (X:Hp) (n:Nat):setH (h3 p q r X) (n+1+1+1) o=h3 p q r (setH X n o):=by
 unfold h3;rw [GN,GN,GN]
theorem ZJ8 (p q r:AObj) (X:Hp):(h3 p q r X).length=X.length+1+1+1:=rfl
theorem ZJl (p q r x:AObj) (X:Hp):h3 p q r X++[x]=h3 p q r (X++[x]):=rfl
theorem ZJ9 {v:AV} {sz:Nat} {es:List AV} {tl:Hp} (h:ZIJ v sz es tl):v.cells=[v]:=by
 rcases h with ⟨rfl,_⟩ | ⟨b,rfl,_⟩<;>rfl
theorem ZJm (n:Nat) (fr:Fr) (h:Hp) (e:Zd n (fr.map (·.2))=false):Xq n fr h=h:=by
 unfold Xq;rw [e];rfl
theorem ZJn (s:Sta) (d:Door) (D:List Str) (E:List End) (i:Nat) (a:Str) (ha:d.After.l[i]? = some a) (hi:i < 1000) (FD:List Str) (Zz9:List End) (hf:pfn rE 12 [stA s,.str a]=some (.tup [ftA false false FD Zz9,I 0])) (hw:pfn rE 14 [ftA false false FD Zz9,ftA false false D E]=some (.bool true))
 (v1 v2:AV) (tl:Hp) (es1 es2:List AV) (H1:ZIJ v1 1 es1 tl) (H2:ZIJ v2 3 es2 tl) (l1:es1.length≤1000000) (l2:es2.length≤1000000) (l3:FD.length≤1000) (l4:Zz9.length≤1000):
 ∃ w1 w2 tl',Zb rE c3L0b [(2,.iptr false (grC s)),(5,.bool true),(6,.ptr 0 0 0 1),(7,.ptr 1 0 0 1),(9,.ptr 2 0 0 1),(10,I i)] (h3 (.row 16 [d.enc]) (.row 2 [ftA false false D E]) (.row 2 [.agg [v1,v2]]) tl) =
  some (.normal,[(2,.iptr false (grC s)),(4,.bot),(5,.bool true),(6,.ptr 0 0 0 1),(7,.ptr 1 0 0 1),(9,.ptr 2 0 0 1),(10,I (i+1:Nat))],h3 (.row 16 [d.enc]) (.row 2 [ftA false false D E]) (.row 2 [.agg [w1,w2]]) tl')∧
  ZIJ w1 1 (es1++FD.map encS) tl'∧ZIJ w2 3 (es2++Zz9.map End.enc) tl':=by
 have hl:=(ZLj.1 ha).1;have hg:=Z6 (f:=encS) ha;have hi':=Zh hl;have hwr:=Zx (n:=i) (by omega)
 have h00:((0:Int) != 0)=false:=rfl;have hbox:∀ {v:AV} {sz:Nat} {es:List AV},ZIJ v sz es tl→ZIJ v sz es (tl++[.row 2 [ftA false false FD Zz9]]):=fun h=>ZIZ h fun j x hx _=>by
  rw [ZLF (ZLj.1 hx).1];exact hx
 have hn:∀ {n sz:Nat} {v:AV} {L:List AV},n≠sz→∀ zs,AObj.row n [v]≠.row sz zs:=fun h zs e=>h (by cases e;rfl)
 obtain ⟨w1,t1,a1,V1,k1⟩:=ZJ7 (hbox H1) (.row 16 [d.enc]) (.row 2 [ftA false false D E]) (.row 2 [.agg [v1,v2]]) 16 false (FD.map encS) (Xj (fun _=>rfl) _) (by omega) (by omega) (by simp;omega)
 have V2:ZIJ v2 3 es2 t1:=ZIZ (hbox H2) fun j x hx ⟨zs,hz⟩=>k1 j x hx (fun zs' e=>by rw [hz] at e;cases e)
 have b1:t1[tl.length]? = some (.row 2 [ftA false false FD Zz9]):=k1 tl.length _ (by simp) (fun zs e=>by cases e)
 obtain ⟨t2,q2,V1,V2,k2⟩:=ZIT V1 V2 (.row 16 [d.enc]) (.row 2 [ftA false false D E]) (tl.length+1) [(2,.iptr false (grC s)),(5,.bool true),(6,.ptr 0 0 0 1),(7,.ptr 1 0 0 1),(9,.ptr 2 0 0 1),(10,I i),(11,.ptr (tl.length+1+1+1) 0 0 1)];have b2:t2[tl.length]? = some (.row 2 [ftA false false FD Zz9]):=by rw [k2 _ (by omega)];exact b1
 have r2:rowAt t2 tl.length 1=some (2,[ftA false false FD Zz9]):=by unfold rowAt;rw [b2];rfl
 obtain ⟨w2,t3,a3,W2,k3⟩:=ZJ7 V2 (.row 16 [d.enc]) (.row 2 [ftA false false D E]) (.row 2 [.agg [w1,v2]]) 32 false (Zz9.map End.enc) (Xj (fun _=>rfl) _) (by omega) (by omega) (by simp;omega)
 have V1:ZIJ w1 1 (es1++FD.map encS) t3:=ZIZ V1 fun j x hx ⟨zs,hz⟩=>k3 j x hx (fun zs' e=>by rw [hz] at e;cases e)
 obtain ⟨t4,q4,V1,V2,k4⟩:=ZIT V1 W2 (.row 16 [d.enc]) (.row 2 [ftA false false D E]) t2.length [(2,.iptr false (grC s)),(5,.bool true),(6,.ptr 0 0 0 1),(7,.ptr 1 0 0 1),(9,.ptr 2 0 0 1),(10,I i)];obtain ⟨t5,q5,V1,V2,k5⟩:=ZIT V1 V2 (.row 16 [d.enc]) (.row 2 [ftA false false D E]) tl.length [(2,.iptr false (grC s)),(4,.bot),(5,.bool true),(6,.ptr 0 0 0 1),(7,.ptr 1 0 0 1),(9,.ptr 2 0 0 1),(10,I i)];obtain ⟨t6,q6,V1,V2,k6⟩:=ZIT V1 V2 (.row 16 [d.enc]) (.row 2 [ftA false false D E]) tl.length [(2,.iptr false (grC s)),(4,.bot),(5,.bool true),(6,.ptr 0 0 0 1),(7,.ptr 1 0 0 1),(9,.ptr 2 0 0 1),(10,I (i+1:Nat))];have f1:fits 1 w1=true:=ZJ6 V1;have f2:fits 1 w2=true:=ZJ6 V2;have t0:∀ (fr:Fr) (X:Hp) (p q r:AObj),Xq (X.length+1+1+1) fr (h3 p q r X)=h3 p q r X:=fun fr X p q r=>ZE5 rfl
 have ne0:∀ k:Nat,(k+1==0)=false:=fun k=>rfl
 have ne1:∀ k:Nat,(k+1+1==1)=false:=fun k=>rfl
 have hset:∀ x y:AObj,setH (tl++[x]) tl.length y=tl++[y]:=fun x y=>ZEp tl x y
 have hsl:decide (tl.length+1+1+1 < tl.length+1+1+1)=false:=decide_eq_false (Nat.lt_irrefl _);have tb:∀ (fr:Fr) (p q r x:AObj),Xq (tl.length+1+1+1+1) fr (h3 p q r (tl++[x]))=h3 p q r (tl++[x]):=fun fr p q r x=>ZE5 (by simp [h3])
 have t11:∀ (x:AV) (h:Hp),Xq (tl.length+1+1+1) [(2,.iptr false (grC s)),(5,.bool true),(6,.ptr 0 0 0 1),(7,.ptr 1 0 0 1),(9,.ptr 2 0 0 1),(10,I i),(11,.ptr (tl.length+1+1+1) 0 0 1),(12,x)] h=h:=fun x h=>ZJm _ _ _ (by
  have hn:Nat.blt (tl.length+1+1+1) (tl.length+1+1+1)=false:=by rw [ZLY];simp [ZLN]
  simp [Zd,bel,hn])
 have c1:w1.cells=[w1]:=ZJ9 V1;have c2:w2.cells=[w2]:=ZJ9 V2;have a1:appW (h3 (.row 16 [d.enc]) (.row 2 [ftA false false D E]) (.row 2 [.agg [v1,v2]]) (tl++[.row 2 [ftA false false FD Zz9]])) false 1 16 v1 _=some (w1,h3 (.row 16 [d.enc]) (.row 2 [ftA false false D E]) (.row 2 [.agg [v1,v2]]) t1):=a1;have a3:appW (h3 (.row 16 [d.enc]) (.row 2 [ftA false false D E]) (.row 2 [.agg [w1,v2]]) t2) false 3 32 v2 _=some (w2,h3 (.row 16 [d.enc]) (.row 2 [ftA false false D E]) (.row 2 [.agg [w1,v2]]) t3):=a3;have q2:Xq _ _ (h3 (.row 16 [d.enc]) (.row 2 [ftA false false D E]) (.row 2 [.agg [w1,v2]]) t1)=h3 (.row 16 [d.enc]) (.row 2 [ftA false false D E]) (.row 2 [.agg [w1,v2]]) t2:=q2;have q4:Xq _ _ (h3 (.row 16 [d.enc]) (.row 2 [ftA false false D E]) (.row 2 [.agg [w1,w2]]) t3)=h3 (.row 16 [d.enc]) (.row 2 [ftA false false D E]) (.row 2 [.agg [w1,w2]]) t4:=q4;have q5:Xq _ _ (h3 (.row 16 [d.enc]) (.row 2 [ftA false false D E]) (.row 2 [.agg [w1,w2]]) t4)=h3 (.row 16 [d.enc]) (.row 2 [ftA false false D E]) (.row 2 [.agg [w1,w2]]) t5:=q5;have q6:Xq _ _ (h3 (.row 16 [d.enc]) (.row 2 [ftA false false D E]) (.row 2 [.agg [w1,w2]]) t5)=h3 (.row 16 [d.enc]) (.row 2 [ftA false false D E]) (.row 2 [.agg [w1,w2]]) t6:=q6;refine ⟨w1,w2,t6,?_,V1,V2⟩;simp only [stA] at hf;simp only [ftA,Door.enc,NL.enc,grC] at hf hw a1 a3 q2 q4 q5 q6 r2 t11 ⊢;simp only [go_sem,qy,qq,qk,reduceIte,ZIM,ZIN,ZIO,ZIP,ZJj,ZJk,ZJ8,ZJl,c1,c2,c3L0b,hg,encS,hi',hwr,h00,hf,hw,a1,a3,q2,q4,q5,q6,r2,f1,f2,t0,tb,t11,ne0,hset,ZL6]
end Go.AM
namespace Go.AM
open Go
theorem ZJa {α β:Type} {f:α→List β} {l:List α} {i:Nat} {x:α} (h:l[i]? = some x):(l.take (i+1)).flatMap f=(l.take i).flatMap f++f x:=by
 have hi:=(ZLj.1 h);rw [ZMr hi.1,List.flatMap_append,hi.2];simp
theorem ZIU {α β:Type} {f:α→List β} {c:Nat}:∀ (l:List α),(∀ x∈l,(f x).length≤c)→(l.flatMap f).length≤l.length * c
 | [],_=>by simp
 | x::l,h=>by
  have h1:=ZIU l fun y hy=>h y (ZM5 _ hy)
  have h2:=h x ZLK;rw [List.flatMap_cons,ZLe,ZLa,Nat.add_mul];omega
theorem ZJo (s:Sta) (d:Door) (D:List Str) (E:List End) (hl:d.After.l.length≤100) (F:Str→List Str×List End) (hf:∀ a∈d.After.l,pfn rE 12 [stA s,.str a]=some (.tup [ftA false false (F a).1 (F a).2,I 0])) (hw:∀ a∈d.After.l,pfn rE 14 [ftA false false (F a).1 (F a).2,ftA false false D E]=some (.bool true))
 (h3:∀ a∈d.After.l,(F a).1.length≤500) (h4:∀ a∈d.After.l,(F a).2.length≤500):
 ∃ fr' v1 v2 tl,Zg rE [2,5,6,7,9,10] c3L0b [(2,.iptr false (grC s)),(5,.bool true),(6,.ptr 0 0 0 1),(7,.ptr 1 0 0 1),(9,.ptr 2 0 0 1),(10,.int .i64 0)] (AM.h3 (.row 16 [d.enc]) (.row 2 [ftA false false D E]) (.row 2 [.agg [.isl false true 1 [],.isl false true 3 []]]) []) =
  some (.exit 0,fr',AM.h3 (.row 16 [d.enc]) (.row 2 [ftA false false D E]) (.row 2 [.agg [v1,v2]]) tl)∧get fr' 4=.bot∧get fr' 5=.bool true∧get fr' 7=.ptr 1 0 0 1∧get fr' 9=.ptr 2 0 0 1∧
  ZIJ v1 1 ((d.After.l.flatMap fun a=>(F a).1).map encS) tl∧ZIJ v2 3 ((d.After.l.flatMap fun a=>(F a).2).map End.enc) tl:=by
 have L:=Z9Y (E:=rE) (live:=[2,5,6,7,9,10]) (b:=c3L0b) d.After.l.length
  (fun i fr h=>∃ v1 v2 tl,fr=[(2,.iptr false (grC s)),(5,.bool true),(6,.ptr 0 0 0 1),(7,.ptr 1 0 0 1),(9,.ptr 2 0 0 1),(10,I i)]∧h=AM.h3 (.row 16 [d.enc]) (.row 2 [ftA false false D E]) (.row 2 [.agg [v1,v2]]) tl∧
   ZIJ v1 1 (((d.After.l.take i).flatMap fun a=>(F a).1).map encS) tl∧ZIJ v2 3 (((d.After.l.take i).flatMap fun a=>(F a).2).map End.enc) tl)
  (fun e fr' h=>e=.exit 0∧∃ v1 v2 tl,h=AM.h3 (.row 16 [d.enc]) (.row 2 [ftA false false D E]) (.row 2 [.agg [v1,v2]]) tl∧get fr' 4=.bot∧get fr' 5=.bool true∧get fr' 7=.ptr 1 0 0 1∧get fr' 9=.ptr 2 0 0 1∧
   ZIJ v1 1 ((d.After.l.flatMap fun a=>(F a).1).map encS) tl∧ZIJ v2 3 ((d.After.l.flatMap fun a=>(F a).2).map End.enc) tl)
  (fun i fr h ⟨v1,v2,tl,e,_⟩=>by rw [e];rfl)
  (fun i fr h hi ⟨v1,v2,tl,e1,e2,H1,H2⟩=>by
   subst e1;subst e2;obtain ⟨a,ha⟩:∃ a,d.After.l[i]? = some a:=⟨_,ZLb hi⟩;have hm:=ZLl ha;have b1:=ZIU (f:=fun a=>(F a).1) (c:=500) (d.After.l.take i) fun x hx=>h3 x (ZM8 hx)
   have b2:=ZIU (f:=fun a=>(F a).2) (c:=500) (d.After.l.take i) fun x hx=>h4 x (ZM8 hx)
   have b3:(d.After.l.take i).length≤100:=by rw [ZMg];omega
   obtain ⟨w1,w2,t',r1,V1,V2⟩:=ZJn s d D E i a ha (by omega) (F a).1 (F a).2 (hf a hm) (hw a hm) v1 v2 tl _ _ H1 H2 (by rw [ZL6];omega) (by rw [ZL6];omega) (by have:=h3 a hm;omega) (by have:=h4 a hm;omega)
   refine .inl ⟨_,_,r1,w1,w2,t',by simp only [go_sem,qy],rfl,?_,?_⟩
   ·rw [ZJa ha,ZLd];exact V1
   ·rw [ZJa ha,ZLd];exact V2)
  (fun fr h ⟨v1,v2,tl,e1,e2,H1,H2⟩=>by
   subst e1;subst e2;rw [ZLt] at H1 H2;have t0:∀ (fr:Fr) (X:Hp) (p q r:AObj),Xq (X.length+1+1+1) fr (AM.h3 p q r X)=AM.h3 p q r X:=fun fr X p q r=>ZE5 rfl
   refine ⟨.exit 0,_,_,by simp only [go_sem,qy,qq,reduceIte,ZIM,ZJ8,t0,c3L0b,grC,Door.enc,NL.enc,ZG,ZL6];rfl,by simp,rfl,v1,v2,tl,by simp only [Door.enc,NL.enc],?_,?_,?_,?_,H1,H2⟩<;>simp only [go_sem,qy])
 obtain ⟨e,fr',h',l1,rfl,v1,v2,tl,rfl,g4,g5,g7,g9,V1,V2⟩:=L d.After.l.length 0 _ _ (by omega) ⟨_,_,[],rfl,rfl,.inl ⟨rfl,rfl⟩,.inl ⟨rfl,rfl⟩⟩
 exact ⟨fr',v1,v2,tl,l1,g4,g5,g7,g9,V1,V2⟩
theorem ZJp (hup:pfn rE 9 []=some (.bool true)) (s:Sta) (raw:AV) (h:(YQ s&&(!(s.Doors.length==0)&&Jx s))=false):pfn rE 3 [stA s,raw]=some (.bool true):=by
 have hf:=ZJ4 s;cases c1:YQ s with
 | false=>
  rw [c1] at hf;rw [Z5 (f:=3) rfl rfl];simp only [go_sem,qy,qq,qk,c3,hup,hf,ZLq]
 | true=>
 rw [c1] at hf;cases c5:s.Doors.length==0 with
 | true=>
  have hz:((s.Doors.length:Int)==0)=true:=by
   rw [beq_iff_eq] at c5 ⊢;omega
  rw [Z5 (f:=3) rfl rfl];simp only [go_sem,qy,qq,qk,reduceIte,c3,hup,hf,hz,ZL6,ZLp]
 | false=>
 have hz:((s.Doors.length:Int)==0)=false:=by
  rw [beq_eq_false_iff_ne] at c5 ⊢;omega
 have hpr:=Z3i s (Kl s c1).e;have c2:Jx s=false:=by rw [c1,c5] at h;simpa using h
 rw [c2] at hpr;rw [Z5 (f:=3) rfl rfl];simp only [go_sem,qy,qq,qk,reduceIte,c3,hup,hf,hz,hpr,ZL6,ZLp,ZLq]
theorem ZIY {tl:Hp} {b sz:Nat} {es:List AV} (h:tl[b]? = some (.row sz es)):rowAt tl b es.length=some (sz,es):=by
 unfold rowAt;rw [h];simp
theorem ZJq {s:Sta} (h:YQ s=true) {d:Door} (hd:d∈s.Doors):d.After.l.length≤16:=by
 unfold YQ at h;simp only [ZL5] at h;have:=ZLh.1 h.2.2.2.2.1 d hd;unfold WT at this;simp only [ZL5,ZLr] at this;have:=of_decide_eq_false this.2.1;omega
theorem ZJr (hup:pfn rE 9 []=some (.bool true)) (s:Sta) (n:Nat) (hn:n < 256) (c1:YQ s=true) (c5:(s.Doors.length==0)=false) (c2:Jx s=true):pfn rE 3 [stA s,.int .u8 n]=some (.bool true):=by
 have hf:=ZJ4 s;have hs:=Kl s c1;rw [c1] at hf;have hpr:=Z3i s hs.e;rw [c2] at hpr;have hp:=((Zdb s).1 c2).1;have hz:((s.Doors.length:Int)==0)=false:=by
  rw [beq_eq_false_iff_ne] at c5 ⊢;omega
 have hpos:0 < s.Doors.length:=by rw [beq_eq_false_iff_ne] at c5;omega
 obtain ⟨d,hd⟩:∃ d,s.Doors[n % s.Doors.length]? = some d:=⟨_,ZLb (ZLP _ hpos)⟩;have hdm:=ZLl hd;have hg:=Z6 (f:=Door.enc) hd;have hw:IntKind.i64.wrap (n:Int)=n:=YM (by omega) (by omega)
 have hnz:=nat_ne hpos;have hi1:(0≤((n % s.Doors.length:Nat):Int))=True:=eq_true (Int.natCast_nonneg _);have hi2:((n % s.Doors.length:Nat):Int).toNat=n % s.Doors.length:=ZMj _;have h00:((0:Int) != 0)=false:=rfl;have hN:=hs.doors;have hnd:=ZEF hp;obtain ⟨D,E,f1,F1⟩:=ZHv s c2 hs.e hN d.Id (ZJ5 ⟨d,hdm,rfl⟩);have hal:=(hs.e.doors d hdm).after;have hge:=ZGm hp hdm;cases k1:d.Ended==-1 with
 | true=>
  have he:d.Ended < 0:=by rw [eq_of_beq k1];decide
  obtain ⟨rfl,rfl⟩:=ZJd hnd hdm (ZJg hp hdm he) he F1;have sm:=ZF5 false false false false [d.Id] [d.Id] [] [] (by simp) (by simp)
  rw [ZIe] at sm;simp only [stA] at hf hpr f1;simp only [ftA,ZLk,ZLv,encS] at f1 sm;rw [Z5 (f:=3) rfl rfl];simp only [go_sem,qy,qq,qv,qk,reduceIte,c3,c3L0,stA,hup,hf,hz,hpr,hw,hnz,h00,if_true,Jc,ZL6,ZLp,ZLq,hg,Door.enc,NL.enc,f1,k1,sm]
 | false=>
 have he:¬ d.Ended < 0:=by
  have:d.Ended≠-1:=by simpa using k1
  omega
 cases k2:d.After.l with
 | nil=>
  obtain ⟨rfl,rfl⟩:=ZJe hnd hdm k2 he F1;have sm:=ZF5 false false false false [] [] [ZEk d] [ZEk d] (by simp) (by simp)
  rw [ZIe] at sm;have z0:(((0:Nat):Int)==0)=true:=rfl;simp only [stA] at hf hpr f1;simp only [ftA,ZLk,ZLv,End.enc,ZEk] at f1 sm;rw [Z5 (f:=3) rfl rfl];simp only [go_sem,qy,qq,qv,qk,reduceIte,c3,c3L0,stA,hup,hf,hz,hpr,hw,hnz,h00,if_true,Jc,ZL6,ZLp,ZLq,hg,Door.enc,NL.enc,f1,k1,k2,z0,sm,ZLv,ZLu]
 | cons a0 r0=>
  have hne:d.After.l≠[]:=by rw [k2];simp
  have hzl:((d.After.l.length:Int)==0)=false:=by
   rw [beq_eq_false_iff_ne,k2,ZLa];omega
  have hex:∀ a∈d.After.l,∃ X:List Str×List End,pfn rE 12 [stA s,.str a]=some (.tup [ftA false false X.1 X.2,I 0])∧IsFate s a X.1 X.2:=fun a ha=>by
   obtain ⟨D',E',g1,g2⟩:=ZHv s c2 hs.e hN a (ZJ5 (ZHn hp hdm ha));exact ⟨(D',E'),g1,g2⟩
  obtain ⟨F,hF⟩:∃ F:Str→List Str×List End,∀ a∈d.After.l,pfn rE 12 [stA s,.str a]=some (.tup [ftA false false (F a).1 (F a).2,I 0])∧IsFate s a (F a).1 (F a).2:=
   ⟨fun a=>Classical.epsilon fun X:List Str×List End=>pfn rE 12 [stA s,.str a]=some (.tup [ftA false false X.1 X.2,I 0])∧IsFate s a X.1 X.2,fun a ha=>Classical.epsilon_spec (hex a ha)⟩
  obtain ⟨m1,m2⟩:=ZJf hnd hdm hne he F1 F (fun a ha=>(hF a ha).2)
  have bD:=F1.dl;have bE:=F1.el;obtain ⟨fr',v1,v2,tl,l1,g4,g5,g7,g9,V1,V2⟩:=ZJo s d D E hal F (fun a ha=>(hF a ha).1) (fun a ha=>by
   have:=ZJb false false false false (F a).1 D (F a).2 E (by have:=(hF a ha).2.dl;omega) (by have:=(hF a ha).2.el;omega) (by omega) (by omega)
   rw [within_iff.2 ⟨fun x hx=>(m1 x).2 ⟨a,ha,hx⟩,fun x hx=>(m2 x).2 ⟨a,ha,hx⟩⟩] at this
   exact this) (fun a ha=>(hF a ha).2.dl) (fun a ha=>(hF a ha).2.el)
  obtain ⟨bA,bB⟩:(d.After.l.flatMap fun a=>(F a).1).length≤1000∧(d.After.l.flatMap fun a=>(F a).2).length≤1000:=by
   have hA:=ZJq c1 hdm;have hD16:=ZJh c1;have b1:=ZIU (f:=fun a=>(F a).1) (c:=16) d.After.l fun a ha=>by
    have:=ZF6 _ _ (hF a ha).2.dn (fun x hx=>by
     obtain ⟨c,hc,hci,_⟩:=((hF a ha).2.dm x).1 hx;exact hci▸ZLW (f:=fun d:Door=>d.Id) hc)
    rw [ZL6] at this;omega
   have b2:=ZIU (f:=fun a=>(F a).2) (c:=16) d.After.l fun a ha=>by
    have:=ZF6 _ _ (ZJi (hF a ha).2.es) (fun x hx=>by
     obtain ⟨e0,he0,rfl⟩:=ZLD.1 hx;obtain ⟨c,hc,hce,_⟩:=((hF a ha).2.em e0).1 he0;exact (show e0.Id=c.Id by rw [hce];rfl)▸ZLW (f:=fun d:Door=>d.Id) hc)
    rw [ZL6,ZL6] at this;omega
   omega
  have n1:∀ x∈D,x∈d.After.l.flatMap fun a=>(F a).1:=fun x hx=>List.mem_flatMap.2 ((m1 x).1 hx)
  have n2:∀ x∈E,x∈d.After.l.flatMap fun a=>(F a).2:=fun x hx=>List.mem_flatMap.2 ((m2 x).1 hx)
  generalize (d.After.l.flatMap fun a=>(F a).1)=A at *
  generalize (d.After.l.flatMap fun a=>(F a).2)=B at *
  have hcA:Z4 (A.map encS)=true:=Zw (fun _=>rfl) _
  have hcB:Z4 (B.map End.enc)=true:=Zw (fun _=>rfl) _
  have hkA:((A.map encS).drop 0).take A.length=A.map encS:=by rw [ZLE];exact ZLg (by simp)
  have hkB:((B.map End.enc).drop 0).take B.length=B.map End.enc:=by rw [ZLE];exact ZLg (by simp)
  rw [ZLE] at hkA hkB;have l1:Zg rE [2,5,6,7,9,10] c3L0b _ [.row 16 [d.enc],.row 2 [ftA false false D E],.row 2 [.agg [.isl false true 1 [],.isl false true 3 []]]]=_:=l1;obtain ⟨tl',q7,V1,V2,_⟩:=ZIT V1 V2 (.row 16 [d.enc]) (.row 2 [ftA false false D E]) 0 [(4,.bot),(5,.bool true),(7,.ptr 1 0 0 1),(9,.ptr 2 0 0 1)];have q7:Xq 3 _ (AM.h3 (.row 16 [d.enc]) (.row 2 [ftA false false D E]) (.row 2 [.agg [v1,v2]]) tl)=AM.h3 (.row 16 [d.enc]) (.row 2 [ftA false false D E]) (.row 2 [.agg [v1,v2]]) tl':=q7;simp only [grC,Door.enc,NL.enc,stA] at l1 hf hpr f1 q7;simp only [ftA] at f1 q7;rcases V1 with ⟨rfl,e1⟩ | ⟨b1,rfl,hb1⟩<;>rcases V2 with ⟨rfl,e2⟩ | ⟨b2,rfl,hb2⟩
  ·have e1:A=[]:=ZMn.1 e1;have e2:B=[]:=ZMn.1 e2;subst e1;subst e2;have hwi:=ZIR false false false false true true D [] E [] (by omega) (by omega) (by simp) (by simp)
   rw [within_iff.2 ⟨n1,n2⟩] at hwi;simp only [ftA,ZLv] at hwi l1 q7;rw [Z5 (f:=3) rfl rfl];simp only [go_sem,qy,qq,qv,qk,reduceIte,ZIN,ZIO,c3,c3L0,stA,hup,hf,hz,hpr,hw,hnz,h00,if_true,Jc,ZL6,ZLp,ZLq,hg,Door.enc,NL.enc,f1,k1,hzl,l1,q7,g4,g5,g7,g9,hwi,ZLE]
  ·have e1:A=[]:=ZMn.1 e1;subst e1;have hwi:=ZIR false false false true true false D [] E B (by omega) (by omega) (by simp) (by omega)
   rw [within_iff.2 ⟨n1,n2⟩] at hwi;have r2:=ZIY hb2;simp only [ftA,ZLv,ZL6] at hwi l1 q7 r2;rw [Z5 (f:=3) rfl rfl];simp only [go_sem,qy,qq,qv,qk,reduceIte,ZIN,ZIO,ZIP,c3,c3L0,stA,hup,hf,hz,hpr,hw,hnz,h00,if_true,Jc,ZL6,ZLp,ZLq,hg,Door.enc,NL.enc,f1,k1,hzl,l1,q7,g4,g5,g7,g9,hwi,r2,hcB,hkB,ZLE]
  ·have e2:B=[]:=ZMn.1 e2;subst e2;have hwi:=ZIR false false true false false true D A E [] (by omega) (by omega) (by omega) (by simp)
   rw [within_iff.2 ⟨n1,n2⟩] at hwi;have r1:=ZIY hb1;simp only [ftA,ZLv,ZL6] at hwi l1 q7 r1;rw [Z5 (f:=3) rfl rfl];simp only [go_sem,qy,qq,qv,qk,reduceIte,ZIN,ZIO,ZIP,c3,c3L0,stA,hup,hf,hz,hpr,hw,hnz,h00,if_true,Jc,ZL6,ZLp,ZLq,hg,Door.enc,NL.enc,f1,k1,hzl,l1,q7,g4,g5,g7,g9,hwi,r1,hcA,hkA,ZLE]
  ·skip
   have hwi:=ZIR false false true true false false D A E B (by omega) (by omega) (by omega) (by omega)
   rw [within_iff.2 ⟨n1,n2⟩] at hwi;have r1:=ZIY hb1;have r2:=ZIY hb2;simp only [ftA,ZL6] at hwi l1 q7 r1 r2;rw [Z5 (f:=3) rfl rfl];simp only [go_sem,qy,qq,qv,qk,reduceIte,ZIN,ZIO,ZIP,c3,c3L0,stA,hup,hf,hz,hpr,hw,hnz,h00,if_true,Jc,ZL6,ZLp,ZLq,hg,Door.enc,NL.enc,f1,k1,hzl,l1,q7,g4,g5,g7,g9,hwi,r1,r2,hcA,hcB,hkA,hkB,ZLE]
theorem ZCp (hup:pfn rE 9 []=some (.bool true)) (s:Sta) (n:Nat) (hn:n < 256):pfn rE 3 [stA s,.int .u8 n]=some (.bool true):=by
 cases h:YQ s&&(!(s.Doors.length==0)&&Jx s) with
 | false=>exact ZJp hup s _ h
 | true=>
  simp only [ZL5,ZLr] at h;exact ZJr hup s n hn h.1 h.2.1 h.2.2
end Go.AM
