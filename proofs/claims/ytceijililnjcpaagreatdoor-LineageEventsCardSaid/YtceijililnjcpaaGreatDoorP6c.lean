/- What the functions of the program compute, part 3, for LineageEvents. No condition. -/
import Derived.Test.YtceijililnjcpaaGreatDoorP6b
import Derived.Test.YtceijililnjcpaaGreatDoorQ5
set_option linter.unusedVariables false
set_option linter.unusedSimpArgs false
set_option linter.unusedSectionVars false
open Nat renaming reduceAdd → qq, reduceSub → qx, reduceMul → qz, reduceLT → qv, reduceLeDiff → qk, reduceBEq → qy
namespace Go.AM
open Go
theorem Z4M (E:Env) (hf:E.fn 37=some a37) (hs:E.sum 37=none) (v:Str):pfn E 37 [.str v]=some (.str v):=by
 rw [Z5 (f:=37) hs hf];simp only [go_sem,qy,qq,c37]
theorem ZGM (E:Env) (hf:E.fn 39=some a39) (hs:E.sum 39=none) (v:Str) (a b:Int):pfn E 39 [.agg [.str v,I a,I b]]=some (.str v):=by
 rw [Z5 (f:=39) hs hf];simp only [go_sem,qy,qq,c39]
theorem ZFO (v:Str):pfn e0 121 [.str v]=some (.bool false):=by
 have hn:Z3 v v=true:=by unfold Z3;simp
 rw [Z5 (f:=121) rfl rfl];simp only [go_sem,qy,qq,c121,hn,ZLA]
theorem ZEA (a b:Str):WW a b=decide (a.data.toList < b.data.toList):=by
 unfold WW;rw [Go.Proofs.bytesLess_eq]
theorem ZFP (a b:Str):pfn e0 74 [.str a,.str b]=some (I (ZEg a.data.toList b.data.toList)):=by
 have h1:=ZFO a;have h2:=ZFO b;unfold ZEg;rw [←ZEA,←ZEA];rw [Z5 (f:=74) rfl rfl];cases c:WW a b with
 | true=>simp only [go_sem,qy,qq,c74,h1,h2,c]
 | false=>
  cases c2:WW b a with
  | true=>
   have c3:Z3 a b=false:=by
    cases h:Z3 a b with
    | false=>rfl
    | true=>
     exfalso;have he:a.data.toList=b.data.toList:=by unfold Z3 at h;simpa using h
     rw [ZEA,he,decide_eq_true_iff] at c2;exact List.lt_irrefl _ c2
   simp only [go_sem,qy,qq,c74,h1,h2,c,c3,ZLv,Bool.or_false]
  | false=>
   have c3:Z3 a b=true:=by
    rw [ZEA,decide_eq_false_iff_not] at c c2;unfold Z3;simp only [beq_iff_eq];exact List.le_antisymm c2 c
   simp only [go_sem,qy,qq,c74,h1,h2,c,c3,ZLA,ZMg]
def ZEa (k:Nat):AV:=.clo (.func k) [] []
theorem ZFQ {k:Nat} {caps:List AV} (h:ckS k caps=true):caps=[.iptr false [ZEa k]]:=by
 unfold ckS at h;split at h
 ·rw [ZMW h];rfl
 ·cases h
theorem ZGN (caps:List AV) (x y:List UInt8) (h:ckS 37 caps=true):∃ h',fnV e0 73 ([Qd x,Qd y]++caps) []=some (.int .i64 (ZEg x y),h'):=by
 obtain rfl:=ZFQ h;have h1:=Z4M e0 rfl rfl;have h2:=ZFP ⟨x.toArray⟩ ⟨y.toArray⟩;simp only [List.toList_toArray] at h2;unfold Qd ZEa;rw [Q6 (f:=73) rfl rfl];simp only [ZLd,ZLg];exact ⟨_,by simp only [go_sem,qy,qq,c73,h1,h2];rfl⟩
def ZE4 (s:Str):List Int:=s.data.toList.map fun b=>(b.toNat:Int)
theorem ZEM:∀ x y:List UInt8,lexB (x.map fun b=>(b.toNat:Int)) (y.map fun b=>(b.toNat:Int))=decide (x < y)
 | [],[]=>by simp [lexB]
 | [],_::_=>by simp [lexB]
 | _::_,[]=>by simp [lexB]
 | a::r,b::s=>by
  simp only [ZLh,lexB,ZEM r s];rw [ZN7];simp only [ZMm,ZL6,decide_eq_true_eq,beq_iff_eq,List.cons_lt_cons_iff,UInt8.lt_iff_toNat_lt,←UInt8.toNat_inj,Int.ofNat_lt,Int.natCast_inj]
theorem ZGO (x y:List UInt8):cmpL (x.map fun b=>(b.toNat:Int)) (y.map fun b=>(b.toNat:Int))=ZEg x y:=by
 unfold cmpL ZEg;rw [ZEM,ZEM]
theorem ZFR {caps:List AV} {x:AV} {k:List Int} (h:ZEm caps x=some k):caps=[.iptr false [ZEa 39]]∧∃ (s:Str) (a b:Int),x=.agg [.str s,I a,I b]∧k=ZE4 s:=by
 unfold ZEm at h;cases hc:ckS 39 caps with
 | false=>rw [hc] at h;cases h
 | true=>
  rw [hc,cond_true] at h;refine ⟨ZFQ hc,?_⟩;unfold ZEf at h;split at h
  ·cases h;exact ⟨_,_,_,rfl,rfl⟩
  ·cases h
theorem ZGP (caps:List AV) (x y:AV) (kx ky:List Int) (hx:ZEm caps x=some kx) (hy:ZEm caps y=some ky):∃ h',fnV e0 76 ([x,y]++caps) []=some (.int .i64 (cmpL kx ky),h'):=by
 obtain ⟨rfl,s,a,b,rfl,rfl⟩:=ZFR hx;obtain ⟨_,t,a',b',rfl,rfl⟩:=ZFR hy;have h1:=ZGM e0 rfl rfl;have h2:=ZFP s t;unfold ZE4 ZEa;rw [ZGO,Q6 (f:=76) rfl rfl];simp only [ZLd,ZLg];exact ⟨_,by simp only [go_sem,qy,qq,qk,c76,h1,h2];rfl⟩
theorem ZFS {h:Hp} {b:Nat} {o o2:AObj} (hb:h[b]? = some o2):(setH h b o).length=h.length:=by
 have hl:b < h.length:=(ZL9.1 hb).1;unfold setH;rw [show Nat.blt b h.length=true by simpa using hl,cond_true,ZMq]
theorem ZE5 {n:Nat} {fr:Fr} {h:Hp} (hl:h.length=n):Xq n fr h=h:=by
 unfold Xq;rw [ZLw (by omega)]
 cases Zd n (fr.map (·.2))&&X4 n h<;>rfl
theorem ZGQ (args:List AV) (h:Hp) (v:AV) (wr:Option (Nat×AObj)) (he:ZE8 (ZE7 37) h args=some (v,wr)):fnV e1 36 args h=some (v,ZH h wr):=by
 unfold ZE8 at he;split at he
 ·rename_i b g off len ex r;split at he
  ·rename_i sz es hb;cases hc:es.length==g&&(off==0&&len==g) with
   | false=>rw [hc] at he;cases he
   | true=>
    rw [hc,cond_true] at he;simp only [ZLi] at he;obtain ⟨es',h1,h2⟩:=he;cases h2;unfold ZE7 at h1;split at h1
    ·rename_i k;cases hc2:Nat.beq k 37&&(sz==1&&(es.all WB&&Nat.ble es.length 1000000)) with
     | false=>rw [hc2] at h1;cases h1
     | true=>
      rw [hc2] at h1;cases h1;simp only [ZL6,beq_iff_eq] at hc hc2;obtain ⟨c1,rfl,c3,c4⟩:=hc2;obtain rfl:=ZMW c1;obtain ⟨rfl,rfl,rfl⟩:=hc;have hs:fnV e1 72 [.sl b es.length 0 es.length ex,.clo (.func 73) [] [.iptr false [.clo (.func 37) [] []]]] h=some (.tup [],setH h b (.row 1 (Yk es))):=by
       rw [V8 (s:=ZEt 73 (ckS 37)) rfl];unfold ZEt;simp only [hb,c3,c4,beq_self_eq_true,ZLB,ZLJ];rfl
      rw [Q6 (f:=36) rfl rfl];simp only [go_sem,qy,qq,c36,hs,ZH,ZE5 (ZFS hb)]
    ·cases h1
  ·cases he
 ·rename_i bw ex sz r;split at he
  ·rename_i h1;cases he;unfold ZE7 at h1;split at h1
   ·rename_i k;have hs:∀ sz,fnV e1 72 [.isl bw ex sz [],.clo (.func 73) [] [.iptr false [.clo (.func k) [] []]]] h=some (.tup [],h):=fun sz=>by
     rw [V8 (s:=ZEt 73 (ckS 37)) rfl];rfl
    rw [Q6 (f:=36) rfl rfl];simp only [go_sem,qy,qq,c36,hs,ZH,ZE5 (h:=h) rfl]
   ·cases h1
  ·cases he
 ·cases he
theorem ZGR (args:List AV) (h:Hp) (v:AV) (wr:Option (Nat×AObj)) (he:ZE8 (ZEe 39 3 ZEf) h args=some (v,wr)):fnV e1 38 args h=some (v,ZH h wr):=by
 unfold ZE8 at he;split at he
 ·rename_i b g off len ex r;split at he
  ·rename_i sz es hb;cases hc:es.length==g&&(off==0&&len==g) with
   | false=>rw [hc] at he;cases he
   | true=>
    rw [hc,cond_true] at he;simp only [ZLi] at he;obtain ⟨es',h1,h2⟩:=he;cases h2;unfold ZEe at h1;split at h1
    ·rename_i k;split at h1
     ·rename_i l hl;cases hc2:Nat.beq k 39&&(sz==3&&(Z4 es&&(es.all Zwl&&(es.all (fits 3)&&(ZvJ l&&Nat.ble es.length 1000000))))) with
      | false=>rw [hc2] at h1;cases h1
      | true=>
       rw [hc2] at h1;cases h1;simp only [ZL6,beq_iff_eq] at hc hc2;obtain ⟨c1,rfl,c3,c4,c5,c6,c7⟩:=hc2;obtain rfl:=ZMW c1;obtain ⟨rfl,rfl,rfl⟩:=hc;have hs:fnV e1 75 [.sl b es.length 0 es.length ex,.clo (.func 76) [] [.iptr false [.clo (.func 39) [] []]]] h=some (.tup [],setH h b (.row 3 ((ZvN l).map (·.2)))):=by
        rw [V8 (s:=ZvW 76 3 ZEm) rfl];unfold ZvW;have hk:keysOf (ZEm [.iptr false [.clo (.func 39) [] []]]) es=some l:=hl;cases es with
        | nil=>
         cases hl;simp only [hb];have e1:setH h b (.row 3 [])=h:=RT hb;exact congrArg some (Prod.ext rfl e1.symm)
        | cons a r=>
         simp only [hb,hk,c3,c4,c5,c6,c7,beq_self_eq_true,ZLB,ZLJ,ZNk,cond_false,ZLv];rfl
       rw [Q6 (f:=38) rfl rfl];simp only [go_sem,qy,qq,c38,hs,ZH,ZE5 (ZFS hb)]
     ·cases h1
    ·cases h1
  ·cases he
 ·rename_i bw ex sz r;split at he
  ·rename_i h1;cases he;unfold ZEe at h1;split at h1
   ·rename_i k;have hs:∀ sz,fnV e1 75 [.isl bw ex sz [],.clo (.func 76) [] [.iptr false [.clo (.func k) [] []]]] h=some (.tup [],h):=fun sz=>by
     rw [V8 (s:=ZvW 76 3 ZEm) rfl];rfl
    rw [Q6 (f:=38) rfl rfl];simp only [go_sem,qy,qq,c38,hs,ZH,ZE5 (h:=h) rfl]
   ·cases h1
  ·cases he
 ·cases he
end Go.AM
namespace Go.AM
open Go
def ffr (t:AV):Fr:=[(4,.ptr 0 0 0 1),(5,I 0),(7,.ptr 3 0 0 1),(19,t)]
def fP (lp:AObj) (D E:List AV) (tl:List AObj):List AObj:=
 .row 2 [.agg [.isl false false 1 [],.isl false false 3 []]]::.row 1 D::.row 3 E::.row 2 [.agg [.sl 1 D.length 0 D.length false,.sl 2 E.length 0 E.length false]]::lp::tl
def feL (st:LoopState) (t:AV):AObj:=.loop st .normal (ffr t) [20] c12R0a c12R0b
theorem ZEp (h:Hp) (x y:AObj):setH (h++[x]) h.length y=h++[y]:=by
 unfold setH;rw [show Nat.blt h.length (h++[x]).length=true by simp,cond_true,ZMC _ _ (ZL7 _)]
 simp
theorem ZGS (t:AV) (d:Door) (lp:AObj) (D E:List AV) (tl:List AObj):Zb rE c12R0a ((20,d.enc)::ffr t) (fP lp D E tl)=some (.normal,(8,.ptr (tl.length+5) 0 0 1)::(20,d.enc)::ffr t,fP lp D E (tl++[.row 16 [d.enc]])):=by
 simp only [go_sem,qy,qq,qk,c12R0a,fP,ffr,Door.enc,NL.enc,ZLd,ZLm,ZEp]
theorem ZEx {n:Nat} {h:Hp} {b:Bool} (hl:h.length=n):trimB n h b=h:=by
 unfold trimB;cases b with
 | true=>rw [cond_true,ZLw (by omega)]
 | false=>rfl
theorem ZF2 (r0 r1 r2 r3 r4 x:AObj) (tl:List AObj) (b:Bool):trimB (tl.length+1+1+1+1+1+1) (r0::r1::r2::r3::r4::(tl++[x])) b=r0::r1::r2::r3::r4::(tl++[x]):=ZEx (by simp)
def faD (d:Door) (D:List AV):List AV:=bif decide (d.Ended < 0) then D++[.str d.Id] else D
def ZEB (d:Door):AV:=.agg [.str d.Id,I d.Why,I d.Ended]
def faE (d:Door) (E:List AV):List AV:=bif !decide (d.Ended < 0)&&d.After.l.isEmpty then E++[ZEB d] else E
theorem ZGT (t:AV) (d:Door) (lp:AObj) (D E:List AV) (tl:List AObj) (h1:D.length≤1000) (h2:E.length≤1000):Zb rE c12R0b ((8,.ptr (tl.length+5) 0 0 1)::(20,d.enc)::ffr t) (fP lp D E (tl++[.row 16 [d.enc]])) =
 some (.normal,[],fP lp (faD d D) (faE d E) (tl++[.row 16 [d.enc]])):=by
 have a1:=fun (r0 r2 r3 r4:AObj) (tl:List AObj)=>XC (h:=r0::.row 1 D::r2::r3::r4::tl) (fz:=false) (b:=1) (g:=D.length) (sz:=1) (es:=D) (bw:=false) (ex:=false) (ys:=[.str d.Id]) (bytes:=16) (by simp [rowAt]) rfl (by rfl) (by omega) (by omega) (by simp;omega)
 have a2:=fun (r0 r1 r3 r4:AObj) (tl:List AObj)=>XC (h:=r0::r1::.row 3 E::r3::r4::tl) (fz:=false) (b:=2) (g:=E.length) (sz:=3) (es:=E) (bw:=false) (ex:=false) (ys:=[ZEB d]) (bytes:=32) (by simp [rowAt]) rfl (by rfl) (by omega) (by omega) (by simp;omega)
 unfold ZEB at a2;unfold faD faE;cases c:decide (d.Ended < 0) with
 | true=>simp only [go_sem,qy,qq,qv,qk,reduceIte,c12R0b,fP,ffr,Door.enc,NL.enc,ZLd,ZLm,ZF2,c,a1,ZLo,ZLL,ZLA,ZMv]
 | false=>
  cases c2:d.After.l with
  | nil=>
   have z0:(((0:Nat):Int)==0)=true:=rfl;simp only [go_sem,qy,qq,qv,qk,reduceIte,z0,c12R0b,fP,ffr,Door.enc,NL.enc,ZLd,ZLm,ZF2,c,c2,a2,ZEB,ZLo,ZLL,ZLv,ZLB,List.isEmpty_nil,ZLG]
  | cons a r=>
   have hz:(((r.length+1:Nat):Int)==0)=false:=by
    rw [beq_eq_false_iff_ne];omega
   simp only [go_sem,qy,qq,reduceIte,c12R0b,fP,ffr,Door.enc,NL.enc,ZLm,ZF2,c,c2,hz,ZLo,ZLL,ZLv,ZLB,ZNk,ZLh,ZL8]
theorem ZGU (t:AV) (d:Door) (D E:List AV) (tl:List AObj) (h1:D.length≤1000) (h2:E.length≤1000):
 U4 rE 4 [d.enc] (fP (feL .ready t) D E tl)=some (.bool true,fP (feL .ready t) (faD d D) (faE d E) (tl++[.row 16 [d.enc]])):=by
 have h:=Ss (E:=rE) (b:=4) (args:=[d.enc]) (h:=fP (feL .ready t) D E tl) (fr:=ffr t) (ps:=[20]) (assign:=c12R0a) (body:=c12R0b)
  (fr0:=(20,d.enc)::ffr t) rfl rfl (ZGS t d (feL .ready t) D E tl) (h1:=fP (feL .ready t) D E (tl++[.row 16 [d.enc]])) rfl
  (e:=.normal) (fr2:=[]) (h2:=fP (feL .busy t) (faD d D) (faE d E) (tl++[.row 16 [d.enc]])) (ZGT t d (feL .busy t) D E tl h1 h2) rfl
 exact h
end Go.AM
namespace Go.AM
open Go
def TC' (tl:List AObj):Prop:=∀ n,X4 n tl=true
theorem ZEu:∀ (n:Nat) (a b:List AObj),X4 n (a++b)=(X4 n a&&X4 n b)
 | _,[],b=>by simp [X4]
 | n,x::a,b=>by simp [X4,ZEu n a b,ZMZ]
theorem ZEN {n:Nat}:∀ {a:List AObj} {i:Nat} {x:AObj},X4 n a=true→Zj n x=true→X4 n (a.set i x)=true
 | [],_,_,h,_=>h
 | y::a,0,x,h,hx=>by
  simp only [List.set_cons_zero,X4,ZL6] at h ⊢;exact ⟨hx,h.2⟩
 | y::a,i+1,x,h,hx=>by
  simp only [List.set_cons_succ,X4,ZL6] at h ⊢;exact ⟨h.1,ZEN h.2 hx⟩
theorem ZEv (n:Nat):∀ L:List Str,Zd n (L.map encS)=true
 | []=>rfl
 | x::r=>by simp only [ZLh,Zd,ZEv n r,ZLJ];rfl
theorem ZEC {h:Hp} {b:Nat} {o:AObj} (hb:b < h.length):setH h b o=h.set b o:=by
 unfold setH;rw [show Nat.blt b h.length=true by simpa using hb,cond_true]
theorem ZF3 (h:Hp) (x:AObj):(h++[x])[h.length]? = some x:=by simp
def wkS (s:List Str×List Str) (x:Str):List Str×List Str:=bif s.1.any (Z3 x) then s else (s.1++[x],s.2++[x])
theorem ZGW (s:List Str×List Str) (x:Str):(wkS s x).2.length≤s.2.length+1:=by
 unfold wkS;cases s.1.any (Z3 x)<;>simp
theorem ZF4:∀ (l:List Str) (s:List Str×List Str),(l.foldl wkS s).2.length≤s.2.length+l.length
 | [],s=>by simp
 | x::r,s=>by
  have h1:=ZF4 r (wkS s x);have h2:=ZGW s x;simp only [ZMs,ZLm];omega
def kM (K:List Str):AObj:=.map (K.map encS) (ZO K.length)
end Go.AM
namespace Go.AM
open Go
theorem ZGY (d:Door) (h:Hp):fnV rE 34 [d.enc] h=some (d.After.enc 1 encS,h):=by
 rw [Q6 (f:=34) rfl rfl];simp only [go_sem,qy,qq,c34,Door.enc,NL.enc,ZE5 (h:=h) rfl]
def grA (s:Sta):AV:=.iptr false ((stA s).cells++[.clo (.func 34) [] []])
theorem ZFT (n:Nat):decide (((n+1:Nat):Int) > 0)=true:=decide_eq_true (by omega)
theorem ZEO:∀ {n k:Nat} {l:List AObj},X4 n l=true→X4 n (l.take k)=true
 | _,0,_,_=>rfl
 | _,_+1,[],h=>h
 | n,k+1,x::r,h=>by
  simp only [X4,ZL6,ZMO] at h ⊢;exact ⟨h.1,ZEO h.2⟩
def c71L1m:ACode:=match c71L1b with | .keep _ (.seq _ (.seq (.keep _ (.block _ m)) _))=>m | _=>.skip
def c71D:ACode:=match c71L1m with | .seq d _=>d | _=>.skip
def c71Y:ACode:=match c71L1m with | .seq _ (.seq y _)=>y | _=>.skip
def c71Z:ACode:=match c71L1m with | .seq _ (.seq _ z)=>z | _=>.skip
theorem ZEP (tl L:List AObj) (x:AV) (sz:Nat):rowAt (tl++.row sz [x]::L) tl.length 1=some (sz,[x]):=by
 unfold rowAt;rw [ZLz (ZL7 _),ZMA];rfl
end Go.AM
namespace Go.AM
open Go
def c71R:ACode:=match c71Z with | .seq r _=>r | _=>.skip
def c71A:ACode:=match c71L1b with | .keep _ (.seq a _)=>a | _=>.skip
def c71C:ACode:=match c71L1b with | .keep _ (.seq _ (.seq _ (.keep _ c)))=>c | _=>.skip
theorem ZFU (n:Nat):bounds (some (.int .i64 1)) none none (n+1)=some (1,n+1,none):=by
 have e:bounds (some (.int .i64 1)) none none (n+1)=bif Nat.ble 1 (n+1)&&Nat.ble (n+1) (n+1)&&VB (n+1) (n+1) none then some (1,n+1,none) else none:=rfl;rw [e,ZM8 (show 1≤n+1 by omega),ZM8 (ZL7 (n+1))]
 rfl
theorem ZFV {h:Hp} {b g off n:Nat} {ex:Bool} {es:List AV} (hr:rowAt h b g=some (1,es)):slF h 1 (.sl b g off (n+1) ex) (some (1,n+1,none))=some (.sl b g (off+1) n ex):=by
 simp only [slF,hr,beq_self_eq_true,cond_true,ZLJ,Nat.add_sub_cancel]
end Go.AM
namespace Go.AM
open Go
theorem ZEQ:∀ (l:List Str) (K L:List Str) (id:Str) (r:List Str),L=id::r→∃ r',(l.foldl wkS (K,L)).2=id::r'
 | [],_,_,id,r,h=>⟨r,h⟩
 | x::l,K,L,id,r,h=>by
  rw [ZMs];unfold wkS;cases (K,L).1.any (Z3 x) with
  | true=>exact ZEQ l K L id r h
  | false=>exact ZEQ l (K++[x]) (L++[x]) id (r++[x]) (by rw [h];rfl)
inductive Runs (s:Sta):List Str→List Str→List AV→List AV→List AV→List AV→Prop
 | stop (K:List Str) (D E:List AV):Runs s K [] D E D E
 | step (K:List Str) (id:Str) (r:List Str) (D E D' E':List AV) (k:Nat) (d:Door) (hd:s.Doors[k]? = some d) (hf:pfn rE 15 [stA s,.str id]=some (I k)) (h1:D.length≤1000) (h2:E.length≤1000)
  (h3:(id::r).length+d.After.l.length≤1000) (h:Runs s (d.After.l.foldl wkS (K,id::r)).1 (d.After.l.foldl wkS (K,id::r)).2.tail (faD d D) (faE d E) D' E'):Runs s K (id::r) D E D' E'
end Go.AM
namespace Go.AM
open Go
def h5 (t:AV) (D E:List AV):List AObj:=[.row 2 [.agg [.isl false false 1 [],.isl false false 3 []]],.row 1 D,.row 3 E,.row 2 [.agg [.sl 1 D.length 0 D.length false,.sl 2 E.length 0 E.length false]],feL .ready t]
end Go.AM
namespace Go.AM
open Go
theorem ZEw (hd tl:List AObj) (x:AObj) (bl g:Nat):rowAt (hd++x::tl) (hd.length+(bl+1)) g=rowAt tl bl g:=by
 unfold rowAt;rw [ZLz (by omega),show hd.length+(bl+1) - hd.length=bl+1 by omega,ZLF]
theorem ZHA (hd tl:List AObj) (x:AObj) (bl:Nat):(hd++x::tl)[hd.length+(bl+1)]? = tl[bl]?:=by
 rw [ZLz (by omega),show hd.length+(bl+1) - hd.length=bl+1 by omega,ZLF]
theorem ZEG (hd tl:List AObj) (x:AObj):(hd++x::tl)[hd.length]? = some x:=by
 rw [ZLz (ZL7 _),ZMA];rfl
theorem ZEV (hd tl:List AObj) (x o:AObj):setH (hd++x::tl) hd.length o=hd++o::tl:=by
 unfold setH;rw [show Nat.blt hd.length (hd++x::tl).length=true by simp,cond_true,ZMC _ _ (ZL7 _),ZMA]
 rfl
theorem ZFd (hd tl:List AObj) (x o:AObj) (bl:Nat):setH (hd++x::tl) (hd.length+(bl+1)) o=hd++x::setH tl bl o:=by
 unfold setH;have e:Nat.blt (hd.length+(bl+1)) (hd++x::tl).length=Nat.blt bl tl.length:=by
  rw [ZN7];simp only [ZLP,ZLo,ZLm];omega
 rw [e];cases Nat.blt bl tl.length with
 | true=>
  rw [cond_true,cond_true,ZMC _ _ (by omega),show hd.length+(bl+1) - hd.length=bl+1 by omega]
  rfl
 | false=>simp
theorem ZEH (hd tl:List AObj) (x:AObj):(hd++x::tl).length=hd.length+(tl.length+1):=by simp
def LVm (m:Nat) (Lv:AV) (L:List Str) (tl:List AObj):Prop:=
 ∃ bl g off ex es,Lv=.sl (m+(bl+1)) g off L.length ex∧tl[bl]? = some (.row 1 es)∧es.length=g∧off+L.length=g∧es.drop off=L.map encS
theorem ZHB {m:Nat} {Lv:AV} {L:List Str} {tl:List AObj} (h:LVm m Lv L tl) (l:List AObj):LVm m Lv L (tl++l):=by
 obtain ⟨bl,g,off,ex,es,rfl,h2,h3⟩:=h;refine ⟨bl,g,off,ex,es,rfl,?_,h3⟩;rw [ZLu (ZL9.1 h2).1];exact h2
theorem ZHC {m:Nat} {Lv:AV} {L:List Str} {tl:List AObj} {n:Nat} (h:LVm m Lv L tl) (hb:bel (m+(n+1)) Lv=true):LVm m Lv L (tl.take n):=by
 obtain ⟨bl,g,off,ex,es,rfl,h2,h3⟩:=h;refine ⟨bl,g,off,ex,es,rfl,?_,h3⟩;have:m+(bl+1) < m+(n+1):=by simpa [bel] using hb
 rw [ZNl,if_pos (by omega)]
 exact h2
theorem ZHD (hd:List AObj) (p5:AObj) {Lv:AV} {L:List Str} {tl:List AObj} (x:Str) (hL:LVm hd.length Lv L tl) (hc:TC' tl) (hn:L.length≤1000000):
 ∃ tl',tl'.length=tl.length∧TC' tl'∧ZE9 (hd++p5::tl) 1 16 Lv (.isl false false 1 [.str x]) =
  some (.sl (hd.length+(tl.length+1)) (L.length+1) 0 (L.length+1) false,hd++p5::(tl'++[.row 1 ((L++[x]).map encS)])):=by
 obtain ⟨bl,g,off,ex,es,rfl,hb,hg,hoff,hes⟩:=hL;have hlt:bl < tl.length:=(ZL9.1 hb).1;have hbb:(hd++p5::tl)[hd.length+(bl+1)]? = some (.row 1 es):=by rw [ZHA];exact hb
 have hmap:(L++[x]).map encS=es.drop off++[.str x]:=by rw [ZLp,hes];rfl
 have hlen:(hd++p5::tl).length=hd.length+(tl.length+1):=ZEH _ _ _;cases ex with
 | true=>
  refine ⟨tl,rfl,hc,?_⟩;have hel:Q2 (hd++p5::tl) (.sl (hd.length+(bl+1)) g off L.length true)=some (es.drop off):=by
   simp only [Q2,hbb,hg,beq_self_eq_true,cond_true];rw [ZLw (by simp;omega)]
  have hz:Qq (hd++p5::tl) 1 (.sl (hd.length+(bl+1)) g off L.length true)=true:=by simp only [Qq,hbb];rfl
  have hl2:(es.drop off++[AV.str x]).length=L.length+1:=by simp;omega
  have hbd:((es.drop off).length+1) * 16≤70368744177664:=by simp;omega
  have he:Qt (hd++p5::tl) (hd++p5::tl).length false 1 16 (.sl (hd.length+(bl+1)) g off L.length true) (.isl false false 1 [.str x]) =
   some (.sl (hd++p5::tl).length (es.drop off++[AV.str x]).length 0 (es.drop off++[AV.str x]).length false,[hd.length+(bl+1)],some ((hd++p5::tl).length,.row 1 (es.drop off++[.str x]))):=by
   unfold Qt;rw [hel];dsimp only [Q2];rw [if_pos ⟨hz,rfl,Nat.zero_lt_one,by decide,hbd⟩]
   rfl
  unfold ZE9;dsimp only;rw [he,hmap,hl2,hlen];have e:setH (hd++p5::tl) (hd.length+(tl.length+1)) (.row 1 (es.drop off++[.str x]))=hd++p5::(tl++[.row 1 (es.drop off++[.str x])]):=by
   rw [←hlen,J1,ZLf];rfl
  exact congrArg some (Prod.ext rfl e)
 | false=>
  refine ⟨tl.set bl .gone,by simp,fun n=>ZEN (hc n) rfl,?_⟩
  have hz:Qq (hd++p5::tl) 1 (.isl false false 1 [.str x])=true:=rfl;have hcond:((es.length==g&&(1==1))&&((off+L.length==g)&&(Qq (hd++p5::tl) 1 (.isl false false 1 [.str x])&&(([AV.str x]:List AV).all (fits 1)&&(Nat.blt 0 ([AV.str x]:List AV).length&&(Nat.blt 0 1&&(Nat.blt 0 16&&Nat.ble ((L.length+([AV.str x]:List AV).length) * 16) 70368744177664)))))))=true:=by
   simp only [hg,hoff,hz,beq_self_eq_true,ZLB,ZLJ];have:(L.length+([AV.str x]:List AV).length) * 16≤70368744177664:=by simp;omega
   have e2:Nat.ble ((L.length+([AV.str x]:List AV).length) * 16) 70368744177664=true:=ZM8 this;rw [e2];rfl
  unfold ZE9;simp only [hbb,Q2,hcond,cond_true];rw [ZFd,ZEC hlt,hmap,hlen,ZLf];rfl
theorem ZEJ (hd:List AObj) (x:AObj) (tl:List AObj) (fr:Fr):Xq (hd.length+(tl.length+1)) fr (hd++x::tl)=hd++x::tl:=ZE5 (by simp)
theorem ZFe (n g o k:Nat) (ex:Bool) (a b c v q r:AV) (h:Hp):Xq n [(0,a),(2,b),(4,c),(5,.sl n g o k ex),(37,v),(38,q),(39,r)] h=h:=by
 have e:Zd n ([(0,a),(2,b),(4,c),(5,AV.sl n g o k ex),(37,v),(38,q),(39,r)].map (fun (p:Nat×AV)=>p.2))=false:=by
  simp [Zd,bel]
 unfold Xq;rw [e];rfl
def ZEl (hd:List AObj) (v:AV) (A:List Str):Prop:=
 (∀ x tl,lnV (hd++x::tl) 1 v=some (I A.length))∧∀ (i:Nat) (a:Str),A[i]? = some a→∃ p,(∀ x tl,iaV (hd++x::tl) 1 v (I i)=some p)∧∀ x tl,ldV (hd++x::tl) none p=some (.str a)
theorem ZHE (hd:List AObj) (ex:Bool) (A:List Str):ZEl hd (.isl false ex 1 (A.map encS)) A:=by
 refine ⟨fun x tl=>by rw [AX,ZL8],fun i a h=>⟨.iptr false [.str a],fun x tl=>?_,fun x tl=>rfl⟩⟩
 have hg:=Z6 (f:=encS) h;rw [AK];simp only [go_sem,hg,encS]
theorem ZHF {hd:List AObj} {b:Nat} {A:List Str} (hb:hd[b]? = some (.row 1 (A.map encS))):ZEl hd (.sl b A.length 0 A.length false) A:=by
 have hlt:b < hd.length:=(ZL9.1 hb).1;have hr:∀ x tl,rowAt (hd++x::tl) b A.length=some (1,A.map encS):=fun x tl=>by
  unfold rowAt;rw [ZLu hlt,hb];simp only [ZL8,beq_self_eq_true,cond_true]
 refine ⟨fun x tl=>by rw [AY,hr];rfl,fun i a h=>?_⟩
 have hi:i < A.length:=(ZL9.1 h).1;have hg:=Z6 (f:=encS) h;refine ⟨.ptr b i 0 A.length,fun x tl=>?_,fun x tl=>?_⟩
 ·rw [AL,hr];have:=VT b A.length 0 1 i A.length (A.map encS) ⟨ZNI i,by omega⟩
  rw [this,ZMM,ZLl]
 ·rw [Az,hr];simp only [go_sem,hg,encS]
theorem ZHG (hd:List AObj) (Y G v:AV) (l:List Str) (hv:ZEl hd v l) (s0:List Str×List Str) (Lv0:AV) (tl0:List AObj) (hL0:LVm hd.length Lv0 s0.2 tl0) (hc0:TC' tl0) (hn:s0.2.length+l.length≤1000000):
 ∃ fr' Lv tl,Zg rE [0,2,4,5,37,38,39] c71L0b [(0,Y),(2,G),(4,.mp hd.length),(5,Lv0),(37,v),(38,I l.length),(39,I 0)] (hd++kM s0.1::tl0) =
  some (.exit 2,fr',hd++kM (l.foldl wkS s0).1::tl)∧LVm hd.length Lv (l.foldl wkS s0).2 tl∧TC' tl∧get fr' 0=Y∧get fr' 2=G∧get fr' 4=.mp hd.length∧get fr' 5=Lv:=by
 obtain ⟨e,fr',h',L,hQ⟩:=Z9Y (E:=rE) (live:=[0,2,4,5,37,38,39]) (b:=c71L0b) l.length
  (fun i fr h=>∃ Lv tl,fr=[(0,Y),(2,G),(4,.mp hd.length),(5,Lv),(37,v),(38,I l.length),(39,I i)]∧h=hd++kM ((l.take i).foldl wkS s0).1::tl∧LVm hd.length Lv ((l.take i).foldl wkS s0).2 tl∧TC' tl)
  (fun e fr h=>e=.exit 2∧∃ Lv tl,h=hd++kM (l.foldl wkS s0).1::tl∧LVm hd.length Lv (l.foldl wkS s0).2 tl∧TC' tl∧get fr 0=Y∧get fr 2=G∧get fr 4=.mp hd.length∧get fr 5=Lv)
  (fun i fr h m=>by obtain ⟨Lv,tl,rfl,_⟩:=m;rfl)
  (fun i fr h hi m=>by
   obtain ⟨Lv,tl,rfl,rfl,hL,hc⟩:=m;refine .inl ?_;obtain ⟨x,hx⟩:∃ x,l[i]? = some x:=⟨_,ZLb hi⟩;obtain ⟨p,hg1,hg2⟩:=hv.2 i x hx;have hi':=Zh hi;have hwr:=Zx (n:=i) (by omega)
   have hf:(l.take (i+1)).foldl wkS s0=wkS ((l.take i).foldl wkS s0) x:=Us wkS s0 hx;have hlen:=ZF4 (l.take i) s0;have hle:(l.take i).length≤l.length:=by simp;omega
   rw [hf];generalize (l.take i).foldl wkS s0=s at hL hlen ⊢;obtain ⟨K,L⟩:=s;have hq:=fun (tl:List AObj)=>H5 (enc:=encS) (eq:=Z3) Z1Y K x (h:=hd++.map (K.map encS) (ZO K.length)::tl) (b:=hd.length) (ZEG _ _ _)
   have hp:=fun (tl:List AObj)=>Ur (enc:=encS) (eq:=Z3) Z1Y K x (h:=hd++.map (K.map encS) (ZO K.length)::tl) (b:=hd.length) (ZEG _ _ _)
   have hlen':L.length≤s0.2.length+(l.take i).length:=hlen;have hL:LVm hd.length Lv L tl:=hL;unfold encS at hq hp;cases c:K.any (Z3 x) with
   | true=>
    have hw:wkS (K,L) x=(K,L):=by unfold wkS;rw [c];rfl
    rw [hw];unfold kM encS;refine ⟨_,_,by simp only [go_sem,qy,reduceIte,c71L0b,hg1,hg2,hi',hwr,hq,c,ZEJ,ZLA,ZLm,ZLo]<;>rfl,Lv,tl,?_,rfl,hL,hc⟩
    simp only [go_sem,qy]
   | false=>
    obtain ⟨tl',hl',hc',ha⟩:=ZHD hd (.map ((Qi Z3 K x).map encS) (ZO (Qi Z3 K x).length)) x hL hc (by omega)
    unfold encS at ha;have hak:Qi Z3 K x=K++[x]:=by unfold Qi;rw [c];rfl
    have hirr:decide (hd.length+(tl.length+1) < hd.length+(tl.length+1))=false:=by simp
    have e1:(K++[x]).length=K.length+1:=by simp
    rw [hak,e1] at ha;have hw:wkS (K,L) x=(K++[x],L++[x]):=by unfold wkS;rw [c];rfl
    rw [hw];unfold kM encS;rw [e1];refine ⟨_,_,by simp only [go_sem,qy,qq,qv,reduceIte,c71L0b,hg1,hg2,hi',hwr,hq,hp,c,hak,ha,ZEV,ZEJ,ZFe,ZLv,ZLm,ZLo]<;>rfl,.sl (hd.length+(tl.length+1)) (L.length+1) 0 (L.length+1) false,_,?_,rfl,?_,?_⟩
    ·simp only [go_sem,qy]
    ·refine ⟨tl.length,L.length+1,0,false,(L++[x]).map encS,by simp,by rw [←hl'];exact ZF3 _ _,by simp,by simp,by simp⟩
    ·intro n;rw [ZEu,hc' n];show (true&&(Zj n (.row 1 ((L++[x]).map encS))&&true))=true
     simp only [Zj,ZEv,ZLJ])
  (fun fr h m=>by
   obtain ⟨Lv,tl,rfl,rfl,hL,hc⟩:=m;rw [ZLI] at hL ⊢;refine ⟨.exit 2,_,_,by simp only [go_sem,qy,reduceIte,c71L0b,ZG,ZEJ,kM,ZLm,ZLo]<;>rfl,by simp,rfl,Lv,tl,rfl,hL,hc,?_⟩
   refine ⟨?_,?_,?_,?_⟩<;>simp only [go_sem,qy])
  l.length 0 [(0,Y),(2,G),(4,.mp hd.length),(5,Lv0),(37,v),(38,I l.length),(39,I 0)] (hd++kM s0.1::tl0) (by omega) ⟨Lv0,tl0,rfl,rfl,hL0,hc0⟩
 obtain ⟨rfl,Lv,tl,rfl,h1,h2,h3,h4,h5,h6⟩:=hQ;exact ⟨fr',Lv,tl,L,h1,h2,h3,h4,h5,h6⟩
end Go.AM
namespace Go.AM
open Go
structure GRd (hd:List AObj) (G:AV) (s:Sta) (FC p0 p3 p7:AV):Prop where
 f0:∀ x tl,faV (hd++x::tl) 0 G=some p0
 f3:∀ x tl,faV (hd++x::tl) 3 p0=some p3
 l3:∀ x tl,ldV (hd++x::tl) none p3=some (.isl false false 16 (s.Doors.map Door.enc))
 l0:∀ x tl,ldV (hd++x::tl) (some 7) p0=some (stA s)
 f7:∀ x tl,faV (hd++x::tl) 7 G=some p7
 l7:∀ x tl,ldV (hd++x::tl) none p7=some FC
 t:∀ n,hd.length≤n→(Zs G).contains n=false∧(Zs p0).contains n=false∧(Zs p3).contains n=false
inductive RunsG {σ:Type} (s:Sta) (aft:Door→List Str) (f:Door→σ→σ) (ok:σ→Prop):List Str→List Str→σ→σ→Prop
 | stop (K:List Str) (x:σ):RunsG s aft f ok K [] x x
 | step (K:List Str) (id:Str) (r:List Str) (x x':σ) (k:Nat) (d:Door) (hd:s.Doors[k]? = some d) (hf:pfn rE 15 [stA s,.str id]=some (I k)) (hx:ok x)
  (h3:(id::r).length+(aft d).length≤1000000) (h:RunsG s aft f ok ((aft d).foldl wkS (K,id::r)).1 ((aft d).foldl wkS (K,id::r)).2.tail (f d x) x'):RunsG s aft f ok K (id::r) x x'
def wfp (y m:Nat) (G Lv:AV):Fr:=[(0,.yld y),(2,G),(4,.mp m),(5,Lv)]
theorem ZG7 {fr:Fr} {Y G Lv:AV} {L:List Str} (hd:List AObj) (p5:AObj) {tl:List AObj} (n:Nat) (e:AExit) (h0:get fr 0=Y) (h2:get fr 2=G) (h4:get fr 4=.mp hd.length) (h5:get fr 5=Lv) (hL:LVm hd.length Lv L tl) (hc:TC' tl):
 ∃ tl',kp [0,2,4,5] (hd.length+(n+1)) (some (e,fr,hd++p5::tl))=some (e,[(0,Y),(2,G),(4,.mp hd.length),(5,Lv)],hd++p5::tl')∧LVm hd.length Lv L tl'∧TC' tl':=by
 have hr:Z2 [0,2,4,5] fr=[(0,Y),(2,G),(4,.mp hd.length),(5,Lv)]:=by
  show [(0,get fr 0),(2,get fr 2),(4,get fr 4),(5,get fr 5)]=_
  rw [h0,h2,h4,h5]
 have ht:(hd++p5::tl).take (hd.length+(n+1))=hd++p5::tl.take n:=by
  rw [ZNp,ZLw (by omega),show hd.length+(n+1) - hd.length=n+1 by omega]
  rfl
 rw [Sd,hr];unfold Xq;cases c:Zd (hd.length+(n+1)) (List.map (·.2) [(0,Y),(2,G),(4,AV.mp hd.length),(5,Lv)])&&X4 (hd.length+(n+1)) ((hd++p5::tl).take (hd.length+(n+1))) with
 | false=>exact ⟨tl,rfl,hL,hc⟩
 | true=>
  refine ⟨tl.take n,by rw [cond_true,ht],ZHC hL ?_,fun m=>ZEO (hc m)⟩
  simp only [List.map,Zd,ZL6,ZLJ] at c;exact c.1.2.2.2
theorem ZHH (n i o g:Nat) (a b c e:AV) (h:Hp):Xq n [(0,a),(2,b),(4,c),(5,e),(6,.ptr n i o g)] h=h:=by
 have e:Zd n ([(0,a),(2,b),(4,c),(5,e),(6,AV.ptr n i o g)].map (fun (p:Nat×AV)=>p.2))=false:=by
  have hn:Nat.blt n n=false:=by rw [ZM2];simp [ZLP]
  simp [Zd,bel,hn]
 unfold Xq;rw [e];rfl
section
variable (y:Nat) (s:Sta) (FC G p0 p3 p7:AV) (hd hd':List AObj) (K:List Str) (Lv:AV) (id:Str) (r:List Str) (tl L:List AObj) (d:Door)
theorem pd (hG:GRd hd G s FC p0 p3 p7) (hL:LVm hd.length Lv (id::r) tl) (k:Nat) (hk':s.Doors[k]? = some d) (hf:pfn rE 15 [stA s,.str id]=some (I k)):
 Zb rE c71D (wfp y hd.length G Lv++[(16,.bool true)]) (hd++kM K::tl)=some (.normal,[(0,.yld y),(2,G),(4,.mp hd.length),(5,Lv),(6,.ptr (hd.length+(tl.length+1)) 0 0 1)],hd++kM K::(tl++[.row 16 [d.enc]])):=by
 obtain ⟨bl,g,off,ex,es,rfl,hb,hg1,hg2,hes⟩:=hL;have hlt:bl < tl.length:=(ZL9.1 hb).1;have hr:rowAt tl bl g=some (1,es):=by unfold rowAt;rw [hb];simp only [hg1,beq_self_eq_true,cond_true]
 have hes0:es[off]? = some (.str id):=by
  have:=congrArg List.head? hes;rw [List.head?_drop] at this;exact this
 have hg:=Z6 (f:=Door.enc) hk';have hk:(0≤(k:Int))=True:=by simp
 have hk2:((k:Int)).toNat=k:=ZMM k;have z0:((0:Int)).toNat=0:=rfl;have hlen:(id::r).length=r.length+1:=rfl;have hi0:iaP (hd.length+(bl+1)) g off 1 0 (r.length+1) (some (1,es))=some (.ptr (hd.length+(bl+1)) off 0 g):=VT _ _ _ _ _ _ _ ⟨Int.le_refl _,by omega⟩
 have hne:(hd.length+(tl.length+1)==hd.length+(bl+1))=false:=by rw [beq_eq_false_iff_ne];omega
 have hirr:decide (hd.length+(tl.length+1) < hd.length+(tl.length+1))=false:=by simp
 have l0:=hG.l0;obtain ⟨tG1,tG2,tG3⟩:=hG.t (hd.length+(tl.length+1)) (by omega)
 simp only [Zs] at tG1 tG2 tG3;simp only [stA] at hf l0;simp only [Door.enc,NL.enc] at hg;simp only [go_sem,qy,qq,qk,c71D,c71L1m,c71L1b,wfp,kM,hG.f0,hG.f3,hG.l3,l0,tG1,tG2,tG3,ZLv,ZLH,hne,Door.enc,NL.enc,ZEw,hr,ZLm,ZLo,ZHH,hf,hg,hi0,hes0,ZFd,ZEp,ZLd,ZLf]
theorem ZHI (hd:List AObj) (p5 x y:AObj) (tl:List AObj) (b:Bool):trimB (hd.length+(tl.length+1+1)) (hd++p5::(tl++[x,y])) b=hd++p5::(tl++x::bif b then [] else [y]):=by
 unfold trimB;cases b with
 | false=>rfl
 | true=>
  simp only [cond_true];rw [ZNp,ZLw (by omega),show hd.length+(tl.length+1+1) - hd.length=tl.length+1+1 by omega,ZMO,ZNp,ZLw (by omega)]
  simp
theorem ZHJ (hd:List AObj) (p5 x y:AObj) (tl:List AObj) (fr:Fr):∃ b:Bool,Xq (hd.length+(tl.length+1+1)) fr (hd++p5::(tl++[x,y]))=hd++p5::(tl++x::bif b then [] else [y]):=by
 refine ⟨Zd (hd.length+(tl.length+1+1)) (fr.map (·.2))&&X4 (hd.length+(tl.length+1+1)) ((hd++p5::(tl++[x,y])).take (hd.length+(tl.length+1+1))),?_⟩;have:=ZHI hd p5 x y tl (Zd (hd.length+(tl.length+1+1)) (fr.map (·.2))&&X4 (hd.length+(tl.length+1+1)) ((hd++p5::(tl++[x,y])).take (hd.length+(tl.length+1+1))));exact this
theorem ZG8 (hd tl L:List AObj) (p5:AObj) (x:AV) (sz:Nat):rowAt (hd++p5::(tl++.row sz [x]::L)) (hd.length+(tl.length+1)) 1=some (sz,[x]):=by rw [ZEw,ZEP]
theorem py (hl:hd'.length=hd.length) (hy:U4 rE y [d.enc] (hd++kM K::(tl++[.row 16 [d.enc]]))=some (.bool true,hd'++kM K::(tl++[.row 16 [d.enc],.row 16 [d.enc]]))):
 ∃ b:Bool,Zb rE c71Y [(0,.yld y),(2,G),(4,.mp hd.length),(5,Lv),(6,.ptr (hd.length+(tl.length+1)) 0 0 1)] (hd++kM K::(tl++[.row 16 [d.enc]])) =
  some (.normal,[(0,.yld y),(2,G),(4,.mp hd.length),(5,Lv),(6,.ptr (hd.length+(tl.length+1)) 0 0 1),(33,.bool false)],hd'++kM K::(tl++.row 16 [d.enc]::bif b then [] else [.row 16 [d.enc]])):=by
 obtain ⟨b,ht⟩:=ZHJ hd' (kM K) (.row 16 [d.enc]) (.row 16 [d.enc]) tl [(0,.yld y),(2,G),(4,.mp hd.length),(5,Lv),(6,.ptr (hd.length+(tl.length+1)) 0 0 1),(33,.bool false)];rw [hl] at ht;simp only [Door.enc,NL.enc,kM] at hy ht;refine ⟨b,?_⟩;simp only [go_sem,qy,qq,qk,S3,c71Y,c71L1m,c71L1b,kM,Door.enc,NL.enc,ZLm,ZLo,ZLL,ZG8,hy,ZLA,ht]
theorem ZHL (hd:List AObj) (p5 x:AObj) (tl L:List AObj) (fr:Fr):Xq (hd.length+(tl.length+(L.length+1)+1)) fr (hd++p5::(tl++x::L))=hd++p5::(tl++x::L):=ZE5 (by simp)
theorem pr (hG:GRd hd G s FC p0 p3 p7) (v:AV) (A:List Str) (hv:ZEl hd v A) (hA:Xy rE false FC [d.enc] (hd++kM K::(tl++.row 16 [d.enc]::L))=some (v,hd++kM K::(tl++.row 16 [d.enc]::L))):
 Zb rE c71R [(0,.yld y),(2,G),(4,.mp hd.length),(5,Lv),(6,.ptr (hd.length+(tl.length+1)) 0 0 1),(33,.bool false)] (hd++kM K::(tl++.row 16 [d.enc]::L)) =
  some (.normal,[(0,.yld y),(2,G),(4,.mp hd.length),(5,Lv),(37,v),(38,I A.length),(39,I 0)],hd++kM K::(tl++.row 16 [d.enc]::L)):=by
 have hln:=hv.1;simp only [Door.enc,NL.enc,kM] at hA;simp only [go_sem,qy,qq,qk,c71R,c71Z,c71L1m,c71L1b,kM,hG.f7,hG.l7,Door.enc,NL.enc,ZLm,ZLo,ZG8,hA,hln,ZHL]
theorem pA (hL:LVm hd.length Lv (id::r) tl):
 Zb rE c71A (wfp y hd.length G Lv) (hd++kM K::tl)=some (.normal,wfp y hd.length G Lv++[(16,.bool true)],hd++kM K::tl):=by
 obtain ⟨bl,g,off,ex,es,rfl,hb,hg1,hg2,hes⟩:=hL;have hr:rowAt tl bl g=some (1,es):=by unfold rowAt;rw [hb];simp only [hg1,beq_self_eq_true,cond_true]
 have hlen:(id::r).length=r.length+1:=rfl;simp only [go_sem,qy,reduceIte,c71A,c71L1b,wfp,kM,hlen,ZEw,hr,ZLm,ZLo,ZFT,ZEJ,ZLd,ZLg]
theorem pE (hL:LVm hd.length Lv [] tl):
 Zb rE c71A (wfp y hd.length G Lv) (hd++kM K::tl)=some (.exit 0,wfp y hd.length G Lv++[(16,.bool false)],hd++kM K::tl):=by
 obtain ⟨bl,g,off,ex,es,rfl,hb,hg1,hg2,hes⟩:=hL;have hr:rowAt tl bl g=some (1,es):=by unfold rowAt;rw [hb];simp only [hg1,beq_self_eq_true,cond_true]
 have hlen:([]:List Str).length=0:=rfl;have h0:decide (((0:Nat):Int) > 0)=false:=rfl;simp only [go_sem,qy,reduceIte,c71A,c71L1b,wfp,kM,hlen,ZEw,hr,ZLm,ZLo,h0,ZEJ,ZLd,ZLg]
theorem pC (hL:LVm hd.length Lv (id::r) tl):
 ∃ fr Lv',Zb rE c71C (wfp y hd.length G Lv) (hd++kM K::tl)=some (.normal,fr,hd++kM K::tl)∧get fr 0=.yld y∧get fr 2=G∧get fr 4=.mp hd.length∧get fr 5=Lv'∧LVm hd.length Lv' r tl:=by
 obtain ⟨bl,g,off,ex,es,rfl,hb,hg1,hg2,hes⟩:=hL;have hlen:(id::r).length=r.length+1:=rfl;have hr:rowAt tl bl g=some (1,es):=by unfold rowAt;rw [hb];simp only [hg1,beq_self_eq_true,cond_true]
 refine ⟨[(5,.sl (hd.length+(bl+1)) g (off+1) r.length ex),(18,.sl (hd.length+(bl+1)) g (off+1) r.length ex),(17,.sl (hd.length+(bl+1)) g off (r.length+1) ex)]++wfp y hd.length G (.sl (hd.length+(bl+1)) g off (r.length+1) ex),.sl (hd.length+(bl+1)) g (off+1) r.length ex,?_,rfl,rfl,rfl,rfl,?_⟩
 ·have hs:=ZFV (h:=hd++.map (K.map encS) (ZO K.length)::tl) (b:=hd.length+(bl+1)) (off:=off) (n:=r.length) (ex:=ex) (by rw [ZEw];exact hr)
  simp only [go_sem,qy,c71C,c71L1b,wfp,kM,hlen,ZFU,hs,ZLd,ZLg]
 ·refine ⟨bl,g,off+1,ex,es,rfl,hb,hg1,by simp at hg2;omega,?_⟩
  have:=congrArg List.tail hes
  rwa [List.tail_drop] at this
theorem ZHM (hG:GRd hd G s FC p0 p3 p7) (hG':GRd hd' G s FC p0 p3 p7) (hl:hd'.length=hd.length) (hL:LVm hd.length Lv (id::r) tl) (hc:TC' tl) (k:Nat) (hk:s.Doors[k]? = some d) (hf:pfn rE 15 [stA s,.str id]=some (I k)) (A:List Str) (h3:(id::r).length+A.length≤1000000)
 (hy:U4 rE y [d.enc] (hd++kM K::(tl++[.row 16 [d.enc]]))=some (.bool true,hd'++kM K::(tl++[.row 16 [d.enc],.row 16 [d.enc]])))
 (hA:∀ L,∃ v,Xy rE false FC [d.enc] (hd'++kM K::(tl++.row 16 [d.enc]::L))=some (v,hd'++kM K::(tl++.row 16 [d.enc]::L))∧ZEl hd' v A):
 ∃ Lv' tl',Zb rE c71L1b (wfp y hd.length G Lv) (hd++kM K::tl)=some (.normal,wfp y hd.length G Lv',hd'++kM (A.foldl wkS (K,id::r)).1::tl')∧
  LVm hd.length Lv' (A.foldl wkS (K,id::r)).2.tail tl'∧TC' tl':=by
 obtain ⟨b,hy'⟩:=py y G hd hd' K Lv tl d hl hy;have hT:TC' (tl++.row 16 [d.enc]::bif b then [] else [.row 16 [d.enc]]):=fun n=>by
  have e:Zj n (.row 16 [d.enc])=true:=by simp only [Zj,Zd,Door.enc,NL.enc,bel,ZLH]
  rw [ZEu,hc n];cases b<;>simp only [cond_true,cond_false,X4,e,ZLH]
 generalize (bif b then [] else [AObj.row 16 [d.enc]])=X at hy' hT;obtain ⟨v,hA,hv⟩:=hA X;have hin:=ZHG hd' (.yld y) (G) v A hv (K,id::r) Lv (tl++.row 16 [d.enc]::X) (by rw [hl];exact ZHB hL _) hT h3
 have hr:=pr y s FC G p0 p3 p7 hd' K Lv tl X d hG' v A hv hA;have kq:=fun {fr:Fr} {Y G Lv:AV} {L:List Str}=>@ZG7 fr Y G Lv L hd'
 have cq:=fun (K:List Str) (Lv:AV) (id:Str) (r:List Str) (tl:List AObj)=>pC y G hd' K Lv id r tl
 rw [hl] at hin hr;simp only [hl] at kq cq;obtain ⟨fr',Lv0,tl0,hin,z1,z2,z3,z4,z5,z6⟩:=hin;obtain ⟨tl1,hk1,l1,c1⟩:=kq (kM (A.foldl wkS (K,id::r)).1) (tl++.row 16 [d.enc]::X).length .normal z3 z4 z5 z6 z1 z2;have hlen1:(hd'++kM K::(tl++.row 16 [d.enc]::X)).length=hd.length+((tl++.row 16 [d.enc]::X).length+1):=by rw [ZEH,hl]
 have e1:Zb rE c71L1m (wfp y hd.length G Lv++[(16,.bool true)]) (hd++kM K::tl)=some (.normal,wfp y hd.length G Lv0,hd'++kM (A.foldl wkS (K,id::r)).1::tl1):=by
  show Zb rE (.seq c71D (.seq c71Y (.seq c71R (.keep [0,2,4,5] (.block 2 c71L0))))) _ _=_
  rw [SK,pd y s FC G p0 p3 p7 hd K Lv id r tl d hG hL k hk hf,SH,SK,hy',SH,SK,hr,SH,Sm,Sl];show kp _ _ (blk 2 (Zg rE [0,2,4,5,37,38,39] c71L0b _ _))=_
  rw [hin,hlen1];exact hk1
 obtain ⟨r',hne⟩:=ZEQ A K (id::r) id r rfl;generalize A.foldl wkS (K,id::r)=q at hne e1 l1 ⊢;obtain ⟨K',L'⟩:=q;have hne:L'=id::r':=hne;subst hne;have l1:LVm hd.length Lv0 (id::r') tl1:=l1;obtain ⟨tl2,e2,l2,c2⟩:=kq (Y:=.yld y) (G:=G) (Lv:=Lv0) (fr:=wfp y hd.length G Lv0) (kM K') tl.length .normal rfl rfl rfl rfl l1 c1;obtain ⟨fr3,Lv3,e3,g0,g2,g4,g5,l3⟩:=cq K' Lv0 id r' tl2 l2;obtain ⟨tl4,e4,l4,c4⟩:=kq (Y:=.yld y) (G:=G) (Lv:=Lv3) (fr:=fr3) (kM K') tl2.length .normal g0 g2 g4 g5 l3 c2;obtain ⟨tl5,e5,l5,c5⟩:=kq (Y:=.yld y) (G:=G) (Lv:=Lv3) (fr:=wfp y hd.length G Lv3) (kM K') tl.length .normal rfl rfl rfl rfl l4 c4;refine ⟨Lv3,tl5,?_,l5,c5⟩;show Zb rE (.keep [0,2,4,5] (.seq c71A (.seq (.keep [0,2,4,5] (.block 1 c71L1m)) (.keep [0,2,4,5] c71C)))) _ _=_
 rw [Sm,SK,pA y G hd K Lv id r tl hL,SH,SK,Sm,Sl,e1];show kp _ _ (sq rE _ (kp _ _ (some (.normal,wfp y hd.length G Lv0,_))))=_
 rw [ZEH,e2,SH,Sm];rw [show Zb rE c71C [(0,.yld y),(2,G),(4,.mp hd.length),(5,Lv0)] (hd'++kM K'::tl2)=_ from e3,ZEH,hl,e4]
 exact e5
end
theorem ZHN {σ:Type} {s:Sta} {aft:Door→List Str} {f:Door→σ→σ} {ok:σ→Prop} (FC G p0 p3 p7:AV) (y m:Nat) (H:σ→List AObj) (hG:∀ x,GRd (H x) G s FC p0 p3 p7) (hH:∀ x,(H x).length=m)
 (hy:∀ (d:Door) (x:σ) (K:List Str) (tl:List AObj),d∈s.Doors→ok x→U4 rE y [d.enc] (H x++kM K::(tl++[.row 16 [d.enc]]))=some (.bool true,H (f d x)++kM K::(tl++[.row 16 [d.enc],.row 16 [d.enc]])))
 (hA:∀ (d:Door) (x:σ) (K:List Str) (tl:List AObj),d∈s.Doors→∃ v,Xy rE false FC [d.enc] (H x++kM K::tl)=some (v,H x++kM K::tl)∧ZEl (H x) v (aft d))
 {K L:List Str} {x x':σ} (R:RunsG s aft f ok K L x x'):∀ (Lv:AV) (tl:List AObj),LVm m Lv L tl→TC' tl→
 ∃ K' Lv' tl',Zg rE [0,2,4,5] c71L1b (wfp y m G Lv) (H x++kM K::tl)=some (.exit 0,wfp y m G Lv',H x'++kM K'::tl'):=by
 induction R with
 | stop K x=>
  intro Lv tl hL hc;have hm:=hH x;subst hm;obtain ⟨tl2,e2,l2,c2⟩:=ZG7 (Y:=.yld y) (G:=G) (Lv:=Lv) (fr:=wfp y (H x).length G Lv++[(16,.bool false)]) (H x) (kM K) tl.length (.exit 0) rfl rfl rfl rfl hL hc;refine ⟨K,Lv,tl2,Q7 rfl ?_ (fun h=>by cases h)⟩
  show Zb rE (.keep [0,2,4,5] (.seq c71A (.seq (.keep [0,2,4,5] (.block 1 c71L1m)) (.keep [0,2,4,5] c71C)))) _ _=_
  rw [Sm,SK,pE y G (H x) K Lv tl hL,SI,ZEH];exact e2
 | step K id r x x' k d hd hf hx h3 h ih=>
  intro Lv tl hL hc;have hm:=ZLe hd;have hl:(H (f d x)).length=(H x).length:=by rw [hH,hH]
  have hm':=hH x;obtain ⟨Lv1,tl1,e1,l1,c1⟩:=ZHM y s FC G p0 p3 p7 (H x) (H (f d x)) K Lv id r tl d (hG x) (hG (f d x)) hl (by rw [hm'];exact hL) hc k hd hf (aft d) h3 (hy d x K tl hm hx) (fun L=>hA d (f d x) K _ hm)
  rw [hm'] at e1 l1;obtain ⟨K',Lv',tl',e⟩:=ih Lv1 tl1 l1 c1;refine ⟨K',Lv',tl',?_⟩;rw [Yt rfl e1];exact e
end Go.AM
namespace Go.AM
open Go
theorem ZGf (hd Z:List AObj) (n:Nat) (fr:Fr) (hn:hd.length≤n):∃ tl,Xq n fr (hd++Z)=hd++tl:=by
 unfold Xq;cases Zd n (fr.map (·.2))&&X4 n ((hd++Z).take n) with
 | false=>exact ⟨Z,rfl⟩
 | true=>exact ⟨Z.take (n - hd.length),by rw [cond_true,ZNp,ZLw hn]⟩
theorem ZI8 {σ:Type} {s:Sta} {aft:Door→List Str} {f:Door→σ→σ} {ok:σ→Prop} (FC G p0 p3 p7:AV) (y m:Nat) (H:σ→List AObj) (hG:∀ x,GRd (H x) G s FC p0 p3 p7) (hH:∀ x,(H x).length=m)
 (hy:∀ (d:Door) (x:σ) (K:List Str) (tl:List AObj),d∈s.Doors→ok x→U4 rE y [d.enc] (H x++kM K::(tl++[.row 16 [d.enc]]))=some (.bool true,H (f d x)++kM K::(tl++[.row 16 [d.enc],.row 16 [d.enc]])))
 (hA:∀ (d:Door) (x:σ) (K:List Str) (tl:List AObj),d∈s.Doors→∃ v,Xy rE false FC [d.enc] (H x++kM K::tl)=some (v,H x++kM K::tl)∧ZEl (H x) v (aft d))
 (id:Str) {x x':σ} (R:RunsG s aft f ok [id] [id] x x'):
 ∃ fr tl,Zb rE c71 (QP 0 ([]++[.yld y]++[.iptr false [.str id],G])) (H x)=some (.normal,fr,H x'++tl):=by
 obtain ⟨K',Lv',tl',hl⟩:=ZHN FC G p0 p3 p7 y m H hG hH hy hA R (.sl (m+(0+1)) 1 0 1 true) [.row 1 [.str id]] ⟨0,1,0,true,[.str id],rfl,rfl,rfl,rfl,rfl⟩ (fun n=>rfl)
 have hm:=hH x;have hm':=hH x';have hp:=Ur (enc:=encS) (eq:=Z3) Z1Y [] id (h:=H x++[.map [] []]) (b:=(H x).length) (ZEG _ _ _);have hk:Qi Z3 [] id=[id]:=rfl;rw [hk] at hp;have hrep:List.replicate 1 (AV.bool true)=[.bool true]:=rfl;have hrep0:List.replicate 0 (AV.bool true)=[]:=rfl;rw [ZEV] at hp;simp only [encS,List.map,ZO,ZLm,ZLL,ZLl,hrep] at hp;simp only [wfp,kM,encS,List.map,ZO,ZLm,ZLL,ZLl,hrep] at hl;subst hm;have f1:∀ a b c h,Xq (H x).length [(0,a),(1,b),(2,c),(4,.mp (H x).length)] h=h:=fun a b c h=>by
  have hn:Nat.blt (H x).length (H x).length=false:=by rw [ZM2];simp [ZLP]
  have e:Zd (H x).length ([(0,a),(1,b),(2,c),(4,AV.mp (H x).length)].map (fun (p:Nat×AV)=>p.2))=false:=by simp [Zd,bel,hn]
  unfold Xq;rw [e];rfl
 have f2:∀ n a b c g o k ex h,Xq n [(0,a),(2,b),(4,c),(5,.sl n g o k ex)] h=h:=fun n a b c g o k ex h=>by
  have hn:Nat.blt n n=false:=by rw [ZM2];simp [ZLP]
  have e:Zd n ([(0,a),(2,b),(4,c),(5,AV.sl n g o k ex)].map (fun (p:Nat×AV)=>p.2))=false:=by simp [Zd,bel,hn]
  unfold Xq;rw [e];rfl
 have l1:∀ o:AObj,(H x++[o]).length=(H x).length+1:=fun o=>by simp
 have l2:∀ o p:AObj,(H x++[o]++[p]).length=(H x).length+2:=fun o p=>by simp
 have l3:H x++[AObj.map [.str id] [.bool true]]++[.row 1 [.str id]]=H x++[AObj.map [.str id] [.bool true],.row 1 [.str id]]:=by simp
 have hl:Zg rE [0,2,4,5] c71L1b _ (H x++[AObj.map [.str id] [.bool true],.row 1 [.str id]])=_:=hl;simp only [go_sem,qy,qq,qv,c71,c71L1,hp,f1,f2,l1,l3,hl];obtain ⟨tl,ht⟩:=ZGf (H x') (AObj.map (K'.map encS) (List.replicate K'.length (.bool true))::tl') ((H x).length+2) [] (by omega)
 exact ⟨[],tl,by rw [ht]⟩
end Go.AM
namespace Go.AM
open Go
theorem ZL5 {s:Sta} {K L:List Str} {D E D' E':List AV} (H:Runs s K L D E D' E'):RunsG s (fun d=>d.After.l) (fun d (q:List AV×List AV)=>(faD d q.1,faE d q.2)) (fun q=>q.1.length≤1000∧q.2.length≤1000) K L (D,E) (D',E'):=by
 induction H with
 | stop K D E=>exact RunsG.stop _ _
 | step K id r D E D' E' k d hd hf h1 h2 h3 h ih=>exact RunsG.step K id r _ _ k d hd hf ⟨h1,h2⟩ (by omega) ih
theorem ZHd (s:Sta) (t:AV) (id:Str) (D' E':List AV) (H:Runs s [id] [id] [] [] D' E'):
 ∃ fr tl,Zb rE c71 (QP 0 ([]++[.yld 4]++[.iptr false [.str id],grA s])) (h5 t [] [])=some (.normal,fr,h5 t D' E'++tl):=
 ZI8 (AV.clo (.func 34) [] []) (grA s) (.iptr false ((stA s).cells++[AV.clo (.func 34) [] []])) (.iptr false (((stA s).cells++[AV.clo (.func 34) [] []]).drop 3)) (.iptr false [AV.clo (.func 34) [] []]) 4 5 (fun q:List AV×List AV=>h5 t q.1 q.2)
  (fun q=>⟨fun _ _=>rfl,fun _ _=>rfl,fun _ _=>rfl,fun _ _=>rfl,fun _ _=>rfl,fun _ _=>rfl,fun _ _=>⟨rfl,rfl,rfl⟩⟩) (fun q=>rfl)
  (fun d q K tl _ hq=>by
   have h:=ZGU t d q.1 q.2 (kM K::(tl++[.row 16 [d.enc]])) hq.1 hq.2;rw [ZLd,ZLf] at h;exact h)
  (fun d q K tl _=>⟨d.After.enc 1 encS,by
   have h:=ZGY d (h5 t q.1 q.2++kM K::tl);rw [RL];exact h,ZHE _ _ _⟩) id (ZL5 H)
end Go.AM
namespace Go.AM
open Go
def wkT (s:Sta) (id:Str):AV:=.clo (.func 71) [] [.iptr false [.str id],grA s]
def h4 (D E:List AV):List AObj:=[.row 2 [.agg [.isl false false 1 [],.isl false false 3 []]],.row 1 D,.row 3 E,.row 2 [.agg [.sl 1 D.length 0 D.length false,.sl 2 E.length 0 E.length false]]]
theorem ZHe (s:Sta) (id:Str) (D E:List AV) (H:Runs s [id] [id] [] [] D E):
 ∃ tl,rf rE (wkT s id) [20] c12R0a c12R0b (ffr (wkT s id)) (h4 [] [])=some (.normal,ffr (wkT s id),h4 D E++tl):=by
 obtain ⟨fr,tl,h⟩:=ZHd s (wkT s id) id D E H;refine ⟨.loop .exhausted .normal (ffr (wkT s id)) [20] c12R0a c12R0b::tl,?_⟩;unfold wkT;rw [Z1k (c:=c71) (rs:=[]) rfl];have h':Zb rE c71 (QP 0 ([]++[.yld (h4 [] []).length]++[.iptr false [.str id],grA s])) (h4 [] []++[.loop .ready .normal (ffr (wkT s id)) [20] c12R0a c12R0b])=_:=h;unfold wkT at h';rw [h'];rfl
def grC (s:Sta):List AV:=[.isl false false 6 (s.Regions.map Region.enc),.isl false false 5 (s.Streets.map Street.enc),.isl false false 4 (s.Buildings.map Building.enc),.isl false false 16 (s.Doors.map Door.enc),.isl false false 6 (s.Units.map Unit'.enc),.isl false false 2 (s.Merged.map Pair.enc),.isl false false 2 (s.Rulings.map Pair.enc)]
theorem ZHf (s:Sta) (id:Str) (h:Hp):fnV rE 35 [.agg (grC s++[.clo (.func 34) [] []]),.str id] h=some (.clo (.func 71) [] [.iptr false [.str id],.iptr false (grC s++[.clo (.func 34) [] []])],h):=by
 rw [Q6 (f:=35) rfl rfl];unfold grC;simp only [go_sem,qy,qq,c35,ZLd,ZLg,ZE5 (h:=h) rfl]
theorem ZHg (p0 p1 p2 p3:AObj) (tl:List AObj) (b:Bool):trimB 4 (p0::p1::p2::p3::tl) b=p0::p1::p2::p3::bif b then [] else tl:=by cases b<;>rfl
theorem ZHh {D D2:List AV} (hD:ZE7 37 [ZEa 37] 1 D=some D2) (p0 p2 p3:AObj) (tl:List AObj):
 rsD (rE.rs 36) (p0::.row 1 D::p2::p3::tl) [.sl 1 D.length 0 D.length false,.clo (.func 37) [] []]=some (.sl 1 D.length 0 D.length false,⟨false,[1],some 1,none⟩,some (1,.row 1 D2)):=by
 show ZEn (ZE7 37) _ _=_
 unfold ZEn ZE8;simp only [ZLF,ZLs,beq_self_eq_true,ZLH,cond_true];have hD':ZE7 37 [.clo (.func 37) [] []] 1 D=some D2:=hD;rw [hD'];rfl
theorem ZHi {E E2:List AV} (hE:ZEe 39 3 ZEf [ZEa 39] 3 E=some E2) (p0 p1 p3:AObj) (tl:List AObj):
 fnV rE 38 [.sl 2 E.length 0 E.length false,.clo (.func 39) [] []] (p0::p1::.row 3 E::p3::tl)=some (.sl 2 E.length 0 E.length false,p0::p1::.row 3 E2::p3::tl):=by
 rw [V8 (s:=ZEo (ZEe 39 3 ZEf)) rfl];unfold ZEo ZE8;simp only [ZLF,ZLs,beq_self_eq_true,ZLH,cond_true];have hE':ZEe 39 3 ZEf [.clo (.func 39) [] []] 3 E=some E2:=hE;rw [hE'];rfl
theorem ZHj {E:Env} {d:Option Nat} {r:List AOper} {u:List Nat} {us:List (List Nat)} {fr:Fr} {h:Hp} {recs:List DRec} {v:AV} {rc:DRec} {b:Nat} {o:AObj}:
 rkw E d r u us fr h recs (some (v,rc,some (b,o)))=okd recs u h rc (some (b,o)) (Zm E r us (ZB fr d v) (setH h b o) (recs++[rc])):=rfl
theorem ZHk {α:Type} {recs:List DRec} {p0 p1 o:AObj} {tl:List AObj} {d:DRec} {k:Option α}:okd recs [] (p0::p1::tl) d (some (1,o)) k=k:=Z9E rfl (ZM8 (show 1≤(p0::p1::tl).length by simp))
theorem ZHl (p0 p1 p2 p3:AObj) (tl:List AObj) (b:Bool):trimB (tl.length+1+1+1+1) (p0::p1::p2::p3::tl) b=p0::p1::p2::p3::tl:=ZEx (by simp)
theorem ZFW (s:Sta) (id:Str) (D E D2 E2:List AV) (hc:pfn rE 33 [stA s,.str id]=some (I 0)) (H:Runs s [id] [id] [] [] D E) (hD:ZE7 37 [ZEa 37] 1 D=some D2) (hE:ZEe 39 3 ZEf [ZEa 39] 3 E=some E2) (hDl:D2.length=D.length) (hEl:E2.length=E.length) (hDc:Z4 D2=true) (hEc:Z4 E2=true):
 pfn rE 12 [stA s,.str id]=some (.tup [.agg [.isl false false 1 D2,.isl false false 3 E2],I 0]):=by
 obtain ⟨tl,hr⟩:=ZHe s id D E H;simp only [stA] at hc;simp only [wkT,grA,ffr,h4,AV.cells,ZLd,ZLg,ZLL] at hr;have hw:=ZHf s id;simp only [grC,ZLd,ZLg] at hw;have b1:(D2.length==D.length)=true:=by rw [hDl];exact beq_self_eq_true _
 have b2:(E2.length==E.length)=true:=by rw [hEl];exact beq_self_eq_true _
 have t1:D2.take D.length=D2:=by rw [←hDl];exact ZLI
 have t2:E2.take E.length=E2:=by rw [←hEl];exact ZLI
 have f1:∀ h n,ZC false h (n+1) D2=some D2:=fun h n=>by simp only [ZC,hDc,cond_true]
 have f2:∀ h n,ZC false h (n+1) E2=some E2:=fun h n=>by simp only [ZC,hEc,cond_true]
 have f1:=fun h=>f1 h 34
 have f2:=fun h=>f2 h 33
 simp only [Nat.reduceAdd] at f1 f2;have h00:((0:Int) != 0)=false:=rfl;rw [Z5 (f:=12) rfl rfl];simp only [go_sem,qy,qq,qv,qk,reduceIte,c12,stA,hc,h00,hw,put,Sr,hr,ZHg,ZL4,ZHj,ZHk,ZHl,ZHh hD,ZHi hE,b1,b2,t1,t2,f1,f2]
end Go.AM
namespace Go.AM
open Go
def ZU (s:Str):Bool:=!decide ((s.size:Int) > 100)
theorem Vv (bw ex:Bool) (l:List Str) (hl:l.length < 9223372036854775807):pfn rE 43 [.isl bw ex 1 (l.map encS)]=some (.bool (l.all ZU)):=by
 have L:=Uf (E:=rE) (live:=[0,3]) (b:=c43L0b) (h:=[]) l (fun _ x=>ZU x) (fun i=>[(0,.isl bw ex 1 (l.map encS)),(3,I i)]) 0 (fun fr=>get fr 2=.bool false) (fun i=>rfl)
  (fun i x hx hP=>by
   have hg:=Z6 (f:=encS) hx;have hi:=Zh (Z7 hx);have hw:=Zx (n:=i) (by have:=Z7 hx;omega)
   have hP':decide ((x.size:Int) > 100)=false:=by simpa [ZU] using hP
   refine ⟨_,by simp only [go_sem,qy,reduceIte,c43L0b,hg,hi,hw,hP',encS];rfl,?_⟩
   simp only [go_sem,qy])
  (fun i x hx hP=>by
   have hg:=Z6 (f:=encS) hx;have hi:=Zh (Z7 hx);have hP':decide ((x.size:Int) > 100)=true:=by simpa [ZU] using hP
   refine ⟨_,by simp only [go_sem,qy,reduceIte,c43L0b,hg,hi,hP',encS];rfl,?_⟩
   simp only [go_sem,qy])
  (⟨_,by simp only [go_sem,qy,reduceIte,c43L0b,ZG];rfl⟩)
 rw [Z5 (f:=43) rfl rfl];rw [QE] at L;obtain ⟨fr',h1,h2⟩:=L;have h1':Zg rE [0,3] c43L0b [(0,.isl bw ex 1 (l.map encS)),(3,.int .i64 0)] []=_:=h1;cases hc:l.all ZU with
 | true=>rw [hc] at h1';simp only [go_sem,qy,qq,reduceIte,c43,c43L0,h1']
 | false=>
  rw [hc] at h1';have h2':=h2 hc;simp only [go_sem,qy,qq,reduceIte,c43,c43L0,h1',h2',ZLj]
theorem JK (a:Str):pfn rE 43 [.isl false false 1 [.str a]]=some (.bool ([a].all ZU)):=Vv false false [a] (by simp)
theorem HG (a b:Str):pfn rE 43 [.isl false false 1 [.str a,.str b]]=some (.bool ([a,b].all ZU)):=Vv false false [a,b] (by simp)
theorem FP (a b c:Str):pfn rE 43 [.isl false false 1 [.str a,.str b,.str c]]=some (.bool ([a,b,c].all ZU)):=Vv false false [a,b,c] (by simp)
theorem Z4y (a b c d:Str):pfn rE 43 [.isl false false 1 [.str a,.str b,.str c,.str d]]=some (.bool ([a,b,c,d].all ZU)):=Vv false false [a,b,c,d] (by simp)
theorem FQ (a b c d e:Str):pfn rE 43 [.isl false false 1 [.str a,.str b,.str c,.str d,.str e]]=some (.bool ([a,b,c,d,e].all ZU)):=Vv false false [a,b,c,d,e] (by simp)
theorem HH {α:Type} {l:List α} {n i:Nat} {x:α} (h:(l.take n)[i]? = some x):l[i]? = some x∧i < n:=by
 have hi:=Z7 h;rw [ZMi] at hi;rw [ZMI (by omega)] at h
 exact ⟨h,by omega⟩
theorem FR {α:Type} (l:List α):(decide ((((l.take 10).length:Nat):Int) < (l.length:Int))=true→decide ((((l.take 10).length:Nat):Int) < 10)=false):=by
 intro h;have:=of_decide_eq_true h;rw [ZMi] at *;exact decide_eq_false (by omega)
def M1 (x:Nm):Bool:=[x.Lang,x.Text].all ZU
def XQ (l:List Nm):Bool:=(l.take 10).all M1&&decide ((l.length:Int)≤10)
theorem UQ (ex:Bool) (l:List Nm):pfn rE 44 [.isl false ex 3 (l.map Nm.enc)]=some (.bool (XQ l)):=by
 have L:=QT (E:=rE) (live:=[0,3]) (b:=c44L0b) (h:=[]) (l.take 10) (fun _ x=>M1 x) (fun i=>[(0,.isl false ex 3 (l.map Nm.enc)),(3,I i)]) 0 (fun fr=>get fr 0=.isl false ex 3 (l.map Nm.enc)∧get fr 2=.bot) (fun fr=>get fr 2=.bool false) (fun i=>rfl)
  (fun i x hx hP=>by
   obtain ⟨hx',hi10⟩:=HH hx;have hg:=Z6 (f:=Nm.enc) hx';have hi:=Zh (Z7 hx');have hw:=Zx (n:=i) (by omega)
   have h10:decide ((i:Int) < 10)=true:=decide_eq_true (by omega)
   have hS:=HG x.Lang x.Text;have hP':[x.Lang,x.Text].all ZU=true:=hP;rw [hP'] at hS;refine ⟨_,by simp only [go_sem,qy,qq,qv,qk,reduceIte,c44L0b,hg,hi,hw,h10,Nm.enc,hS];rfl,?_⟩
   simp only [go_sem,qy])
  (fun i x hx hP=>by
   obtain ⟨hx',hi10⟩:=HH hx;have hg:=Z6 (f:=Nm.enc) hx';have hi:=Zh (Z7 hx');have h10:decide ((i:Int) < 10)=true:=decide_eq_true (by omega)
   have hS:=HG x.Lang x.Text;have hP':[x.Lang,x.Text].all ZU=false:=hP;rw [hP'] at hS;refine ⟨_,by simp only [go_sem,qy,qq,qv,qk,reduceIte,c44L0b,hg,hi,h10,Nm.enc,hS];rfl,?_⟩
   simp only [go_sem,qy])
  (by
   cases c:decide ((((l.take 10).length:Nat):Int) < (l.length:Int)) with
   | true=>
    have h10:=FR l c;exact ⟨_,by simp only [go_sem,qy,reduceIte,c44L0b,c,h10];rfl,by simp only [go_sem,qy],by simp only [go_sem,qy]⟩
   | false=>exact ⟨_,by simp only [go_sem,qy,reduceIte,c44L0b,c];rfl,by simp only [go_sem,qy],by simp only [go_sem,qy]⟩)
 rw [Z5 (f:=44) rfl rfl];rw [QE] at L;obtain ⟨fr',h1,h3,h2⟩:=L;have h1':Zg rE [0,3] c44L0b [(0,.isl false ex 3 (l.map Nm.enc)),(3,.int .i64 0)] []=_:=h1;unfold XQ;cases hc:(l.take 10).all M1 with
 | true=>
  rw [hc] at h1';obtain ⟨q0,q2⟩:=h3 hc;simp only [go_sem,qy,qq,reduceIte,c44,c44L0,h1',q0,q2]
 | false=>
  rw [hc] at h1';have h2':=h2 hc;simp only [go_sem,qy,qq,reduceIte,c44,c44L0,h1',h2',ZLj]
def M2 (x:Ent):Bool:=[x.Id,x.Number.Letter].all ZU
def FT (l:List Ent):Bool:=(l.take 10).all M2
abbrev evI (e:Event):AV:=.iptr false [I e.Kind,I e.Day,I e.A,I e.B,I e.Office,.str e.Id,.str e.Other,.str e.Text,.isl false e.Ids.ex 1 (e.Ids.l.map encS),.isl false e.Names.ex 3 (e.Names.l.map Nm.enc),
 I e.Number.N,.str e.Number.Letter,I e.Number.Num,I e.Number.Den,I e.Point.X,I e.Point.Y,.isl false e.Path.ex 2 (e.Path.l.map Pt.enc),.isl false e.Lst.ex 7 (e.Lst.l.map Ent.enc)]
def Xn (e:Event):Bool:=
 FT e.Lst.l&&([e.Id,e.Other,e.Text,e.Number.Letter].all ZU&&(decide ((e.Ids.l.length:Int)≤10)&&(e.Ids.l.all ZU&&(XQ e.Names.l&&(decide ((e.Path.l.length:Int)≤12)&&decide ((e.Lst.l.length:Int)≤10))))))
theorem Z4z (e:Event):pfn rE 19 [evA e]=some (.bool (Xn e)):=by
 have L:=QT (E:=rE) (live:=[1,3]) (b:=c19L0b) (h:=[]) (e.Lst.l.take 10) (fun _ x=>M2 x) (fun i=>[(1,evI e),(3,I i)]) 0 (fun fr=>get fr 1=evI e∧get fr 2=.bot) (fun fr=>get fr 2=.bool false) (fun i=>rfl)
  (fun i x hx hP=>by
   obtain ⟨hx',hi10⟩:=HH hx;have hg:=Z6 (f:=Ent.enc) hx';have hi:=Zh (Z7 hx');have hw:=Zx (n:=i) (by omega)
   have h10:decide ((i:Int) < 10)=true:=decide_eq_true (by omega)
   have hS:=HG x.Id x.Number.Letter;have hP':[x.Id,x.Number.Letter].all ZU=true:=hP;rw [hP'] at hS;refine ⟨_,by simp only [go_sem,qy,qq,qv,qk,reduceIte,c19L0b,hg,hi,hw,h10,Ent.enc,hS];rfl,?_⟩
   simp only [go_sem,qy])
  (fun i x hx hP=>by
   obtain ⟨hx',hi10⟩:=HH hx;have hg:=Z6 (f:=Ent.enc) hx';have hi:=Zh (Z7 hx');have h10:decide ((i:Int) < 10)=true:=decide_eq_true (by omega)
   have hS:=HG x.Id x.Number.Letter;have hP':[x.Id,x.Number.Letter].all ZU=false:=hP;rw [hP'] at hS;refine ⟨_,by simp only [go_sem,qy,qq,qv,qk,reduceIte,c19L0b,hg,hi,h10,Ent.enc,hS];rfl,?_⟩
   simp only [go_sem,qy])
  (by
   cases c:decide ((((e.Lst.l.take 10).length:Nat):Int) < (e.Lst.l.length:Int)) with
   | true=>
    have h10:=FR e.Lst.l c;exact ⟨_,by simp only [go_sem,qy,reduceIte,c19L0b,c,h10];rfl,by simp only [go_sem,qy],by simp only [go_sem,qy]⟩
   | false=>exact ⟨_,by simp only [go_sem,qy,reduceIte,c19L0b,c];rfl,by simp only [go_sem,qy],by simp only [go_sem,qy]⟩)
 rw [Z5 (f:=19) rfl rfl];rw [QE] at L;obtain ⟨fr',h1,h3,h2⟩:=L;have h1':Zg rE [1,3] c19L0b [(1,evI e),(3,.int .i64 0)] []=_:=h1;have hS:=Z4y e.Id e.Other e.Text e.Number.Letter;have hN:=UQ e.Names.ex e.Names.l;unfold Xn FT;cases hc:(e.Lst.l.take 10).all M2 with
 | false=>
  rw [hc] at h1';have h2':=h2 hc;simp only [evI] at h1';simp only [go_sem,qy,qq,reduceIte,c19,c19L0,h1',h2',ZLj]
 | true=>
  rw [hc] at h1';obtain ⟨q1,q2⟩:=h3 hc;simp only [evI] at h1' q1;cases c1:[e.Id,e.Other,e.Text,e.Number.Letter].all ZU with
  | false=>rw [c1] at hS;simp only [go_sem,qy,qq,qv,qk,reduceIte,c19,c19L0,h1',q1,q2,hS]
  | true=>
  rw [c1] at hS;cases c2:decide ((e.Ids.l.length:Int)≤10) with
  | false=>simp only [go_sem,qy,qq,qv,qk,reduceIte,c19,c19L0,h1',q1,q2,hS,c2]
  | true=>
  have hI:=Vv false e.Ids.ex e.Ids.l (by have:=of_decide_eq_true c2;omega)
  cases c5003:e.Ids.l.all ZU with
  | false=>rw [c5003] at hI;simp only [go_sem,qy,qq,qv,qk,reduceIte,c19,c19L0,h1',q1,q2,hS,c2,hI]
  | true=>
  rw [c5003] at hI;cases c5004:XQ e.Names.l with
  | false=>rw [c5004] at hN;simp only [go_sem,qy,qq,qv,qk,reduceIte,c19,c19L0,h1',q1,q2,hS,c2,hI,hN]
  | true=>
  rw [c5004] at hN;cases c5005:decide ((e.Path.l.length:Int)≤12) with
  | false=>simp only [go_sem,qy,qq,qv,qk,reduceIte,c19,c19L0,h1',q1,q2,hS,c2,hI,hN,c5005]
  | true=>simp only [go_sem,qy,qq,qv,qk,reduceIte,c19,c19L0,h1',q1,q2,hS,c2,hI,hN,c5005]
theorem JL (e:Event) (h:Xn e=true):EvS e:=by
 simp only [Xn,ZL6] at h;obtain ⟨_,h1,h2,h3,h4,h5,h6⟩:=h;have k2:=of_decide_eq_true h2;have k5:=of_decide_eq_true h5;have k6:=of_decide_eq_true h6;have k4:(e.Names.l.length:Int)≤10:=by
  simp only [XQ,ZL6] at h4;exact of_decide_eq_true h4.2
 simp [ZU] at h1;exact ⟨by omega,by omega,by omega,by omega,by omega,by omega,by omega⟩
end Go.AM
namespace Go.AM
open Go
def WQ (x:Region):Bool:=[x.Id].all ZU&&(XQ x.Names.l&&(!decide ((x.Ring.l.length:Int) > 12)))
def WR (x:Street):Bool:=[x.Id].all ZU&&(XQ x.Names.l&&(!decide ((x.Line.l.length:Int) > 12)))
def WS (x:Building):Bool:=[x.Id].all ZU&&(!decide ((x.Ring.l.length:Int) > 12))
def WT (x:Door):Bool:=[x.Id,x.Building,x.Street,x.Number.Letter,x.Veil].all ZU&&(!decide ((x.After.l.length:Int) > 10)&&(x.After.l.all ZU))
def WU (x:Unit'):Bool:=[x.Id,x.Door,x.Text].all ZU
theorem Z4A (s:Sta) (hl:s.Regions.length≤1000):∃ fr',Zg rE [1,3] c24L0b [(1,stI s),(3,.int .i64 0)] []=some (if s.Regions.all WQ=true then .exit 0 else .ret,fr',[])∧(s.Regions.all WQ=true→get fr' 1=stI s∧get fr' 2=.bot)∧(s.Regions.all WQ=false→get fr' 2=.bool false):=by
 have L:=QT (E:=rE) (live:=[1,3]) (b:=c24L0b) (h:=[]) s.Regions (fun _ x=>WQ x) (fun i=>[(1,stI s),(3,I i)]) 0 (fun fr=>get fr 1=stI s∧get fr 2=.bot) (fun fr=>get fr 2=.bool false) (fun i=>rfl)
  (fun i x hx hP=>by
   have hg:=Z6 (f:=Region.enc) hx;have hi:=Zh (Z7 hx);have hw:=Zx (n:=i) (by have:=Z7 hx;omega)
   have hS:=JK x.Id;have hN:=UQ x.Names.ex x.Names.l;simp only [WQ,ZL6,ZLr] at hP;obtain ⟨p0,p1,p2⟩:=hP;rw [p0] at hS;rw [p1] at hN;refine ⟨_,by simp only [go_sem,qy,qq,qv,qk,reduceIte,c24L0b,hg,hi,hw,Region.enc,NL.enc,hS,hN,p2];rfl,?_⟩
   simp only [go_sem,qy])
  (fun i x hx hP=>by
   have hg:=Z6 (f:=Region.enc) hx;have hi:=Zh (Z7 hx);have hS:=JK x.Id;have hN:=UQ x.Names.ex x.Names.l;unfold WQ at hP;cases c0:[x.Id].all ZU with
   | false=>
    rw [c0] at hS;refine ⟨_,by simp only [go_sem,qy,qq,qv,qk,reduceIte,c24L0b,hg,hi,Region.enc,NL.enc,hS];rfl,?_⟩
    simp only [go_sem,qy]
   | true=>
   rw [c0] at hS hP;cases c1:XQ x.Names.l with
   | false=>
    rw [c1] at hN;refine ⟨_,by simp only [go_sem,qy,qq,qv,qk,reduceIte,c24L0b,hg,hi,Region.enc,NL.enc,hS,hN];rfl,?_⟩
    simp only [go_sem,qy]
   | true=>
   rw [c1] at hN hP;cases c2:decide ((x.Ring.l.length:Int) > 12) with
   | true=>
    refine ⟨_,by simp only [go_sem,qy,qq,qv,qk,reduceIte,c24L0b,hg,hi,Region.enc,NL.enc,hS,hN,c2];rfl,?_⟩
    simp only [go_sem,qy]
   | false=>
   rw [c2] at hP;cases hP)
  (⟨_,by simp only [go_sem,qy,reduceIte,c24L0b,ZG];rfl,by simp only [go_sem,qy],by simp only [go_sem,qy]⟩)
 rw [QE] at L;exact L
theorem Z4B (s:Sta) (hl:s.Streets.length≤1000):∃ fr',Zg rE [1,4] c24L1b [(1,stI s),(4,.int .i64 0)] []=some (if s.Streets.all WR=true then .exit 2 else .ret,fr',[])∧(s.Streets.all WR=true→get fr' 1=stI s∧get fr' 2=.bot)∧(s.Streets.all WR=false→get fr' 2=.bool false):=by
 have L:=QT (E:=rE) (live:=[1,4]) (b:=c24L1b) (h:=[]) s.Streets (fun _ x=>WR x) (fun i=>[(1,stI s),(4,I i)]) 2 (fun fr=>get fr 1=stI s∧get fr 2=.bot) (fun fr=>get fr 2=.bool false) (fun i=>rfl)
  (fun i x hx hP=>by
   have hg:=Z6 (f:=Street.enc) hx;have hi:=Zh (Z7 hx);have hw:=Zx (n:=i) (by have:=Z7 hx;omega)
   have hS:=JK x.Id;have hN:=UQ x.Names.ex x.Names.l;simp only [WR,ZL6,ZLr] at hP;obtain ⟨p0,p1,p2⟩:=hP;rw [p0] at hS;rw [p1] at hN;refine ⟨_,by simp only [go_sem,qy,qq,qv,qk,reduceIte,c24L1b,hg,hi,hw,Street.enc,NL.enc,hS,hN,p2];rfl,?_⟩
   simp only [go_sem,qy])
  (fun i x hx hP=>by
   have hg:=Z6 (f:=Street.enc) hx;have hi:=Zh (Z7 hx);have hS:=JK x.Id;have hN:=UQ x.Names.ex x.Names.l;unfold WR at hP;cases c0:[x.Id].all ZU with
   | false=>
    rw [c0] at hS;refine ⟨_,by simp only [go_sem,qy,qq,qv,qk,reduceIte,c24L1b,hg,hi,Street.enc,NL.enc,hS];rfl,?_⟩
    simp only [go_sem,qy]
   | true=>
   rw [c0] at hS hP;cases c1:XQ x.Names.l with
   | false=>
    rw [c1] at hN;refine ⟨_,by simp only [go_sem,qy,qq,qv,qk,reduceIte,c24L1b,hg,hi,Street.enc,NL.enc,hS,hN];rfl,?_⟩
    simp only [go_sem,qy]
   | true=>
   rw [c1] at hN hP;cases c2:decide ((x.Line.l.length:Int) > 12) with
   | true=>
    refine ⟨_,by simp only [go_sem,qy,qq,qv,qk,reduceIte,c24L1b,hg,hi,Street.enc,NL.enc,hS,hN,c2];rfl,?_⟩
    simp only [go_sem,qy]
   | false=>
   rw [c2] at hP;cases hP)
  (⟨_,by simp only [go_sem,qy,reduceIte,c24L1b,ZG];rfl,by simp only [go_sem,qy],by simp only [go_sem,qy]⟩)
 rw [QE] at L;exact L
theorem Z4C (s:Sta) (hl:s.Buildings.length≤1000):∃ fr',Zg rE [1,5] c24L2b [(1,stI s),(5,.int .i64 0)] []=some (if s.Buildings.all WS=true then .exit 4 else .ret,fr',[])∧(s.Buildings.all WS=true→get fr' 1=stI s∧get fr' 2=.bot)∧(s.Buildings.all WS=false→get fr' 2=.bool false):=by
 have L:=QT (E:=rE) (live:=[1,5]) (b:=c24L2b) (h:=[]) s.Buildings (fun _ x=>WS x) (fun i=>[(1,stI s),(5,I i)]) 4 (fun fr=>get fr 1=stI s∧get fr 2=.bot) (fun fr=>get fr 2=.bool false) (fun i=>rfl)
  (fun i x hx hP=>by
   have hg:=Z6 (f:=Building.enc) hx;have hi:=Zh (Z7 hx);have hw:=Zx (n:=i) (by have:=Z7 hx;omega)
   have hS:=JK x.Id;simp only [WS,ZL6,ZLr] at hP;obtain ⟨p0,p1⟩:=hP;rw [p0] at hS;refine ⟨_,by simp only [go_sem,qy,qq,qv,qk,reduceIte,c24L2b,hg,hi,hw,Building.enc,NL.enc,hS,p1];rfl,?_⟩
   simp only [go_sem,qy])
  (fun i x hx hP=>by
   have hg:=Z6 (f:=Building.enc) hx;have hi:=Zh (Z7 hx);have hS:=JK x.Id;unfold WS at hP;cases c0:[x.Id].all ZU with
   | false=>
    rw [c0] at hS;refine ⟨_,by simp only [go_sem,qy,qq,qv,qk,reduceIte,c24L2b,hg,hi,Building.enc,NL.enc,hS];rfl,?_⟩
    simp only [go_sem,qy]
   | true=>
   rw [c0] at hS hP;cases c2:decide ((x.Ring.l.length:Int) > 12) with
   | true=>
    refine ⟨_,by simp only [go_sem,qy,qq,qv,qk,reduceIte,c24L2b,hg,hi,Building.enc,NL.enc,hS,c2];rfl,?_⟩
    simp only [go_sem,qy]
   | false=>
   rw [c2] at hP;cases hP)
  (⟨_,by simp only [go_sem,qy,reduceIte,c24L2b,ZG];rfl,by simp only [go_sem,qy],by simp only [go_sem,qy]⟩)
 rw [QE] at L;exact L
theorem Z4D (s:Sta) (hl:s.Doors.length≤1000):∃ fr',Zg rE [1,6] c24L3b [(1,stI s),(6,.int .i64 0)] []=some (if s.Doors.all WT=true then .exit 6 else .ret,fr',[])∧(s.Doors.all WT=true→get fr' 1=stI s∧get fr' 2=.bot)∧(s.Doors.all WT=false→get fr' 2=.bool false):=by
 have L:=QT (E:=rE) (live:=[1,6]) (b:=c24L3b) (h:=[]) s.Doors (fun _ x=>WT x) (fun i=>[(1,stI s),(6,I i)]) 6 (fun fr=>get fr 1=stI s∧get fr 2=.bot) (fun fr=>get fr 2=.bool false) (fun i=>rfl)
  (fun i x hx hP=>by
   have hg:=Z6 (f:=Door.enc) hx;have hi:=Zh (Z7 hx);have hw:=Zx (n:=i) (by have:=Z7 hx;omega)
   have hS:=FQ x.Id x.Building x.Street x.Number.Letter x.Veil;simp only [WT,ZL6,ZLr] at hP;obtain ⟨p0,p1,p2⟩:=hP;rw [p0] at hS;have hA:=Vv false x.After.ex x.After.l (by have:=of_decide_eq_false p1;omega)
   rw [p2] at hA;refine ⟨_,by simp only [go_sem,qy,qq,qv,qk,reduceIte,c24L3b,hg,hi,hw,Door.enc,NL.enc,hS,p1,hA];rfl,?_⟩
   simp only [go_sem,qy])
  (fun i x hx hP=>by
   have hg:=Z6 (f:=Door.enc) hx;have hi:=Zh (Z7 hx);have hS:=FQ x.Id x.Building x.Street x.Number.Letter x.Veil;unfold WT at hP;cases c0:[x.Id,x.Building,x.Street,x.Number.Letter,x.Veil].all ZU with
   | false=>
    rw [c0] at hS;refine ⟨_,by simp only [go_sem,qy,qq,qv,qk,reduceIte,c24L3b,hg,hi,Door.enc,NL.enc,hS];rfl,?_⟩
    simp only [go_sem,qy]
   | true=>
   rw [c0] at hS hP;cases c2:decide ((x.After.l.length:Int) > 10) with
   | true=>
    refine ⟨_,by simp only [go_sem,qy,qq,qv,qk,reduceIte,c24L3b,hg,hi,Door.enc,NL.enc,hS,c2];rfl,?_⟩
    simp only [go_sem,qy]
   | false=>
   rw [c2] at hP;have hA:=Vv false x.After.ex x.After.l (by have:=of_decide_eq_false c2;omega)
   cases c5003:x.After.l.all ZU with
   | false=>
    rw [c5003] at hA;refine ⟨_,by simp only [go_sem,qy,qq,qv,qk,reduceIte,c24L3b,hg,hi,Door.enc,NL.enc,hS,c2,hA];rfl,?_⟩
    simp only [go_sem,qy]
   | true=>rw [c5003] at hP;cases hP)
  (⟨_,by simp only [go_sem,qy,reduceIte,c24L3b,ZG];rfl,by simp only [go_sem,qy],by simp only [go_sem,qy]⟩)
 rw [QE] at L;exact L
theorem Z4E (s:Sta) (hl:s.Units.length≤1000):∃ fr',Zg rE [1,8] c24L4b [(1,stI s),(8,.int .i64 0)] []=some (if s.Units.all WU=true then .exit 8 else .ret,fr',[])∧(s.Units.all WU=true→get fr' 1=stI s∧get fr' 2=.bot)∧(s.Units.all WU=false→get fr' 2=.bool false):=by
 have L:=QT (E:=rE) (live:=[1,8]) (b:=c24L4b) (h:=[]) s.Units (fun _ x=>WU x) (fun i=>[(1,stI s),(8,I i)]) 8 (fun fr=>get fr 1=stI s∧get fr 2=.bot) (fun fr=>get fr 2=.bool false) (fun i=>rfl)
  (fun i x hx hP=>by
   have hg:=Z6 (f:=Unit'.enc) hx;have hi:=Zh (Z7 hx);have hw:=Zx (n:=i) (by have:=Z7 hx;omega)
   have hS:=FP x.Id x.Door x.Text;simp only [WU] at hP;have p0:=hP;rw [p0] at hS;refine ⟨_,by simp only [go_sem,qy,qq,qv,qk,reduceIte,c24L4b,hg,hi,hw,Unit'.enc,hS];rfl,?_⟩
   simp only [go_sem,qy])
  (fun i x hx hP=>by
   have hg:=Z6 (f:=Unit'.enc) hx;have hi:=Zh (Z7 hx);have hS:=FP x.Id x.Door x.Text;unfold WU at hP;cases c0:[x.Id,x.Door,x.Text].all ZU with
   | false=>
    rw [c0] at hS;refine ⟨_,by simp only [go_sem,qy,qq,qv,qk,reduceIte,c24L4b,hg,hi,Unit'.enc,hS];rfl,?_⟩
    simp only [go_sem,qy]
   | true=>
   rw [c0] at hS hP;cases hP)
  (⟨_,by simp only [go_sem,qy,reduceIte,c24L4b,ZG];rfl,by simp only [go_sem,qy],by simp only [go_sem,qy]⟩)
 rw [QE] at L;exact L
def M3 (s:Sta):Bool:=!decide ((s.Regions.length:Int) > 8)&&(!decide ((s.Streets.length:Int) > 8)&&(!decide ((s.Buildings.length:Int) > 8)&&(!decide ((s.Doors.length:Int) > 16)&&(!decide ((s.Units.length:Int) > 10)&&(!decide ((s.Merged.length:Int) > 10)&&!decide ((s.Rulings.length:Int) > 10))))))
def YQ (s:Sta):Bool:=M3 s&&(s.Regions.all WQ&&(s.Streets.all WR&&(s.Buildings.all WS&&(s.Doors.all WT&&s.Units.all WU))))
theorem Z4F (s:Sta):pfn rE 24 [stA s]=some (.bool (YQ s)):=by
 rw [Z5 (f:=24) rfl rfl];unfold YQ M3;cases d0:decide ((s.Regions.length:Int) > 8) with
 | true=>simp only [go_sem,qy,qq,reduceIte,c24,d0]
 | false=>
 cases d1:decide ((s.Streets.length:Int) > 8) with
 | true=>simp only [go_sem,qy,qq,reduceIte,c24,d0,d1]
 | false=>
 cases d2:decide ((s.Buildings.length:Int) > 8) with
 | true=>simp only [go_sem,qy,qq,reduceIte,c24,d0,d1,d2]
 | false=>
 cases d3:decide ((s.Doors.length:Int) > 16) with
 | true=>simp only [go_sem,qy,qq,reduceIte,c24,d0,d1,d2,d3]
 | false=>
 cases d4:decide ((s.Units.length:Int) > 10) with
 | true=>simp only [go_sem,qy,qq,reduceIte,c24,d0,d1,d2,d3,d4]
 | false=>
 cases d5:decide ((s.Merged.length:Int) > 10) with
 | true=>simp only [go_sem,qy,qq,reduceIte,c24,d0,d1,d2,d3,d4,d5]
 | false=>
 cases d6:decide ((s.Rulings.length:Int) > 10) with
 | true=>simp only [go_sem,qy,qq,reduceIte,c24,d0,d1,d2,d3,d4,d5,d6]
 | false=>
 obtain ⟨f0,l0,a0,b0⟩:=Z4A s (by have:=of_decide_eq_false d0;omega)
 simp only [stI] at l0 a0;cases e0:s.Regions.all WQ with
 | false=>
  rw [e0] at l0;simp only [go_sem,qy,qq,reduceIte,c24,d0,d1,d2,d3,d4,d5,d6,c24L0,l0,b0 e0,ZLj]
 | true=>
 rw [e0] at l0;obtain ⟨q0,r0⟩:=a0 e0;obtain ⟨f1,l1,a1,b1⟩:=Z4B s (by have:=of_decide_eq_false d1;omega)
 simp only [stI] at l1 a1;cases e1:s.Streets.all WR with
 | false=>
  rw [e1] at l1;simp only [go_sem,qy,qq,reduceIte,c24,d0,d1,d2,d3,d4,d5,d6,c24L0,l0,q0,r0,c24L1,l1,b1 e1,ZLj]
 | true=>
 rw [e1] at l1;obtain ⟨q1,r1⟩:=a1 e1;obtain ⟨f2,l2,a2,b2⟩:=Z4C s (by have:=of_decide_eq_false d2;omega)
 simp only [stI] at l2 a2;cases e2:s.Buildings.all WS with
 | false=>
  rw [e2] at l2;simp only [go_sem,qy,qq,reduceIte,c24,d0,d1,d2,d3,d4,d5,d6,c24L0,l0,q0,r0,c24L1,l1,q1,r1,c24L2,l2,b2 e2,ZLj]
 | true=>
 rw [e2] at l2;obtain ⟨q2,r2⟩:=a2 e2;obtain ⟨f3,l3,a3,b3⟩:=Z4D s (by have:=of_decide_eq_false d3;omega)
 simp only [stI] at l3 a3;cases e3:s.Doors.all WT with
 | false=>
  rw [e3] at l3;simp only [go_sem,qy,qq,reduceIte,c24,d0,d1,d2,d3,d4,d5,d6,c24L0,l0,q0,r0,c24L1,l1,q1,r1,c24L2,l2,q2,r2,c24L3,l3,b3 e3,ZLj]
 | true=>
 rw [e3] at l3;obtain ⟨q3,r3⟩:=a3 e3;obtain ⟨f4,l4,a4,b4⟩:=Z4E s (by have:=of_decide_eq_false d4;omega)
 simp only [stI] at l4 a4;cases e4:s.Units.all WU with
 | false=>
  rw [e4] at l4;simp only [go_sem,qy,qq,reduceIte,c24,d0,d1,d2,d3,d4,d5,d6,c24L0,l0,q0,r0,c24L1,l1,q1,r1,c24L2,l2,q2,r2,c24L3,l3,q3,r3,c24L4,l4,b4 e4,ZLj]
 | true=>
 rw [e4] at l4;obtain ⟨q4,r4⟩:=a4 e4;simp only [go_sem,qy,qq,c24,d0,d1,d2,d3,d4,d5,d6,c24L0,l0,q0,r0,c24L1,l1,q1,r1,c24L2,l2,q2,r2,c24L3,l3,q3,r3,c24L4,l4,r4,if_true]
theorem Kl (s:Sta) (h:YQ s=true):StF s:=by
 simp only [YQ,M3,ZL6,ZLr] at h;obtain ⟨⟨d0,d1,d2,d3,d4,d5,d6⟩,e0,e1,e2,e3,e4⟩:=h;have k0:=of_decide_eq_false d0;have k1:=of_decide_eq_false d1;have k2:=of_decide_eq_false d2;have k3:=of_decide_eq_false d3;have k4:=of_decide_eq_false d4;have k5:=of_decide_eq_false d5;have k6:=of_decide_eq_false d6;have hN:∀ l:List Nm,XQ l=true→l.length≤100:=fun l hl=>by
  simp only [XQ,ZL6] at hl;have:=of_decide_eq_true hl.2;omega
 rw [ZLc] at e0 e1 e2 e3 e4;refine ⟨⟨⟨by omega,by omega,by omega,by omega,by omega,by omega,by omega⟩,fun x hx=>?_,fun x hx=>?_,fun x hx=>?_,fun x hx=>?_,fun x hx=>?_⟩,by omega,by omega,by omega,by omega,by omega,by omega,by omega⟩
 ·have:=e0 x hx;simp only [WQ,ZL6,ZLr] at this;obtain ⟨p0,p1,p2⟩:=this;have p2':=of_decide_eq_false p2;simp [ZU] at p0;exact ⟨hN _ p1,by omega,by omega⟩
 ·have:=e1 x hx;simp only [WR,ZL6,ZLr] at this;obtain ⟨p0,p1,p2⟩:=this;have p2':=of_decide_eq_false p2;simp [ZU] at p0;exact ⟨hN _ p1,by omega,by omega⟩
 ·have:=e2 x hx;simp only [WS,ZL6,ZLr] at this;obtain ⟨p0,p2⟩:=this;have p2':=of_decide_eq_false p2;simp [ZU] at p0;exact ⟨by omega,by omega⟩
 ·have:=e3 x hx;simp only [WT,ZL6,ZLr] at this;obtain ⟨p0,p1,p2⟩:=this;have p1':=of_decide_eq_false p1;simp [ZU] at p0;exact ⟨by omega,by omega,by omega,by omega,by omega⟩
 ·have:=e4 x hx;simp only [WU] at this;simp [ZU] at this;exact ⟨by omega,by omega,by omega⟩
end Go.AM
namespace Go.AM
open Go
def HK (a b:List Str):Bool:=a.length==b.length&&Zu (fun i x=>match b[i]? with | some y=>Z3 x y | none=>false) 0 a
end Go.AM
namespace Go.AM
open Go
theorem Z4L (ea eb:Bool) (a b:List Str) (ha:a.length≤1000):pfn rE 18 [.isl false ea 1 (a.map encS),.isl false eb 1 (b.map encS)]=some (.bool (HK a b)):=by
 rw [Z5 (f:=18) rfl rfl];unfold HK;have hne:((a.length:Int) != (b.length:Int)) = !(a.length==b.length):=by
  cases h:a.length==b.length with
  | true=>have:a.length=b.length:=by simpa using h
          rw [this];simp
  | false=>have:a.length≠b.length:=by simpa using h
           simp;omega
 cases c:a.length==b.length with
 | false=>
  rw [c] at hne;simp only [go_sem,qy,qq,reduceIte,c18,hne]
 | true=>
 rw [c] at hne;have hlen:a.length=b.length:=by simpa using c
 have L:=QT (E:=rE) (live:=[0,1,5]) (b:=c18L0b) (h:=[]) a (fun i x=>match b[i]? with | some y=>Z3 x y | none=>false) (fun i=>[(0,.isl false ea 1 (a.map encS)),(1,.isl false eb 1 (b.map encS)),(5,I i)]) 0 (fun fr=>get fr 4=.bot) (fun fr=>get fr 4=.bool false) (fun i=>rfl)
  (fun i x hx hP=>by
   have hg:=Z6 (f:=encS) hx;have hi:=Zh (Z7 hx);have hw:=Zx (n:=i) (by have:=Z7 hx;omega)
   obtain ⟨y,hy⟩:∃ y,b[i]? = some y:=⟨_,ZLb (by rw [←hlen];exact Z7 hx)⟩
   have hgy:=Z6 (f:=encS) hy;rw [hy] at hP;dsimp only at hP;refine ⟨_,by simp only [go_sem,qy,reduceIte,c18L0b,hg,hgy,hi,hw,encS,hP];rfl,?_⟩
   simp only [go_sem,qy])
  (fun i x hx hP=>by
   have hg:=Z6 (f:=encS) hx;have hi:=Zh (Z7 hx);obtain ⟨y,hy⟩:∃ y,b[i]? = some y:=⟨_,ZLb (by rw [←hlen];exact Z7 hx)⟩
   have hgy:=Z6 (f:=encS) hy;rw [hy] at hP;dsimp only at hP;refine ⟨_,by simp only [go_sem,qy,reduceIte,c18L0b,hg,hgy,hi,encS,hP];rfl,?_⟩
   simp only [go_sem,qy])
  (⟨_,by simp only [go_sem,qy,reduceIte,c18L0b,ZG];rfl,by simp only [go_sem,qy]⟩)
 obtain ⟨fr',h1,h2,h3⟩:=L;have h1':Zg rE [0,1,5] c18L0b [(0,.isl false ea 1 (a.map encS)),(1,.isl false eb 1 (b.map encS)),(5,.int .i64 0)] []=_:=h1;cases e:Zu (fun i x=>match b[i]? with | some y=>Z3 x y | none=>false) 0 a with
 | true=>
  rw [e] at h1';simp only [go_sem,qy,qq,c18,c18L0,hne,h1',h2 e,if_true]
 | false=>
  rw [e] at h1';simp only [go_sem,qy,qq,reduceIte,c18,c18L0,hne,h1',h3 e,ZLj]
def hasB (l:List Str) (v:Str):Bool:=!Zu (fun _ x=>!Z3 x v) 0 l
theorem ZJ0 (bw ex:Bool) (l:List Str) (v:Str) (hl:l.length≤1000):pfn rE 17 [.isl bw ex 1 (l.map encS),.str v]=some (.bool (hasB l v)):=by
 have L:=QT (E:=rE) (live:=[0,1,5]) (b:=c17L0b) (h:=[]) l (fun _ x=>!Z3 x v) (fun i=>[(0,.isl bw ex 1 (l.map encS)),(1,.str v),(5,I i)]) 0 (fun fr=>get fr 4=.bot) (fun fr=>get fr 4=.bool true) (fun i=>rfl)
  (fun i x hx hP=>by
   have hg:=Z6 (f:=encS) hx;have hi:=Zh (Z7 hx);have hw:=Zx (n:=i) (by have:=Z7 hx;omega)
   have hP':Z3 x v=false:=by simpa using hP
   refine ⟨_,by simp only [go_sem,qy,reduceIte,c17L0b,hg,hi,hw,encS,hP'];rfl,?_⟩
   simp only [go_sem,qy])
  (fun i x hx hP=>by
   have hg:=Z6 (f:=encS) hx;have hi:=Zh (Z7 hx);have hP':Z3 x v=true:=by simpa using hP
   refine ⟨_,by simp only [go_sem,qy,reduceIte,c17L0b,hg,hi,encS,hP'];rfl,?_⟩
   simp only [go_sem,qy])
  (⟨_,by simp only [go_sem,qy,reduceIte,c17L0b,ZG];rfl,by simp only [go_sem,qy]⟩)
 obtain ⟨fr',h1,h2,h3⟩:=L;have h1':Zg rE [0,1,5] c17L0b [(0,.isl bw ex 1 (l.map encS)),(1,.str v),(5,.int .i64 0)] []=_:=h1;rw [Z5 (f:=17) rfl rfl];unfold hasB;cases e:Zu (fun _ x=>!Z3 x v) 0 l with
 | true=>
  rw [e] at h1';simp only [go_sem,qy,qq,c17,c17L0,h1',h2 e,if_true,ZLA]
 | false=>
  rw [e] at h1';simp only [go_sem,qy,qq,reduceIte,c17,c17L0,h1',h3 e,ZLj,ZLv]
theorem Zna (ex:Bool) (l:List Str) (v:Str) (hl:l.length≤1000):pfn rE 17 [.isl false ex 1 (l.map encS),.str v]=some (.bool (hasB l v)):=ZJ0 false ex l v hl
structure End where
 Id:Str
 Kind:Int
 Day:Int
def End.enc (e:End):AV:=.agg [.str e.Id,I e.Kind,I e.Day]
def ZEq (a b:End):Bool:=Z3 a.Id b.Id&&(a.Kind==b.Kind&&a.Day==b.Day)
def ZIL (l:List End) (v:End):Bool:=!Zu (fun _ x=>!ZEq x v) 0 l
theorem ZJ1 (bw ex:Bool) (l:List End) (v:End) (hl:l.length≤1000):pfn rE 21 [.isl bw ex 3 (l.map End.enc),v.enc]=some (.bool (ZIL l v)):=by
 have L:=QT (E:=rE) (live:=[0,3,5]) (b:=c21L0b) (h:=[]) l (fun _ x=>!ZEq x v) (fun i=>[(0,.isl bw ex 3 (l.map End.enc)),(3,.iptr false [.str v.Id,I v.Kind,I v.Day]),(5,I i)]) 0 (fun fr=>get fr 4=.bot) (fun fr=>get fr 4=.bool true) (fun i=>rfl)
  (fun i x hx hP=>by
   have hg:=Z6 (f:=End.enc) hx;have hi:=Zh (Z7 hx);have hw:=Zx (n:=i) (by have:=Z7 hx;omega)
   have hP':ZEq x v=false:=by simpa using hP
   unfold ZEq at hP';refine ⟨_,by simp only [go_sem,qy,qq,qk,reduceIte,c21L0b,hg,hi,hw,End.enc,hP'];rfl,?_⟩
   simp only [go_sem,qy])
  (fun i x hx hP=>by
   have hg:=Z6 (f:=End.enc) hx;have hi:=Zh (Z7 hx);have hP':ZEq x v=true:=by simpa using hP
   unfold ZEq at hP';refine ⟨_,by simp only [go_sem,qy,qq,qk,reduceIte,c21L0b,hg,hi,End.enc,hP'];rfl,?_⟩
   simp only [go_sem,qy])
  (⟨_,by simp only [go_sem,qy,reduceIte,c21L0b,ZG];rfl,by simp only [go_sem,qy]⟩)
 obtain ⟨fr',h1,h2,h3⟩:=L;have h1':Zg rE [0,3,5] c21L0b [(0,.isl bw ex 3 (l.map End.enc)),(3,.iptr false [.str v.Id,I v.Kind,I v.Day]),(5,.int .i64 0)] []=_:=h1;rw [Z5 (f:=21) rfl rfl];unfold ZIL;cases e:Zu (fun _ x=>!ZEq x v) 0 l with
 | true=>
  rw [e] at h1';simp only [go_sem,qy,qq,c21,c21L0,End.enc,h1',h2 e,if_true,ZLA]
 | false=>
  rw [e] at h1';simp only [go_sem,qy,qq,reduceIte,c21,c21L0,End.enc,h1',h3 e,ZLj,ZLv]
def ZEb (s:Sta) (id:Str):Int:=bif Jx s then (bif decide (Zn s id < 0) then 10 else 0) else 1
theorem Zpq (s:Sta) (hs:StE s) (id:Str):pfn rE 33 [stA s,.str id]=some (I (ZEb s id)):=by
 have h1:=Z3i s hs;have h2:=find_ok s hs.sizes id;rw [Z5 (f:=33) rfl rfl];unfold ZEb;cases c:Jx s with
 | false=>rw [c] at h1;simp only [go_sem,qy,qq,qk,c33,h1,ZLv]
 | true=>
  rw [c] at h1;cases c2:decide (Zn s id < 0) with
  | true=>simp only [go_sem,qy,qq,qk,reduceIte,c33,h1,h2,c2,ZLA]
  | false=>simp only [go_sem,qy,qq,qk,reduceIte,c33,h1,h2,c2,ZLA]
theorem ZHm (s:Sta) (id:Str):pfn rE 10 [stA s,.str id]=some (.bool (YQ s&&decide ((id.size:Int)≤100))):=by
 have h1:=Z4F s;rw [Z5 (f:=10) rfl rfl];cases c:YQ s with
 | false=>rw [c] at h1;simp only [go_sem,qy,qq,qk,c10,h1,ZMv]
 | true=>rw [c] at h1;simp only [go_sem,qy,qq,qk,reduceIte,c10,h1,ZLB]
end Go.AM
namespace Go.AM
open Go
def ftA (ea eb:Bool) (D:List Str) (E:List End):AV:=.agg [.isl false ea 1 (D.map encS),.isl false eb 3 (E.map End.enc)]
def HL (D D2:List Str) (E E2:List End):Bool:=(E.length==E2.length&&HK D D2)&&Zu (fun i x=>match E2[i]? with | some y=>ZEq x y | none=>false) 0 E
theorem ZF5 (ea eb ec ed:Bool) (D D2:List Str) (E E2:List End) (hD:D.length≤1000) (hE:E.length≤1000):pfn rE 13 [ftA ea eb D E,ftA ec ed D2 E2]=some (.bool (HL D D2 E E2)):=by
 have ht:=Z4L ea ec D D2 hD;rw [Z5 (f:=13) rfl rfl];unfold HL ftA;have hne:((E.length:Int) != (E2.length:Int)) = !(E.length==E2.length):=by
  cases h:E.length==E2.length with
  | true=>have:E.length=E2.length:=by simpa using h
          rw [this];simp
  | false=>have:E.length≠E2.length:=by simpa using h
           simp;omega
 cases c:E.length==E2.length with
 | false=>
  rw [c] at hne;simp only [go_sem,qy,qq,reduceIte,c13,hne,ZLv,ZMv]
 | true=>
 rw [c] at hne;cases ct:HK D D2 with
 | false=>
  rw [ct] at ht;simp only [go_sem,qy,qq,qk,reduceIte,c13,hne,ht,ZLv,ZLA,ZMv,Bool.and_false]
 | true=>
 rw [ct] at ht;have hlen:E.length=E2.length:=by simpa using c
 have L:=QT (E:=rE) (live:=[2,3,5]) (b:=c13L0b) (h:=[]) E (fun i x=>match E2[i]? with | some y=>ZEq x y | none=>false) (fun i=>[(2,.iptr false [.isl false ea 1 (D.map encS),.isl false eb 3 (E.map End.enc)]),(3,.iptr false [.isl false ec 1 (D2.map encS),.isl false ed 3 (E2.map End.enc)]),(5,I i)]) 0 (fun fr=>get fr 4=.bot) (fun fr=>get fr 4=.bool false) (fun i=>rfl)
  (fun i x hx hP=>by
   have hg:=Z6 (f:=End.enc) hx;have hi:=Zh (Z7 hx);have hw:=Zx (n:=i) (by have:=Z7 hx;omega)
   obtain ⟨y,hy⟩:∃ y,E2[i]? = some y:=⟨_,ZLb (by rw [←hlen];exact Z7 hx)⟩
   have hgy:=Z6 (f:=End.enc) hy;rw [hy] at hP;dsimp only at hP;unfold ZEq at hP;refine ⟨_,by simp only [go_sem,qy,qq,qk,reduceIte,c13L0b,hg,hgy,hi,hw,End.enc,hP,ZLA];rfl,?_⟩
   simp only [go_sem,qy])
  (fun i x hx hP=>by
   have hg:=Z6 (f:=End.enc) hx;have hi:=Zh (Z7 hx);obtain ⟨y,hy⟩:∃ y,E2[i]? = some y:=⟨_,ZLb (by rw [←hlen];exact Z7 hx)⟩
   have hgy:=Z6 (f:=End.enc) hy;rw [hy] at hP;dsimp only at hP;unfold ZEq at hP;refine ⟨_,by simp only [go_sem,qy,qq,qk,reduceIte,c13L0b,hg,hgy,hi,End.enc,hP,ZLv];rfl,?_⟩
   simp only [go_sem,qy])
  (⟨_,by simp only [go_sem,qy,reduceIte,c13L0b,ZG];rfl,by simp only [go_sem,qy]⟩)
 obtain ⟨fr',h1,h2,h3⟩:=L;have h1':Zg rE [2,3,5] c13L0b [(2,.iptr false [.isl false ea 1 (D.map encS),.isl false eb 3 (E.map End.enc)]),(3,.iptr false [.isl false ec 1 (D2.map encS),.isl false ed 3 (E2.map End.enc)]),(5,.int .i64 0)] []=_:=h1;cases e:Zu (fun i x=>match E2[i]? with | some y=>ZEq x y | none=>false) 0 E with
 | true=>
  rw [e] at h1';simp only [go_sem,qy,qq,qk,c13,c13L0,hne,ht,h1',h2 e,if_true,ZLA,ZLB]
 | false=>
  rw [e] at h1';simp only [go_sem,qy,qq,qk,reduceIte,c13,c13L0,hne,ht,h1',h3 e,ZLj,ZLA,ZLB]
def ZIQ (D D2:List Str) (E E2:List End):Bool:=Zu (fun _ x=>hasB D2 x) 0 D&&Zu (fun _ x=>ZIL E2 x) 0 E
theorem ZIR (ea eb ba bb ec ed:Bool) (D D2:List Str) (E E2:List End) (hD:D.length≤1000) (hE:E.length≤1000) (hD2:D2.length≤1000) (hE2:E2.length≤1000):pfn rE 14 [ftA ea eb D E,.agg [.isl ba ec 1 (D2.map encS),.isl bb ed 3 (E2.map End.enc)]]=some (.bool (ZIQ D D2 E E2)):=by
 have L:=QT (E:=rE) (live:=[2,3,5]) (b:=c14L0b) (h:=[]) D (fun _ x=>hasB D2 x) (fun i=>[(2,.iptr false [.isl false ea 1 (D.map encS),.isl false eb 3 (E.map End.enc)]),(3,.iptr (ba||bb) [.isl ba ec 1 (D2.map encS),.isl bb ed 3 (E2.map End.enc)]),(5,I i)]) 0
  (fun fr=>get fr 2=.iptr false [.isl false ea 1 (D.map encS),.isl false eb 3 (E.map End.enc)]∧get fr 3=.iptr (ba||bb) [.isl ba ec 1 (D2.map encS),.isl bb ed 3 (E2.map End.enc)]∧get fr 4=.bot) (fun fr=>get fr 4=.bool false) (fun i=>rfl)
  (fun i x hx hP=>by
   have hg:=Z6 (f:=encS) hx;have hi:=Zh (Z7 hx);have hw:=Zx (n:=i) (by have:=Z7 hx;omega)
   have hh:=ZJ0 ba ec D2 x hD2;rw [hP] at hh;unfold encS at hg hh;unfold encS;refine ⟨_,by simp only [go_sem,qy,qq,qk,reduceIte,c14L0b,hg,hi,hw,hh,ZLA];rfl,?_⟩
   simp only [go_sem,qy])
  (fun i x hx hP=>by
   have hg:=Z6 (f:=encS) hx;have hi:=Zh (Z7 hx);have hh:=ZJ0 ba ec D2 x hD2;rw [hP] at hh;unfold encS at hg hh;unfold encS;refine ⟨_,by simp only [go_sem,qy,qq,qk,reduceIte,c14L0b,hg,hi,hh,ZLv];rfl,?_⟩
   simp only [go_sem,qy])
  (⟨_,by simp only [go_sem,qy,reduceIte,c14L0b,ZG];rfl,by simp only [go_sem,qy],by simp only [go_sem,qy],by simp only [go_sem,qy]⟩)
 have L2:=QT (E:=rE) (live:=[2,3,6]) (b:=c14L1b) (h:=[]) E (fun _ x=>ZIL E2 x) (fun i=>[(2,.iptr false [.isl false ea 1 (D.map encS),.isl false eb 3 (E.map End.enc)]),(3,.iptr (ba||bb) [.isl ba ec 1 (D2.map encS),.isl bb ed 3 (E2.map End.enc)]),(6,I i)]) 2 (fun fr=>get fr 4=.bot) (fun fr=>get fr 4=.bool false) (fun i=>rfl)
  (fun i x hx hP=>by
   have hg:=Z6 (f:=End.enc) hx;have hi:=Zh (Z7 hx);have hw:=Zx (n:=i) (by have:=Z7 hx;omega)
   have hh:=ZJ1 bb ed E2 x hE2;rw [hP] at hh;unfold End.enc at hg hh;unfold End.enc;refine ⟨_,by simp only [go_sem,qy,qq,qk,reduceIte,c14L1b,hg,hi,hw,hh,ZLA];rfl,?_⟩
   simp only [go_sem,qy])
  (fun i x hx hP=>by
   have hg:=Z6 (f:=End.enc) hx;have hi:=Zh (Z7 hx);have hh:=ZJ1 bb ed E2 x hE2;rw [hP] at hh;unfold End.enc at hg hh;unfold End.enc;refine ⟨_,by simp only [go_sem,qy,qq,qk,reduceIte,c14L1b,hg,hi,hh,ZLv];rfl,?_⟩
   simp only [go_sem,qy])
  (⟨_,by simp only [go_sem,qy,reduceIte,c14L1b,ZG];rfl,by simp only [go_sem,qy]⟩)
 obtain ⟨fr',h1,h2,h3⟩:=L;obtain ⟨fr2,k1,k2,k3⟩:=L2;have h1':Zg rE [2,3,5] c14L0b [(2,.iptr false [.isl false ea 1 (D.map encS),.isl false eb 3 (E.map End.enc)]),(3,.iptr (ba||bb) [.isl ba ec 1 (D2.map encS),.isl bb ed 3 (E2.map End.enc)]),(5,.int .i64 0)] []=_:=h1;have k1':Zg rE [2,3,6] c14L1b [(2,.iptr false [.isl false ea 1 (D.map encS),.isl false eb 3 (E.map End.enc)]),(3,.iptr (ba||bb) [.isl ba ec 1 (D2.map encS),.isl bb ed 3 (E2.map End.enc)]),(6,.int .i64 0)] []=_:=k1;have hib:∀ h:Hp,Va h 2 (.agg [.isl ba ec 1 (D2.map encS),.isl bb ed 3 (E2.map End.enc)])=some (.iptr (ba||bb) [.isl ba ec 1 (D2.map encS),.isl bb ed 3 (E2.map End.enc)],h):=fun h=>by cases ba<;>cases bb<;>rfl
 rw [Z5 (f:=14) rfl rfl];unfold ZIQ ftA;cases e:Zu (fun _ x=>hasB D2 x) 0 D with
 | false=>
  rw [e] at h1';simp only [go_sem,qy,qq,reduceIte,c14,hib,c14L0,h1',h3 e,ZLj,ZMv]
 | true=>
  rw [e] at h1';obtain ⟨p1,p2,p3⟩:=h2 e;cases e2:Zu (fun _ x=>ZIL E2 x) 0 E with
  | false=>
   rw [e2] at k1';simp only [go_sem,qy,qq,reduceIte,c14,hib,c14L0,c14L1,h1',p1,p2,p3,if_true,k1',k3 e2,ZLj,ZLB]
  | true=>
   rw [e2] at k1';simp only [go_sem,qy,qq,c14,hib,c14L0,c14L1,h1',p1,p2,p3,if_true,k1',k2 e2,ZLB]
theorem ZJb (ea eb ec ed:Bool) (D D2:List Str) (E E2:List End) (hD:D.length≤1000) (hE:E.length≤1000) (hD2:D2.length≤1000) (hE2:E2.length≤1000):pfn rE 14 [ftA ea eb D E,ftA ec ed D2 E2]=some (.bool (ZIQ D D2 E E2)):=ZIR ea eb false false ec ed D D2 E E2 hD hE hD2 hE2
end Go.AM
namespace Go.AM
open Go
end Go.AM
namespace Go.AM
open Go
theorem ZF6:∀ (l m:List Str),l.Nodup→(∀ x∈l,x∈m)→l.length≤m.length
 | [],m,_,_=>ZLa _
 | a::r,m,h,hs=>by
  rw [ZLQ] at h;obtain ⟨p,q,rfl⟩:=List.append_of_mem (hs a ZLx);have:=ZF6 r (p++q) h.2 (fun x hx=>by
   have h2:=hs x (ZLU _ hx);have hne:x≠a:=fun e=>h.1 (e▸hx)
   simp only [ZLt,ZLy,hne,false_or] at h2 ⊢;exact h2)
  simp only [ZLo,ZLm] at this ⊢;omega
theorem ZFX {s:Sta} (hn:(s.Doors.map (·.Id)).Nodup) {d e:Door} (hd:d∈s.Doors) (he:e∈s.Doors) (h:d.Id=e.Id):d=e:=by
 obtain ⟨i,hi⟩:=ZLX hd;obtain ⟨j,hj⟩:=ZLX he;have h1:=Zi1 (f:=fun x:Door=>x.Id) hn hi
 have h2:=Zi1 (f:=fun x:Door=>x.Id) hn hj
 rw [h] at h1;have:i=j:=by rw [h1] at h2;omega
 rw [this,hj] at hi;exact (Option.some.inj hi).symm
inductive Reach (s:Sta):Str→Str→Prop
 | refl (x:Str):Reach s x x
 | step (x y z:Str) (d:Door) (h:Reach s x y) (hd:d∈s.Doors) (hi:d.Id=y) (hz:z∈d.After.l):Reach s x z
theorem ZF7:∀ (l K L:List Str),∃ new,l.foldl wkS (K,L)=(K++new,L++new)∧(∀ x∈new,x∈l)∧(∀ x∈l,x∈K++new)∧(K.Nodup→(K++new).Nodup)
 | [],K,L=>⟨[],by simp⟩
 | a::l,K,L=>by
  rw [ZMs];cases c:K.any (Z3 a) with
  | true=>
   obtain ⟨new,h1,h2,h3,h4⟩:=ZF7 l K L;refine ⟨new,?_,fun x hx=>ZLU _ (h2 x hx),fun x hx=>?_,h4⟩
   ·rw [show wkS (K,L) a=(K,L) by unfold wkS;simp only [c,cond_true],h1]
   ·rcases ZLy.1 hx with rfl | hx
    ·exact ZMo _ (ZdP.1 c)
    ·exact h3 x hx
  | false=>
   obtain ⟨new,h1,h2,h3,h4⟩:=ZF7 l (K++[a]) (L++[a]);have ha:a ∉ K:=fun h=>by rw [ZdP.2 h] at c;cases c
   refine ⟨a::new,?_,fun x hx=>?_,fun x hx=>?_,fun hn=>?_⟩
   ·have e:∀ M:List Str,M++a::new=M++[a]++new:=fun M=>by simp
    rw [e,e,show wkS (K,L) a=(K++[a],L++[a]) by unfold wkS;simp only [c,cond_false],h1]
   ·rcases ZLy.1 hx with rfl | hx
    ·exact ZLx
    ·exact ZLU _ (h2 x hx)
   ·rcases ZLy.1 hx with rfl | hx
    ·simp
    ·have:=h3 x hx;simpa using this
   ·have e:K++a::new=K++[a]++new:=by simp
    rw [e];refine h4 ?_;rw [ZMk];exact ⟨hn,by simp,fun x hx y hy=>by simp only [ZLk] at hy;rw [hy];exact fun h=>ha (h▸hx)⟩
def ZEc (Q:List Door):List AV:=(Q.filter fun d=>decide (d.Ended < 0)).map fun d=>.str d.Id
def ZEd (Q:List Door):List AV:=(Q.filter fun d=>!decide (d.Ended < 0)&&d.After.l.isEmpty).map ZEB
theorem ZFY (d:Door) (Q:List Door):faD d (ZEc Q)=ZEc (Q++[d]):=by
 unfold faD ZEc;rw [ZNq,ZLp];cases c:decide (d.Ended < 0)<;>simp [List.filter,c]
theorem ZFZ (d:Door) (Q:List Door):faE d (ZEd Q)=ZEd (Q++[d]):=by
 unfold faE ZEd;rw [ZNq,ZLp];cases c:(!decide (d.Ended < 0)&&d.After.l.isEmpty)<;>simp only [List.filter,c,cond_true,cond_false,List.map,ZLn]
theorem ZHn {s:Sta} (hp:Prop' s) {d:Door} (hd:d∈s.Doors) {x:Str} (hx:x∈d.After.l):∃ e∈s.Doors,e.Id=x:=by
 obtain ⟨i,hi⟩:=ZLX hd;have h1:=((Zd0 s i d).1 (hp.dr i d hi)).2.1 x hx;have h2:decide (Zn s x < 0)=false:=decide_eq_false (by have:=of_decide_eq_false h1;omega)
 rw [ZEz] at h2;obtain ⟨j,e,_,h4,h5⟩:=ZcU h2;exact ⟨e,ZLe h4,h5⟩
theorem ZEF {s:Sta} (hp:Prop' s):(s.Doors.map (·.Id)).Nodup:=by
 have h:=hp.ids;unfold Qp at h;have h1:=(ZMk.1 h).2.1;have h2:=(ZMk.1 h1).2.1;have h3:=(ZMk.1 h2).2.1;exact (ZMk.1 h3).1
theorem ZG0 (s:Sta) (hp:Prop' s) (hs:StE s) (hN:s.Doors.length≤500) (id0:Str):∀ (n:Nat) (P:List Door) (L:List Str),s.Doors.length≤P.length+n→(∀ d∈P,d∈s.Doors)→(P.map (·.Id)++L).Nodup→(∀ x∈L,∃ d∈s.Doors,d.Id=x)→
 (∀ x∈P.map (·.Id)++L,Reach s id0 x)→(∀ d∈P,∀ y∈d.After.l,y∈P.map (·.Id)++L)→
 ∃ Q,Runs s (P.map (·.Id)++L) L (ZEc P) (ZEd P) (ZEc Q) (ZEd Q)∧(Q.map (·.Id)).Nodup∧(∀ d∈Q,d∈s.Doors)∧(∀ d∈Q,Reach s id0 d.Id)∧(∀ d∈Q,∀ y∈d.After.l,y∈Q.map (·.Id))∧(∀ x∈P.map (·.Id)++L,x∈Q.map (·.Id))
 | n,P,[],_,hP,hn,_,hR,hA=>by
  rw [ZLn] at hn hR hA ⊢;exact ⟨P,Runs.stop _ _ _,hn,hP,fun d hd=>hR _ (ZLZ hd),hA,fun x hx=>hx⟩
 | n,P,x::r,hle,hP,hn,hL,hR,hA=>by
  have hsub:∀ y∈P.map (·.Id)++x::r,y∈s.Doors.map (·.Id):=fun y hy=>by
   rcases ZLt.1 hy with h | h
   ·obtain ⟨d,hd,rfl⟩:=ZLq.1 h;exact ZLZ (hP d hd)
   ·obtain ⟨d,hd,rfl⟩:=hL y h;exact ZLZ hd
  have hlen:=ZF6 _ _ hn hsub;simp only [ZLo,ZL8,ZLm] at hlen;obtain ⟨d,hd,hid⟩:=hL x ZLx;obtain ⟨k,hk⟩:=ZLX hd;have hf:pfn rE 15 [stA s,.str x]=some (I k):=by
   rw [find_ok s hs.sizes x,ZEz,←hid,Zi1 (ZEF hp) hk]
  cases n with
  | zero=>omega
  | succ n=>
   obtain ⟨new,w1,w2,w3,w4⟩:=ZF7 d.After.l (P.map (·.Id)++x::r) (x::r);have eK:(P++[d]).map (·.Id)++(r++new)=P.map (·.Id)++x::r++new:=by simp [hid]
   obtain ⟨Q,q1,q2,q3,q4,q5,q6⟩:=ZG0 s hp hs hN id0 n (P++[d]) (r++new) (by simp;omega)
    (fun e he=>by
     rcases ZLt.1 he with h | h
     ·exact hP e h
     ·rw [ZLk.1 h];exact hd)
    (by rw [eK];exact w4 hn)
    (fun y hy=>by
     rcases ZLt.1 hy with h | h
     ·exact hL y (ZLU _ h)
     ·exact ZHn hp hd (w2 y h))
    (fun y hy=>by
     rw [eK] at hy;rcases ZLt.1 hy with h | h
     ·exact hR y h
     ·exact Reach.step id0 x y d (hR x (by simp)) hd hid (w2 y h))
    (fun e he y hy=>by
     rw [eK];rcases ZLt.1 he with h | h
     ·exact ZMo _ (hA e h y hy)
     ·rw [ZLk.1 h] at hy;exact w3 y hy)
   refine ⟨Q,?_,q2,q3,q4,q5,fun y hy=>q6 y (by rw [eK];exact ZMo _ hy)⟩
   refine Runs.step _ x r _ _ _ _ k d hk hf ?_ ?_ ?_ ?_
   ·unfold ZEc;rw [ZL8];have:=ZMu (fun d:Door=>decide (d.Ended < 0)) P;omega
   ·unfold ZEd;rw [ZL8];have:=ZMu (fun d:Door=>!decide (d.Ended < 0)&&d.After.l.isEmpty) P;omega
   ·have:=(hs.doors d hd).after;simp only [ZLm];omega
   ·rw [w1,ZFY,ZFZ,←eK];exact q1
theorem ZHo (s:Sta) (hp:Prop' s) (hs:StE s) (hN:s.Doors.length≤500) (id:Str) (hid:decide (Zn s id < 0)=false):
 ∃ Q,Runs s [id] [id] [] [] (ZEc Q) (ZEd Q)∧(Q.map (·.Id)).Nodup∧(∀ d∈Q,d∈s.Doors)∧(∀ d∈Q,Reach s id d.Id)∧(∀ x,Reach s id x→x∈Q.map (·.Id)):=by
 rw [ZEz] at hid;obtain ⟨j,e,_,h4,h5⟩:=ZcU hid;obtain ⟨Q,q1,q2,q3,q4,q5,q6⟩:=ZG0 s hp hs hN id s.Doors.length [] [id] (by simp) (fun d hd=>by cases hd) (by simp) (fun x hx=>⟨e,ZLe h4,by rw [ZLk.1 hx];exact h5⟩)
  (fun x hx=>by rw [ZLk.1 hx];exact Reach.refl id) (fun d hd=>by cases hd)
 refine ⟨Q,q1,q2,q3,q4,fun x hx=>?_⟩
 clear hid;induction hx with
 | refl=>exact q6 id (by simp)
 | step y z d h hd hi hz ih=>
  obtain ⟨d',hd',he⟩:=ZLq.1 ih;rw [←ZFX (ZEF hp) (q3 d' hd') hd (he.trans hi.symm)] at hz;exact q5 d' hd' z hz
end Go.AM
namespace Go.AM
open Go
def toL (x:Str):List UInt8:=x.data.toList
def ofL (l:List UInt8):Str:=⟨l.toArray⟩
theorem ZER (x:Str):ofL (toL x)=x:=by unfold ofL toL;simp
theorem ZG1 (l:List UInt8):toL (ofL l)=l:=by unfold ofL toL;simp
theorem ZHp {x y:Str} (h:toL x=toL y):x=y:=by rw [←ZER x,h,ZER]
def ZEi (l:List Str):List Str:=(WD (l.map toL)).map ofL
theorem ZHq (l:List Str):Yk (l.map encS)=(ZEi l).map encS:=by
 have e:l.map encS=(l.map toL).map Qd:=by
  rw [ZLW];exact ZMV fun x _=>congrArg AV.str (ZER x).symm
 rw [e,D4];unfold ZEi;rw [ZLW];rfl
theorem ZES (l:List Str):(ZEi l).Perm l:=by
 have h:=(RS (l.map toL)).map ofL;rw [ZLW] at h;have e:l.map (ofL ∘ toL)=l:=by
  conv=>rhs;rw [←List.map_id l]
  exact ZMV fun x _=>ZER x
 rwa [e] at h
def ltS (a b:Str):Prop:=toL a < toL b
theorem ZHr (l:List Str) (hn:l.Nodup):(ZEi l).Pairwise ltS:=by
 have h1:=D8 (l.map toL);have h2:(ZEi l).Nodup:=(ZES l).nodup_iff.2 hn;unfold ZEi at h2 ⊢;rw [ZNo];rw [ZNH,ZNo] at h2;refine (h1.and h2).imp ?_;intro a b hab;unfold ltS;rw [ZG1,ZG1];refine Decidable.byContradiction fun h=>hab.2 ?_
 rw [List.le_antisymm (of_decide_eq_true hab.1) (List.not_lt.1 h)]
theorem ZHs (a b:Str):lexB (ZE4 a) (ZE4 b)=true↔ltS a b:=by
 unfold ZE4 ltS toL;rw [ZEM,decide_eq_true_iff]
theorem ZHt {a b:Str} (h:ZE4 a=ZE4 b):a=b:=by
 unfold ZE4 at h;apply ZHp;unfold toL;have:∀ x y:List UInt8,(x.map fun b=>(b.toNat:Int))=(y.map fun b=>(b.toNat:Int))→x=y:=by
  intro x;induction x with
  | nil=>intro y h;cases y with
   | nil=>rfl
   | cons=>simp at h
  | cons a r ih=>intro y h;cases y with
   | nil=>simp at h
   | cons c t=>
    simp only [ZLh,List.cons.injEq] at h;have hc:a=c:=UInt8.toNat_inj.1 (by omega)
    rw [ih t h.2,hc]
 exact this _ _ h
def gK (e:End):List Int×AV:=(ZE4 e.Id,e.enc)
def ZEy (x:End):List End→List End
 | []=>[x]
 | y::r=>bif lexB (ZE4 x.Id) (ZE4 y.Id) then x::y::r else y::ZEy x r
def ZEj:List End→List End
 | []=>[]
 | x::r=>ZEy x (ZEj r)
theorem ZG2 (x:End):∀ l:List End,ZvI (gK x) (l.map gK)=(ZEy x l).map gK
 | []=>rfl
 | y::r=>by
  rw [ZLh];unfold ZvI ZEy;rw [show lexB (gK x).1 (gK y).1=lexB (ZE4 x.Id) (ZE4 y.Id) from rfl]
  cases lexB (ZE4 x.Id) (ZE4 y.Id) with
  | true=>rfl
  | false=>simp only [cond_false,ZG2 x r,ZLh]
theorem ZF8:∀ l:List End,ZvN (l.map gK)=(ZEj l).map gK
 | []=>rfl
 | x::r=>by
  rw [ZLh];unfold ZvN ZEj;rw [ZF8 r,ZG2]
theorem ZG3 (x:End):∀ l,(ZEy x l).Perm (x::l)
 | []=>.refl _
 | y::r=>by
  unfold ZEy;cases lexB (ZE4 x.Id) (ZE4 y.Id) with
  | true=>exact .refl _
  | false=>exact ((ZG3 x r).cons y).trans (.swap x y r)
theorem ZF9:∀ l,(ZEj l).Perm l
 | []=>.refl _
 | x::r=>(ZG3 x (ZEj r)).trans ((ZF9 r).cons x)
theorem ZG4:∀ l:List End,keysOf ZEf (l.map End.enc)=some (l.map gK)
 | []=>rfl
 | x::r=>by
  rw [ZLh,ZLh];unfold keysOf;rw [ZG4 r];rfl
theorem ZFa:∀ l:List End,(l.map (·.Id)).Nodup→ZvJ (l.map gK)=true
 | [],_=>rfl
 | x::r,h=>by
  rw [ZLh,ZLQ] at h;rw [ZLh];unfold ZvJ;rw [ZFa r h.2,ZLJ,ZLc];intro y hy;obtain ⟨z,hz,rfl⟩:=ZLq.1 hy;have:((gK x).1==(gK z).1)=false:=by
   rw [beq_eq_false_iff_ne];intro e;exact h.1 (ZLq.2 ⟨z,hz,(ZHt e).symm⟩)
  rw [this];rfl
theorem ZHu (l:List End) (h:(l.map (·.Id)).Nodup):(ZEj l).Pairwise fun a b=>ltS a.Id b.Id:=by
 have h1:=ZwI (l.map gK) (ZFa l h);rw [ZF8,ZNo] at h1;exact h1.imp fun {a b} hab=>(ZHs a.Id b.Id).1 hab
theorem ZET:∀ l:List Str,Z4 (l.map encS)=true
 | []=>rfl
 | x::r=>by rw [ZLh];unfold Z4;rw [ZET r];rfl
theorem ZEU:∀ l:List End,Z4 (l.map End.enc)=true
 | []=>rfl
 | x::r=>by rw [ZLh];unfold Z4;rw [ZEU r];rfl
theorem ZFb (l:List Str) (hl:l.length≤1000):ZE7 37 [ZEa 37] 1 (l.map encS)=some ((ZEi l).map encS):=by
 unfold ZE7 ZEa;have h1:(l.map encS).all WB=true:=by rw [ZLc];intro x hx;obtain ⟨y,_,rfl⟩:=ZLq.1 hx;rfl
 have h2:Nat.ble (l.map encS).length 1000000=true:=ZM8 (by rw [ZL8];omega)
 simp only [h1,h2,ZHq];rfl
theorem ZG5 (l:List End) (hl:l.length≤1000) (hn:(l.map (·.Id)).Nodup):ZEe 39 3 ZEf [ZEa 39] 3 (l.map End.enc)=some ((ZEj l).map End.enc):=by
 unfold ZEe ZEa;have h1:(l.map End.enc).all Zwl=true:=by rw [ZLc];intro x hx;obtain ⟨y,_,rfl⟩:=ZLq.1 hx;rfl
 have h2:Nat.ble (l.map End.enc).length 1000000=true:=ZM8 (by rw [ZL8];omega)
 have h3:(l.map End.enc).all (fits 3)=true:=by rw [ZLc];intro x hx;obtain ⟨y,_,rfl⟩:=ZLq.1 hx;rfl
 simp only [ZG4,h1,h2,h3,ZEU,ZFa l hn,ZF8,ZLW];rfl
def ZEk (d:Door):End:=⟨d.Id,d.Why,d.Ended⟩
structure IsFate (s:Sta) (id:Str) (D:List Str) (E:List End):Prop where
 dn:D.Nodup
 ds:D.Pairwise ltS
 es:E.Pairwise fun a b=>ltS a.Id b.Id
 dm:∀ x,x∈D↔∃ d∈s.Doors,d.Id=x∧d.Ended < 0∧Reach s id d.Id
 em:∀ e,e∈E↔∃ d∈s.Doors,e=ZEk d∧¬ d.Ended < 0∧d.After.l=[]∧Reach s id d.Id
 dl:D.length≤500
 el:E.length≤500
theorem ZHv (s:Sta) (hp:Jx s=true) (hs:StE s) (hN:s.Doors.length≤500) (id:Str) (hid:decide (Zn s id < 0)=false):∃ D E,pfn rE 12 [stA s,.str id]=some (.tup [ftA false false D E,I 0])∧IsFate s id D E:=by
 have hp':=((Zdb s).1 hp).1;obtain ⟨Q,q1,q2,q3,q4,q5⟩:=ZHo s hp' hs hN id hid;have hQ:Q.length≤500:=by
  have:=ZF6 (Q.map (·.Id)) (s.Doors.map (·.Id)) q2 (fun x hx=>by obtain ⟨d,hd,rfl⟩:=ZLq.1 hx;exact ZLZ (q3 d hd))
  simp only [ZL8] at this;omega
 have hin:∀ d,d∈Q↔d∈s.Doors∧Reach s id d.Id:=fun d=>⟨fun h=>⟨q3 d h,q4 d h⟩,fun ⟨h1,h2⟩=>by
  obtain ⟨d',h3,h4⟩:=ZLq.1 (q5 _ h2)
  rwa [←ZFX (ZEF hp') (q3 d' h3) h1 h4]⟩
 have eD:ZEc Q=((Q.filter fun d=>decide (d.Ended < 0)).map (·.Id)).map encS:=by unfold ZEc;rw [ZLW];rfl
 have eE:ZEd Q=((Q.filter fun d=>!decide (d.Ended < 0)&&d.After.l.isEmpty).map ZEk).map End.enc:=by unfold ZEd;rw [ZLW];rfl
 have nD:((Q.filter fun d=>decide (d.Ended < 0)).map (·.Id)).Nodup:=q2.sublist ((ZNJ).map _)
 have nE:(((Q.filter fun d=>!decide (d.Ended < 0)&&d.After.l.isEmpty).map ZEk).map (·.Id)).Nodup:=by
  rw [ZLW];exact q2.sublist ((ZNJ).map _)
 have lD:((Q.filter fun d=>decide (d.Ended < 0)).map (·.Id)).length≤500:=by rw [ZL8];have:=ZMu (fun d:Door=>decide (d.Ended < 0)) Q;omega
 have lE:((Q.filter fun d=>!decide (d.Ended < 0)&&d.After.l.isEmpty).map ZEk).length≤500:=by rw [ZL8];have:=ZMu (fun d:Door=>!decide (d.Ended < 0)&&d.After.l.isEmpty) Q;omega
 have mD:∀ x,x∈((Q.filter fun d=>decide (d.Ended < 0)).map (·.Id))↔∃ d∈s.Doors,d.Id=x∧d.Ended < 0∧Reach s id d.Id:=fun x=>by
  rw [ZLq];constructor
  ·rintro ⟨d,hd,rfl⟩;rw [ZNb] at hd;exact ⟨d,q3 d hd.1,rfl,of_decide_eq_true hd.2,q4 d hd.1⟩
  ·rintro ⟨d,h1,h2,h3,h4⟩;exact ⟨d,ZNb.2 ⟨(hin d).2 ⟨h1,h4⟩,decide_eq_true h3⟩,h2⟩
 have mE:∀ e,e∈((Q.filter fun d=>!decide (d.Ended < 0)&&d.After.l.isEmpty).map ZEk)↔∃ d∈s.Doors,e=ZEk d∧¬ d.Ended < 0∧d.After.l=[]∧Reach s id d.Id:=fun e=>by
  rw [ZLq];constructor
  ·rintro ⟨d,hd,rfl⟩;simp only [ZNb,ZL6,ZLr,decide_eq_false_iff_not,ZN3] at hd;exact ⟨d,q3 d hd.1,rfl,hd.2.1,hd.2.2,q4 d hd.1⟩
  ·rintro ⟨d,h1,h2,h3,h4,h5⟩;refine ⟨d,?_,h2.symm⟩;simp only [ZNb,ZL6,ZLr,decide_eq_false_iff_not,ZN3];exact ⟨(hin d).2 ⟨h1,h5⟩,h3,h4⟩
 rw [eD,eE] at q1;generalize (Q.filter fun d=>decide (d.Ended < 0)).map (·.Id)=D0 at *
 generalize (Q.filter fun d=>!decide (d.Ended < 0)&&d.After.l.isEmpty).map ZEk=E0 at *
 have hc:pfn rE 33 [stA s,.str id]=some (I 0):=by
  rw [Zpq s hs id];unfold ZEb;rw [hp,hid];rfl
 have pD:=ZES D0;have pE:=ZF9 E0;refine ⟨ZEi D0,ZEj E0,?_,pD.nodup_iff.2 nD,ZHr D0 nD,ZHu E0 nE,fun x=>by rw [pD.mem_iff,mD],fun e=>by rw [pE.mem_iff,mE],by rw [pD.length_eq];exact lD,by rw [pE.length_eq];exact lE⟩
 exact ZFW s id _ _ _ _ hc q1 (ZFb D0 (by omega)) (ZG5 E0 (by omega) nE) (by simp [pD.length_eq]) (by simp [pE.length_eq]) (ZET _) (ZEU _)
end Go.AM
namespace Go.AM
open Go
def zE:Event:=⟨0,0,0,0,0,emp,emp,emp,⟨false,[]⟩,⟨false,[]⟩,⟨0,emp,0,0⟩,⟨0,0⟩,⟨false,[]⟩,⟨false,[]⟩⟩
def nU (n:Int):HN:=⟨n,emp,0,0⟩
def le1:Event:={ zE with Kind:=2,Id:=B [115,49],Path:=⟨false,[⟨0,0⟩,⟨9,0⟩]⟩ }
def le2:Event:={ zE with Kind:=5,Id:=B [98,49],Path:=⟨false,[⟨1,1⟩,⟨4,1⟩,⟨1,4⟩]⟩ }
def le3:Event:={ zE with Kind:=6,Id:=B [101,49],Other:=B [98,49],Text:=B [115,49],Number:=nU 1 }
def le4:Event:={ zE with Kind:=6,Id:=B [101,53],Other:=B [98,49],Text:=B [115,49],Number:=nU 5 }
def le5:Event:={ zE with Kind:=9,Id:=B [101,49],Day:=7,Lst:=⟨false,[⟨B [101,50],nU 1,⟨0,0⟩⟩,⟨B [101,51],nU 3,⟨0,0⟩⟩]⟩ }
def le6:Event:={ zE with Kind:=10,Id:=B [101,52],Ids:=⟨false,[B [101,51],B [101,53]]⟩,Day:=9,Number:=nU 3 }
def le7:Event:={ zE with Kind:=12,Id:=B [101,50],Day:=10 }
def lsL:List Event:=[le1,le2,le3,le4,le5,le6,le7]
def lsS:Nat→Sta
 | 0=>Yh
 | i+1=>ZP (lsS i) 1 (lsL[i]?.getD zE)
def ZG6 (i:Nat):Bool:=YQ (lsS i)&&(Xn (lsL[i]?.getD zE)&&Qk (lsS i) 1 (lsL[i]?.getD zE)==0)
theorem ZHw:(List.range 7).all ZG6=true:=by decide +kernel
theorem ZHx (i:Nat) (e:Event) (h:lsL[i]? = some e):pfn rE 20 [stA (lsS i),I 1,evA e]=some (.tup [stA (lsS (i+1)),I 0]):=by
 have hi:i < 7:=Z7 h;have ho:=ZLc.1 ZHw i (ZMU.2 hi);unfold ZG6 at ho;rw [h] at ho;simp only [ZMn,ZL6,beq_iff_eq] at ho;rw [JJ _ (Kl _ ho.1) 1 _ (JL _ ho.2.1),ho.2.2];show _=some (AV.tup [stA (ZP (lsS i) 1 (lsL[i]?.getD zE)),_])
 rw [h];rfl
theorem ZHy:∃ fr',Zg rE [0,1,2,3] c23L0b [(0,.ptr 0 0 0 1),(1,.ptr 1 0 0 1),(2,.isl false false 18 (lsL.map evA)),(3,.int .i64 0)] [.row 7 [stA Yh],.row 7 [stA Yh]] =
 some (.exit 0,fr',[.row 7 [stA Yh],.row 7 [stA (lsS 7)]])∧get fr' 0=.ptr 0 0 0 1∧get fr' 1=.ptr 1 0 0 1:=by
 have L:=Y8 (E:=rE) (live:=[0,1,2,3]) (b:=c23L0b) 7 (fun i=>[(0,.ptr 0 0 0 1),(1,.ptr 1 0 0 1),(2,.isl false false 18 (lsL.map evA)),(3,I i)])
  (fun i=>[.row 7 [stA Yh],.row 7 [stA (lsS i)]]) (fun i=>rfl)
  (fun i hi=>by
   obtain ⟨x,hx⟩:∃ x,lsL[i]? = some x:=⟨_,ZLb hi⟩;have hg:=Z6 (f:=evA) hx;have hlen:lsL.length=7:=rfl;have hi':=Zh hi;have hwr:=Zx (n:=i) (by omega)
   have hA:=ZHx i x hx;have n0:((0:Int)==0)=true:=rfl;generalize lsS i=S at hA ⊢;generalize lsS (i+1)=S' at hA ⊢;refine ⟨_,by simp only [go_sem,qy,qq,qv,qk,reduceIte,c23L0b,hg,hlen,hi',hwr,hA,n0];rfl,?_⟩
   simp only [go_sem,qy])
  (e:=.exit 0) (fr:=[(0,.ptr 0 0 0 1),(1,.ptr 1 0 0 1),(2,.isl false false 18 (lsL.map evA)),(3,I (7:Nat))]) (h:=[.row 7 [stA Yh],.row 7 [stA (lsS 7)]])
  (by
   have hlen:lsL.length=7:=rfl;have hd:=ZG 7;simp only [go_sem,qy,qq,qv,reduceIte,c23L0b,hlen,hd]) (by simp)
 exact ⟨_,L,by simp only [go_sem,qy],by simp only [go_sem,qy]⟩
theorem ZFc (n:Int):pfn rE 63 [I n]=some (.agg [I n,.str emp,I 0,I 0]):=by
 rw [Z5 (f:=63) rfl rfl];simp only [go_sem,qy,qq,qv,qk,c63]
theorem ZHz:pfn rE 23 []=some (stA (lsS 7)):=by
 obtain ⟨fr',hL,q0,q1⟩:=ZHy;have h1:=ZFc 1;have h3:=ZFc 3;have h5:=ZFc 5;generalize lsS 7=S at hL ⊢;have hz:stA Yh=.agg HE:=rfl;rw [hz] at hL;simp only [lsL,le1,le2,le3,le4,le5,le6,le7,zE,nU,ZLh,ZLG,evA,Pt.enc,Ent.enc,encS] at hL;simp only [stA] at hL ⊢;rw [Z5 (f:=23) rfl rfl];simp only [go_sem,qy,qq,qv,qk,c23,c23L0,h1,h3,h5,hL,q0,q1]
end Go.AM
namespace Go.AM
open Go
theorem ZEW (x:Str):∀ (K:List Str) (i:Nat),ZW false [2] (.str x) (K.map encS) i=some ((K.findIdx? (Z3 x)).map (· + i))
 | [],i=>rfl
 | y::r,i=>by
  rw [ZLh];unfold encS;rw [ZW,Z1Y];have h:=ZEW x r (i+1);unfold encS at h;simp only [h,List.findIdx?_cons];cases Z3 x y with
  | true=>simp
  | false=>
   cases List.findIdx? (Z3 x) r<;>simp
   omega
def ZE1 (bs:List Nat) (V:List (List Str)):List AV:=List.zipWith (fun b A=>AV.sl (b+2) A.length 0 A.length false) bs V
def bH (K:List Str) (V:List (List Str)) (bs:List Nat) (X:List AObj):Hp:=.map (K.map encS) (ZE1 bs V)::.row 1 [.mp 0]::X
structure HB (K:List Str) (V:List (List Str)) (bs:List Nat) (X:List AObj):Prop where
 lk:V.length=K.length
 lb:bs.length=K.length
 nd:bs.Nodup
 row:∀ (j b:Nat) (A:List Str),bs[j]? = some b→V[j]? = some A→X[b]? = some (.row 1 (A.map encS))
 cl:TC' X
theorem ZFf {bs:List Nat} {V:List (List Str)} {j b:Nat} {A:List Str} (h1:bs[j]? = some b) (h2:V[j]? = some A):(ZE1 bs V)[j]? = some (.sl (b+2) A.length 0 A.length false):=by
 unfold ZE1;rw [List.getElem?_zipWith,h1,h2]
theorem ZG9:∀ {n:Nat} {l:List AV} {j:Nat} {v:AV},Zd n l=true→l[j]? = some v→bel n v=true
 | n,[],j,v,_,h=>by simp at h
 | n,x::r,0,v,h,hj=>by
  simp only [Zd,ZL6] at h;simp only [ZLs,Option.some.injEq] at hj;rw [←hj];exact h.1
 | n,x::r,j+1,v,h,hj=>by
  simp only [Zd,ZL6] at h;rw [ZLF] at hj;exact ZG9 h.2 hj
theorem HB.at {K:List Str} {V:List (List Str)} {bs:List Nat} {X:List AObj} (H:HB K V bs X) {j:Nat} (hj:j < K.length):∃ b A,bs[j]? = some b∧V[j]? = some A∧X[b]? = some (.row 1 (A.map encS))∧b < X.length:=by
 have h1:bs[j]? = some (bs[j]'(by rw [H.lb];exact hj)):=ZLb _
 have h2:V[j]? = some (V[j]'(by rw [H.lk];exact hj)):=ZLb _
 have h3:=H.row j _ _ h1 h2;exact ⟨_,_,h1,h2,h3,(ZL9.1 h3).1⟩
theorem ZFg {K:List Str} {V:List (List Str)} {bs:List Nat} {X:List AObj} (H:HB K V bs X) (n:Nat) (fr:Fr):
 ∃ X',Xq (n+2) fr (bH K V bs X)=bH K V bs X'∧HB K V bs X'∧(∀ i,i < n→X'[i]? = X[i]?)∧X'.length≤X.length:=by
 unfold Xq;cases c:Zd (n+2) (fr.map (·.2))&&X4 (n+2) ((bH K V bs X).take (n+2)) with
 | false=>exact ⟨X,rfl,H,fun i _=>rfl,ZL7 _⟩
 | true=>
  have ht:(bH K V bs X).take (n+2)=bH K V bs (X.take n):=rfl;refine ⟨X.take n,by rw [cond_true,ht],⟨H.lk,H.lb,H.nd,fun j b A h1 h2=>?_,fun m=>ZEO (H.cl m)⟩,fun i hi=>by rw [ZNl,if_pos hi],by simp;omega⟩
  simp only [ZL6] at c;have c2:=c.2;rw [ht] at c2;simp only [bH,X4,Zj,ZL6] at c2;have:=ZG9 c2.1.2 (ZFf h1 h2);have hb:b+2 < n+2:=by simpa [bel] using this
  rw [ZNl,if_pos (by omega)]
  exact H.row j b A h1 h2
def ZDY (S:List Str×List (List Str)) (x d:Str):List Str×List (List Str):=
 match S.1.findIdx? (Z3 x) with
 | some j=>(S.1,S.2.set j ((S.2[j]?.getD [])++[d]))
 | none=>(S.1++[x],S.2++[[d]])
def ZE6 (S:List Str×List (List Str)) (x:Str):List Str:=
 match S.1.findIdx? (Z3 x) with
 | some j=>S.2[j]?.getD []
 | none=>[]
theorem ZEX {K:List Str} {V:List (List Str)} {bs:List Nat} (x:Str) (z:AV) (tl:List AObj):W5 (.map (K.map encS) (ZE1 bs V)::tl) false [2] false z (.mp 0) (.str x) =
 (match K.findIdx? (Z3 x) with | some j=>(ZE1 bs V)[j]? | none=>some z):=by
 simp only [W5,ZLs,QW,Z1Y,ZEW];cases K.findIdx? (Z3 x) with
 | none=>rfl
 | some j=>
  simp only [ZLE,ZLT];cases (ZE1 bs V)[j]?<;>rfl
theorem ZGa {α:Type} {p:α→Bool} {l:List α} {j:Nat} (h:l.findIdx? p=some j):j < l.length:=by
 rw [List.findIdx?_eq_some_iff_findIdx_eq] at h;exact h.1
theorem ZGb:∀ (bs:List Nat) (V:List (List Str)) (j b:Nat) (A:List Str),bs[j]? = some b→(ZE1 bs V).set j (.sl (b+2) A.length 0 A.length false)=ZE1 bs (V.set j A)
 | [],V,j,b,A,h=>by simp at h
 | b'::bs,[],j,b,A,h=>by simp [ZE1]
 | b'::bs,v::V,0,b,A,h=>by
  simp only [ZLs,Option.some.injEq] at h;subst h;rfl
 | b'::bs,v::V,j+1,b,A,h=>by
  rw [ZLF] at h;have:=ZGb bs V j b A h;unfold ZE1 at this ⊢;simp only [List.zipWith_cons_cons,List.set_cons_succ,this]
theorem HB.lt {K:List Str} {V:List (List Str)} {bs:List Nat} {X:List AObj} (H:HB K V bs X):∀ b∈bs,b < X.length:=fun b hb=>by
 obtain ⟨j,hj⟩:=ZMQ.1 hb;obtain ⟨b',A,h1,_,_,h4⟩:=H.at (j:=j) (by rw [←H.lb];exact (ZL9.1 hj).1)
 rw [hj] at h1;cases h1;exact h4
theorem ZHO {K:List Str} {V:List (List Str)} {bs:List Nat} {X:List AObj} (H:HB K V bs X) (x d:Str) (hV:∀ A∈V,A.length≤1000000):
 ∃ v w rs b o bs' X',W5 (bH K V bs X) false [2] false (.isl false true 1 []) (.mp 0) (.str x)=some v∧
  Qt (bH K V bs X) (bH K V bs X).length false 1 16 v (.isl false false 1 [.str d])=some (w,rs,some (b+2,o))∧
  YK (setH (bH K V bs X) (b+2) o) false [2] (.mp 0) (.str x) w=some (.bot,bH (ZDY (K,V) x d).1 (ZDY (K,V) x d).2 bs' X')∧
  HB (ZDY (K,V) x d).1 (ZDY (K,V) x d).2 bs' X'∧X.length≤X'.length∧(∀ i,i < X.length→i ∉ bs→X'[i]? = X[i]?)∧(∀ b'∈bs',b'∈bs∨b'=X.length):=by
 unfold ZDY bH;have hcl:∀ (L:List Str) m,Zj m (.row 1 (L.map encS))=true:=fun L m=>ZEv m L
 cases hf:K.findIdx? (Z3 x) with
 | none=>
  refine ⟨.isl false true 1 [],.sl (X.length+2) 1 0 1 false,[],X.length,.row 1 [.str d],bs++[X.length],X++[.row 1 [.str d]],by rw [ZEX,hf],rfl,?_,?_,by simp,fun i hi _=>ZLu hi,?_⟩
  ·have hs:setH (.map (K.map encS) (ZE1 bs V)::.row 1 [.mp 0]::X) (X.length+2) (.row 1 [.str d])=.map (K.map encS) (ZE1 bs V)::.row 1 [.mp 0]::(X++[.row 1 [.str d]]):=J1 _ _;rw [hs];simp only [YK,ZLs,Yo,Z1Y,ZEW,hf,Option.map_none,ZM,ZH];have hz:ZE1 (bs++[X.length]) (V++[[d]])=ZE1 bs V++[.sl (X.length+2) 1 0 1 false]:=by
    unfold ZE1;rw [List.zipWith_append (by rw [H.lb,H.lk])]
    rfl
   rw [hz,ZLp];rfl
  ·have hbn:X.length ∉ bs:=fun hm=>Nat.lt_irrefl _ (H.lt _ hm)
   refine ⟨by simp [H.lk],by simp [H.lb],?_,fun j b A h1 h2=>?_,fun m=>?_⟩
   ·rw [ZMk];exact ⟨H.nd,by simp,fun a ha b hb=>by simp only [ZLk] at hb;subst hb;exact fun e=>hbn (e▸ha)⟩
   ·by_cases hj:j < bs.length
    ·rw [ZLu hj] at h1;rw [ZLu (by rw [H.lk,←H.lb];exact hj)] at h2
     have:=H.row j b A h1 h2;rw [ZLu (ZL9.1 this).1];exact this
    ·have hj2:j=bs.length:=by
      have:=(ZL9.1 h1).1;simp at this;omega
     subst hj2;rw [ZLz (ZL7 _),ZMA] at h1;rw [show bs.length=V.length by rw [H.lb,H.lk],ZLz (ZL7 _),ZMA] at h2
     simp only [ZLs,Option.some.injEq] at h1 h2;subst h1 h2;rw [ZLz (ZL7 _),ZMA];rfl
   ·rw [ZEu,H.cl m];show (true&&(Zj m (.row 1 [.str d])&&true))=true
    rw [show Zj m (.row 1 [.str d])=true from hcl [d] m]
    rfl
  ·intro b' hb';simp only [ZLt,ZLk] at hb';exact hb'
 | some j=>
  have hj:=ZGa hf;obtain ⟨b,A,h1,h2,h3,h4⟩:=H.at hj;have hA:=hV A (ZLe h2);have hv:=ZFf h1 h2;have hbb:(AObj.map (K.map encS) (ZE1 bs V)::.row 1 [.mp 0]::X)[b+2]? = some (.row 1 (A.map encS)):=h3;have hg:(A.map encS).length=A.length:=ZL8 _;refine ⟨_,.sl (b+2) (A.length+1) 0 (A.length+1) false,[b+2],b,.row 1 (A.map encS++[.str d]),bs,X.set b (.row 1 (A.map encS++[.str d])),by rw [ZEX,hf];exact hv,?_,?_,?_,by simp,fun i hi hib=>?_,fun b' hb'=>.inl hb'⟩
  ·have hel:Q2 (AObj.map (K.map encS) (ZE1 bs V)::.row 1 [.mp 0]::X) (.sl (b+2) A.length 0 A.length false)=some (A.map encS):=by
    simp only [Q2,hbb,hg,beq_self_eq_true,cond_true,ZMc];rw [ZLw (by simp)]
   have hz:Qq (AObj.map (K.map encS) (ZE1 bs V)::.row 1 [.mp 0]::X) 1 (.sl (b+2) A.length 0 A.length false)=true:=by simp only [Qq,hbb];rfl
   have hbd:((A.map encS).length+1) * 16≤70368744177664:=by simp;omega
   unfold Qt;rw [hel];dsimp only [Q2];rw [if_pos ⟨hz,rfl,Nat.zero_lt_one,by decide,hbd⟩]
   simp only [ZNk,cond_false,hbb,beq_self_eq_true,ZLB,ZLm,ZLL];rfl
  ·have hs:setH (AObj.map (K.map encS) (ZE1 bs V)::.row 1 [.mp 0]::X) (b+2) (.row 1 (A.map encS++[.str d]))=.map (K.map encS) (ZE1 bs V)::.row 1 [.mp 0]::X.set b (.row 1 (A.map encS++[.str d])):=ZEC (by simp;omega)
   rw [hs];simp only [YK,ZLs,Yo,Z1Y,ZEW,hf,ZLE,ZLT,ZM,ZH,h2,ZMn];have hz:=ZGb bs V j b (A++[d]) h1;rw [ZLo,ZMf] at hz;rw [hz];rfl
  ·simp only [h2,ZMn];refine ⟨by simp [H.lk],H.lb,H.nd,fun j' b' A' e1 e2=>?_,fun m=>ZEN (H.cl m) ?_⟩
   ·by_cases hjj:j=j'
    ·subst hjj;rw [h1] at e1;cases e1;rw [ZNh (by rw [H.lk];exact hj)] at e2
     cases e2;rw [ZNh h4,ZLp];rfl
    ·rw [ZNm hjj] at e2;have hne:b≠b':=fun e=>by
      subst e;exact hjj ((ZNy (by rw [H.lb];exact hj) H.nd).1 (by rw [h1,e1]))
     rw [ZNm hne];exact H.row j' b' A' e1 e2
   ·have:=hcl (A++[d]) m
    rwa [ZLp] at this
  ·have hne:b≠i:=fun e=>hib (by rw [←e];exact ZLe h1)
   rw [ZNm hne]
end Go.AM
namespace Go.AM
open Go
def c16B:ACode:=match c16L0b with | .keep _ (.seq _ (.seq _ (.seq (.keep _ (.block _ b)) _)))=>b | _=>.skip
def c16Dr:ACode:=match c16B with | .seq _ (.keep _ d)=>d | _=>.skip
theorem ZHP (r1:List Nat) (b:Nat):Qy ⟨false,r1,some (b+2),none⟩ ⟨false,[1],none,none⟩=true:=by
 have:(b+2==1)=false:=by rw [beq_eq_false_iff_ne];omega
 simp [Qy]
theorem ZHQ (r1:List Nat) (b:Nat):Qy ⟨false,r1,some b,none⟩ ⟨false,[],none,none⟩=true:=by simp [Qy]
theorem ZHR (a1 a2 a4 a5 a22 a23 a24 a29 a30 a31:AV) {h3:Hp} {m:AObj} {X:List AObj} {nb b:Nat} {x:Str} {d:Door} {v w:AV} {rs:List Nat} {o:AObj}
 (hr9:rowAt (m::.row 1 [.mp 0]::X) nb 1=some (16,[d.enc]))
 (hg:W5 (m::.row 1 [.mp 0]::X) false [2] false (.isl false true 1 []) (.mp 0) (.str x)=some v)
 (ha:Qt (m::.row 1 [.mp 0]::X) (m::AObj.row 1 [.mp 0]::X).length false 1 16 v (.isl false false 1 [.str d.Id])=some (w,rs,some (b+2,o)))
 (hp:YK (setH (m::.row 1 [.mp 0]::X) (b+2) o) false [2] (.mp 0) (.str x) w=some (.bot,h3)):
 ∃ fr',Zb rE c16Dr [(1,a1),(2,a2),(4,a4),(5,a5),(7,.ptr 1 0 0 1),(9,.ptr nb 0 0 1),(11,.str x),(22,a22),(23,a23),(24,a24),(29,a29),(30,a30),(31,a31)] (m::.row 1 [.mp 0]::X)=some (.normal,fr',h3)∧
  Z2 [1,2,4,5,7,9,22,23,24,29,30,31] fr'=[(1,a1),(2,a2),(4,a4),(5,a5),(7,.ptr 1 0 0 1),(9,.ptr nb 0 0 1),(22,a22),(23,a23),(24,a24),(29,a29),(30,a30),(31,a31)]:=by
 have haw:appW (m::.row 1 [.mp 0]::X) false 1 16 v (.isl false false 1 [.str d.Id])=some (w,setH (m::.row 1 [.mp 0]::X) (b+2) o):=by
  unfold appW;rw [ha];rfl
 have ha:Qt (m::.row 1 [.mp 0]::X) (X.length+1+1) false 1 16 v (.isl false false 1 [.str d.Id])=some (w,rs,some (b+2,o)):=ha;have e:setH (m::.row 1 [.mp 0]::X) (b+2) o=m::.row 1 [.mp 0]::setH X b o:=by simp only [go_sem]
 rw [e] at hp;simp only [Door.enc,NL.enc] at hr9;refine ⟨_,by simp only [go_sem,qy,qq,qv,c16Dr,c16B,c16L0b,hr9,hg,haw,hp,Za,QG,Wm,opT,Z8,ha,ZHP,ZHQ,ZLH,ZLs,ZLF,Option.map]<;>rfl,?_⟩
 simp only [go_sem,qy]
theorem ZHS (a1 a2 a4 a5 a22 a23 a24:AV) (d:Door) (ex:Bool) {K:List Str} {V:List (List Str)} {bs:List Nat} {X:List AObj} (H:HB K V bs X) (hV:∀ A∈V,A.length≤1000000) {nb:Nat} (hnb:nb ∉ bs) (hX:X[nb]? = some (.row 16 [d.enc]))
 {L:List Str} {i:Nat} {x:Str} (hx:L[i]? = some x) (hL:L.length≤1000):
 ∃ bs' X',Zb rE c16L0b [(1,a1),(2,a2),(4,a4),(5,a5),(7,.ptr 1 0 0 1),(9,.ptr (nb+2) 0 0 1),(22,a22),(23,a23),(24,a24),(29,.isl false ex 1 (L.map encS)),(30,I L.length),(31,I i)] (bH K V bs X) =
  some (.normal,[(1,a1),(2,a2),(4,a4),(5,a5),(7,.ptr 1 0 0 1),(9,.ptr (nb+2) 0 0 1),(22,a22),(23,a23),(24,a24),(29,.isl false ex 1 (L.map encS)),(30,I L.length),(31,I (i+1:Nat))],bH (ZDY (K,V) x d.Id).1 (ZDY (K,V) x d.Id).2 bs' X')∧
  HB (ZDY (K,V) x d.Id).1 (ZDY (K,V) x d.Id).2 bs' X'∧nb ∉ bs'∧X'[nb]? = some (.row 16 [d.enc])∧(∀ b'∈bs',b'∈bs∨X.length≤b'):=by
 have hi:i < L.length:=(ZL9.1 hx).1;have hg:=Z6 (f:=encS) hx;have hi':=Zh hi;have hwr:=Zx (n:=i) (by omega)
 have hnl:nb < X.length:=(ZL9.1 hX).1;obtain ⟨v,w,rs,b,ob,bs',X1,e1,e2,e3,H1,l1,k1,m1⟩:=ZHO H x d.Id hV;have hr9:rowAt (bH K V bs X) (nb+2) 1=some (16,[d.enc]):=by
  show rowAt X nb 1=_
  unfold rowAt;rw [hX];rfl
 obtain ⟨fr1,e4,r1⟩:=ZHR a1 a2 a4 a5 a22 a23 a24 (.isl false ex 1 (L.map encS)) (I L.length) (I i) (h3:=bH (ZDY (K,V) x d.Id).1 (ZDY (K,V) x d.Id).2 bs' X1) hr9 e1 e2 e3;have e4:Zb rE c16Dr _ (bH K V bs X)=_:=e4;have kpx:∀ {X2:List AObj} (fr:Fr),HB (ZDY (K,V) x d.Id).1 (ZDY (K,V) x d.Id).2 bs' X2→∃ ZIK,Xq (bH K V bs X).length fr (bH (ZDY (K,V) x d.Id).1 (ZDY (K,V) x d.Id).2 bs' X2)=bH (ZDY (K,V) x d.Id).1 (ZDY (K,V) x d.Id).2 bs' ZIK∧HB (ZDY (K,V) x d.Id).1 (ZDY (K,V) x d.Id).2 bs' ZIK∧∀ i,i < X.length→ZIK[i]? = X2[i]?:=by
  intro X2 fr H2;obtain ⟨ZIK,t1,t2,t3,t4⟩:=ZFg H2 X.length fr;exact ⟨ZIK,t1,t2,t3⟩
 obtain ⟨X2,q1,H2,g2⟩:=kpx [(1,a1),(2,a2),(4,a4),(5,a5),(7,.ptr 1 0 0 1),(9,.ptr (nb+2) 0 0 1),(22,a22),(23,a23),(24,a24),(29,.isl false ex 1 (L.map encS)),(30,I L.length),(31,I i)] H1;obtain ⟨ZIK,q2,H3,g3⟩:=kpx [(1,a1),(2,a2),(4,a4),(5,a5),(7,.ptr 1 0 0 1),(9,.ptr (nb+2) 0 0 1),(22,a22),(23,a23),(24,a24),(29,.isl false ex 1 (L.map encS)),(30,I L.length),(31,I i)] H2;obtain ⟨ZCU,q3,H4,g4⟩:=kpx [(1,a1),(2,a2),(4,a4),(5,a5),(7,.ptr 1 0 0 1),(9,.ptr (nb+2) 0 0 1),(22,a22),(23,a23),(24,a24),(29,.isl false ex 1 (L.map encS)),(30,I L.length),(31,I (i+1:Nat))] H3;have t0:∀ fr,Xq (bH K V bs X).length fr (bH K V bs X)=bH K V bs X:=fun fr=>ZE5 rfl
 refine ⟨bs',ZCU,?_,H4,fun hm=>?_,?_,fun b' hb'=>(m1 b' hb').imp id fun e=>by omega⟩
 ·show Zb rE (.keep [1,2,4,5,7,9,22,23,24,29,30,31]<|.seq (.region [o 32 (.bin .lss (.t 31) (.t 30))])<|
   .seq (.cond (.t 32) .skip (.exit 2))<|
   .seq (.keep [1,2,4,5,7,9,22,23,24,29,30,31]<|.block 3<|
    .seq (.keep [1,2,4,5,7,9,11,22,23,24,29,30,31]<|.region [o 33 (.iadr 1 (.t 29) (.t 31)),o 34 (.load none (.t 33)),o 11 (.mv (.t 34))])<|
    .keep [1,2,4,5,7,9,22,23,24,29,30,31] c16Dr)<|
   .region [o 44 (.bin .add (.t 31) (.c (.int .i64 1))),o 31 (.mv (.t 44))]) _ _=_
  simp only [go_sem,qy,reduceIte,hi',hwr,hg,t0,e4,encS,r1,q1,q2,q3]
 ·rcases m1 nb hm with h | h
  ·exact hnb h
  ·omega
 ·rw [g4 nb hnl,g3 nb hnl,g2 nb hnl,k1 nb hnl hnb];exact hX
theorem ZHT {S:List Str×List (List Str)} {c:Nat} (h:∀ A∈S.2,A.length≤c) (x d:Str):∀ A∈(ZDY S x d).2,A.length≤c+1:=by
 intro A hA;unfold ZDY at hA;cases hf:S.1.findIdx? (Z3 x) with
 | none=>
  rw [hf] at hA;simp only [ZLt,ZLk] at hA;rcases hA with hA | rfl
  ·have:=h A hA;omega
  ·simp
 | some j=>
  rw [hf] at hA;rcases ZN1 hA with hA | rfl
  ·have:=h A hA;omega
  ·rw [ZLo,ZMf];cases hj:S.2[j]? with
   | none=>simp
   | some B=>
    have:=h B (ZLe hj);simp only [ZMn];omega
def ZE0 (d:Str) (S:List Str×List (List Str)) (L:List Str):List Str×List (List Str):=L.foldl (fun S x=>ZDY S x d) S
theorem ZFh {d:Str}:∀ (L:List Str) {S:List Str×List (List Str)} {c:Nat} (h:∀ A∈S.2,A.length≤c),∀ A∈(ZE0 d S L).2,A.length≤c+L.length
 | [],S,c,h=>h
 | x::r,S,c,h=>fun A hA=>by
  have:=ZFh r (ZHT h x d) A hA;simp only [ZLm];omega
theorem ZHU (a1 a2 a4 a5 a22 a23 a24:AV) (d:Door) (ex:Bool) {K:List Str} {V:List (List Str)} {bs:List Nat} {X:List AObj} (H:HB K V bs X) {c:Nat} (hV:∀ A∈V,A.length≤c) {nb:Nat} (hnb:nb ∉ bs) (hX:X[nb]? = some (.row 16 [d.enc]))
 (L:List Str) (hL:L.length≤1000) (hc:c+L.length≤1000000):
 ∃ fr' bs' X',Zg rE [1,2,4,5,7,9,22,23,24,29,30,31] c16L0b [(1,a1),(2,a2),(4,a4),(5,a5),(7,.ptr 1 0 0 1),(9,.ptr (nb+2) 0 0 1),(22,a22),(23,a23),(24,a24),(29,.isl false ex 1 (L.map encS)),(30,I L.length),(31,I 0)] (bH K V bs X) =
  some (.exit 2,fr',bH (ZE0 d.Id (K,V) L).1 (ZE0 d.Id (K,V) L).2 bs' X')∧HB (ZE0 d.Id (K,V) L).1 (ZE0 d.Id (K,V) L).2 bs' X'∧
  Z2 [1,2,4,5,7,22,23,24] fr'=[(1,a1),(2,a2),(4,a4),(5,a5),(7,.ptr 1 0 0 1),(22,a22),(23,a23),(24,a24)]:=by
 obtain ⟨e,fr',h',Lp,hQ⟩:=Z9Y (E:=rE) (live:=[1,2,4,5,7,9,22,23,24,29,30,31]) (b:=c16L0b) L.length
  (fun i fr h=>∃ bs' X',fr=[(1,a1),(2,a2),(4,a4),(5,a5),(7,.ptr 1 0 0 1),(9,.ptr (nb+2) 0 0 1),(22,a22),(23,a23),(24,a24),(29,.isl false ex 1 (L.map encS)),(30,I L.length),(31,I i)]∧h=bH (ZE0 d.Id (K,V) (L.take i)).1 (ZE0 d.Id (K,V) (L.take i)).2 bs' X'∧
   HB (ZE0 d.Id (K,V) (L.take i)).1 (ZE0 d.Id (K,V) (L.take i)).2 bs' X'∧nb ∉ bs'∧X'[nb]? = some (.row 16 [d.enc]))
  (fun e fr h=>e=.exit 2∧∃ bs' X',h=bH (ZE0 d.Id (K,V) L).1 (ZE0 d.Id (K,V) L).2 bs' X'∧HB (ZE0 d.Id (K,V) L).1 (ZE0 d.Id (K,V) L).2 bs' X'∧
   Z2 [1,2,4,5,7,22,23,24] fr=[(1,a1),(2,a2),(4,a4),(5,a5),(7,.ptr 1 0 0 1),(22,a22),(23,a23),(24,a24)])
  (fun i fr h m=>by obtain ⟨bs',X',rfl,_⟩:=m;rfl)
  (fun i fr h hi m=>by
   obtain ⟨bs1,X1,rfl,rfl,H1,n1,x1⟩:=m;refine .inl ?_;obtain ⟨x,hx⟩:∃ x,L[i]? = some x:=⟨_,ZLb hi⟩;have hf:ZE0 d.Id (K,V) (L.take (i+1))=ZDY (ZE0 d.Id (K,V) (L.take i)) x d.Id:=Us (fun S x=>ZDY S x d.Id) (K,V) hx
   have hlen:=ZFh (d:=d.Id) (L.take i) (S:=(K,V)) hV;have hle:(L.take i).length≤L.length:=by simp;omega
   rw [hf];generalize ZE0 d.Id (K,V) (L.take i)=S at H1 hlen ⊢;obtain ⟨K1,V1⟩:=S;obtain ⟨bs2,X2,e2,H2,n2,x2,_⟩:=ZHS a1 a2 a4 a5 a22 a23 a24 d ex H1 (fun A hA=>by have:=hlen A hA;omega) n1 x1 hx hL
   exact ⟨_,_,e2,bs2,X2,rfl,rfl,H2,n2,x2⟩)
  (fun fr h m=>by
   obtain ⟨bs1,X1,rfl,rfl,H1,n1,x1⟩:=m;rw [ZLI] at H1 ⊢;have t0:∀ fr,Xq (bH (ZE0 d.Id (K,V) L).1 (ZE0 d.Id (K,V) L).2 bs1 X1).length fr (bH (ZE0 d.Id (K,V) L).1 (ZE0 d.Id (K,V) L).2 bs1 X1)=bH (ZE0 d.Id (K,V) L).1 (ZE0 d.Id (K,V) L).2 bs1 X1:=fun fr=>ZE5 rfl
   refine ⟨.exit 2,_,_,by simp only [go_sem,qy,reduceIte,c16L0b,ZG,t0]<;>rfl,by simp,rfl,bs1,X1,rfl,H1,?_⟩
   simp only [go_sem,qy])
  L.length 0 _ (bH K V bs X) (by omega) ⟨bs,X,rfl,rfl,H,hnb,hX⟩
 obtain ⟨rfl,bs',X',rfl,h1,h2⟩:=hQ;exact ⟨fr',bs',X',Lp,h1,h2⟩
end Go.AM
namespace Go.AM
open Go
theorem ZHV (K:List Str) (V:List (List Str)) (bs:List Nat) (X:List AObj) (o:AObj):bH K V bs X++[o]=bH K V bs (X++[o]):=rfl
theorem ZE2 (K:List Str) (V:List (List Str)) (bs:List Nat) (X:List AObj):(bH K V bs X).length=X.length+2:=rfl
theorem ZHW (K:List Str) (V:List (List Str)) (bs:List Nat) (X:List AObj) (b g:Nat):rowAt (bH K V bs X) (b+2) g=rowAt X b g:=rfl
theorem ZHX (K:List Str) (V:List (List Str)) (bs:List Nat) (X:List AObj) (x y:AObj):setH (bH K V bs (X++[x])) (X.length+2) y=bH K V bs (X++[y]):=ZEp (bH K V bs X) x y
theorem ZGc (X:List AObj) (x:AV) (sz:Nat):rowAt (X++[.row sz [x]]) X.length 1=some (sz,[x]):=ZEP X [] x sz
def ZE3 (S:List Str×List (List Str)) (d:Door):List Str×List (List Str):=ZE0 d.Id S d.After.l
theorem ZHY (a1 a2 a4 a5:AV) (ds:List Door) (bw ex:Bool) {K:List Str} {V:List (List Str)} {bs:List Nat} {X:List AObj} (H:HB K V bs X) {c:Nat} (hV:∀ A∈V,A.length≤c)
 {k:Nat} {d:Door} (hd:ds[k]? = some d) (hk:ds.length≤1000) (hL:d.After.l.length≤1000) (hc:c+d.After.l.length≤1000000):
 ∃ bs' X',Zb rE c16L1b [(1,a1),(2,a2),(4,a4),(5,a5),(7,.ptr 1 0 0 1),(22,.isl bw ex 16 (ds.map Door.enc)),(23,I ds.length),(24,I k)] (bH K V bs X) =
  some (.normal,[(1,a1),(2,a2),(4,a4),(5,a5),(7,.ptr 1 0 0 1),(22,.isl bw ex 16 (ds.map Door.enc)),(23,I ds.length),(24,I (k+1:Nat))],bH (ZE3 (K,V) d).1 (ZE3 (K,V) d).2 bs' X')∧
  HB (ZE3 (K,V) d).1 (ZE3 (K,V) d).2 bs' X':=by
 have hlt:k < ds.length:=(ZL9.1 hd).1;have hg:=Z6 (f:=Door.enc) hd;have hi':=Zh hlt;have hwr:=Zx (n:=k) (by omega)
 have hbn:X.length ∉ bs:=fun hm=>Nat.lt_irrefl _ (H.lt _ hm)
 have H0:HB K V bs (X++[.row 16 [d.enc]]):=by
  refine ⟨H.lk,H.lb,H.nd,fun j b A h1 h2=>?_,fun m=>?_⟩
  ·have:=H.row j b A h1 h2;rw [ZLu (ZL9.1 this).1];exact this
  ·have e:Zj m (.row 16 [d.enc])=true:=by simp only [Zj,Zd,Door.enc,NL.enc,bel,ZLH]
   rw [ZEu,H.cl m];show (true&&(Zj m (.row 16 [d.enc])&&true))=true
   rw [e];rfl
 obtain ⟨fr1,bs1,X1,e1,H1,r1⟩:=ZHU a1 a2 a4 a5 (.isl bw ex 16 (ds.map Door.enc)) (I ds.length) (I k) d d.After.ex H0 hV hbn (ZF3 X _) d.After.l hL hc;have kpx:∀ {X2:List AObj} (n:Nat) (fr:Fr),HB (ZE3 (K,V) d).1 (ZE3 (K,V) d).2 bs1 X2→∃ ZIK,Xq (n+2) fr (bH (ZE3 (K,V) d).1 (ZE3 (K,V) d).2 bs1 X2)=bH (ZE3 (K,V) d).1 (ZE3 (K,V) d).2 bs1 ZIK∧HB (ZE3 (K,V) d).1 (ZE3 (K,V) d).2 bs1 ZIK:=by
  intro X2 n fr H2;obtain ⟨ZIK,t1,t2,t3,t4⟩:=ZFg H2 n fr;exact ⟨ZIK,t1,t2⟩
 obtain ⟨X2,q1,H2⟩:=kpx (X.length+1) [(1,a1),(2,a2),(4,a4),(5,a5),(7,.ptr 1 0 0 1),(22,.isl bw ex 16 (ds.map Door.enc)),(23,I ds.length),(24,I k)] H1;obtain ⟨ZIK,q2,H3⟩:=kpx X.length [(1,a1),(2,a2),(4,a4),(5,a5),(7,.ptr 1 0 0 1),(22,.isl bw ex 16 (ds.map Door.enc)),(23,I ds.length),(24,I k)] H2;obtain ⟨ZCU,q3,H4⟩:=kpx X.length [(1,a1),(2,a2),(4,a4),(5,a5),(7,.ptr 1 0 0 1),(22,.isl bw ex 16 (ds.map Door.enc)),(23,I ds.length),(24,I (k+1:Nat))] H3;have t0:∀ fr X,Xq (X.length+2) fr (bH K V bs X)=bH K V bs X:=fun fr X=>ZE5 rfl
 have t1:∀ fr o,Xq (X.length+1+2) fr (bH K V bs (X++[o]))=bH K V bs (X++[o]):=fun fr o=>ZE5 (by rw [ZE2,ZLo];rfl)
 have t9:∀ o,Xq (X.length+2) [(1,a1),(2,a2),(4,a4),(5,a5),(7,AV.ptr 1 0 0 1),(9,.ptr (X.length+2) 0 0 1),(22,.isl bw ex 16 (ds.map Door.enc)),(23,I ds.length),(24,I k)] (bH K V bs (X++[o]))=bH K V bs (X++[o]):=fun o=>by
  have e:Zd (X.length+2) ([(1,a1),(2,a2),(4,a4),(5,a5),(7,AV.ptr 1 0 0 1),(9,.ptr (X.length+2) 0 0 1),(22,.isl bw ex 16 (ds.map Door.enc)),(23,I ds.length),(24,I k)].map (fun (p:Nat×AV)=>p.2))=false:=by
   have hn:Nat.blt (X.length+2) (X.length+2)=false:=by rw [ZM2];simp [ZLP]
   simp [Zd,bel,hn]
  unfold Xq;rw [e];rfl
 refine ⟨bs1,ZCU,?_,H4⟩;simp only [ZE3] at q1 q2 q3 ⊢;simp only [Door.enc,NL.enc] at hg e1 q1 t9;have rl:=fun (x:AV)=>ZGc X x 16
 simp only [go_sem,qy,qq,qk,reduceIte,c16L1b,c16L0,hi',hwr,hg,ZHV,ZE2,ZHX,ZHW,rl,t1,t9,e1,r1,q1,q2,q3,ZL8]
end Go.AM
namespace Go.AM
open Go
def ZDX (ds:List Door):List Str×List (List Str):=ds.foldl ZE3 ([],[])
theorem ZHZ {S:List Str×List (List Str)} {c:Nat} (h:∀ A∈S.2,A.length≤c) (d:Door) (hd:d.After.l.length≤1000):∀ A∈(ZE3 S d).2,A.length≤c+1000:=fun A hA=>by
 have:=ZFh d.After.l h A hA;omega
theorem ZGd:∀ (ds:List Door) {S:List Str×List (List Str)} {c:Nat} (h:∀ A∈S.2,A.length≤c) (hd:∀ d∈ds,d.After.l.length≤1000),∀ A∈(ds.foldl ZE3 S).2,A.length≤c+ds.length * 1000
 | [],S,c,h,_=>fun A hA=>by have:=h A hA;omega
 | d::r,S,c,h,hd=>fun A hA=>by
  have:=ZGd r (ZHZ h d (hd d (ZLx ..))) (fun x hx=>hd x (ZLU _ hx)) A hA
  simp only [ZLm];omega
theorem ZI0:HB [] [] [] []:=⟨rfl,rfl,ZMz,fun j b A h _=>by simp at h,fun n=>rfl⟩
theorem ZI1 (a1 a2 a4 a5:AV) (ds:List Door) (bw ex:Bool) (hk:ds.length≤500) (hL:∀ d∈ds,d.After.l.length≤1000):
 ∃ fr' bs X,Zg rE [1,2,4,5,7,22,23,24] c16L1b [(1,a1),(2,a2),(4,a4),(5,a5),(7,.ptr 1 0 0 1),(22,.isl bw ex 16 (ds.map Door.enc)),(23,I ds.length),(24,I 0)] (bH [] [] [] []) =
  some (.exit 0,fr',bH (ZDX ds).1 (ZDX ds).2 bs X)∧HB (ZDX ds).1 (ZDX ds).2 bs X∧Z2 [1,2,4,5,7] fr'=[(1,a1),(2,a2),(4,a4),(5,a5),(7,.ptr 1 0 0 1)]:=by
 obtain ⟨e,fr',h',Lp,hQ⟩:=Z9Y (E:=rE) (live:=[1,2,4,5,7,22,23,24]) (b:=c16L1b) ds.length
  (fun i fr h=>∃ bs' X',fr=[(1,a1),(2,a2),(4,a4),(5,a5),(7,.ptr 1 0 0 1),(22,.isl bw ex 16 (ds.map Door.enc)),(23,I ds.length),(24,I i)]∧h=bH (ZDX (ds.take i)).1 (ZDX (ds.take i)).2 bs' X'∧HB (ZDX (ds.take i)).1 (ZDX (ds.take i)).2 bs' X')
  (fun e fr h=>e=.exit 0∧∃ bs' X',h=bH (ZDX ds).1 (ZDX ds).2 bs' X'∧HB (ZDX ds).1 (ZDX ds).2 bs' X'∧Z2 [1,2,4,5,7] fr=[(1,a1),(2,a2),(4,a4),(5,a5),(7,.ptr 1 0 0 1)])
  (fun i fr h m=>by obtain ⟨bs',X',rfl,_⟩:=m;rfl)
  (fun i fr h hi m=>by
   obtain ⟨bs1,X1,rfl,rfl,H1⟩:=m;refine .inl ?_;obtain ⟨d,hd⟩:∃ x,ds[i]? = some x:=⟨_,ZLb hi⟩;have hf:ZDX (ds.take (i+1))=ZE3 (ZDX (ds.take i)) d:=Us ZE3 ([],[]) hd;have hlen:=ZGd (ds.take i) (S:=([],[])) (c:=0) (fun A h=>by simp at h) (fun d hd=>hL d (ZMx hd))
   have hle:(ds.take i).length≤ds.length:=by simp;omega
   have hdl:=hL d (ZLe hd);rw [hf];have hlen:∀ A∈(ZDX (ds.take i)).2,A.length≤0+(ds.take i).length * 1000:=hlen;generalize ZDX (ds.take i)=S at H1 hlen ⊢;obtain ⟨K1,V1⟩:=S;obtain ⟨bs2,X2,e2,H2⟩:=ZHY a1 a2 a4 a5 ds bw ex H1 hlen hd (by omega) hdl (by omega)
   exact ⟨_,_,e2,bs2,X2,rfl,rfl,H2⟩)
  (fun fr h m=>by
   obtain ⟨bs1,X1,rfl,rfl,H1⟩:=m;rw [ZLI] at H1 ⊢;have t0:∀ fr,Xq (bH (ZDX ds).1 (ZDX ds).2 bs1 X1).length fr (bH (ZDX ds).1 (ZDX ds).2 bs1 X1)=bH (ZDX ds).1 (ZDX ds).2 bs1 X1:=fun fr=>ZE5 rfl
   refine ⟨.exit 0,_,_,by simp only [go_sem,qy,reduceIte,c16L1b,ZG,t0]<;>rfl,by simp,rfl,bs1,X1,rfl,H1,?_⟩
   simp only [go_sem,qy])
  ds.length 0 _ (bH [] [] [] []) (by omega) ⟨[],[],rfl,rfl,ZI0⟩
 obtain ⟨rfl,bs',X',rfl,h1,h2⟩:=hQ;exact ⟨fr',bs',X',Lp,h1,h2⟩
theorem ZGe {S:List Str×List (List Str)} {bs:List Nat} {X:List AObj} (H:HB S.1 S.2 bs X) (x:Str) (hd:List AObj) (hh:∃ Z,hd=bH S.1 S.2 bs X++Z):
 ∃ v,(∀ tl,W5 (hd++tl) false [2] false (.isl false false 1 []) (.mp 0) (.str x)=some v)∧ZEl hd v (ZE6 S x):=by
 obtain ⟨Z,rfl⟩:=hh;obtain ⟨K,V⟩:=S;unfold ZE6;cases hf:K.findIdx? (Z3 x) with
 | none=>exact ⟨.isl false false 1 [],fun tl=>by show W5 (.map (K.map encS) (ZE1 bs V)::_) _ _ _ _ _ _=_;rw [ZEX,hf],ZHE _ false []⟩
 | some j=>
  obtain ⟨b,A,h1,h2,h3,h4⟩:=H.at (ZGa hf);have h2:V[j]? = some A:=h2;refine ⟨.sl (b+2) A.length 0 A.length false,fun tl=>?_,?_⟩
  ·show W5 (.map (K.map encS) (ZE1 bs V)::_) _ _ _ _ _ _=_
   rw [ZEX,hf];exact ZFf h1 h2
  ·simp only [h2,ZMn];refine ZHF ?_;show (X++Z)[b]? = _
   rw [ZLu h4];exact h3
def ofr (X:List AObj) (t:AV):Fr:=[(4,.isl false false 1 []),(5,I 0),(7,.ptr 1 0 0 1),(12,.ptr (X.length+3) 0 0 1),(50,t)]
def oL (st:LoopState) (X:List AObj) (t:AV):AObj:=.loop st .normal (ofr X t) [51] c16R2a c16R2b
def oH (S:List Str×List (List Str)) (bs:List Nat) (X:List AObj) (rg lp:AObj) (D:List Str):List AObj:=
 bH S.1 S.2 bs X++[.row 1 (D.map encS),.row 1 [.sl (X.length+2) D.length 0 D.length false],rg,lp]
theorem ZI2 (X:List AObj) (t:AV) (d:Door) (h:Hp):Zb rE c16R2a ((51,d.enc)::ofr X t) h=some (.normal,(13,.ptr h.length 0 0 1)::(51,d.enc)::ofr X t,h++[.row 16 [d.enc]]):=by
 simp only [go_sem,qy,qq,qk,c16R2a,ofr,Door.enc,NL.enc,ZEp]
def oF (S:List Str×List (List Str)) (d:Door) (D:List Str):List Str:=bif (ZE6 S d.Id).isEmpty then D++[d.Id] else D
theorem ZI3 (X:List AObj) (t:AV) (d:Door) {h h1 h2:Hp} {n k bb g g2:Nat} {v:AV} (r1:rowAt h 1 1=some (1,[.mp 0])) (r13:rowAt h n 1=some (16,[d.enc]))
 (hv:W5 h false [2] false (.isl false false 1 []) (.mp 0) (.str d.Id)=some v) (hl:lnV h 1 v=some (I k))
 (r12:k=0→rowAt h (X.length+3) 1=some (1,[.sl bb g 0 g false])) (ha:k=0→appW h false 1 16 (.sl bb g 0 g false) (.isl false false 1 [.str d.Id])=some (.sl bb g2 0 g2 false,h1)) (r12':k=0→rowAt h1 (X.length+3) 1=some (1,[.sl bb g 0 g false]))
 (hs:k=0→setH h1 (X.length+3) (.row 1 [.sl bb g2 0 g2 false])=h2) (hlen:h2.length=h.length) (hk:k≠0→h2=h):
 Zb rE c16R2b ((13,.ptr n 0 0 1)::(51,d.enc)::ofr X t) h=some (.normal,[],h2):=by
 have t2:Xq h.length [] h2=h2:=ZE5 hlen;have t0:∀ fr,Xq h.length fr h=h:=fun fr=>ZE5 rfl
 simp only [Door.enc,NL.enc] at r13;cases k with
 | zero=>
  have z0:(((0:Nat):Int)==0)=true:=rfl;simp only [go_sem,qy,qq,qv,reduceIte,c16R2b,ofr,Door.enc,NL.enc,r1,r13,hv,hl,z0,r12 rfl,ha rfl,r12' rfl,hs rfl,t0,t2]
 | succ k=>
  have z0:(((k+1:Nat):Int)==0)=false:=by rw [beq_eq_false_iff_ne];omega
  have he:=hk (by simp)
  subst he;simp only [go_sem,qy,qq,reduceIte,c16R2b,ofr,Door.enc,NL.enc,r1,r13,hv,hl,z0,t0]
theorem ZI4 {S:List Str×List (List Str)} {bs:List Nat} {X:List AObj} (H:HB S.1 S.2 bs X) (t:AV) (d:Door) (rg lp:AObj) (D:List Str) (tl:List AObj) (h1:D.length≤1000):
 Zb rE c16R2b ((13,.ptr (oH S bs X rg lp D++tl).length 0 0 1)::(51,d.enc)::ofr X t) ((oH S bs X rg lp D++tl)++[.row 16 [d.enc]])=some (.normal,[],(oH S bs X rg lp (oF S d D)++tl)++[.row 16 [d.enc]]):=by
 obtain ⟨v,hv,hr⟩:=ZGe H d.Id (oH S bs X rg lp D) ⟨_,rfl⟩;have hh:∀ D:List Str,(oH S bs X rg lp D++tl)++[.row 16 [d.enc]]=bH S.1 S.2 bs X++.row 1 (D.map encS)::(.row 1 [.sl (X.length+2) D.length 0 D.length false]::rg::lp::(tl++[.row 16 [d.enc]])):=fun D=>by
  unfold oH;simp only [ZLf,ZLd,ZLg]
 have hb2:(bH S.1 S.2 bs X).length=X.length+2:=rfl;have hrD:rowAt ((oH S bs X rg lp D++tl)++[.row 16 [d.enc]]) (X.length+2) D.length=some (1,D.map encS):=by
  rw [hh];unfold rowAt;rw [←hb2,ZEG];simp only [ZL8,beq_self_eq_true,cond_true]
 have hr12:∀ o:AObj,rowAt (bH S.1 S.2 bs X++o::(.row 1 [.sl (X.length+2) D.length 0 D.length false]::rg::lp::(tl++[.row 16 [d.enc]]))) (X.length+3) 1=some (1,[.sl (X.length+2) D.length 0 D.length false]):=fun o=>by
  rw [show X.length+3=(bH S.1 S.2 bs X).length+(0+1) from rfl,ZEw]
  rfl
 refine ZI3 X t d (h1:=bH S.1 S.2 bs X++.row 1 (D.map encS++[.str d.Id])::(.row 1 [.sl (X.length+2) D.length 0 D.length false]::rg::lp::(tl++[.row 16 [d.enc]]))) (k:=(ZE6 S d.Id).length) (v:=v) (bb:=X.length+2) (g:=D.length) (g2:=D.length+1) ?_ (ZGc _ _ _) ?_ ?_ ?_ ?_ ?_ ?_ ?_ ?_
 ·rw [hh];rfl
 ·rw [ZLf];exact hv _
 ·rw [ZLf];have:=hr.1;cases tl with
  | nil=>exact this _ _
  | cons o r=>exact this _ _
 ·intro _;rw [hh];exact hr12 _
 ·intro _;rw [XC hrD rfl (by rfl) (by omega) (by omega) (by simp;omega)]
  rw [hh,←hb2,ZEV];rfl
 ·intro _;exact hr12 _
 ·intro h0;have e:oF S d D=D++[d.Id]:=by
   unfold oF;rw [ZMy.1 h0];rfl
  rw [e,hh,show X.length+3=(bH S.1 S.2 bs X).length+(0+1) from rfl,ZFd,ZLp,ZLo]
  rfl
 ·simp [oH]
 ·intro h0;have e:oF S d D=D:=by
   unfold oF;cases hl:ZE6 S d.Id with
   | nil=>rw [hl] at h0;exact absurd rfl h0
   | cons a r=>rfl
  rw [e]
theorem ZI5 {S:List Str×List (List Str)} {bs:List Nat} {X:List AObj} (H:HB S.1 S.2 bs X) (t:AV) (d:Door) (rg:AObj) (D:List Str) (tl:List AObj) (h1:D.length≤1000):
 U4 rE (X.length+5) [d.enc] (oH S bs X rg (oL .ready X t) D++tl)=some (.bool true,(oH S bs X rg (oL .ready X t) (oF S d D)++tl)++[.row 16 [d.enc]]):=by
 have hgl:∀ (lp:AObj) D tl,(oH S bs X rg lp D++tl)[X.length+5]? = some lp:=fun lp D tl=>by
  unfold oH;rw [ZLf,ZLz (by rw [ZE2];omega),ZE2,show X.length+5 - (X.length+2)=3 by omega]
  rfl
 have hsl:∀ (lp o:AObj) D tl,setH (oH S bs X rg lp D++tl) (X.length+5) o=oH S bs X rg o D++tl:=fun lp o D tl=>by
  have hlt:X.length+5 < (oH S bs X rg lp D++tl).length:=by simp [oH,ZE2];omega
  rw [ZEC hlt];unfold oH;rw [ZLf,ZMC _ _ (by rw [ZE2];omega),ZE2,show X.length+5 - (X.length+2)=3 by omega]
  simp [ZLf]
 have b1:∀ (lp:AObj) D o,(oH S bs X rg lp D++tl++[o])[X.length+5]? = some lp:=fun lp D o=>by rw [ZLf];exact hgl _ _ _
 have b2:∀ (lp lp':AObj) D o,setH (oH S bs X rg lp D++tl++[o]) (X.length+5) lp'=oH S bs X rg lp' D++tl++[o]:=fun lp lp' D o=>by rw [ZLf,hsl,←ZLf]
 have b3:Zb rE c16R2b ((13,.ptr (oH S bs X rg (oL .ready X t) D++tl).length 0 0 1)::(51,d.enc)::ofr X t) (setH (oH S bs X rg (oL .ready X t) D++tl++[.row 16 [d.enc]]) (X.length+5) (oL .busy X t))=some (.normal,[],(oH S bs X rg (oL .busy X t) (oF S d D)++tl)++[.row 16 [d.enc]]):=by
  have:=ZI4 H t d rg (oL .busy X t) D tl h1;have hl:(oH S bs X rg (oL .ready X t) D++tl).length=(oH S bs X rg (oL .busy X t) D++tl).length:=by simp only [oH,ZLo,ZLm]
  rw [b2,hl];exact this
 have h:=Ss (E:=rE) (b:=X.length+5) (args:=[d.enc]) (h:=oH S bs X rg (oL .ready X t) D++tl) (fr:=ofr X t) (ps:=[51]) (assign:=c16R2a) (body:=c16R2b)
  (fr0:=(51,d.enc)::ofr X t) (hgl _ _ _) rfl (ZI2 X t d _) (h1:=(oH S bs X rg (oL .ready X t) D++tl)++[.row 16 [d.enc]]) (b1 _ _ _)
  (e:=.normal) (fr2:=[]) (h2:=(oH S bs X rg (oL .busy X t) (oF S d D)++tl)++[.row 16 [d.enc]]) b3 (b1 _ _ _)
 rw [h];exact congrArg (fun z=>some (AV.bool true,z)) (b2 _ _ _ _)
end Go.AM
namespace Go.AM
open Go
theorem ZI6 (d:Door) {h:Hp} {v:AV} (r1:rowAt h 1 1=some (1,[.mp 0])) (hv:W5 h false [2] false (.isl false false 1 []) (.mp 0) (.str d.Id)=some v):fnV rE 42 [d.enc,.ptr 1 0 0 1] h=some (v,h):=by
 rw [Q6 (f:=42) rfl rfl];have t0:∀ fr,Xq h.length fr h=h:=fun fr=>ZE5 rfl
 simp only [go_sem,qy,qq,c42,Door.enc,NL.enc,r1,hv,t0]
def oC:AV:=.clo (.func 42) [] [.ptr 1 0 0 1]
theorem ZI7 {S:List Str×List (List Str)} {bs:List Nat} {X:List AObj} (H:HB S.1 S.2 bs X) (rg lp:AObj) (D:List Str) (d:Door) (tl:List AObj):
 ∃ v,Xy rE false oC [d.enc] (oH S bs X rg lp D++tl)=some (v,oH S bs X rg lp D++tl)∧ZEl (oH S bs X rg lp D) v (ZE6 S d.Id):=by
 obtain ⟨v,hv,hr⟩:=ZGe H d.Id (oH S bs X rg lp D) ⟨_,rfl⟩;refine ⟨v,?_,hr⟩;unfold oC;rw [RL];exact ZI6 d rfl (hv tl)
def rG (s:Sta):AObj:=.row 8 [.agg (grC s++[oC])]
def wkO (X:List AObj) (id:Str):AV:=.clo (.func 71) [] [.iptr false [.str id],.ptr (X.length+4) 0 0 1]
theorem ZI9 (s:Sta) (S:List Str×List (List Str)) (bs:List Nat) (X:List AObj) (lp:AObj) (D:List Str):
 GRd (oH S bs X (rG s) lp D) (.ptr (X.length+4) 0 0 1) s oC (.ptr (X.length+4) 0 0 1) (.ptr (X.length+4) 0 3 1) (.ptr (X.length+4) 0 7 1):=by
 have hr:∀ x tl,rowAt (oH S bs X (rG s) lp D++x::tl) (X.length+4) 1=some (8,[.agg (grC s++[oC])]):=fun x tl=>by
  unfold oH rowAt;rw [ZLf,ZLz (by rw [ZE2];omega),ZE2,show X.length+4 - (X.length+2)=2 by omega]
  rfl
 refine ⟨fun x tl=>?_,fun x tl=>?_,fun x tl=>?_,fun x tl=>?_,fun x tl=>?_,fun x tl=>?_,fun n hn=>?_⟩
 ·rw [AH,hr];rfl
 ·rw [AH,hr];rfl
 ·rw [Az,hr];rfl
 ·rw [Az,hr];rfl
 ·rw [AH,hr];rfl
 ·rw [Az,hr];rfl
 ·have hl:(oH S bs X (rG s) lp D).length=X.length+6:=by simp [oH,ZE2]
  have:([X.length+4]:List Nat).contains n=false:=by
   rw [hl] at hn;simp;omega
  exact ⟨this,this,this⟩
theorem ZIa (s:Sta) (id:Str) {S:List Str×List (List Str)} {bs:List Nat} {X:List AObj} (H:HB S.1 S.2 bs X) {D:List Str} (R:RunsG s (fun d=>ZE6 S d.Id) (oF S) (fun D=>D.length≤1000) [id] [id] [] D):
 ∃ tl,rf rE (wkO X id) [51] c16R2a c16R2b (ofr X (wkO X id)) (bH S.1 S.2 bs X++[.row 1 [],.row 1 [.sl (X.length+2) 0 0 0 false],rG s]) =
  some (.normal,ofr X (wkO X id),bH S.1 S.2 bs X++[.row 1 (D.map encS),.row 1 [.sl (X.length+2) D.length 0 D.length false],rG s]++tl):=by
 have hm:∀ D,(oH S bs X (rG s) (oL .ready X (wkO X id)) D).length=X.length+6:=fun D=>by simp [oH,ZE2]
 obtain ⟨fr,tl,h⟩:=ZI8 (s:=s) (aft:=fun d=>ZE6 S d.Id) (f:=oF S) (ok:=fun D=>D.length≤1000) oC (.ptr (X.length+4) 0 0 1) (.ptr (X.length+4) 0 0 1) (.ptr (X.length+4) 0 3 1) (.ptr (X.length+4) 0 7 1) (X.length+5) (X.length+6) (fun D=>oH S bs X (rG s) (oL .ready X (wkO X id)) D) (fun D=>ZI9 s S bs X _ D) hm
  (fun d D K tl _ hD=>by
   have:=ZI5 H (wkO X id) d (rG s) D (kM K::(tl++[.row 16 [d.enc]])) hD;simpa only [ZLf,ZLd,ZLg] using this)
  (fun d D K tl _=>ZI7 H _ _ D d (kM K::tl)) id R
 refine ⟨.loop .exhausted .normal (ofr X (wkO X id)) [51] c16R2a c16R2b::tl,?_⟩;have e1:(bH S.1 S.2 bs X++[AObj.row 1 [],AObj.row 1 [.sl (X.length+2) 0 0 0 false],rG s]).length=X.length+5:=by simp [ZE2]
 have e2:bH S.1 S.2 bs X++[.row 1 [],.row 1 [.sl (X.length+2) 0 0 0 false],rG s]++[oL .ready X (wkO X id)]=oH S bs X (rG s) (oL .ready X (wkO X id)) []:=by
  unfold oH;rw [ZLf];rfl
 have e3:(oH S bs X (rG s) (oL .ready X (wkO X id)) D++tl)[X.length+5]? = some (oL .ready X (wkO X id)):=by
  unfold oH;rw [ZLf,ZLz (by rw [ZE2];omega),ZE2,show X.length+5 - (X.length+2)=3 by omega]
  rfl
 have e4:∀ o,setH (oH S bs X (rG s) (oL .ready X (wkO X id)) D++tl) (X.length+5) o=oH S bs X (rG s) o D++tl:=fun o=>by
  have hlt:X.length+5 < (oH S bs X (rG s) (oL .ready X (wkO X id)) D++tl).length:=by simp [oH,ZE2];omega
  rw [ZEC hlt];unfold oH;rw [ZLf,ZMC _ _ (by rw [ZE2];omega),ZE2,show X.length+5 - (X.length+2)=3 by omega]
  simp [ZLf]
 have e5:rf rE (wkO X id) [51] c16R2a c16R2b (ofr X (wkO X id)) (bH S.1 S.2 bs X++[.row 1 [],.row 1 [.sl (X.length+2) 0 0 0 false],rG s])=J0 (ofr X (wkO X id)) (X.length+5) (fnd [] (Zb rE c71 (QP 0 ([]++[.yld (X.length+5)]++[.iptr false [.str id],AV.ptr (X.length+4) 0 0 1])) (oH S bs X (rG s) (oL .ready X (wkO X id)) []))):=by
  rw [←e2,←e1];unfold oL
  conv=>lhs;arg 2;unfold wkO
  exact Z1k (E:=rE) (g:=71) (first:=[]) (cap:=[.iptr false [.str id],AV.ptr (X.length+4) 0 0 1]) (c:=c71) (rs:=[]) rfl
 rw [e5,h];show J0 _ _ (some (.tup [],_))=_
 rw [Za3,e3];show some (AExit.normal,ofr X (wkO X id),setH (oH S bs X (rG s) (oL .ready X (wkO X id)) D++tl) (X.length+5) _)=_
 rw [e4];unfold oH;simp only [ZLf,ZLd,ZLg]
end Go.AM
namespace Go.AM
open Go
theorem ZIb (s:Sta) (id:Str) (h:Hp):fnV rE 35 [.agg (grC s++[oC]),.str id] h=some (.clo (.func 71) [] [.iptr false [.str id],.ptr h.length 0 0 1],h++[rG s]):=by
 rw [Q6 (f:=35) rfl rfl];have hi:Va h 8 (.agg (grC s++[oC]))=some (.ptr h.length 0 0 1,h++[rG s]):=rfl;have ht:Xq h.length [(2,AV.ptr h.length 0 0 1),(3,.iptr false [.str id])] (h++[rG s])=h++[rG s]:=by
  have hn:Nat.blt h.length h.length=false:=by rw [ZM2];simp [ZLP]
  have e:Zd h.length ([(2,AV.ptr h.length 0 0 1),(3,AV.iptr false [.str id])].map (fun (p:Nat×AV)=>p.2))=false:=by simp [Zd,bel,hn]
  unfold Xq;rw [e];rfl
 simp only [go_sem,qy,qq,c35,hi,ht]
theorem ZIc {D D2:List AV} (hD:ZE7 37 [ZEa 37] 1 D=some D2) {h:Hp} {b:Nat} (hb:h[b]? = some (.row 1 D)):
 fnV rE 36 [.sl b D.length 0 D.length false,.clo (.func 37) [] []] h=some (.sl b D.length 0 D.length false,setH h b (.row 1 D2)):=by
 rw [V8 (s:=ZEo (ZE7 37)) rfl];unfold ZEo ZE8;simp only [hb,beq_self_eq_true,ZLH,cond_true];have hD':ZE7 37 [.clo (.func 37) [] []] 1 D=some D2:=hD;rw [hD'];rfl
theorem ZId (s:Sta) (id:Str) (D D2:List Str) (hc:pfn rE 33 [stA s,.str id]=some (I 0)) (hk:s.Doors.length≤500) (hL:∀ d∈s.Doors,d.After.l.length≤1000)
 (R:RunsG s (fun d=>ZE6 (ZDX s.Doors) d.Id) (oF (ZDX s.Doors)) (fun D=>D.length≤1000) [id] [id] [] D) (hD:ZE7 37 [ZEa 37] 1 (D.map encS)=some (D2.map encS)) (hDl:D2.length=D.length):
 pfn rE 16 [stA s,.str id]=some (.tup [.isl false false 1 (D2.map encS),I 0]):=by
 obtain ⟨fr1,bs,X0,ho,H0,r1⟩:=ZI1 (.str id) (.iptr false (grC s)) (.isl false false 1 []) (I 0) s.Doors false false hk hL;have ho:Zg rE [1,2,4,5,7,22,23,24] c16L1b _ [.map [] [],.row 1 [.mp 0]]=_:=ho;obtain ⟨X,q1,H,_,_⟩:=ZFg H0 0 [(1,.str id),(2,.iptr false (grC s)),(4,.isl false false 1 []),(5,I 0),(7,.ptr 1 0 0 1)];obtain ⟨tl,hr⟩:=ZIa s id H R;have hw:=ZIb s id;have h00:((0:Int) != 0)=false:=rfl;simp only [stA] at hc;simp only [grC] at ho r1 q1;have hb:∀ h,GL h 1 .nilmap=some (.ptr h.length 0 0 1,h++[.row 1 [.nilmap]]):=fun h=>rfl
 have hst:stE 0 1 (.mp 0) .nilmap=some (.mp 0):=rfl;rw [Z5 (f:=16) rfl rfl];have n1:X.length+2+1=X.length+3:=rfl;have n2:X.length+3+1=X.length+4:=rfl;have hap:∀ o p:AObj,bH (ZDX s.Doors).1 (ZDX s.Doors).2 bs X++[o]++[p]=bH (ZDX s.Doors).1 (ZDX s.Doors).2 bs X++[o,p]:=fun o p=>by simp
 have hap3:∀ o p q:AObj,bH (ZDX s.Doors).1 (ZDX s.Doors).2 bs X++[o,p]++[q]=bH (ZDX s.Doors).1 (ZDX s.Doors).2 bs X++[o,p,q]:=fun o p q=>by simp
 have hl2:∀ o p:AObj,(bH (ZDX s.Doors).1 (ZDX s.Doors).2 bs X++[o,p]).length=X.length+4:=fun o p=>by simp [ZE2]
 have hl3:∀ o p q:AObj,(bH (ZDX s.Doors).1 (ZDX s.Doors).2 bs X++[o,p,q]).length=X.length+5:=fun o p q=>by simp [ZE2]
 have ht50:∀ a b c d i h,Xq (X.length+4) [(4,a),(5,b),(7,c),(12,d),(50,AV.clo (.func 71) [] [i,.ptr (X.length+4) 0 0 1])] h=h:=fun a b c d i h=>by
  have hn:Nat.blt (X.length+4) (X.length+4)=false:=by rw [ZM2];simp [ZLP]
  have e:Zd (X.length+4) ([(4,a),(5,b),(7,c),(12,d),(50,AV.clo (.func 71) [] [i,.ptr (X.length+4) 0 0 1])].map (fun (p:Nat×AV)=>p.2))=false:=by simp [Zd,bel,hn]
  unfold Xq;rw [e];rfl
 obtain ⟨tl2,hq⟩:=ZGf (bH (ZDX s.Doors).1 (ZDX s.Doors).2 bs X++[.row 1 (D.map encS),.row 1 [.sl (X.length+2) D.length 0 D.length false],rG s]) tl (X.length+5) [(12,.ptr (X.length+3) 0 0 1)] (by simp [ZE2])
 have hbl:(bH (ZDX s.Doors).1 (ZDX s.Doors).2 bs X).length=X.length+2:=rfl;have hg2:∀ (o:AObj) Z,(bH (ZDX s.Doors).1 (ZDX s.Doors).2 bs X++o::Z)[X.length+2]? = some o:=fun o Z=>by rw [←hbl,ZEG]
 have hh:∀ o p q:AObj,bH (ZDX s.Doors).1 (ZDX s.Doors).2 bs X++[o,p,q]++tl2=bH (ZDX s.Doors).1 (ZDX s.Doors).2 bs X++o::p::q::tl2:=fun o p q=>by simp
 have hr12:∀ o q:AObj,rowAt (bH (ZDX s.Doors).1 (ZDX s.Doors).2 bs X++[o,.row 1 [.sl (X.length+2) D.length 0 D.length false],q]++tl2) (X.length+3) 1=some (1,[.sl (X.length+2) D.length 0 D.length false]):=fun o q=>by
  rw [hh,show X.length+3=(bH (ZDX s.Doors).1 (ZDX s.Doors).2 bs X).length+(0+1) from rfl,ZEw]
  rfl
 have h36:=ZIc hD (h:=bH (ZDX s.Doors).1 (ZDX s.Doors).2 bs X++[.row 1 (D.map encS),.row 1 [.sl (X.length+2) D.length 0 D.length false],rG s]++tl2) (b:=X.length+2) (by rw [hh,hg2])
 have hset:∀ o,setH (bH (ZDX s.Doors).1 (ZDX s.Doors).2 bs X++[.row 1 (D.map encS),.row 1 [.sl (X.length+2) D.length 0 D.length false],rG s]++tl2) (X.length+2) o=bH (ZDX s.Doors).1 (ZDX s.Doors).2 bs X++[o,.row 1 [.sl (X.length+2) D.length 0 D.length false],rG s]++tl2:=fun o=>by
  rw [hh,hh,←hbl,ZEV]
 rw [ZL8,hset] at h36;have t3:∀ fr o,Xq (X.length+5+tl2.length) fr (bH (ZDX s.Doors).1 (ZDX s.Doors).2 bs X++[o,.row 1 [.sl (X.length+2) D.length 0 D.length false],rG s]++tl2)=bH (ZDX s.Doors).1 (ZDX s.Doors).2 bs X++[o,.row 1 [.sl (X.length+2) D.length 0 D.length false],rG s]++tl2:=fun fr o=>ZE5 (by simp [ZE2];omega)
 have hrw:rowAt (bH (ZDX s.Doors).1 (ZDX s.Doors).2 bs X++[.row 1 (D2.map encS),.row 1 [.sl (X.length+2) D.length 0 D.length false],rG s]++tl2) (X.length+2) D.length=some (1,D2.map encS):=by
  unfold rowAt;rw [hh,hg2];simp only [ZL8,hDl,beq_self_eq_true,cond_true]
 have t1:(D2.map encS).take D.length=D2.map encS:=ZLw (by rw [ZL8,hDl];exact ZL7 _)
 have f1:∀ h n,ZC false h (n+1) (D2.map encS)=some (D2.map encS):=fun h n=>by simp only [ZC,ZET,cond_true]
 have f1:=fun h=>f1 h 36
 simp only [Nat.reduceAdd] at f1;have hg3:∀ o q:AObj,(bH (ZDX s.Doors).1 (ZDX s.Doors).2 bs X++[o,.row 1 [.sl (X.length+2) D.length 0 D.length false],q]++tl2)[X.length+2]? = some o:=fun o q=>by rw [hh,hg2]
 simp only [grC,oC,ZLd,ZLg] at hw;simp only [wkO,ofr] at hr;simp only [go_sem,qy,qq,qv,qk,reduceIte,c16,c16L1,stA,hc,h00,hb,hst,ho,r1,q1,put,ZE2,n1,hap,hw,hap3,hl2,Sr,hr,hl3,ht50,hq,hr12,h36,t3,hrw,t1,f1]
end Go.AM
namespace Go.AM
open Go
theorem ZFi (s:Sta) (hs:StE s) (id:Str) (h:ZEb s id≠0):pfn rE 12 [stA s,.str id]=some (.tup [ftA false false [] [],I (ZEb s id)]):=by
 have hc:=Zpq s hs id;simp only [stA] at hc;have h0:(ZEb s id != 0)=true:=by rw [bne_iff_ne];exact h
 rw [Z5 (f:=12) rfl rfl];generalize ZEb s id=e at hc h0 ⊢;simp only [go_sem,qy,qq,qv,qk,reduceIte,c12,stA,hc,h0,ftA,List.map]
theorem ZJc {a b c:Str} (h1:ltS a b) (h2:ltS b c):ltS a c:=List.lt_trans h1 h2
theorem ZIV (a:Str):¬ ltS a a:=List.lt_irrefl _
theorem ZIS {α:Type} {f:α→Str}:∀ {a b:List α},a.Pairwise (fun x y=>ltS (f x) (f y))→b.Pairwise (fun x y=>ltS (f x) (f y))→(∀ x,x∈a↔x∈b)→a=b
 | [],[],_,_,_=>rfl
 | [],y::s,_,_,h=>by have:=(h y).2 ZLx;cases this
 | x::r,[],_,_,h=>by have:=(h x).1 ZLx;cases this
 | x::r,y::s,ha,hb,h=>by
  rw [ZMe] at ha hb;have hxy:x=y:=by
   rcases ZLy.1 ((h x).1 ZLx) with e | hx
   ·exact e
   ·rcases ZLy.1 ((h y).2 ZLx) with e | hy
    ·exact e.symm
    ·exact absurd (ZJc (hb.1 x hx) (ha.1 y hy)) (ZIV _)
  subst hxy;rw [ZIS ha.2 hb.2 (fun z=>?_)]
  have hz:=h z;simp only [ZLy] at hz;constructor
  ·intro hr;rcases hz.1 (.inr hr) with e | hs
   ·subst e;exact absurd (ha.1 z hr) (ZIV _)
   ·exact hs
  ·intro hr;rcases hz.2 (.inr hr) with e | hs
   ·subst e;exact absurd (hb.1 z hr) (ZIV _)
   ·exact hs
theorem Zn6 {l:List Str} {v:Str}:hasB l v=true↔v∈l:=by
 unfold hasB;rw [ZLr,←ZMF,Zda];constructor
 ·intro h;refine Classical.byContradiction fun hn=>h fun j x hx=>?_
  cases c:Z3 x v with
  | false=>rfl
  | true=>exact absurd ((Ky _ _).1 c▸ZLe hx) hn
 ·intro h hA;obtain ⟨j,hj⟩:=ZLX h;have:=hA j v hj;rw [(Ky v v).2 rfl] at this;cases this
theorem ZGg {a b:End}:ZEq a b=true↔a=b:=by
 unfold ZEq;rw [ZL6,ZL6,Ky,beq_iff_eq,beq_iff_eq];constructor
 ·rintro ⟨h1,h2,h3⟩;cases a;cases b;simp_all
 ·rintro rfl;exact ⟨rfl,rfl,rfl⟩
theorem ZJ2 {l:List End} {v:End}:ZIL l v=true↔v∈l:=by
 unfold ZIL;rw [ZLr,←ZMF,Zda];constructor
 ·intro h;refine Classical.byContradiction fun hn=>h fun j x hx=>?_
  cases c:ZEq x v with
  | false=>rfl
  | true=>exact absurd (ZGg.1 c▸ZLe hx) hn
 ·intro h hA;obtain ⟨j,hj⟩:=ZLX h;have:=hA j v hj;rw [ZGg.2 rfl] at this;cases this
theorem within_iff {D D2:List Str} {E E2:List End}:ZIQ D D2 E E2=true↔(∀ x∈D,x∈D2)∧(∀ e∈E,e∈E2):=by
 unfold ZIQ;rw [ZL6,Zda,Zda];constructor
 ·rintro ⟨h1,h2⟩;exact ⟨fun x hx=>by obtain ⟨j,hj⟩:=ZLX hx;exact Zn6.1 (h1 j x hj),fun e he=>by obtain ⟨j,hj⟩:=ZLX he;exact ZJ2.1 (h2 j e hj)⟩
 ·rintro ⟨h1,h2⟩;exact ⟨fun j x hx=>Zn6.2 (h1 x (ZLe hx)),fun j e he=>ZJ2.2 (h2 e (ZLe he))⟩
theorem ZaX (l:List Str):HK l l=true:=by
 unfold HK;rw [beq_self_eq_true,ZLB,Zda];intro j x hx;rw [ZLl,hx];exact (Ky _ _).2 rfl
theorem ZIe (D:List Str) (E:List End):HL D D E E=true:=by
 unfold HL;rw [beq_self_eq_true,ZaX,ZLB,ZLB,Zda];intro j x hx;rw [ZLl,hx];exact ZGg.2 rfl
end Go.AM
namespace Go.AM
open Go
instance iEnEq:DecidableEq End:=fun a b=>decidable_of_iff (ZEq a b=true) ZGg
def ZEh (s:Sta) (aft:Door→List Str):Nat→List Str→List Str→List Door→Option (List Door)
 | 0,_,_,_=>none
 | _+1,_,[],Q=>some Q
 | n+1,K,id::r,Q=>
  match (bif decide (Zn s id < 0) then none else s.Doors[(Zn s id).toNat]?) with
  | none=>none
  | some d=>bif decide (Q.length≤1000)&&decide ((id::r).length+(aft d).length≤1000) then ZEh s aft n ((aft d).foldl wkS (K,id::r)).1 ((aft d).foldl wkS (K,id::r)).2.tail (Q++[d]) else none
theorem ZGh {s:Sta} (hs:StE s) {id:Str} {d:Door} (h:(bif decide (Zn s id < 0) then none else s.Doors[(Zn s id).toNat]?)=some d):∃ k:Nat,s.Doors[k]? = some d∧pfn rE 15 [stA s,.str id]=some (I k):=by
 cases c:decide (Zn s id < 0) with
 | true=>rw [c] at h;cases h
 | false=>
  rw [c] at h;have h0:0≤Zn s id:=by have:=of_decide_eq_false c;omega
  refine ⟨(Zn s id).toNat,h,?_⟩;rw [find_ok s hs.sizes id,Int.toNat_of_nonneg h0]
theorem ZGi {s:Sta} (hs:StE s):∀ (n:Nat) (K L:List Str) (Q Q':List Door),ZEh s (fun d=>d.After.l) n K L Q=some Q'→Runs s K L (ZEc Q) (ZEd Q) (ZEc Q') (ZEd Q')
 | 0,_,_,_,_,h=>by cases h
 | _+1,K,[],Q,Q',h=>by
  rw [ZEh] at h;cases h;exact Runs.stop _ _ _
 | n+1,K,id::r,Q,Q',h=>by
  rw [ZEh] at h;cases hd:(bif decide (Zn s id < 0) then none else s.Doors[(Zn s id).toNat]?) with
  | none=>rw [hd] at h;cases h
  | some d=>
   rw [hd] at h;dsimp only at h;cases c:decide (Q.length≤1000)&&decide ((id::r).length+d.After.l.length≤1000) with
   | false=>rw [c] at h;cases h
   | true=>
    rw [c,cond_true] at h;simp only [ZL6,decide_eq_true_eq] at c;obtain ⟨k,hk,hf⟩:=ZGh hs hd;have ih:=ZGi hs n _ _ _ _ h;refine Runs.step _ id r _ _ _ _ k d hk hf ?_ ?_ c.2 ?_
    ·unfold ZEc;rw [ZL8];have:=ZMu (fun d:Door=>decide (d.Ended < 0)) Q;omega
    ·unfold ZEd;rw [ZL8];have:=ZMu (fun d:Door=>!decide (d.Ended < 0)&&d.After.l.isEmpty) Q;omega
    ·rw [ZFY,ZFZ];exact ih
def ZEr (S:List Str×List (List Str)) (Q:List Door):List Str:=(Q.filter fun d=>(ZE6 S d.Id).isEmpty).map (·.Id)
theorem ZIf (S:List Str×List (List Str)) (d:Door) (Q:List Door):oF S d (ZEr S Q)=ZEr S (Q++[d]):=by
 unfold oF ZEr;rw [ZNq,ZLp];cases c:(ZE6 S d.Id).isEmpty<;>simp [List.filter,c]
theorem ZGj {s:Sta} (hs:StE s) (S:List Str×List (List Str)):∀ (n:Nat) (K L:List Str) (Q Q':List Door),ZEh s (fun d=>ZE6 S d.Id) n K L Q=some Q'→RunsG s (fun d=>ZE6 S d.Id) (oF S) (fun D=>D.length≤1000) K L (ZEr S Q) (ZEr S Q')
 | 0,_,_,_,_,h=>by cases h
 | _+1,K,[],Q,Q',h=>by
  rw [ZEh] at h;cases h;exact RunsG.stop _ _
 | n+1,K,id::r,Q,Q',h=>by
  rw [ZEh] at h;cases hd:(bif decide (Zn s id < 0) then none else s.Doors[(Zn s id).toNat]?) with
  | none=>rw [hd] at h;cases h
  | some d=>
   rw [hd] at h;dsimp only at h;cases c:decide (Q.length≤1000)&&decide ((id::r).length+(ZE6 S d.Id).length≤1000) with
   | false=>rw [c] at h;cases h
   | true=>
    rw [c,cond_true] at h;simp only [ZL6,decide_eq_true_eq] at c;obtain ⟨k,hk,hf⟩:=ZGh hs hd;have ih:=ZGj hs S n _ _ _ _ h;refine RunsG.step _ id r _ _ k d hk hf ?_ (ZM3 c.2 (by decide)) ?_
    ·unfold ZEr;rw [ZL8];have:=ZMu (fun d:Door=>(ZE6 S d.Id).isEmpty) Q;omega
    ·rw [ZIf];exact ih
def dOf (Q:List Door):List Str:=(Q.filter fun d=>decide (d.Ended < 0)).map (·.Id)
def eOf (Q:List Door):List End:=(Q.filter fun d=>!decide (d.Ended < 0)&&d.After.l.isEmpty).map ZEk
def ZEK (s:Sta) (id:Str) (D:List Str) (E:List End):Bool:=ZEb s id==0&&
 match ZEh s (fun d=>d.After.l) 100 [id] [id] [] with
 | some Q=>(decide (ZEi (dOf Q)=D)&&decide (ZEj (eOf Q)=E))&&(decide ((eOf Q).map (·.Id)).Nodup&&(decide ((dOf Q).length≤1000)&&decide ((eOf Q).length≤1000)))
 | none=>false
theorem ZFj {s:Sta} (hs:StE s) {id:Str} {D:List Str} {E:List End} (h:ZEK s id D E=true):pfn rE 12 [stA s,.str id]=some (.tup [ftA false false D E,I 0]):=by
 unfold ZEK at h;rw [ZL6,beq_iff_eq] at h;obtain ⟨h0,h⟩:=h;cases hq:ZEh s (fun d=>d.After.l) 100 [id] [id] [] with
 | none=>rw [hq] at h;cases h
 | some Q=>
  rw [hq] at h;simp only [ZL6,decide_eq_true_eq] at h;obtain ⟨⟨rfl,rfl⟩,h3,h4,h5⟩:=h;have hr:=ZGi hs _ _ _ _ _ hq;have eD:ZEc Q=(dOf Q).map encS:=by unfold ZEc dOf;rw [ZLW];rfl
  have eE:ZEd Q=(eOf Q).map End.enc:=by unfold ZEd eOf;rw [ZLW];rfl
  rw [eD,eE] at hr;have pD:=ZES (dOf Q);have pE:=ZF9 (eOf Q);have hc:=Zpq s hs id;rw [h0] at hc;exact ZFW s id _ _ _ _ hc hr (ZFb _ h4) (ZG5 _ h5 h3) (by simp [pD.length_eq]) (by simp [pE.length_eq]) (ZET _) (ZEU _)
def ZEY (s:Sta) (id:Str) (D:List Str):Bool:=ZEb s id==0&&(s.Doors.all (fun d=>decide (d.After.l.length≤1000))&&
 match ZEh s (fun d=>ZE6 (ZDX s.Doors) d.Id) 100 [id] [id] [] with
 | some Q=>decide (ZEi (ZEr (ZDX s.Doors) Q)=D)&&decide ((ZEr (ZDX s.Doors) Q).length≤1000)
 | none=>false)
theorem ZGk {s:Sta} (hs:StE s) (hN:s.Doors.length≤500) {id:Str} {D:List Str} (h:ZEY s id D=true):pfn rE 16 [stA s,.str id]=some (.tup [.isl false false 1 (D.map encS),I 0]):=by
 unfold ZEY at h;rw [ZL6,ZL6,beq_iff_eq] at h;obtain ⟨h0,ha,h⟩:=h;cases hq:ZEh s (fun d=>ZE6 (ZDX s.Doors) d.Id) 100 [id] [id] [] with
 | none=>rw [hq] at h;cases h
 | some Q=>
  rw [hq] at h;simp only [ZL6,decide_eq_true_eq] at h;obtain ⟨rfl,h4⟩:=h;have hr:=ZGj hs _ _ _ _ _ _ hq;have hc:=Zpq s hs id;rw [h0] at hc;exact ZId s id _ _ hc hN (fun d hd=>by have:=ZLc.1 ha d hd;simpa using this) hr (ZFb _ h4) (ZES _).length_eq
def ZGl (s:Sta):Bool:=YQ s&&(ZEK s (B [101,49]) [B [101,52]] [⟨B [101,50],12,10⟩]&&(ZEK s (B [101,53]) [B [101,52]] []&&(ZEK s (B [101,50]) [] [⟨B [101,50],12,10⟩]&&(ZEb s (B [101,57])==10&&
 (ZEY s (B [101,52]) [B [101,49],B [101,53]]&&ZEY s (B [101,53]) [B [101,53]])))))
theorem ZIg:ZGl (lsS 7)=true:=by decide +kernel
end Go.AM
namespace Go.AM
open Go
theorem ZIh:pfn rE 9 []=some (.bool true):=by
 have h:=ZIg;have hs23:=ZHz;generalize lsS 7=S at h hs23;unfold ZGl at h;simp only [ZL6,beq_iff_eq] at h;obtain ⟨h0,h1,h2,h3,h4,h5,h6⟩:=h;have hF:=Kl S h0;have f1:=ZFj hF.e h1;have f2:=ZFj hF.e h2;have f3:=ZFj hF.e h3;have f4:=ZFi S hF.e (B [101,57]) (by rw [h4];decide)
 rw [h4] at f4;have o1:=ZGk hF.e hF.doors h5;have o2:=ZGk hF.e hF.doors h6;have s1:=ZF5 false false false false [B [101,52]] [B [101,52]] [⟨B [101,50],12,10⟩] [⟨B [101,50],12,10⟩] (by decide) (by decide)
 have s2:=ZF5 false false false false [B [101,52]] [B [101,52]] [] [] (by decide) (by decide)
 have s3:=ZF5 false false false false [] [] [⟨B [101,50],12,10⟩] [⟨B [101,50],12,10⟩] (by decide) (by decide)
 have t1:=Z4L false false [B [101,49],B [101,53]] [B [101,49],B [101,53]] (by decide)
 have t2:=Z4L false false [B [101,53]] [B [101,53]] (by decide)
 rw [ZIe] at s1 s2 s3;rw [ZaX] at t1 t2;have z0:((0:Int)==0)=true:=rfl;have z10:((10:Int)==10)=true:=rfl;simp only [ftA,End.enc,encS,ZLh,ZLG,stA] at f1 f2 f3 f4 o1 o2 s1 s2 s3 t1 t2 hs23;rw [Z5 (f:=9) rfl rfl];simp only [go_sem,qy,qq,qv,qk,reduceIte,c9,hs23,f1,f2,f3,f4,o1,o2,s1,s2,s3,t1,t2,z0,z10]
end Go.AM
namespace Go.AM
open Go
theorem ZGm {s:Sta} (hp:Prop' s) {d:Door} (hd:d∈s.Doors):-1≤d.Ended:=by
 obtain ⟨i,hi⟩:=ZLX hd;have h:=((Zd0 s i d).1 (hp.dr i d hi)).1;unfold QM ZD at h;simp only [ZL6,decide_eq_true_iff] at h;omega
theorem ZJg {s:Sta} (hp:Prop' s) {d:Door} (hd:d∈s.Doors) (he:d.Ended < 0):d.After.l=[]:=by
 obtain ⟨i,hi⟩:=ZLX hd;have h:=((Zd0 s i d).1 (hp.dr i d hi)).2.2.1;have h0:=ZGm hp hd;have h1:d.Ended=-1:=by omega
 unfold UC exD Yf at h;rw [h1] at h;cases c:d.After.l with
 | nil=>rfl
 | cons a r=>
  exfalso;rw [c] at h;simp at h
end Go.AM
namespace Go.AM
open Go
end Go.AM
namespace Go.AM
open Go
end Go.AM
namespace Go.AM
open Go
theorem ZK6 {w:Wk} (h:w.e.Kind=9):stepW w=Kb w:=by unfold stepW;rw [h];rfl
theorem ZK7 {w:Wk} (h:w.e.Kind=10):stepW w=Kd w:=by unfold stepW;rw [h];rfl
theorem ZK8 {e:Event} (h:Q9 e=true) (hk:e.Kind=9):e.Lst.l≠[]∧e.Lst.l.length≤8:=by
 unfold Q9 Q8 ZD at h;simp only [hk,ZL6] at h;obtain ⟨_,_,_,_,h⟩:=h;have h':=h;simp at h';constructor
 ·intro e0;rw [e0] at h';simp at h'
 ·omega
end Go.AM
namespace Go.AM
open Go
end Go.AM
namespace Go.AM
open Go
end Go.AM
namespace Go.AM
open Go
theorem ZJ4 (s:Sta):pfn rE 10 [stA s,.str emp]=some (.bool (YQ s)):=by
 rw [ZHm];have:decide (((emp:Str).size:Int)≤100)=true:=by decide
 rw [this,ZLJ]
end Go.AM
namespace Go.AM
open Go
theorem ZK9 {e:Event} (h:Xn e=true):∀ x∈e.Lst.l,x.Id.size≤1000:=by
 simp only [Xn,ZL6] at h;obtain ⟨h1,_,_,_,_,_,h6⟩:=h;have k6:=of_decide_eq_true h6;unfold FT at h1;rw [ZLw (by omega)] at h1
 intro x hx;have:=ZLc.1 h1 x hx;unfold M2 at this;simp [ZU] at this;omega
theorem ZJh {s:Sta} (h:YQ s=true):s.Doors.length≤16:=by
 simp only [YQ,M3,ZL6,ZLr] at h;obtain ⟨⟨_,_,_,d3,_⟩,_⟩:=h;have:=of_decide_eq_false d3;omega
end Go.AM
namespace Go.AM
open Go
end Go.AM
namespace Go.AM
open Go
structure Dst (R:Door→Door→Prop) (s t:Sta) (N:List Door):Prop where
 fw:∀ x∈s.Doors,∃ y∈t.Doors,R x y
 bw:∀ y∈t.Doors,(∃ x∈s.Doors,R x y)∨y∈N
 nw:∀ y∈N,y∈t.Doors
 dj:∀ x∈s.Doors,∀ y∈N,y.Id≠x.Id
 ln:t.Doors.length=s.Doors.length+N.length
 nd:(N.map (·.Id)).Nodup
theorem ZJX {α:Type} {l m:List α} {G:Nat→α→α} (h:∀ i,m[i]? = (l[i]?).map (G i)):m.length=l.length:=by
 have h1:=h m.length;have h2:=h l.length;rw [ZLM (ZL7 _)] at h1 h2;have h3:l[m.length]? = none:=by
  cases c:l[m.length]? with
  | none=>rfl
  | some x=>rw [c] at h1;cases h1
 rw [ZNn] at h3;have h4:m[l.length]? = none:=h2;rw [ZNn] at h4;omega
theorem ZJY {R:Door→Door→Prop} {s t:Sta} {N:List Door} (ht:(t.Doors.map (·.Id)).Nodup) (hid:∀ x y,R x y→y.Id=x.Id) (G:Nat→Door→Door) (h:∀ i,t.Doors[i]? = ((s.Doors++N)[i]?).map (G i))
 (hR:∀ i x,s.Doors[i]? = some x→R x (G i x)) (hN:∀ j x,N[j]? = some x→G (s.Doors.length+j) x=x):Dst R s t N:=by
 have hnew:∀ j y,N[j]? = some y→t.Doors[s.Doors.length+j]? = some y:=fun j y hj=>by
  have:=h (s.Doors.length+j);rw [ZLz (by omega),Nat.add_sub_cancel_left,hj] at this
  simp only [ZLE] at this;rw [hN j y hj] at this;exact this
 have hold:∀ i x,s.Doors[i]? = some x→t.Doors[i]? = some (G i x):=fun i x hi=>by
  have:=h i;rw [ZLu (ZL9.1 hi).1,hi] at this;exact this
 refine ⟨fun x hx=>?_,fun y hy=>?_,fun y hy=>?_,fun x hx y hy he=>?_,by rw [ZJX h,ZLo],?_⟩
 ·obtain ⟨i,hi⟩:=ZLX hx;exact ⟨_,ZLe (hold i x hi),hR i x hi⟩
 ·obtain ⟨i,hi⟩:=ZLX hy;have:=h i;rw [hi] at this;by_cases hl:i < s.Doors.length
  ·rw [ZLu hl,ZLb hl] at this;simp only [ZLE,Option.some.injEq] at this;exact .inl ⟨_,ZMG hl,this▸hR i _ (ZLb hl)⟩
  ·rw [ZLz (by omega)] at this
   cases hz:N[i - s.Doors.length]? with
   | none=>rw [hz] at this;cases this
   | some z=>
    rw [hz] at this;simp only [ZLE,Option.some.injEq] at this;have hG:=hN _ z hz;rw [show s.Doors.length+(i - s.Doors.length)=i by omega] at hG
    rw [hG] at this;exact .inr (this▸ZLe hz)
 ·obtain ⟨j,hj⟩:=ZLX hy;exact ZLe (hnew j y hj)
 ·obtain ⟨j,hj⟩:=ZLX hy;obtain ⟨i,hi⟩:=ZLX hx;have h1:=Zi1 (f:=fun x:Door=>x.Id) ht (hnew j y hj)
  have h2:=Zi1 (f:=fun x:Door=>x.Id) ht (hold i x hi)
  have h3:=hid _ _ (hR i x hi);simp only [he,h3] at h1 h2;rw [h1] at h2;have:=(ZL9.1 hi).1;omega
 ·have e:t.Doors.drop s.Doors.length=N:=ZMp fun j=>by
   rw [ZMw];cases hj:N[j]? with
   | some x=>exact hnew j x hj
   | none=>
    have:=ZJX h;rw [ZLo] at this;rw [ZNn] at hj ⊢;omega
  rw [←e];exact ht.sublist ((List.drop_sublist _ _).map _)
theorem ZKa {α:Type} (l:List α) (k:Nat) (f:α→α) (i:Nat):(ZK l k f)[i]? = (l[i]?).map fun d=>bif k==i then f d else d:=by
 unfold ZK;cases hk:l[k]? with
 | none=>
  dsimp only;cases c:k==i with
  | false=>simp
  | true=>
   have:k=i:=by simpa using c
   subst this;rw [hk];rfl
 | some x=>
  dsimp only;rw [ZNr];by_cases c:k=i
  ·subst c;obtain ⟨this,hx⟩:=ZL9.1 hk;simp [this,hx]
  ·have c':(k==i)=false:=by simpa using c
   simp [c,c']
theorem ZJZ (w:Wk) (k:Nat) (a:NL Str) (i:Nat):(Qf w k a).s.Doors[i]? = (w.s.Doors[i]?).map fun d=>bif k==i then UF w.e a d else d:=by
 have h:=ZKa w.s.Doors k (UF w.e a) i;unfold Qf;cases hk:w.s.Doors[k]? with
 | some x=>exact h
 | none=>
  dsimp only;rw [←h];unfold ZK;rw [hk]
theorem ZK0 (a:NL Str) (i:Nat):∀ (l:List Int) (w:Wk),(Yg w l a).s.Doors[i]? = (w.s.Doors[i]?).map fun d=>bif l.any (fun k=>k.toNat==i) then UF w.e a d else d
 | [],w=>by simp [Yg]
 | k::l,w=>by
  rw [UJ,ZK0 a i l,ZJZ,Option.map_map,FA];congr 1
  funext d
  show (bif l.any (fun k=>k.toNat==i) then UF w.e a (bif k.toNat==i then UF w.e a d else d) else (bif k.toNat==i then UF w.e a d else d))=_
  rw [List.any_cons];cases k.toNat==i<;>cases l.any (fun k=>k.toNat==i)<;>rfl
def REv (e:Event) (old:List Str) (now:List Str) (x y:Door):Prop:=(x.Id ∉ old→y=x)∧(x.Id∈old→x.Ended=-1∧y.Id=x.Id∧y.Ended=e.Day∧y.After.l=now)
theorem ZJR {e:Event} {old now:List Str} (x y:Door) (h:REv e old now x y):y.Id=x.Id:=by
 by_cases hc:x.Id∈old
 ·exact (h.2 hc).2.1
 ·rw [h.1 hc]
theorem ZJU {s:Sta} (hn:(s.Doors.map (·.Id)).Nodup) {id:Str} {i:Nat} {x:Door} (hi:s.Doors[i]? = some x) (hf:decide (Zn s id < 0)=false):((Zn s id).toNat==i)=true↔x.Id=id:=by
 rw [ZEz] at hf ⊢;obtain ⟨j,d,h3,h4,h5⟩:=ZcU hf;have hj:look (fun d:Door=>d.Id) s.Doors id=(j:Int):=h3
 rw [hj];constructor
 ·intro h;have:j=i:=by simpa using h
  subst this;rw [h4] at hi;exact Option.some.inj hi▸h5
 ·intro h;have h1:=Zi1 (f:=fun x:Door=>x.Id) hn hi
  rw [h] at h1;rw [h1] at hj;simp;omega
theorem ZKb {s:Sta} {a:Int} {e:Event} (hn:(s.Doors.map (·.Id)).Nodup) (hk:e.Kind=9) (h:Qk s a e=0):
 ∃ N,Dst (REv e [e.Id] (e.Lst.l.map (·.Id))) s (ZP s a e) N∧N.map (·.Id)=e.Lst.l.map (·.Id)∧(∀ d∈N,d.Ended=-1∧d.After.l=[])∧(∀ o∈[e.Id],∃ d∈s.Doors,d.Id=o):=by
 have htn:=ZEF ((Zdb _).1 (ZeC h)).1;obtain ⟨h1,h2,h3,h4⟩:=ZbV h;unfold Q1 at h2;rw [show (wk0 s a e).e.Kind=9 from hk] at h2
 have h0:Ka (wk0 s a e)=0:=h2;unfold Ka at h0;rw [show (wk0 s a e).s=s from rfl,show (wk0 s a e).e=e from rfl] at h0
 cases c1:WO (wk0 s a e) e.Lst.l with
 | false=>rw [c1] at h0;cases h0
 | true=>
 cases c2:decide (Zn s e.Id < 0) with
 | true=>rw [c1,c2] at h0;cases h0
 | false=>
 cases c3:QN s (Zn s e.Id) != -1 with
 | true=>rw [c1,c2,c3] at h0;cases h0
 | false=>
 obtain ⟨k,d,hj,hd,hid⟩:=ZcU (f:=fun d:Door=>d.Id) c2
 have hj':Zn s e.Id=(k:Int):=hj;have hl:d.Ended=-1:=by
  rw [hj'] at c3;have:QN s (k:Int)=d.Ended:=by simp [QN,hd]
  rw [this] at c3;simpa using c3
 have hlk:=(ZL9.1 hd).1;rw [h4,ZK6 (w:=wk0 s a e) hk] at htn ⊢;unfold Kb at htn ⊢;rw [show (wk0 s a e).s=s from rfl,show (wk0 s a e).e=e from rfl,hj',ZMM,hd] at htn ⊢
 dsimp only at htn ⊢;generalize hw:Y5 (wk0 s a e) d e.Lst.l=w at htn ⊢;have hwD:∃ N,w.s.Doors=s.Doors++N∧N.map (·.Id)=e.Lst.l.map (·.Id)∧(∀ d∈N,d.Ended=-1∧d.After.l=[]):=by
  subst hw;refine ⟨_,rfl,?_,fun x hx=>?_⟩
  ·rw [ZLW];rfl
  ·obtain ⟨y,_,rfl⟩:=ZLq.1 hx;exact ⟨rfl,rfl⟩
 have hwe:w.e=e:=by subst hw;rfl
 obtain ⟨N,hN1,hN2,hN3⟩:=hwD;refine ⟨N,?_,hN2,hN3,fun o ho=>?_⟩
 ·refine ZJY htn ZJR (fun i x=>bif k==i then UF e ⟨false,e.Lst.l.map (·.Id)⟩ x else x) (fun i=>?_) (fun i x hi=>?_) (fun j x _=>?_)
  ·rw [ZJZ,hN1,hwe]
  ·have hf:=ZJU hn hi c2;rw [hj',ZMM] at hf;refine ⟨fun hx=>?_,fun hx=>?_⟩
   ·have:(k==i)=false:=by
     cases c:k==i with
     | false=>rfl
     | true=>exact absurd (ZLk.2 (hf.1 c)) hx
    rw [this];rfl
   ·have hxk:=hf.2 (ZLk.1 hx);rw [hxk];have:k=i:=by simpa using hxk
    subst this;rw [hd] at hi;cases hi;exact ⟨hl,rfl,rfl,rfl⟩
  ·have:(k==s.Doors.length+j)=false:=beq_eq_false_iff_ne.2 (by omega)
   rw [this];rfl
 ·rw [ZLk.1 ho];exact ⟨d,ZLe hd,hid⟩
theorem ZKc {s:Sta} {a:Int} {e:Event} (hn:(s.Doors.map (·.Id)).Nodup) (hk:e.Kind=10) (h:Qk s a e=0):
 ∃ N,Dst (REv e e.Ids.l [e.Id]) s (ZP s a e) N∧N.map (·.Id)=[e.Id]∧(∀ d∈N,d.Ended=-1∧d.After.l=[])∧(∀ o∈e.Ids.l,∃ d∈s.Doors,d.Id=o):=by
 have htn:=ZEF ((Zdb _).1 (ZeC h)).1;obtain ⟨h1,h2,h3,h4⟩:=ZbV h;unfold Q1 at h2;rw [show (wk0 s a e).e.Kind=10 from hk] at h2
 have h0:Kc (wk0 s a e)=0:=h2;unfold Kc at h0;cases c1:twB (wk0 s a e) e.Id with
 | true=>rw [show (wk0 s a e).e=e from rfl,c1] at h0;cases h0
 | false=>
 cases c2:(Zf (wk0 s a e)).any (fun x=>-1==x) with
 | true=>rw [show (wk0 s a e).e=e from rfl,c1,c2] at h0;cases h0
 | false=>
 rw [show (wk0 s a e).e=e from rfl,c1,c2,cond_false,cond_false,QE] at h0
 cases c3:(Zf (wk0 s a e)).all (fun k=>JG (wk0 s a e).s (XP (wk0 s a e).s ((Zf (wk0 s a e)).headD 0)) k) with
 | false=>rw [c3] at h0;cases h0
 | true=>
 have hat:∀ id∈e.Ids.l,decide (Zn s id < 0)=false∧QN s (Zn s id)=-1:=fun id hid=>by
  have hm:Zn s id∈Zf (wk0 s a e):=ZLZ (f:=fun id=>Zn s id) hid
  have g:=ZLc.1 c3 _ hm;unfold JG at g;simp at g;refine ⟨?_,g.1.1⟩;have hne:Zn s id≠-1:=by
   intro hc;have:=ZM9.1 c2 _ hm;exact this (by rw [hc];rfl)
  cases hc:decide (Zn s id < 0) with
  | false=>rfl
  | true=>exact absurd (Ze7 (f:=fun d:Door=>d.Id) hc) hne
 have hnon:(Zf (wk0 s a e))≠[]:=by
  intro hnil;have:e.Ids.l=[]:=by unfold Zf at hnil;exact List.map_eq_nil_iff.1 hnil
  obtain ⟨p1,p2,p3⟩:=ZbX h1;unfold Q9 Q8 ZD at p3;simp only [hk,ZL6] at p3;simp [this] at p3
 obtain ⟨k0,d0,hk0⟩:∃ (k0:Int) (d0:Door),(Zf (wk0 s a e)).headD 0=k0∧s.Doors[k0.toNat]? = some d0:=by
  cases ha:Zf (wk0 s a e) with
  | nil=>exact absurd ha hnon
  | cons x r=>
   have hm:x∈Zf (wk0 s a e):=by rw [ha];exact ZLx
   unfold Zf at hm;obtain ⟨id,hid,rfl⟩:=ZLq.1 hm;have g:=(hat id hid).1;rw [ZEz] at g;obtain ⟨j,d,h5,h6,_⟩:=ZcU g;refine ⟨_,d,rfl,?_⟩;show s.Doors[(Zn s id).toNat]? = some d
   rw [ZEz,h5,ZMM,h6]
 rw [h4,ZK7 (w:=wk0 s a e) hk] at htn ⊢;unfold Kd at htn ⊢;rw [hk0.1,show (wk0 s a e).s=s from rfl,hk0.2] at htn ⊢
 dsimp only at htn ⊢;generalize hw:Qw (wk0 s a e) (WP (wk0 s a e) d0)=w at htn ⊢;have hwD:∃ N,w.s.Doors=s.Doors++N∧N.map (·.Id)=[e.Id]∧(∀ d∈N,d.Ended=-1∧d.After.l=[]):=by
  subst hw;refine ⟨_,rfl,rfl,fun x hx=>?_⟩
  rw [ZLk] at hx;subst hx;exact ⟨rfl,rfl⟩
 have hwe:w.e=e:=by subst hw;rfl
 obtain ⟨N,hN1,hN2,hN3⟩:=hwD;have hex:∀ o∈e.Ids.l,∃ (j:Nat) (d:Door),s.Doors[j]? = some d∧d.Id=o∧Zn s o=(j:Int)∧d.Ended=-1:=fun o ho=>by
  obtain ⟨g1,g2⟩:=hat o ho;have g1':=g1;rw [ZEz] at g1';obtain ⟨j,d,h5,h6,h7⟩:=ZcU g1';have h5':Zn s o=(j:Int):=h5;refine ⟨j,d,h6,h7,h5',?_⟩;rw [h5'] at g2;simpa [QN,h6] using g2
 refine ⟨N,?_,hN2,hN3,fun o ho=>?_⟩
 ·refine ZJY htn ZJR (fun i x=>bif (Zf (wk0 s a e)).any (fun k=>k.toNat==i) then UF e ⟨false,[e.Id]⟩ x else x) (fun i=>?_) (fun i x hi=>?_) (fun n x _=>?_)
  ·rw [ZK0,hN1,hwe];rfl
  ·have hf:(Zf (wk0 s a e)).any (fun k=>k.toNat==i)=true↔x.Id∈e.Ids.l:=by
    unfold Zf;rw [List.any_eq_true];constructor
    ·rintro ⟨k,hk,hki⟩;obtain ⟨id,hid,rfl⟩:=ZLq.1 hk;exact (ZJU hn hi (hat id hid).1).1 hki▸hid
    ·intro hx;exact ⟨_,ZLZ (f:=fun id=>Zn s id) hx,(ZJU hn hi (hat _ hx).1).2 rfl⟩
   refine ⟨fun hx=>?_,fun hx=>?_⟩
   ·have:(Zf (wk0 s a e)).any (fun k=>k.toNat==i)=false:=by
     cases c:(Zf (wk0 s a e)).any (fun k=>k.toNat==i) with
     | false=>rfl
     | true=>exact absurd (hf.1 c) hx
    rw [this];rfl
   ·rw [hf.2 hx];obtain ⟨j,d,g1,g2,g3,g4⟩:=hex _ hx;have:=ZFX hn (ZLe g1) (ZLe hi) g2;exact ⟨this▸g4,rfl,rfl,rfl⟩
  ·have:(Zf (wk0 s a e)).any (fun k=>k.toNat==s.Doors.length+n)=false:=by
    rw [ZM9];intro k hk;unfold Zf at hk;obtain ⟨id,hid,rfl⟩:=ZLq.1 hk;obtain ⟨j,d,g1,_,g3,_⟩:=hex id hid;show ¬ ((Zn s id).toNat==s.Doors.length+n)=true
    rw [g3];have:=(ZL9.1 g1).1;simp;omega
   rw [this];rfl
 ·obtain ⟨j,d,g1,g2,_⟩:=hex o ho;exact ⟨d,ZLe g1,g2⟩
end Go.AM
namespace Go.AM
open Go
theorem ZK1 {s:Sta} (hp:Prop' s) {x y:Str} (hx:∃ d∈s.Doors,d.Id=x) (h:Reach s x y):∃ d∈s.Doors,d.Id=y:=by
 induction h with
 | refl=>exact hx
 | step y z d h hd hi hz ih=>exact ZHn hp hd hz
theorem ZKd {e:Event} {old now:List Str} {s t:Sta} {N:List Door} (hs:Prop' s) (ht:Prop' t) (H:Dst (REv e old now) s t N) (hN:N.map (·.Id)=now) (hA:∀ d∈N,d.After.l=[]) {x:Str} (hx:∃ d∈s.Doors,d.Id=x) (z:Str):
 Reach t x z↔Reach s x z∨((∃ o∈old,Reach s x o∧∃ d∈s.Doors,d.Id=o)∧z∈now):=by
 have fwd:∀ y,Reach s x y→Reach t x y:=fun y h=>by
  induction h with
  | refl=>exact Reach.refl _
  | step y z d h hd hi hz ih=>
   obtain ⟨d',hd',hdR⟩:=H.fw d hd;by_cases hc:d.Id∈old
   ·have:=ZJg hs hd (by rw [(hdR.2 hc).1];omega)
    rw [this] at hz;cases hz
   ·rw [hdR.1 hc] at hd';exact Reach.step _ _ _ d ih hd' hi hz
 constructor
 ·intro h;induction h with
  | refl=>exact .inl (Reach.refl _)
  | step y z d h hd hi hz ih=>
   rcases ih with ih | ⟨ho,ih⟩
   ·obtain ⟨c,hc,hci⟩:=ZK1 hs hx ih;obtain ⟨c',hc',hcR⟩:=H.fw c hc;have:c'=d:=ZFX (ZEF ht) hc' hd (by rw [ZJR _ _ hcR,hci,hi])
    subst this;by_cases hco:c.Id∈old
    ·rw [(hcR.2 hco).2.2.2] at hz;exact .inr ⟨⟨c.Id,hco,hci▸ih,c,hc,rfl⟩,hz⟩
    ·rw [hcR.1 hco] at hz;exact .inl (Reach.step _ _ _ c ih hc hci hz)
   ·exfalso;rw [←hN] at ih;obtain ⟨n,hn,hni⟩:=ZLq.1 ih;have:n=d:=ZFX (ZEF ht) (H.nw n hn) hd (hni.trans hi.symm);subst this;rw [hA n hn] at hz;cases hz
 ·rintro (h | ⟨⟨o,ho,hr,d,hd,hdo⟩,hz⟩)
  ·exact fwd z h
  ·obtain ⟨d',hd',hdR⟩:=H.fw d hd;have hc:=hdR.2 (hdo▸ho);exact Reach.step _ _ _ d' (fwd o hr) hd' (hc.2.1.trans hdo) (hc.2.2.2▸hz)
theorem ZKe {e:Event} {old now:List Str} {s t:Sta} {N:List Door} (hday:0≤e.Day) (hs:Prop' s) (ht:Prop' t) (H:Dst (REv e old now) s t N) (hN:N.map (·.Id)=now) (hA:∀ d∈N,d.Ended=-1∧d.After.l=[]) (hne:now≠[]) (hold:∀ o∈old,∃ d∈s.Doors,d.Id=o) {x:Str} (hx:∃ d∈s.Doors,d.Id=x)
 {D D':List Str} {E E':List End} (h:IsFate s x D E) (h':IsFate t x D' E'):
 E'=E∧∀ y,y∈D'↔(y∈D∧y ∉ old)∨(y∈now∧∃ o∈old,o∈D):=by
 have hr:=ZKd hs ht H hN (fun d hd=>(hA d hd).2) hx
 have hoD:∀ o∈old,(Reach s x o↔o∈D):=fun o ho=>by
  rw [h.dm o];obtain ⟨d,hd,hdo⟩:=hold o ho;obtain ⟨d',hd',hdR⟩:=H.fw d hd;have:=(hdR.2 (hdo▸ho)).1;constructor
  ·intro hr;exact ⟨d,hd,hdo,by omega,hdo▸hr⟩
  ·rintro ⟨c,hc,hco,_,hcr⟩;exact hco▸hcr
 have notnow:∀ d∈s.Doors,d.Id ∉ now:=fun d hd hn=>by
  rw [←hN] at hn;obtain ⟨n,hn,hni⟩:=ZLq.1 hn;exact H.dj d hd n hn hni
 have hback:∀ d∈s.Doors,Reach t x d.Id→Reach s x d.Id:=fun d hd hr'=>by
  rcases (hr d.Id).1 hr' with h1 | ⟨_,h1⟩
  ·exact h1
  ·exact absurd h1 (notnow d hd)
 have hold':∀ d∈s.Doors,d.Id∈old→d.Ended=-1:=fun d hd ho=>by
  obtain ⟨d',_,hdR⟩:=H.fw d hd;exact (hdR.2 ho).1
 have hkeep:∀ d∈s.Doors,d.Id ∉ old→d∈t.Doors:=fun d hd ho=>by
  obtain ⟨d',hd',hdR⟩:=H.fw d hd;exact hdR.1 ho▸hd'
 constructor
 ·refine ZIS (f:=fun e:End=>e.Id) h'.es h.es fun e0=>?_
  rw [h'.em,h.em];constructor
  ·rintro ⟨d',hd',he,hE,hAf,hR⟩;rcases H.bw d' hd' with ⟨c,hc,hcR⟩ | hn
   ·by_cases ho:c.Id∈old
    ·rw [(hcR.2 ho).2.2.2] at hAf;exact absurd hAf hne
    ·rw [hcR.1 ho] at he hE hAf hR;exact ⟨c,hc,he,hE,hAf,hback c hc hR⟩
   ·exact absurd (show d'.Ended < 0 by rw [(hA d' hn).1];omega) hE
  ·rintro ⟨d,hd,he,hE,hAf,hR⟩;have ho:d.Id ∉ old:=fun ho=>hE (by rw [hold' d hd ho];omega)
   exact ⟨d,hkeep d hd ho,he,hE,hAf,(hr _).2 (.inl hR)⟩
 ·intro y;rw [h'.dm];constructor
  ·rintro ⟨d',hd',hi,hE,hR⟩;rcases H.bw d' hd' with ⟨c,hc,hcR⟩ | hn
   ·by_cases ho:c.Id∈old
    ·rw [(hcR.2 ho).2.2.1] at hE;omega
    ·rw [hcR.1 ho] at hi hE hR;exact .inl ⟨(h.dm y).2 ⟨c,hc,hi,hE,hback c hc hR⟩,hi▸ho⟩
   ·rcases (hr _).1 hR with h1 | ⟨⟨o,ho,h1,_⟩,h2⟩
    ·obtain ⟨c,hc,hci⟩:=ZK1 hs hx h1;exact absurd hci.symm (H.dj c hc d' hn)
    ·exact .inr ⟨hi▸h2,o,ho,(hoD o ho).1 h1⟩
  ·rintro (⟨hy,ho⟩ | ⟨hy,o,ho,hoy⟩)
   ·obtain ⟨d,hd,hi,hE,hR⟩:=(h.dm y).1 hy;exact ⟨d,hkeep d hd (hi▸ho),hi,hE,(hr _).2 (.inl hR)⟩
   ·have hy':=hy;rw [←hN] at hy';obtain ⟨n,hn,hni⟩:=ZLq.1 hy';refine ⟨n,H.nw n hn,hni,by rw [(hA n hn).1];omega,(hr _).2 (.inr ⟨⟨o,ho,(hoD o ho).2 hoy,hold o ho⟩,hni▸hy⟩)⟩
end Go.AM
namespace Go.AM
open Go
end Go.AM
namespace Go.AM
open Go
end Go.AM
namespace Go.AM
open Go
end Go.AM
namespace Go.AM
open Go
theorem ZKf {α:Type} {f:α→Str} {l:List α} {m:List Str} (hl:(l.map f).Nodup) (hm:m.Nodup) (h:∀ x,x∈l.map f↔x∈m):l.length=m.length:=by
 have h1:=ZF6 _ _ hl (fun x hx=>(h x).1 hx)
 have h2:=ZF6 _ _ hm (fun x hx=>(h x).2 hx)
 rw [ZL8] at h1 h2;omega
theorem ZJ5 {s:Sta} {x:Str} (h:∃ d∈s.Doors,d.Id=x):decide (Zn s x < 0)=false:=by
 obtain ⟨d,hd,rfl⟩:=h;rw [ZEz];exact Ze8 (f:=fun d:Door=>d.Id) hd
end Go.AM
namespace Go.AM
open Go
theorem ZKg (hup:pfn rE 9 []=some (.bool true)) (s:Sta) (a:Int) (e:Event) (raw:AV) (h:(YQ s&&(Xn e&&((e.Kind==9||e.Kind==10)&&!(s.Doors.length==0))))=false):pfn rE 6 [stA s,I a,evA e,raw]=some (.bool true):=by
 have hf:=ZJ4 s;have he:=Z4z e;cases c1:YQ s with
 | false=>
  rw [c1] at hf;rw [Z5 (f:=6) rfl rfl];simp only [go_sem,qy,qq,qk,c6,hup,hf,ZLv]
 | true=>
 rw [c1] at hf;cases c2:Xn e with
 | false=>
  rw [c2] at he;rw [Z5 (f:=6) rfl rfl];simp only [go_sem,qy,qq,qk,c6,hup,hf,he,ZLv,ZLA]
 | true=>
 rw [c2] at he;cases c3:e.Kind==9||e.Kind==10 with
 | false=>
  rw [ZMB] at c3;have k1:(e.Kind != 9)=true:=by have:=c3.1;simpa using this
  have k2:(e.Kind != 10)=true:=by have:=c3.2;simpa using this
  rw [Z5 (f:=6) rfl rfl];simp only [go_sem,qy,qq,qk,reduceIte,c6,hup,hf,he,k1,k2,ZLv,ZLA]
 | true=>
 have c5:(s.Doors.length==0)=true:=by rw [c1,c2,c3] at h;simpa using h
 have hz:((s.Doors.length:Int)==0)=true:=by
  rw [beq_iff_eq] at c5 ⊢;omega
 rw [ZMm] at c3;rcases c3 with hk | hk
 ·have k1:(e.Kind != 9)=false:=by rw [eq_of_beq hk];rfl
  rw [Z5 (f:=6) rfl rfl];simp only [go_sem,qy,qq,qk,reduceIte,c6,hup,hf,he,k1,hz,ZL8,ZLv,ZLA]
 ·have k1:(e.Kind != 9)=true:=by rw [eq_of_beq hk];rfl
  have k2:(e.Kind != 10)=false:=by rw [eq_of_beq hk];rfl
  rw [Z5 (f:=6) rfl rfl];simp only [go_sem,qy,qq,qk,reduceIte,c6,hup,hf,he,k1,k2,hz,ZL8,ZLv,ZLA]
def ZJQ (n:Nat):AV:=bif n==0 then .sl 3 0 0 0 true else .sl 4 n 0 n false
def ZJP (l:List AV):List AObj:=bif l.length==0 then [.row 1 []] else [.row 1 [],.row 1 l]
theorem ZK2 (e:Event) (o0 o1 o2:AObj) (v17:AV) (hl:e.Lst.l.length≤1000):
 ∃ fr',Zg rE [6,9,13,15,17,18,19] c6L0b [(6,evI e),(9,.bool true),(13,.ptr 1 0 0 1),(15,.ptr 2 0 0 1),(17,v17),(18,.sl 3 0 0 0 true),(19,.int .i64 0)] [o0,o1,o2,.row 1 []] =
  some (.exit 0,fr',o0::o1::o2::ZJP (e.Lst.l.map fun x=>.str x.Id))∧get fr' 6=evI e∧get fr' 9=.bool true∧get fr' 13=.ptr 1 0 0 1∧get fr' 15=.ptr 2 0 0 1∧get fr' 17=v17∧get fr' 18=ZJQ e.Lst.l.length:=by
 have L:=Y8 (E:=rE) (live:=[6,9,13,15,17,18,19]) (b:=c6L0b) e.Lst.l.length (fun i=>[(6,evI e),(9,.bool true),(13,.ptr 1 0 0 1),(15,.ptr 2 0 0 1),(17,v17),(18,ZJQ i),(19,I i)]) (fun i=>o0::o1::o2::ZJP ((e.Lst.l.take i).map fun x=>AV.str x.Id)) (fun i=>rfl)
  (fun i hi=>by
   obtain ⟨x,hx⟩:∃ x,e.Lst.l[i]? = some x:=⟨_,ZLb hi⟩;have hg:=Z6 (f:=Ent.enc) hx;have hi':=Zh hi;have hw:=Zx (n:=i) (by omega)
   have ht:(e.Lst.l.take (i+1)).map (fun x=>AV.str x.Id)=(e.Lst.l.take i).map (fun x=>AV.str x.Id)++[.str x.Id]:=by
    have:=(ZL9.1 hx);rw [ZMK hi,ZLp,this.2];rfl
   have hlen:((e.Lst.l.take i).map (fun x=>AV.str x.Id)).length=i:=by rw [ZL8,ZMi];omega
   rw [ht];cases i with
   | zero=>
    have ha:appW [o0,o1,o2,.row 1 []] false 1 16 (.sl 3 0 0 0 true) (.isl false false 1 [.str x.Id])=some (.sl 4 1 0 1 false,[o0,o1,o2,.row 1 [],.row 1 [.str x.Id]]):=rfl;exact ⟨_,by simp only [go_sem,qy,qq,qv,reduceIte,c6L0b,ZJQ,ZJP,List.take_zero,ZLG,ZLL,ZLg,ZMf,beq_self_eq_true,cond_true,hg,Ent.enc,hi',hw,ha];rfl,by simp only [go_sem,qy,qq];rfl⟩
   | succ j=>
    generalize (e.Lst.l.take (j+1)).map (fun x=>AV.str x.Id)=W at hlen
    have z1:(j+1==0)=false:=rfl;have z2:(W.length==0)=false:=by rw [hlen];rfl
    have z3:((W++[AV.str x.Id]).length==0)=false:=by rw [ZLo];rfl
    have z4:(j+1+1==0)=false:=rfl;have ha:appW [o0,o1,o2,.row 1 [],.row 1 W] false 1 16 (.sl 4 (j+1) 0 (j+1) false) (.isl false false 1 [.str x.Id])=some (.sl 4 (j+1+1) 0 (j+1+1) false,[o0,o1,o2,.row 1 [],.row 1 (W++[.str x.Id])]):=by
     rw [XC (es:=W) (by unfold rowAt;simp only [ZLF,ZLs,hlen,beq_self_eq_true,cond_true]) rfl (by rfl) (by omega) (by omega) (by simp;omega)]
     simp only [go_sem,ZMf]
    exact ⟨_,by simp only [go_sem,qy,qq,qv,reduceIte,c6L0b,ZJQ,ZJP,z1,z2,cond_false,hg,Ent.enc,hi',hw,ha];rfl,by simp only [go_sem,qy];rfl⟩)
  (e:=.exit 0) (fr:=[(6,evI e),(9,.bool true),(13,.ptr 1 0 0 1),(15,.ptr 2 0 0 1),(17,v17),(18,ZJQ e.Lst.l.length),(19,I e.Lst.l.length)]) (h:=o0::o1::o2::ZJP ((e.Lst.l.take e.Lst.l.length).map fun x=>AV.str x.Id)) (by
   unfold ZJP;cases ((e.Lst.l.take e.Lst.l.length).map fun x=>AV.str x.Id).length==0 with
   | false=>simp only [go_sem,qy,qq,reduceIte,c6L0b,ZG,ZL8,cond_false]
   | true=>simp only [go_sem,qy,qq,reduceIte,c6L0b,ZG,ZL8,cond_true]) (by simp)
 rw [ZLI] at L;exact ⟨_,L,by simp only [go_sem,qy],by simp only [go_sem,qy],by simp only [go_sem,qy],by simp only [go_sem,qy],by simp only [go_sem,qy],by simp only [go_sem,qy]⟩
def ZJO (old D:List Str):List Str:=D.filter fun x=>!hasB old x
theorem ZKh {old D:List Str} {i:Nat} {x:Str} (h:D[i]? = some x):ZJO old (D.take (i+1))=ZJO old (D.take i)++(bif hasB old x then [] else [x]):=by
 have hi:=(ZL9.1 h);unfold ZJO;rw [ZMK hi.1,ZNq,hi.2];cases c:hasB old x<;>simp [List.filter,c]
theorem ZKi {old D:List Str} {i:Nat} {x:Str} (h:D[i]? = some x):(D.take (i+1)).any (hasB old)=((D.take i).any (hasB old)||hasB old x):=by
 have hi:=(ZL9.1 h);rw [ZMK hi.1,List.any_append,hi.2];simp
theorem ZJV (old D:List Str):(ZJO old D).length≤D.length:=ZMu _ _
theorem ZK3 (o0 o2:AObj) (hd:List AObj) (D:List Str) (E:List End) (hD:D.length≤500) (ex:Bool) (old:List Str) (hol:old.length≤1000) (nl:Nat) (k:Nat)
 (hk:(k=5∧∃ x3 x4,hd=[x3,x4])∨(k=6∧∃ x3 x4 x5,hd=[x3,x4,x5])) (n18:Nat) (hn18:n18 < k) (x18:Bool):
 ∃ fr',Zg rE [9,13,15,17,18,20,21,22] c6L1b [(9,.bool true),(13,.ptr 1 0 0 1),(15,.ptr 2 0 0 1),(17,.isl false ex 1 (old.map encS)),(18,.sl n18 nl 0 nl x18),(20,.sl k 0 0 0 false),(21,.bool false),(22,.int .i64 0)] (o0::.row 2 [ftA false false D E]::o2::(hd++[.row 1 []])) =
  some (.exit 2,fr',o0::.row 2 [ftA false false D E]::o2::(hd++[.row 1 ((ZJO old D).map encS)]))∧get fr' 9=.bool true∧get fr' 13=.ptr 1 0 0 1∧get fr' 15=.ptr 2 0 0 1∧get fr' 18=.sl n18 nl 0 nl x18∧get fr' 20=.sl k (ZJO old D).length 0 (ZJO old D).length false∧get fr' 21=.bool (D.any (hasB old)):=by
 have ha:∀ (W:List Str) (x:Str),W.length≤500→appW (o0::.row 2 [ftA false false D E]::o2::(hd++[.row 1 (W.map encS)])) false 1 16 (.sl k W.length 0 W.length false) (.isl false false 1 [.str x])=some (.sl k (W.length+1) 0 (W.length+1) false,o0::.row 2 [ftA false false D E]::o2::(hd++[.row 1 ((W++[x]).map encS)])):=fun W x hW=>by
  rcases hk with ⟨rfl,x3,x4,rfl⟩ | ⟨rfl,x3,x4,x5,rfl⟩<;>
  ·rw [XC (es:=W.map encS) (by unfold rowAt;simp only [ZLd,ZLg,ZLF,ZLs,ZL8,beq_self_eq_true,cond_true]) rfl (by rfl) (by omega) (by omega) (by simp;omega),ZLp]
   simp only [go_sem,ZLd,ZLg,ZMf,ZLh,ZLG,encS]
 have L:=Y8 (E:=rE) (live:=[9,13,15,17,18,20,21,22]) (b:=c6L1b) D.length (fun i=>[(9,.bool true),(13,.ptr 1 0 0 1),(15,.ptr 2 0 0 1),(17,.isl false ex 1 (old.map encS)),(18,.sl n18 nl 0 nl x18),(20,.sl k (ZJO old (D.take i)).length 0 (ZJO old (D.take i)).length false),(21,.bool ((D.take i).any (hasB old))),(22,I i)])
  (fun i=>o0::.row 2 [ftA false false D E]::o2::(hd++[.row 1 ((ZJO old (D.take i)).map encS)])) (fun i=>rfl)
  (fun i hi=>by
   obtain ⟨x,hx⟩:∃ x,D[i]? = some x:=⟨_,ZLb hi⟩;have hg:=Z6 (f:=encS) hx;have hi':=Zh hi;have hw:=Zx (n:=i) (by omega)
   have hh:=Zna ex old x hol;have h1:=ZKh (old:=old) hx;have h2:=ZKi (old:=old) hx;have hlw:(ZJO old (D.take i)).length≤500:=by
    have:=ZJV old (D.take i);rw [ZMi] at this;omega
   have ha':=ha (ZJO old (D.take i)) x hlw;cases c:hasB old x with
   | true=>
    rw [c] at h1 h2 hh;rw [cond_true,ZLn] at h1;rw [ZMg] at h2;rw [h1,h2];generalize ZJO old (D.take i)=W at *;rcases hk with ⟨rfl,x3,x4,rfl⟩ | ⟨rfl,x3,x4,x5,rfl⟩<;>
    exact ⟨_,by simp only [go_sem,qy,qq,reduceIte,c6L1b,ZLd,ZLg,ftA,hg,encS,hi',hw,hh];rfl,by simp only [go_sem,qy]⟩
   | false=>
    rw [c] at h1 h2 hh;rw [cond_false] at h1;rw [Bool.or_false] at h2;rw [h1,h2,ZLo];generalize ZJO old (D.take i)=W at *;rcases hk with ⟨rfl,x3,x4,rfl⟩ | ⟨rfl,x3,x4,x5,rfl⟩<;>
    ·simp only [ZLd,ZLg,ftA] at ha';exact ⟨_,by simp only [go_sem,qy,qq,qv,qk,reduceIte,c6L1b,ZLd,ZLg,ftA,hg,encS,hi',hw,hh,ha'];rfl,by simp only [go_sem,qy,ZMf]⟩)
  (e:=.exit 2) (fr:=[(9,.bool true),(13,.ptr 1 0 0 1),(15,.ptr 2 0 0 1),(17,.isl false ex 1 (old.map encS)),(18,.sl n18 nl 0 nl x18),(20,.sl k (ZJO old (D.take D.length)).length 0 (ZJO old (D.take D.length)).length false),(21,.bool ((D.take D.length).any (hasB old))),(22,I D.length)])
  (h:=o0::.row 2 [ftA false false D E]::o2::(hd++[.row 1 ((ZJO old (D.take D.length)).map encS)])) (by
   rcases hk with ⟨rfl,x3,x4,rfl⟩ | ⟨rfl,x3,x4,x5,rfl⟩<;>
   ·simp only [go_sem,qy,qq,reduceIte,c6L1b,ZLd,ZLg,ftA,ZG,ZL8]) (by simp)
 rw [ZLI] at L;exact ⟨_,L,by simp only [go_sem,qy],by simp only [go_sem,qy],by simp only [go_sem,qy],by simp only [go_sem,qy],by simp only [go_sem,qy],by simp only [go_sem,qy]⟩
end Go.AM
namespace Go.AM
open Go
theorem ZK4 {h:Hp} {b g b2 g2 sz bytes:Nat} {es ys:List AV} {fz e2:Bool} (hr:rowAt h b g=some (sz,es)) (hr2:rowAt h b2 g2=some (sz,ys)) (hy:ys.isEmpty=false) (hf:ys.all (fits sz)=true) (h0:0 < sz) (h1:0 < bytes) (h2:(g+g2) * bytes≤70368744177664):
 appW h fz sz bytes (.sl b g 0 g false) (.sl b2 g2 0 g2 e2)=some (.sl b (g+g2) 0 (g+g2) false,setH h b (.row sz (es++ys))):=by
 have key:∀ {b g:Nat} {es:List AV},rowAt h b g=some (sz,es)→h[b]? = some (.row sz es)∧es.length=g:=by
  intro b g es hr;unfold rowAt at hr;cases hb:h[b]? with
  | none=>rw [hb] at hr;cases hr
  | some o=>
   rw [hb] at hr;cases o with
   | row sz' es'=>
    dsimp only at hr;cases hg:(es'.length==g) with
    | false=>rw [hg] at hr;cases hr
    | true=>
     rw [hg] at hr;simp only [cond_true,Option.some.injEq,Prod.mk.injEq] at hr;obtain ⟨rfl,rfl⟩:=hr;exact ⟨rfl,by simpa using hg⟩
   | _=>cases hr
 obtain ⟨hb,hl⟩:=key hr;obtain ⟨hb2,hl2⟩:=key hr2;subst hl;subst hl2;simp only [appW,Qt,Q2,hb,hb2,beq_self_eq_true,cond_true,ZMc,ZLI,Qq,h0,h1,h2,and_self,if_true,hy,cond_false,ZM,ZH,hf,ZLH]
theorem ZKj {old now:List Str} {s t:Sta} {x x':Str} {D D':List Str} {E E':List End} (h:IsFate s x D E) (h':IsFate t x' D' E') (hnow:now.Nodup) (hdj:∀ y∈D,y ∉ now) (hD:∀ y,y∈D'↔(y∈D∧y ∉ old)∨(y∈now∧∃ o∈old,o∈D)):
 (D.any (hasB old)=false→D'=D)∧(D.any (hasB old)=true→D'.length=(ZJO old D).length+now.length∧∀ y∈ZJO old D++now,y∈D'):=by
 have hw:∀ y,y∈ZJO old D↔y∈D∧y ∉ old:=fun y=>by
  unfold ZJO;rw [ZNb];constructor
  ·rintro ⟨h1,h2⟩;exact ⟨h1,fun ho=>by rw [Zn6.2 ho] at h2;cases h2⟩
  ·rintro ⟨h1,h2⟩;refine ⟨h1,?_⟩;cases c:hasB old y with
   | false=>rfl
   | true=>exact absurd (Zn6.1 c) h2
 constructor
 ·intro hn;rw [ZM9] at hn;refine ZIS (f:=fun y=>y) h'.ds h.ds fun y=>?_
  rw [hD];constructor
  ·rintro (⟨h1,_⟩ | ⟨_,o,ho,h2⟩)
   ·exact h1
   ·exact absurd (Zn6.2 ho) (hn o h2)
  ·intro hy;exact .inl ⟨hy,fun ho=>hn y hy (Zn6.2 ho)⟩
 ·intro ht;obtain ⟨o,h1,h2⟩:=List.any_eq_true.1 ht;have hto:∃ o∈old,o∈D:=⟨o,Zn6.1 h2,h1⟩;have hm:∀ y,y∈D'↔y∈ZJO old D++now:=fun y=>by
   rw [hD,ZLt,hw];exact ⟨fun h=>h.imp id And.left,fun h=>h.imp id fun hy=>⟨hy,hto⟩⟩
  refine ⟨?_,fun y hy=>(hm y).2 hy⟩
  rw [←ZLo];refine ZKf (f:=fun y:Str=>y) (by simpa using h'.dn) ?_ (fun y=>by rw [List.map_id'];exact hm y)
  rw [ZMk];refine ⟨h.dn.sublist ZNJ,hnow,fun a ha b hb hab=>?_⟩
  subst hab;exact hdj a ((hw a).1 ha).1 hb
theorem ZK5 (s:Sta) (a:Int) (e:Event) (c1:YQ s=true) (c2:Xn e=true) (h0:Qk s a e=0) {d:Door} (hd:d∈s.Doors) {old now:List Str} {N:List Door} (H:Dst (REv e old now) s (ZP s a e) N) (hN:N.map (·.Id)=now) (hA:∀ d∈N,d.Ended=-1∧d.After.l=[]) (hne:now≠[]) (hold:∀ o∈old,∃ d∈s.Doors,d.Id=o) (hNl:N.length≤8):
 ∃ D D' E,pfn rE 12 [stA s,.str d.Id]=some (.tup [ftA false false D E,I 0])∧pfn rE 12 [stA (ZP s a e),.str d.Id]=some (.tup [ftA false false D' E,I 0])∧D.length≤500∧D'.length≤500∧E.length≤500∧
  (D.any (hasB old)=false→D'=D)∧(D.any (hasB old)=true→D'.length=(ZJO old D).length+now.length∧∀ y∈ZJO old D++now,y∈D'):=by
 have hs:=Kl s c1;have hL:∀ x∈e.Lst.l,x.Id.size≤1000:=ZK9 c2;have hT:=ZeH s hs a e (JL e c2) hL;have hpT:=ZeC h0;obtain ⟨p1,p2,p3⟩:=ZbX (ZbV h0).1;have hp:=((Zdb s).1 p1).1;have hp':=((Zdb _).1 hpT).1;have hday:0≤e.Day:=by
  unfold Q9 at p3;simp only [ZL6] at p3;have:=p3.2.1;unfold ZD at this;simp only [ZL6,decide_eq_true_eq] at this;omega
 have hx:∃ c∈s.Doors,c.Id=d.Id:=⟨d,hd,rfl⟩;have h16:=ZJh c1;have hl:=H.ln;obtain ⟨D,E,f1,F1⟩:=ZHv s p1 hs.e (by omega) d.Id (ZJ5 hx)
 have hxt:∃ c∈(ZP s a e).Doors,c.Id=d.Id:=by
  obtain ⟨y,hy,hR⟩:=H.fw d hd;exact ⟨y,hy,ZJR _ _ hR⟩
 obtain ⟨D',E',f2,F2⟩:=ZHv _ hpT hT (by omega) d.Id (ZJ5 hxt)
 obtain ⟨rfl,hm⟩:=ZKe hday hp hp' H hN hA hne hold hx F1 F2;have hL2:=ZKj F1 F2 (hN▸H.nd) (fun y hy hn=>by
  obtain ⟨c,hc,hci,_⟩:=(F1.dm y).1 hy;rw [←hN] at hn;obtain ⟨m,hm,hmi⟩:=ZLq.1 hn;exact H.dj c hc m hm (hmi.trans hci.symm)) hm
 exact ⟨D,D',_,f1,f2,F1.dl,F2.dl,F2.el,hL2⟩
theorem ZKk (hup:pfn rE 9 []=some (.bool true)) (s:Sta) (a:Int) (e:Event) (n:Nat) (hn:n < 256) (c1:YQ s=true) (c2:Xn e=true) (hk:e.Kind=9) (c5:(s.Doors.length==0)=false):pfn rE 6 [stA s,I a,evA e,.int .u8 n]=some (.bool true):=by
 have hf:=ZJ4 s;have he:=Z4z e;have hs:=Kl s c1;rw [c1] at hf;rw [c2] at he;have hz:((s.Doors.length:Int)==0)=false:=by
  rw [beq_eq_false_iff_ne] at c5 ⊢;omega
 have hpos:0 < s.Doors.length:=by rw [beq_eq_false_iff_ne] at c5;omega
 obtain ⟨d,hd⟩:∃ d,s.Doors[n % s.Doors.length]? = some d:=⟨_,ZLb (ZMb _ hpos)⟩;have hg:=Z6 (f:=Door.enc) hd;have hw:IntKind.i64.wrap (n:Int)=n:=YM (by omega) (by omega)
 have hnz:=nat_ne hpos;have hi1:(0≤((n % s.Doors.length:Nat):Int))=True:=eq_true (ZNI _);have hi2:((n % s.Doors.length:Nat):Int).toNat=n % s.Doors.length:=ZMM _;have h00:((0:Int) != 0)=false:=rfl;have k1:(e.Kind != 9)=false:=by rw [hk];rfl
 have k2:(e.Kind==10)=false:=by rw [hk];rfl
 have hap:=JJ s hs a e (JL e c2);cases e6:Qk s a e != 0 with
 | true=>
  generalize Qk s a e=er at hap e6;generalize ZP s a e=t at hap;simp only [stA] at hap;rw [Z5 (f:=6) rfl rfl];simp only [go_sem,qy,qq,qv,qk,c6,hap,e6,hup,hf,he,k1,hz,if_true,ZL8,ZLA,ZLv]
 | false=>
 have h0:Qk s a e=0:=by simpa using e6
 rw [h0] at hap;obtain ⟨p1,p2,p3⟩:=ZbX (ZbV h0).1;have hp:=((Zdb s).1 p1).1;obtain ⟨N,H,hN,hA,hold⟩:=ZKb (ZEF hp) hk h0;obtain ⟨hne,hl8⟩:=ZK8 p3 hk;obtain ⟨D,D',E,f1,f2,b1,b2,b3,hno,hyes⟩:=ZK5 s a e c1 c2 h0 (ZLe hd) H hN hA (by simpa using hne) hold (by have:=congrArg List.length hN;simp only [ZL8] at this;omega)
 have sE:=ZF5 false false false false [] [] E E (by simp) (by omega)
 rw [ZIe] at sE;generalize ZP s a e=t at hap f2;have hnl:e.Lst.l.length≤1000:=by omega
 obtain ⟨fa,la,q1,q2,q3,q4,q5,q6⟩:=ZK2 e (.row 7 [stA t]) (.row 2 [ftA false false D E]) (.row 2 [ftA false false D' E]) (.isl false false 1 [.str e.Id]) hnl;obtain ⟨fb,lb,r1,r2,r3,r4,r5,r6⟩:=ZK3 (.row 7 [stA t]) (.row 2 [ftA false false D' E]) [.row 1 [],.row 1 (e.Lst.l.map fun x=>.str x.Id)] D E b1 false [e.Id] (by simp) e.Lst.l.length 5 (.inl ⟨rfl,_,_,rfl⟩) 4 (by omega) false
 have z0:(e.Lst.l.length==0)=false:=by rw [beq_eq_false_iff_ne];intro h;exact hne (ZMy.1 h)
 unfold ZJP at la;unfold ZJQ at q6;rw [ZL8] at la;rw [z0,cond_false] at la q6;simp only [ZLh,ZLG,encS,ZLd,ZLg,ftA] at la lb;simp only [ftA,ZLG] at f1 f2 sE;simp only [stA] at hap f1 f2 la lb;cases c:D.any (hasB [e.Id]) with
 | false=>
  rw [c] at r6;have hDD:=hno c;subst hDD;have sm:=ZF5 false false false false D' D' E E (by omega) (by omega)
  rw [ZIe] at sm;simp only [ftA] at sm;rw [Z5 (f:=6) rfl rfl];simp only [go_sem,qy,qq,qv,qk,reduceIte,c6,c6L0,c6L1,hap,hup,hf,he,k1,k2,hz,hw,hnz,h00,if_true,Jc,ZL8,ZLA,ZLv,hg,Door.enc,f1,f2,sE,la,q1,q2,q3,q4,q5,q6,lb,r1,r2,r3,r4,r5,r6,sm]
 | true=>
  rw [c] at r6;obtain ⟨g1,g2⟩:=hyes c;generalize hW:ZJO [e.Id] D=W at *;have hWl:W.length≤500:=by rw [←hW];have:=ZJV [e.Id] D;omega
  have hap2:appW [.row 7 [stA t],.row 2 [ftA false false D E],.row 2 [ftA false false D' E],.row 1 [],.row 1 (e.Lst.l.map fun x=>.str x.Id),.row 1 (W.map encS)] false 1 16 (.sl 5 W.length 0 W.length false) (.sl 4 e.Lst.l.length 0 e.Lst.l.length false) =
   some (.sl 5 (W.length+e.Lst.l.length) 0 (W.length+e.Lst.l.length) false,[.row 7 [stA t],.row 2 [ftA false false D E],.row 2 [ftA false false D' E],.row 1 [],.row 1 (e.Lst.l.map fun x=>.str x.Id),.row 1 ((W++e.Lst.l.map (·.Id)).map encS)]):=by
   rw [ZK4 (es:=W.map encS) (ys:=e.Lst.l.map fun x=>.str x.Id) (by unfold rowAt;simp only [ZLF,ZLs,ZL8,beq_self_eq_true,cond_true]) (by unfold rowAt;simp only [ZLF,ZLs,ZL8,beq_self_eq_true,cond_true])
    (by simpa using hne) (Xj (fun _=>rfl) _) (by omega) (by omega) (by omega),ZLp,ZLW]
   simp only [go_sem];rfl
  have htk:((W++e.Lst.l.map (·.Id)).map encS).take (W.length+e.Lst.l.length)=(W++e.Lst.l.map (·.Id)).map encS:=ZLw (by simp)
  have hlen:((W++e.Lst.l.map (·.Id)).map encS).length=W.length+e.Lst.l.length:=by simp
  have hcl:Z4 ((W++e.Lst.l.map (·.Id)).map encS)=true:=Zw (fun _=>rfl) _
  have hwi:=ZJb false false false false (W++e.Lst.l.map (·.Id)) D' [] E (by simp;omega) (by simp) (by omega) (by omega)
  rw [within_iff.2 ⟨g2,fun x hx=>(by cases hx)⟩] at hwi
  have heq:((D'.length:Int)==((W.length+e.Lst.l.length:Nat):Int))=true:=by
   rw [g1,ZL8];simp
  simp only [ftA,ZLG,stA] at hap2 hwi;generalize hZ:(W++e.Lst.l.map (·.Id)).map encS=Z at *;rw [Z5 (f:=6) rfl rfl];simp only [go_sem,qy,qq,qv,qk,reduceIte,c6,c6L0,c6L1,hap,hup,hf,he,k1,k2,hz,hw,hnz,h00,if_true,Jc,ZL8,ZLA,ZLv,hg,Door.enc,f1,f2,sE,la,q1,q2,q3,q4,q5,q6,lb,r1,r2,r3,r4,r5,r6,hap2,htk,hlen,hcl,hwi,heq,beq_self_eq_true,ZMc]
def ZJW (h:Hp) (v:AV):DRec:=⟨false,[],(match YC 1 [AV.str emp] [(0,v)] with | some _=>some h.length | none=>none),none⟩
theorem ZJS (h:Hp) (s:Str):ZJW h (.str s)=⟨false,[],some h.length,none⟩:=rfl
theorem ZJT {E:Env} {x:Arg} {fr:Fr} {h:Hp}:Za E (.bsl false false 1 (.str emp) 1 [(0,x)]) fr h=ZJW h (ev E (Z2 x.slots fr) x):=by
 have e:(AOp.bsl false false 1 (.str emp) 1 [(0,x)]).slots=x.slots:=by simp [AOp.slots,Xp]
 simp only [Za,Z8,e,ZLh,ZLG,QG];unfold ZJW;have e2:List.replicate 1 (AV.str emp)=[AV.str emp]:=rfl;have e3:fits 1 (AV.str emp)=true:=rfl;rw [e2,e3];cases YC 1 [AV.str emp] [(0,ev E (Z2 x.slots fr) x)]<;>rfl
theorem ZKl (hup:pfn rE 9 []=some (.bool true)) (s:Sta) (a:Int) (e:Event) (n:Nat) (hn:n < 256) (c1:YQ s=true) (c2:Xn e=true) (hk:e.Kind=10) (c5:(s.Doors.length==0)=false):pfn rE 6 [stA s,I a,evA e,.int .u8 n]=some (.bool true):=by
 have hf:=ZJ4 s;have he:=Z4z e;have hs:=Kl s c1;rw [c1] at hf;rw [c2] at he;have hz:((s.Doors.length:Int)==0)=false:=by
  rw [beq_eq_false_iff_ne] at c5 ⊢;omega
 have hpos:0 < s.Doors.length:=by rw [beq_eq_false_iff_ne] at c5;omega
 obtain ⟨d,hd⟩:∃ d,s.Doors[n % s.Doors.length]? = some d:=⟨_,ZLb (ZMb _ hpos)⟩;have hg:=Z6 (f:=Door.enc) hd;have hw:IntKind.i64.wrap (n:Int)=n:=YM (by omega) (by omega)
 have hnz:=nat_ne hpos;have hi1:(0≤((n % s.Doors.length:Nat):Int))=True:=eq_true (ZNI _);have hi2:((n % s.Doors.length:Nat):Int).toNat=n % s.Doors.length:=ZMM _;have h00:((0:Int) != 0)=false:=rfl;have k1:(e.Kind != 9)=true:=by rw [hk];rfl
 have k2:(e.Kind != 10)=false:=by rw [hk];rfl
 have k3:(e.Kind==10)=true:=by rw [hk];rfl
 have hap:=JJ s hs a e (JL e c2);cases e6:Qk s a e != 0 with
 | true=>
  generalize Qk s a e=er at hap e6;generalize ZP s a e=t at hap;simp only [stA] at hap;rw [Z5 (f:=6) rfl rfl];simp only [go_sem,qy,qq,qv,qk,c6,hap,e6,hup,hf,he,k1,k2,hz,if_true,ZL8,ZLA,ZLv]
 | false=>
 have h0:Qk s a e=0:=by simpa using e6
 rw [h0] at hap;obtain ⟨p1,p2,p3⟩:=ZbX (ZbV h0).1;have hp:=((Zdb s).1 p1).1;obtain ⟨N,H,hN,hA,hold⟩:=ZKc (ZEF hp) hk h0;obtain ⟨D,D',E,f1,f2,b1,b2,b3,hno,hyes⟩:=ZK5 s a e c1 c2 h0 (ZLe hd) H hN hA (by simp) hold (by have:=congrArg List.length hN;simp only [ZL8,ZMf] at this;omega)
 have sE:=ZF5 false false false false [] [] E E (by simp) (by omega)
 rw [ZIe] at sE;generalize ZP s a e=t at hap f2;have hnl:e.Lst.l.length≤1000:=by
  have:=(JL e c2).lst;omega
 have hid:e.Ids.l.length≤1000:=by
  have:=(JL e c2).ids;omega
 obtain ⟨fa,la,q1,q2,q3,q4,q5,q6⟩:=ZK2 e (.row 7 [stA t]) (.row 2 [ftA false false D E]) (.row 2 [ftA false false D' E]) (.isl false false 1 [.str e.Id]) hnl;have lb:=fun hd k hk n18 h18 x18=>ZK3 (.row 7 [stA t]) (.row 2 [ftA false false D' E]) hd D E b1 e.Ids.ex e.Ids.l hid 1 k hk n18 h18 x18
 simp only [ftA,ZLG] at f1 f2 sE;simp only [ftA,stA] at la;simp only [stA] at hap f1 f2;have wl:=ZJV e.Ids.l D;have hap2:∀ (hd:List AObj) (k n18:Nat) (W:List Str) (x18:Bool),(hd=[.row 1 [],.row 1 [.str e.Id]]∧k=5∧n18=4)∨(∃ z,hd=[.row 1 [],.row 1 z,.row 1 [.str e.Id]]∧k=6∧n18=5)→W.length≤500→
  appW (.row 7 [stA t]::.row 2 [ftA false false D E]::.row 2 [ftA false false D' E]::(hd++[.row 1 (W.map encS)])) false 1 16 (.sl k W.length 0 W.length false) (.sl n18 1 0 1 x18) =
   some (.sl k (W.length+1) 0 (W.length+1) false,.row 7 [stA t]::.row 2 [ftA false false D E]::.row 2 [ftA false false D' E]::(hd++[.row 1 ((W++[e.Id]).map encS)])):=by
  intro hd k n18 W x18 hh hW;rcases hh with ⟨rfl,rfl,rfl⟩ | ⟨z,rfl,rfl,rfl⟩<;>
  ·simp only [ZLd,ZLg];rw [ZK4 (es:=W.map encS) (ys:=[.str e.Id]) (by unfold rowAt;simp only [ZLF,ZLs,ZL8,beq_self_eq_true,cond_true]) (by rfl)
    (by rfl) (by rfl) (by omega) (by omega) (by omega),ZLp]
   simp only [go_sem];rfl
 have htk:∀ W:List Str,((W++[e.Id]).map encS).take (W.length+1)=(W++[e.Id]).map encS:=fun W=>ZLw (by simp)
 have hlen:∀ W:List Str,((W++[e.Id]).map encS).length=W.length+1:=fun W=>by simp
 have hcl:∀ W:List Str,Z4 ((W++[e.Id]).map encS)=true:=fun W=>Zw (fun _=>rfl) _
 have sm:=fun h:D'=D=>(by
  have:=ZF5 false false false false D D' E E (by omega) (by omega)
  rw [h,ZIe] at this;exact this:pfn rE 13 [ftA false false D E,ftA false false D E]=some (.bool true))
 cases z0:e.Lst.l.length==0 with
 | true=>
  unfold ZJP at la;unfold ZJQ at q6;rw [ZL8] at la;rw [z0,cond_true] at la q6;obtain ⟨fb,lb,r1,r2,r3,r4,r5,r6⟩:=lb [.row 1 [],.row 1 [.str e.Id]] 5 (.inl ⟨rfl,_,_,rfl⟩) 4 (by omega) true
  simp only [ZLd,ZLg,ftA,stA] at lb;cases c:D.any (hasB e.Ids.l) with
  | false=>
   rw [c] at r6;have sm:=sm (hno c);have hDD:=hno c;subst hDD;simp only [ftA] at sm;rw [Z5 (f:=6) rfl rfl];simp only [go_sem,qy,qq,qv,qk,reduceIte,ZJT,ZJS,c6,c6L0,c6L1,hap,hup,hf,he,k1,k2,k3,hz,hw,hnz,h00,if_true,Jc,ZL8,ZLA,ZLv,hg,Door.enc,f1,f2,sE,la,q1,q2,q3,q4,q5,q6,lb,r1,r2,r3,r4,r5,r6,sm]
  | true=>
   rw [c] at r6;obtain ⟨g1,g2⟩:=hyes c;generalize ZJO e.Ids.l D=W at *;have hap2:=hap2 [.row 1 [],.row 1 [.str e.Id]] 5 4 W true (.inl ⟨rfl,rfl,rfl⟩) (by omega)
   have hwi:=ZJb false false false false (W++[e.Id]) D' [] E (by simp;omega) (by simp) (by omega) (by omega)
   rw [within_iff.2 ⟨g2,fun x hx=>(by cases hx)⟩] at hwi
   have heq:((D'.length:Int)==((W.length+1:Nat):Int))=true:=by
    rw [g1];simp
   have htk:=htk W;have hlen:=hlen W;have hcl:=hcl W;simp only [ftA,ZLG,stA,ZLd,ZLg] at hap2 hwi;generalize (W++[e.Id]).map encS=Z at *;rw [Z5 (f:=6) rfl rfl];simp only [go_sem,qy,qq,qv,qk,reduceIte,ZJT,ZJS,c6,c6L0,c6L1,hap,hup,hf,he,k1,k2,k3,hz,hw,hnz,h00,if_true,Jc,ZL8,ZLA,ZLv,hg,Door.enc,f1,f2,sE,la,q1,q2,q3,q4,q5,q6,lb,r1,r2,r3,r4,r5,r6,hap2,htk,hlen,hcl,hwi,heq,beq_self_eq_true,ZMc]
 | false=>
  unfold ZJP at la;unfold ZJQ at q6;rw [ZL8] at la;rw [z0,cond_false] at la q6;obtain ⟨fb,lb,r1,r2,r3,r4,r5,r6⟩:=lb [.row 1 [],.row 1 (e.Lst.l.map fun x=>.str x.Id),.row 1 [.str e.Id]] 6 (.inr ⟨rfl,_,_,_,rfl⟩) 5 (by omega) true
  simp only [ZLd,ZLg,ftA,stA] at lb;cases c:D.any (hasB e.Ids.l) with
  | false=>
   rw [c] at r6;have sm:=sm (hno c);have hDD:=hno c;subst hDD;simp only [ftA] at sm;rw [Z5 (f:=6) rfl rfl];simp only [go_sem,qy,qq,qv,qk,reduceIte,ZJT,ZJS,c6,c6L0,c6L1,hap,hup,hf,he,k1,k2,k3,hz,hw,hnz,h00,if_true,Jc,ZL8,ZLA,ZLv,hg,Door.enc,f1,f2,sE,la,q1,q2,q3,q4,q5,q6,lb,r1,r2,r3,r4,r5,r6,sm]
  | true=>
   rw [c] at r6;obtain ⟨g1,g2⟩:=hyes c;generalize ZJO e.Ids.l D=W at *;have hap2:=hap2 [.row 1 [],.row 1 (e.Lst.l.map fun x=>.str x.Id),.row 1 [.str e.Id]] 6 5 W true (.inr ⟨_,rfl,rfl,rfl⟩) (by omega)
   have hwi:=ZJb false false false false (W++[e.Id]) D' [] E (by simp;omega) (by simp) (by omega) (by omega)
   rw [within_iff.2 ⟨g2,fun x hx=>(by cases hx)⟩] at hwi
   have heq:((D'.length:Int)==((W.length+1:Nat):Int))=true:=by
    rw [g1];simp
   have htk:=htk W;have hlen:=hlen W;have hcl:=hcl W;simp only [ftA,ZLG,stA,ZLd,ZLg] at hap2 hwi;generalize (W++[e.Id]).map encS=Z at *;rw [Z5 (f:=6) rfl rfl];simp only [go_sem,qy,qq,qv,qk,reduceIte,ZJT,ZJS,c6,c6L0,c6L1,hap,hup,hf,he,k1,k2,k3,hz,hw,hnz,h00,if_true,Jc,ZL8,ZLA,ZLv,hg,Door.enc,f1,f2,sE,la,q1,q2,q3,q4,q5,q6,lb,r1,r2,r3,r4,r5,r6,hap2,htk,hlen,hcl,hwi,heq,beq_self_eq_true,ZMc]
theorem ZeL (hup:pfn rE 9 []=some (.bool true)) (s:Sta) (a:Int) (e:Event) (n:Nat) (hn:n < 256):pfn rE 6 [stA s,I a,evA e,.int .u8 n]=some (.bool true):=by
 cases h:YQ s&&(Xn e&&((e.Kind==9||e.Kind==10)&&!(s.Doors.length==0))) with
 | false=>exact ZKg hup s a e _ h
 | true=>
  simp only [ZL6,ZLr,ZMm,beq_iff_eq] at h;have h5:(s.Doors.length==0)=false:=by
   cases c:s.Doors.length==0 with
   | false=>rfl
   | true=>exact absurd (eq_of_beq c) (by have:=h.2.2.2;simpa using this)
  rcases h.2.2.1 with hk | hk
  ·exact ZKk hup s a e n hn h.1 h.2.1 hk h5
  ·exact ZKl hup s a e n hn h.1 h.2.1 hk h5
end Go.AM
namespace Go.AM
open Go
structure IsOrg (s:Sta) (id:Str) (D:List Str):Prop where
 ds:D.Pairwise ltS
 dm:∀ x,x∈D↔∃ d∈s.Doors,d.Id=x∧(∀ c∈s.Doors,x ∉ c.After.l)∧Reach s x id
 dl:D.length≤500
end Go.AM
namespace Go.AM
open Go
end Go.AM
namespace Go.AM
open Go
end Go.AM
namespace Go.AM
open Go
def h3 (p q r:AObj) (tl:Hp):Hp:=p::q::r::tl
end Go.AM
namespace Go.AM
open Go
end Go.AM
