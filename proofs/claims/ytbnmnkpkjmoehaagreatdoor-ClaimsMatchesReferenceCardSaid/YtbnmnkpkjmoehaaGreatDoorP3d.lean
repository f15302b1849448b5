/- What the functions of the program compute, part 4, for ClaimsMatchesReference. No condition. -/
import Derived.Test.YtbnmnkpkjmoehaaGreatDoorP3c
set_option linter.unusedVariables false
set_option linter.defProp false
set_option linter.unusedSimpArgs false
set_option linter.unusedSectionVars false
namespace Go.AM
open Go
variable [REdz]
def LsV(v:AV)(l:List Str):Prop:=∃b x,v=.isl b x 1 (l.map encS)
def th0(e:Gt):List Str:=bif kOf [1,3,12] e then [e.Id]else []
def th1(e:Gt):List Str:=bif kOf [3,8,12] e then [e.Id]else bif kOf [4] e then [e.Id,e.bq]else bif kOf [6] e then [e.Text]else []
def th2(e:Gt):List Str:=bif kOf [6] e then [e.bq]else bif kOf [11] e then [e.Id]else []
def th3(e:Gt):List Str:=bif kOf [7] e then [e.bq]else bif kOf [8] e then e.Lst.l.map (·.Id)else bif kOf [9,12] e then [e.Id]else bif kOf [10] e then e.Ids.l else []
def th4(e:Gt):List Str:=bif kOf [12] e then [e.Id]else []
def ThR(e:Gt):Prop:=∃v0 v1 v2 v3 v4,pfn rE 86 [evA e]=some (.agg [v0,v1,v2,v3,v4])/\LsV v0 (th0 e)/\LsV v1 (th1 e)/\LsV v2 (th2 e)/\LsV v3 (th3 e)/\LsV v4 (th4 e)
def ZUT(e:Gt)(hk:e.bp=1):ThR e:=by
 have q1:(e.bp==1)=true:=by rw[hk];rfl
 have q3:(e.bp==3)=false:=by rw[hk];rfl
 have q4:(e.bp==4)=false:=by rw[hk];rfl
 have q6:(e.bp==6)=false:=by rw[hk];rfl
 have q7:(e.bp==7)=false:=by rw[hk];rfl
 have q8:(e.bp==8)=false:=by rw[hk];rfl
 have q9:(e.bp==9)=false:=by rw[hk];rfl
 have q10:(e.bp==10)=false:=by rw[hk];rfl
 have q11:(e.bp==11)=false:=by rw[hk];rfl
 have q12:(e.bp==12)=false:=by rw[hk];rfl
 have z0:((0:Int)<=0/\(0:Int)<((5:Nat):Int))=True:=by simp
 have n0:Int.toNat 0=0:=rfl;have z1:((0:Int)<=1/\(1:Int)<((5:Nat):Int))=True:=by simp
 have n1:Int.toNat 1=1:=rfl;have z2:((0:Int)<=2/\(2:Int)<((5:Nat):Int))=True:=by simp
 have n2:Int.toNat 2=2:=rfl;have z3:((0:Int)<=3/\(3:Int)<((5:Nat):Int))=True:=by simp
 have n3:Int.toNat 3=3:=rfl;have z4:((0:Int)<=4/\(4:Int)<((5:Nat):Int))=True:=by simp
 have n4:Int.toNat 4=4:=rfl;unfold ThR th0 th1 th2 th3 th4 kOf;rw[Z5 (f:=86) rfl rfl];simp only[ZWR,ZWY,q1,q3,q4,q6,q7,q8,q9,q10,q11,q12,ZWp,ZWt,ZWj,ZWl,cond_true,cond_false];refine⟨_,_,_,_,_,by simp only[go_sem,put,c86,q1,q3,q4,q6,q7,q8,q9,q10,q11,q12,z0,n0,z1,n1,z2,n2,z3,n3,z4,n4,ZWd,ZWT,ZWE,ZWr,ZWA,ZX0,if_true,cond_true,cond_false,ZWB,ZWs,ZWp,ZWt,ZWj,ZWl]<;>rfl,⟨_,_,rfl⟩,⟨_,_,rfl⟩,⟨_,_,rfl⟩,⟨_,_,rfl⟩,⟨_,_,rfl⟩⟩
def ZUU(e:Gt)(hk:e.bp=3):ThR e:=by
 have q1:(e.bp==1)=false:=by rw[hk];rfl
 have q3:(e.bp==3)=true:=by rw[hk];rfl
 have q4:(e.bp==4)=false:=by rw[hk];rfl
 have q6:(e.bp==6)=false:=by rw[hk];rfl
 have q7:(e.bp==7)=false:=by rw[hk];rfl
 have q8:(e.bp==8)=false:=by rw[hk];rfl
 have q9:(e.bp==9)=false:=by rw[hk];rfl
 have q10:(e.bp==10)=false:=by rw[hk];rfl
 have q11:(e.bp==11)=false:=by rw[hk];rfl
 have q12:(e.bp==12)=false:=by rw[hk];rfl
 have z0:((0:Int)<=0/\(0:Int)<((5:Nat):Int))=True:=by simp
 have n0:Int.toNat 0=0:=rfl;have z1:((0:Int)<=1/\(1:Int)<((5:Nat):Int))=True:=by simp
 have n1:Int.toNat 1=1:=rfl;have z2:((0:Int)<=2/\(2:Int)<((5:Nat):Int))=True:=by simp
 have n2:Int.toNat 2=2:=rfl;have z3:((0:Int)<=3/\(3:Int)<((5:Nat):Int))=True:=by simp
 have n3:Int.toNat 3=3:=rfl;have z4:((0:Int)<=4/\(4:Int)<((5:Nat):Int))=True:=by simp
 have n4:Int.toNat 4=4:=rfl;unfold ThR th0 th1 th2 th3 th4 kOf;rw[Z5 (f:=86) rfl rfl];simp only[ZWR,ZWY,q1,q3,q4,q6,q7,q8,q9,q10,q11,q12,ZWp,ZWt,ZWj,ZWl,cond_true,cond_false];refine⟨_,_,_,_,_,by simp only[go_sem,put,c86,q1,q3,q4,q6,q7,q8,q9,q10,q11,q12,z0,n0,z1,n1,z2,n2,z3,n3,z4,n4,ZWd,ZWT,ZWE,ZWr,ZWA,ZX0,if_true,cond_true,cond_false,ZWB,ZWs,ZWp,ZWt,ZWj,ZWl]<;>rfl,⟨_,_,rfl⟩,⟨_,_,rfl⟩,⟨_,_,rfl⟩,⟨_,_,rfl⟩,⟨_,_,rfl⟩⟩
def ZUV(e:Gt)(hk:e.bp=4):ThR e:=by
 have q1:(e.bp==1)=false:=by rw[hk];rfl
 have q3:(e.bp==3)=false:=by rw[hk];rfl
 have q4:(e.bp==4)=true:=by rw[hk];rfl
 have q6:(e.bp==6)=false:=by rw[hk];rfl
 have q7:(e.bp==7)=false:=by rw[hk];rfl
 have q8:(e.bp==8)=false:=by rw[hk];rfl
 have q9:(e.bp==9)=false:=by rw[hk];rfl
 have q10:(e.bp==10)=false:=by rw[hk];rfl
 have q11:(e.bp==11)=false:=by rw[hk];rfl
 have q12:(e.bp==12)=false:=by rw[hk];rfl
 have z0:((0:Int)<=0/\(0:Int)<((5:Nat):Int))=True:=by simp
 have n0:Int.toNat 0=0:=rfl;have z1:((0:Int)<=1/\(1:Int)<((5:Nat):Int))=True:=by simp
 have n1:Int.toNat 1=1:=rfl;have z2:((0:Int)<=2/\(2:Int)<((5:Nat):Int))=True:=by simp
 have n2:Int.toNat 2=2:=rfl;have z3:((0:Int)<=3/\(3:Int)<((5:Nat):Int))=True:=by simp
 have n3:Int.toNat 3=3:=rfl;have z4:((0:Int)<=4/\(4:Int)<((5:Nat):Int))=True:=by simp
 have n4:Int.toNat 4=4:=rfl;unfold ThR th0 th1 th2 th3 th4 kOf;rw[Z5 (f:=86) rfl rfl];simp only[ZWR,ZWY,q1,q3,q4,q6,q7,q8,q9,q10,q11,q12,ZWp,ZWt,ZWj,ZWl,cond_true,cond_false];refine⟨_,_,_,_,_,by simp only[go_sem,put,c86,q1,q3,q4,q6,q7,q8,q9,q10,q11,q12,z0,n0,z1,n1,z2,n2,z3,n3,z4,n4,ZWd,ZWT,ZWE,ZWr,ZWA,ZX0,if_true,cond_true,cond_false,ZWB,ZWs,ZWp,ZWt,ZWj,ZWl]<;>rfl,⟨_,_,rfl⟩,⟨_,_,rfl⟩,⟨_,_,rfl⟩,⟨_,_,rfl⟩,⟨_,_,rfl⟩⟩
def ZUW(e:Gt)(hk:e.bp=6):ThR e:=by
 have q1:(e.bp==1)=false:=by rw[hk];rfl
 have q3:(e.bp==3)=false:=by rw[hk];rfl
 have q4:(e.bp==4)=false:=by rw[hk];rfl
 have q6:(e.bp==6)=true:=by rw[hk];rfl
 have q7:(e.bp==7)=false:=by rw[hk];rfl
 have q8:(e.bp==8)=false:=by rw[hk];rfl
 have q9:(e.bp==9)=false:=by rw[hk];rfl
 have q10:(e.bp==10)=false:=by rw[hk];rfl
 have q11:(e.bp==11)=false:=by rw[hk];rfl
 have q12:(e.bp==12)=false:=by rw[hk];rfl
 have z0:((0:Int)<=0/\(0:Int)<((5:Nat):Int))=True:=by simp
 have n0:Int.toNat 0=0:=rfl;have z1:((0:Int)<=1/\(1:Int)<((5:Nat):Int))=True:=by simp
 have n1:Int.toNat 1=1:=rfl;have z2:((0:Int)<=2/\(2:Int)<((5:Nat):Int))=True:=by simp
 have n2:Int.toNat 2=2:=rfl;have z3:((0:Int)<=3/\(3:Int)<((5:Nat):Int))=True:=by simp
 have n3:Int.toNat 3=3:=rfl;have z4:((0:Int)<=4/\(4:Int)<((5:Nat):Int))=True:=by simp
 have n4:Int.toNat 4=4:=rfl;unfold ThR th0 th1 th2 th3 th4 kOf;rw[Z5 (f:=86) rfl rfl];simp only[ZWR,ZWY,q1,q3,q4,q6,q7,q8,q9,q10,q11,q12,ZWp,ZWt,ZWj,ZWl,cond_true,cond_false];refine⟨_,_,_,_,_,by simp only[go_sem,put,c86,q1,q3,q4,q6,q7,q8,q9,q10,q11,q12,z0,n0,z1,n1,z2,n2,z3,n3,z4,n4,ZWd,ZWT,ZWE,ZWr,ZWA,ZX0,if_true,cond_true,cond_false,ZWB,ZWs,ZWp,ZWt,ZWj,ZWl]<;>rfl,⟨_,_,rfl⟩,⟨_,_,rfl⟩,⟨_,_,rfl⟩,⟨_,_,rfl⟩,⟨_,_,rfl⟩⟩
def ZUX(e:Gt)(hk:e.bp=7):ThR e:=by
 have q1:(e.bp==1)=false:=by rw[hk];rfl
 have q3:(e.bp==3)=false:=by rw[hk];rfl
 have q4:(e.bp==4)=false:=by rw[hk];rfl
 have q6:(e.bp==6)=false:=by rw[hk];rfl
 have q7:(e.bp==7)=true:=by rw[hk];rfl
 have q8:(e.bp==8)=false:=by rw[hk];rfl
 have q9:(e.bp==9)=false:=by rw[hk];rfl
 have q10:(e.bp==10)=false:=by rw[hk];rfl
 have q11:(e.bp==11)=false:=by rw[hk];rfl
 have q12:(e.bp==12)=false:=by rw[hk];rfl
 have z0:((0:Int)<=0/\(0:Int)<((5:Nat):Int))=True:=by simp
 have n0:Int.toNat 0=0:=rfl;have z1:((0:Int)<=1/\(1:Int)<((5:Nat):Int))=True:=by simp
 have n1:Int.toNat 1=1:=rfl;have z2:((0:Int)<=2/\(2:Int)<((5:Nat):Int))=True:=by simp
 have n2:Int.toNat 2=2:=rfl;have z3:((0:Int)<=3/\(3:Int)<((5:Nat):Int))=True:=by simp
 have n3:Int.toNat 3=3:=rfl;have z4:((0:Int)<=4/\(4:Int)<((5:Nat):Int))=True:=by simp
 have n4:Int.toNat 4=4:=rfl;unfold ThR th0 th1 th2 th3 th4 kOf;rw[Z5 (f:=86) rfl rfl];simp only[ZWR,ZWY,q1,q3,q4,q6,q7,q8,q9,q10,q11,q12,ZWp,ZWt,ZWj,ZWl,cond_true,cond_false];refine⟨_,_,_,_,_,by simp only[go_sem,put,c86,q1,q3,q4,q6,q7,q8,q9,q10,q11,q12,z0,n0,z1,n1,z2,n2,z3,n3,z4,n4,ZWd,ZWT,ZWE,ZWr,ZWA,ZX0,if_true,cond_true,cond_false,ZWB,ZWs,ZWp,ZWt,ZWj,ZWl]<;>rfl,⟨_,_,rfl⟩,⟨_,_,rfl⟩,⟨_,_,rfl⟩,⟨_,_,rfl⟩,⟨_,_,rfl⟩⟩
def ZUY(e:Gt)(hk:e.bp=9):ThR e:=by
 have q1:(e.bp==1)=false:=by rw[hk];rfl
 have q3:(e.bp==3)=false:=by rw[hk];rfl
 have q4:(e.bp==4)=false:=by rw[hk];rfl
 have q6:(e.bp==6)=false:=by rw[hk];rfl
 have q7:(e.bp==7)=false:=by rw[hk];rfl
 have q8:(e.bp==8)=false:=by rw[hk];rfl
 have q9:(e.bp==9)=true:=by rw[hk];rfl
 have q10:(e.bp==10)=false:=by rw[hk];rfl
 have q11:(e.bp==11)=false:=by rw[hk];rfl
 have q12:(e.bp==12)=false:=by rw[hk];rfl
 have z0:((0:Int)<=0/\(0:Int)<((5:Nat):Int))=True:=by simp
 have n0:Int.toNat 0=0:=rfl;have z1:((0:Int)<=1/\(1:Int)<((5:Nat):Int))=True:=by simp
 have n1:Int.toNat 1=1:=rfl;have z2:((0:Int)<=2/\(2:Int)<((5:Nat):Int))=True:=by simp
 have n2:Int.toNat 2=2:=rfl;have z3:((0:Int)<=3/\(3:Int)<((5:Nat):Int))=True:=by simp
 have n3:Int.toNat 3=3:=rfl;have z4:((0:Int)<=4/\(4:Int)<((5:Nat):Int))=True:=by simp
 have n4:Int.toNat 4=4:=rfl;unfold ThR th0 th1 th2 th3 th4 kOf;rw[Z5 (f:=86) rfl rfl];simp only[ZWR,ZWY,q1,q3,q4,q6,q7,q8,q9,q10,q11,q12,ZWp,ZWt,ZWj,ZWl,cond_true,cond_false];refine⟨_,_,_,_,_,by simp only[go_sem,put,c86,q1,q3,q4,q6,q7,q8,q9,q10,q11,q12,z0,n0,z1,n1,z2,n2,z3,n3,z4,n4,ZWd,ZWT,ZWE,ZWr,ZWA,ZX0,if_true,cond_true,cond_false,ZWB,ZWs,ZWp,ZWt,ZWj,ZWl]<;>rfl,⟨_,_,rfl⟩,⟨_,_,rfl⟩,⟨_,_,rfl⟩,⟨_,_,rfl⟩,⟨_,_,rfl⟩⟩
def ZUZ(e:Gt)(hk:e.bp=10):ThR e:=by
 have q1:(e.bp==1)=false:=by rw[hk];rfl
 have q3:(e.bp==3)=false:=by rw[hk];rfl
 have q4:(e.bp==4)=false:=by rw[hk];rfl
 have q6:(e.bp==6)=false:=by rw[hk];rfl
 have q7:(e.bp==7)=false:=by rw[hk];rfl
 have q8:(e.bp==8)=false:=by rw[hk];rfl
 have q9:(e.bp==9)=false:=by rw[hk];rfl
 have q10:(e.bp==10)=true:=by rw[hk];rfl
 have q11:(e.bp==11)=false:=by rw[hk];rfl
 have q12:(e.bp==12)=false:=by rw[hk];rfl
 have z0:((0:Int)<=0/\(0:Int)<((5:Nat):Int))=True:=by simp
 have n0:Int.toNat 0=0:=rfl;have z1:((0:Int)<=1/\(1:Int)<((5:Nat):Int))=True:=by simp
 have n1:Int.toNat 1=1:=rfl;have z2:((0:Int)<=2/\(2:Int)<((5:Nat):Int))=True:=by simp
 have n2:Int.toNat 2=2:=rfl;have z3:((0:Int)<=3/\(3:Int)<((5:Nat):Int))=True:=by simp
 have n3:Int.toNat 3=3:=rfl;have z4:((0:Int)<=4/\(4:Int)<((5:Nat):Int))=True:=by simp
 have n4:Int.toNat 4=4:=rfl;unfold ThR th0 th1 th2 th3 th4 kOf;rw[Z5 (f:=86) rfl rfl];simp only[ZWR,ZWY,q1,q3,q4,q6,q7,q8,q9,q10,q11,q12,ZWp,ZWt,ZWj,ZWl,cond_true,cond_false];refine⟨_,_,_,_,_,by simp only[go_sem,put,c86,q1,q3,q4,q6,q7,q8,q9,q10,q11,q12,z0,n0,z1,n1,z2,n2,z3,n3,z4,n4,ZWd,ZWT,ZWE,ZWr,ZWA,ZX0,if_true,cond_true,cond_false,ZWB,ZWs,ZWp,ZWt,ZWj,ZWl]<;>rfl,⟨_,_,rfl⟩,⟨_,_,rfl⟩,⟨_,_,rfl⟩,⟨_,_,rfl⟩,⟨_,_,rfl⟩⟩
def ZV0(e:Gt)(hk:e.bp=11):ThR e:=by
 have q1:(e.bp==1)=false:=by rw[hk];rfl
 have q3:(e.bp==3)=false:=by rw[hk];rfl
 have q4:(e.bp==4)=false:=by rw[hk];rfl
 have q6:(e.bp==6)=false:=by rw[hk];rfl
 have q7:(e.bp==7)=false:=by rw[hk];rfl
 have q8:(e.bp==8)=false:=by rw[hk];rfl
 have q9:(e.bp==9)=false:=by rw[hk];rfl
 have q10:(e.bp==10)=false:=by rw[hk];rfl
 have q11:(e.bp==11)=true:=by rw[hk];rfl
 have q12:(e.bp==12)=false:=by rw[hk];rfl
 have z0:((0:Int)<=0/\(0:Int)<((5:Nat):Int))=True:=by simp
 have n0:Int.toNat 0=0:=rfl;have z1:((0:Int)<=1/\(1:Int)<((5:Nat):Int))=True:=by simp
 have n1:Int.toNat 1=1:=rfl;have z2:((0:Int)<=2/\(2:Int)<((5:Nat):Int))=True:=by simp
 have n2:Int.toNat 2=2:=rfl;have z3:((0:Int)<=3/\(3:Int)<((5:Nat):Int))=True:=by simp
 have n3:Int.toNat 3=3:=rfl;have z4:((0:Int)<=4/\(4:Int)<((5:Nat):Int))=True:=by simp
 have n4:Int.toNat 4=4:=rfl;unfold ThR th0 th1 th2 th3 th4 kOf;rw[Z5 (f:=86) rfl rfl];simp only[ZWR,ZWY,q1,q3,q4,q6,q7,q8,q9,q10,q11,q12,ZWp,ZWt,ZWj,ZWl,cond_true,cond_false];refine⟨_,_,_,_,_,by simp only[go_sem,put,c86,q1,q3,q4,q6,q7,q8,q9,q10,q11,q12,z0,n0,z1,n1,z2,n2,z3,n3,z4,n4,ZWd,ZWT,ZWE,ZWr,ZWA,ZX0,if_true,cond_true,cond_false,ZWB,ZWs,ZWp,ZWt,ZWj,ZWl]<;>rfl,⟨_,_,rfl⟩,⟨_,_,rfl⟩,⟨_,_,rfl⟩,⟨_,_,rfl⟩,⟨_,_,rfl⟩⟩
def ZV1(e:Gt)(hk:e.bp=12):ThR e:=by
 have q1:(e.bp==1)=false:=by rw[hk];rfl
 have q3:(e.bp==3)=false:=by rw[hk];rfl
 have q4:(e.bp==4)=false:=by rw[hk];rfl
 have q6:(e.bp==6)=false:=by rw[hk];rfl
 have q7:(e.bp==7)=false:=by rw[hk];rfl
 have q8:(e.bp==8)=false:=by rw[hk];rfl
 have q9:(e.bp==9)=false:=by rw[hk];rfl
 have q10:(e.bp==10)=false:=by rw[hk];rfl
 have q11:(e.bp==11)=false:=by rw[hk];rfl
 have q12:(e.bp==12)=true:=by rw[hk];rfl
 have z0:((0:Int)<=0/\(0:Int)<((5:Nat):Int))=True:=by simp
 have n0:Int.toNat 0=0:=rfl;have z1:((0:Int)<=1/\(1:Int)<((5:Nat):Int))=True:=by simp
 have n1:Int.toNat 1=1:=rfl;have z2:((0:Int)<=2/\(2:Int)<((5:Nat):Int))=True:=by simp
 have n2:Int.toNat 2=2:=rfl;have z3:((0:Int)<=3/\(3:Int)<((5:Nat):Int))=True:=by simp
 have n3:Int.toNat 3=3:=rfl;have z4:((0:Int)<=4/\(4:Int)<((5:Nat):Int))=True:=by simp
 have n4:Int.toNat 4=4:=rfl;unfold ThR th0 th1 th2 th3 th4 kOf;rw[Z5 (f:=86) rfl rfl];simp only[ZWR,ZWY,q1,q3,q4,q6,q7,q8,q9,q10,q11,q12,ZWp,ZWt,ZWj,ZWl,cond_true,cond_false];refine⟨_,_,_,_,_,by simp only[go_sem,put,c86,q1,q3,q4,q6,q7,q8,q9,q10,q11,q12,z0,n0,z1,n1,z2,n2,z3,n3,z4,n4,ZWd,ZWT,ZWE,ZWr,ZWA,ZX0,if_true,cond_true,cond_false,ZWB,ZWs,ZWp,ZWt,ZWj,ZWl]<;>rfl,⟨_,_,rfl⟩,⟨_,_,rfl⟩,⟨_,_,rfl⟩,⟨_,_,rfl⟩,⟨_,_,rfl⟩⟩
abbrev thE:AV:=.isl false false 1 []
def ZV2(e:Gt)(hl:e.Lst.l.length<=1000):∃fr',Zg rE [1,2,3,4] c86L0b [(1,evI e),(2,.ptr 0 0 0 1),(3,.ptr 2 0 0 1),(4,.int .i64 0)] [.row 5 [.agg [thE,thE,thE,thE,thE]],.row 1 [],.row 5 [.agg [thE,.sl 3 1 0 1 true,thE,.sl 1 0 0 0 false,thE]],.row 1 [.str e.Id]] =
 some (.exit 1,fr',[.row 5 [.agg [thE,thE,thE,thE,thE]],.row 1 ((e.Lst.l.map (·.Id)).map encS),.row 5 [.agg [thE,.sl 3 1 0 1 true,thE,.sl 1 e.Lst.l.length 0 e.Lst.l.length false,thE]],.row 1 [.str e.Id]])/\get fr' 2=.ptr 0 0 0 1/\get fr' 3=.ptr 2 0 0 1:=by
 have hbS:∀(D:List Str)n,Zd n (D.map encS)=true:=λD n=>ZN _<|Zw (λt=>rfl) D
 have z3:((0:Int)<=3/\(3:Int)<((5:Nat):Int))=True:=by simp
 have n3:Int.toNat 3=3:=rfl;have L:=Y8 (E:=rE) (live:=[1,2,3,4]) (b:=c86L0b) e.Lst.l.length (λi=>[(1,evI e),(2,.ptr 0 0 0 1),(3,.ptr 2 0 0 1),(4,I i)])
  (λi=>[.row 5 [.agg [thE,thE,thE,thE,thE]],.row 1 (((e.Lst.l.take i).map (·.Id)).map encS),.row 5 [.agg [thE,.sl 3 1 0 1 true,thE,.sl 1 i 0 i false,thE]],.row 1 [.str e.Id]]) (λi=>rfl)
  (λi hi=>by
   obtain⟨x,hx⟩:∃x,e.Lst.l[i]?=some x:=⟨_,ZWq hi⟩;have hlen:(e.Lst.l.take i).length=i:=by rw[ZWS];omega
   have hg:=Z6 (f:=Ent.enc) hx;have hi':=Zh hi;have hwr:=Zx (n:=i)<|by omega
   have htk:(e.Lst.l.take<|i+1).map (·.Id)=(e.Lst.l.take i).map (·.Id)++[x.Id]:=by
    rw[ZX9,hx,ZWC];rfl
   have ha:=λ(q r u:AObj)=>XC (h:=[q,.row 1 (((e.Lst.l.take i).map (·.Id)).map encS),r,u]) (fz:=false) (b:=1) (g:=i) (sz:=1) (bytes:=16) (es:=((e.Lst.l.take i).map (·.Id)).map encS) (bw:=false) (ex:=false) (ys:=[.str x.Id]) (by show(bif (((e.Lst.l.take i).map (·.Id)).map encS).length==i then _ else none)=_;rw[ZWd,ZWd,hlen,beq_self_eq_true];rfl) rfl rfl (by decide) (by decide) (by simp;omega)
   have hma:((e.Lst.l.take i).map (·.Id)++[x.Id]).map encS=((e.Lst.l.take i).map (·.Id)).map encS++[.str x.Id]:=by rw[ZWC];rfl
   rw[htk,hma];have hb1:=hbS ((e.Lst.l.take i).map (·.Id));have hb2:∀n,Zd n (((e.Lst.l.take i).map (·.Id)).map encS++[.str x.Id])=true:=λn=>by rw[<-hma];exact hbS _ n
   generalize((e.Lst.l.take i).map (·.Id)).map encS=es at*;refine⟨_,by simp only[go_sem,c86L0b,hg,hi',hwr,ha,hb1,hb2,z3,n3,Ent.enc,ZWd,ZWE,ZWA,ZX0,if_true,ZWr]<;>rfl,?_⟩
   simp only[go_sem])
  (e:=.exit 1) (by
   have hb1:=hbS (e.Lst.l.map (·.Id));rw[ZWL];simp only[go_sem,c86L0b,ZG,hb1,ZWd];rfl) (by simp)
 refine⟨_,L,?_,?_⟩<;>simp only[go_sem]
def ZV3(e:Gt)(hl:e.Lst.l.length<=1000)(hk:e.bp=8):ThR e:=by
 have q1:(e.bp==1)=false:=by rw[hk];rfl
 have q3:(e.bp==3)=false:=by rw[hk];rfl
 have q4:(e.bp==4)=false:=by rw[hk];rfl
 have q6:(e.bp==6)=false:=by rw[hk];rfl
 have q7:(e.bp==7)=false:=by rw[hk];rfl
 have q8:(e.bp==8)=true:=by rw[hk];rfl
 have q9:(e.bp==9)=false:=by rw[hk];rfl
 have q10:(e.bp==10)=false:=by rw[hk];rfl
 have q11:(e.bp==11)=false:=by rw[hk];rfl
 have q12:(e.bp==12)=false:=by rw[hk];rfl
 have z0:((0:Int)<=0/\(0:Int)<((5:Nat):Int))=True:=by simp
 have n0:Int.toNat 0=0:=rfl;have z1:((0:Int)<=1/\(1:Int)<((5:Nat):Int))=True:=by simp
 have n1:Int.toNat 1=1:=rfl;have z2:((0:Int)<=2/\(2:Int)<((5:Nat):Int))=True:=by simp
 have n2:Int.toNat 2=2:=rfl;have z3:((0:Int)<=3/\(3:Int)<((5:Nat):Int))=True:=by simp
 have n3:Int.toNat 3=3:=rfl;have z4:((0:Int)<=4/\(4:Int)<((5:Nat):Int))=True:=by simp
 have n4:Int.toNat 4=4:=rfl;unfold ThR th0 th1 th2 th3 th4 kOf;obtain⟨fr',h1,g2,g3⟩:=ZV2 e hl;have hbS:∀(D:List Str)n,Zd n (D.map encS)=true:=λD n=>ZN _<|Zw (λt=>rfl) D
 have hcS:∀D:List Str,Z4 (D.map encS)=true:=λD=>Zw (λt=>rfl) _
 have htk:List.take e.Lst.l.length ((e.Lst.l.map (λx:Ent=>x.Id)).map encS)=(e.Lst.l.map (λx:Ent=>x.Id)).map encS:=ZWP<|by simp
 rw[Z5 (f:=86) rfl rfl];simp only[ZWR,ZWY,q1,q3,q4,q6,q7,q8,q9,q10,q11,q12,ZWp,ZWt,ZWj,ZWl,cond_true,cond_false];refine⟨_,_,_,_,_,by simp only[go_sem,put,c86,c86L0,q1,q3,q4,q6,q7,q8,q9,q10,q11,q12,z0,n0,z1,n1,z2,n2,z3,n3,z4,n4,h1,g2,g3,hbS,hcS,htk,beq_self_eq_true,ZWd,ZWT,ZWE,ZWr,ZWA,ZX0,if_true,cond_true,cond_false,ZWB,ZWs,ZWp,ZWt,ZWj,ZWl]<;>rfl,⟨_,_,rfl⟩,⟨_,_,rfl⟩,⟨_,_,rfl⟩,⟨_,_,rfl⟩,⟨_,_,rfl⟩⟩
def ZV4(e:Gt)(hl:e.Lst.l.length<=1000):ThR e:=by
 by_cases h1:e.bp=1
 .exact ZUT e h1
 by_cases h3:e.bp=3
 .exact ZUU e h3
 by_cases h4:e.bp=4
 .exact ZUV e h4
 by_cases h6:e.bp=6
 .exact ZUW e h6
 by_cases h7:e.bp=7
 .exact ZUX e h7
 by_cases h8:e.bp=8
 .exact ZV3 e hl h8
 by_cases h9:e.bp=9
 .exact ZUY e h9
 by_cases h10:e.bp=10
 .exact ZUZ e h10
 by_cases h11:e.bp=11
 .exact ZV0 e h11
 by_cases h12:e.bp=12
 .exact ZV1 e h12
 have q1:(e.bp==1)=false:=by rw[beq_eq_false_iff_ne];exact h1
 have q3:(e.bp==3)=false:=by rw[beq_eq_false_iff_ne];exact h3
 have q4:(e.bp==4)=false:=by rw[beq_eq_false_iff_ne];exact h4
 have q6:(e.bp==6)=false:=by rw[beq_eq_false_iff_ne];exact h6
 have q7:(e.bp==7)=false:=by rw[beq_eq_false_iff_ne];exact h7
 have q8:(e.bp==8)=false:=by rw[beq_eq_false_iff_ne];exact h8
 have q9:(e.bp==9)=false:=by rw[beq_eq_false_iff_ne];exact h9
 have q10:(e.bp==10)=false:=by rw[beq_eq_false_iff_ne];exact h10
 have q11:(e.bp==11)=false:=by rw[beq_eq_false_iff_ne];exact h11
 have q12:(e.bp==12)=false:=by rw[beq_eq_false_iff_ne];exact h12
 have z0:((0:Int)<=0/\(0:Int)<((5:Nat):Int))=True:=by simp
 have n0:Int.toNat 0=0:=rfl;have z1:((0:Int)<=1/\(1:Int)<((5:Nat):Int))=True:=by simp
 have n1:Int.toNat 1=1:=rfl;have z2:((0:Int)<=2/\(2:Int)<((5:Nat):Int))=True:=by simp
 have n2:Int.toNat 2=2:=rfl;have z3:((0:Int)<=3/\(3:Int)<((5:Nat):Int))=True:=by simp
 have n3:Int.toNat 3=3:=rfl;have z4:((0:Int)<=4/\(4:Int)<((5:Nat):Int))=True:=by simp
 have n4:Int.toNat 4=4:=rfl;unfold ThR th0 th1 th2 th3 th4 kOf;rw[Z5 (f:=86) rfl rfl];simp only[ZWR,ZWY,q1,q3,q4,q6,q7,q8,q9,q10,q11,q12,ZWp,ZWt,ZWj,ZWl,cond_true,cond_false];refine⟨_,_,_,_,_,by simp only[go_sem,put,c86,q1,q3,q4,q6,q7,q8,q9,q10,q11,q12,z0,n0,z1,n1,z2,n2,z3,n3,z4,n4,ZWd,ZWT,ZWE,ZWr,ZWA,ZX0,if_true,cond_true,cond_false,ZWB,ZWs,ZWp,ZWt,ZWj,ZWl]<;>rfl,⟨_,_,rfl⟩,⟨_,_,rfl⟩,⟨_,_,rfl⟩,⟨_,_,rfl⟩,⟨_,_,rfl⟩⟩
abbrev tv(p:Bool×Bool×List Str):AV:=.isl p.1 p.2.1 1<|p.2.2.map encS
def ZO3(l:List Str)(id:Str):Bool:=l.any<|λy=>Z3 y id
section
variable (s:Sta) (hE:StE s) (p0 p1 p2 p3 p4:Bool×Bool×List Str) (D:List Int) (hD:D.length≤10000)
include hE hD
abbrev ZOd(p0 p1 p2 p3 p4:Bool×Bool×List Str)(D:List Int):Hp:=[.row 1<|D.map I,.row 5 [.agg [tv p0,tv p1,tv p2,tv p3,tv p4]]]
def oz0(l:List Str)(r:List Gm):List Int:=(r.filter<|λx=>ZO3 l x.Id).map (·.bg)
def ZV5(hl:p0.2.2.length<=1000000):∃fr',Zg rE [2,5,6,7] c37L0b [(2,stI s),(5,.sl 0 D.length 0 D.length false),(6,.ptr 1 0 0 1),(7,.int .i64 0)] (ZOd p0 p1 p2 p3 p4 D) =
 some (.exit 0,fr',ZOd p0 p1 p2 p3 p4<|D++oz0 p0.2.2 s.Ga)/\get fr' 2=stI s/\get fr' 5=.sl 0 (D++oz0 p0.2.2 s.Ga).length 0 (D++oz0 p0.2.2 s.Ga).length false/\get fr' 6=.ptr 1 0 0 1:=by
 have hbI:∀(D:List Int)n,Zd n (D.map I)=true:=λD n=>ZN _<|Zw (λt=>rfl) D
 have hcS:∀D:List Str,Z4 (D.map encS)=true:=λD=>Zw (λt=>rfl) _
 have hbS:∀(D:List Str)n,Zd n (D.map encS)=true:=λD n=>ZN _<|hcS D
 have zz:((0:Int)<=0/\(0:Int)<((5:Nat):Int))=True:=by simp
 have nn:Int.toNat 0=0:=rfl;have hL:=hE.sizes.regions;have len:∀i,(oz0 p0.2.2<|s.Ga.take i).length<=s.Ga.length:=λi=>by
  unfold oz0;rw[ZWd];exact ZWW (ZXi _ _)<|by rw[ZWS];omega
 have L:=Y8 (E:=rE) (live:=[2,5,6,7]) (b:=c37L0b) s.Ga.length (λi=>[(2,stI s),(5,.sl 0 (D++oz0 p0.2.2 (s.Ga.take i)).length 0 (D++oz0 p0.2.2 (s.Ga.take i)).length false),(6,.ptr 1 0 0 1),(7,I i)])
  (λi=>ZOd p0 p1 p2 p3 p4<|D++oz0 p0.2.2 (s.Ga.take i)) (λi=>rfl)
  (λi hi=>by
   obtain⟨x,hx⟩:∃x,s.Ga[i]?=some x:=⟨_,ZWq hi⟩;have hg:=Z6 (f:=Gm.enc) hx;have hi':=Zh hi;have hwr:=Zx (n:=i)<|by omega
   have htk:D++oz0 p0.2.2 (s.Ga.take<|i+1)=(D++oz0 p0.2.2 (s.Ga.take i))++bif ZO3 p0.2.2 x.Id then [x.bg]else []:=by
    unfold oz0;rw[ZX9,hx,ZXG,ZWC,<-ZWU];cases h:ZO3 p0.2.2 x.Id<;>simp[h]
   have hh:=ZPB p0.1 p0.2.1 p0.2.2 hl x.Id;rw[htk];have hlen:(D++oz0 p0.2.2 (s.Ga.take i)).length<=11000:=by rw[ZWx];have:=len i;omega
   generalize D++oz0 p0.2.2 (s.Ga.take i)=es at*;have ha:=λ(q:AObj)=>XC (h:=[.row 1<|es.map I,q]) (fz:=false) (b:=0) (g:=es.length) (sz:=1) (bytes:=8) (es:=es.map I) (bw:=false) (ex:=false) (ys:=[I x.bg]) (by show(bif (es.map I).length==es.length then _ else none)=_;rw[ZWd,beq_self_eq_true];rfl) rfl rfl (by decide) (by decide) (by simp;omega)
   have hma:(es++[x.bg]).map I=es.map I++[I x.bg]:=by rw[ZWC];rfl
   have hb1:=hbI es;have hb2:∀n,Zd n (es.map I++[I x.bg])=true:=λn=>by rw[<-hma];exact hbI _ n
   change pfn rE 87 _=some (.bool<|ZO3 p0.2.2 x.Id)at hh;cases k:ZO3 p0.2.2 x.Id with
   |false=>rw[k]at hh;exact⟨_,by simp only[go_sem,c37L0b,stI,hg,hi',hwr,hb1,hbS,hcS,zz,nn,hh,Gm.enc,NL.enc,ZWd,ZWT,ZWE,ZWA,ZX0,if_true,cond_false,ZWG];rfl,by simp only[go_sem,stI,cond_false,ZWG]⟩
   |true=>rw[k]at hh;exact⟨_,by simp only[go_sem,c37L0b,stI,hg,hi',hwr,hb1,hb2,hbS,hcS,zz,nn,hh,ha,Gm.enc,NL.enc,ZWd,ZWT,ZWE,ZWA,ZX0,if_true,cond_true,hma,ZOd];rfl,by simp only[go_sem,stI,cond_true,ZWx,ZWJ,ZWN]⟩)
  (e:=.exit 0) (by
   have hb1:=hbI<|D++oz0 p0.2.2 s.Ga;rw[ZWL];simp only[go_sem,c37L0b,stI,ZG,hb1,hbS,ZWd];rfl) (by simp)
 simp only[ZYm]at L;rw[show oz0 p0.2.2 []=[]from rfl,ZWG]at L
 refine⟨_,L,?_,?_,?_⟩<;>simp only[go_sem,stI]
def oz1(l:List Str)(r:List Ev):List Int:=(r.filter<|λx=>ZO3 l x.Id).map (·.bg)
def ZV6(hl:p1.2.2.length<=1000000):∃fr',Zg rE [2,5,6,8] c37L1b [(2,stI s),(5,.sl 0 D.length 0 D.length false),(6,.ptr 1 0 0 1),(8,.int .i64 0)] (ZOd p0 p1 p2 p3 p4 D) =
 some (.exit 2,fr',ZOd p0 p1 p2 p3 p4<|D++oz1 p1.2.2 s.Gr)/\get fr' 2=stI s/\get fr' 5=.sl 0 (D++oz1 p1.2.2 s.Gr).length 0 (D++oz1 p1.2.2 s.Gr).length false/\get fr' 6=.ptr 1 0 0 1:=by
 have hbI:∀(D:List Int)n,Zd n (D.map I)=true:=λD n=>ZN _<|Zw (λt=>rfl) D
 have hcS:∀D:List Str,Z4 (D.map encS)=true:=λD=>Zw (λt=>rfl) _
 have hbS:∀(D:List Str)n,Zd n (D.map encS)=true:=λD n=>ZN _<|hcS D
 have zz:((0:Int)<=1/\(1:Int)<((5:Nat):Int))=True:=by simp
 have nn:Int.toNat 1=1:=rfl;have hL:=hE.sizes.streets;have len:∀i,(oz1 p1.2.2<|s.Gr.take i).length<=s.Gr.length:=λi=>by
  unfold oz1;rw[ZWd];exact ZWW (ZXi _ _)<|by rw[ZWS];omega
 have L:=Y8 (E:=rE) (live:=[2,5,6,8]) (b:=c37L1b) s.Gr.length (λi=>[(2,stI s),(5,.sl 0 (D++oz1 p1.2.2 (s.Gr.take i)).length 0 (D++oz1 p1.2.2 (s.Gr.take i)).length false),(6,.ptr 1 0 0 1),(8,I i)])
  (λi=>ZOd p0 p1 p2 p3 p4<|D++oz1 p1.2.2 (s.Gr.take i)) (λi=>rfl)
  (λi hi=>by
   obtain⟨x,hx⟩:∃x,s.Gr[i]?=some x:=⟨_,ZWq hi⟩;have hg:=Z6 (f:=Ev.enc) hx;have hi':=Zh hi;have hwr:=Zx (n:=i)<|by omega
   have htk:D++oz1 p1.2.2 (s.Gr.take<|i+1)=(D++oz1 p1.2.2 (s.Gr.take i))++bif ZO3 p1.2.2 x.Id then [x.bg]else []:=by
    unfold oz1;rw[ZX9,hx,ZXG,ZWC,<-ZWU];cases h:ZO3 p1.2.2 x.Id<;>simp[h]
   have hh:=ZPB p1.1 p1.2.1 p1.2.2 hl x.Id;rw[htk];have hlen:(D++oz1 p1.2.2 (s.Gr.take i)).length<=11000:=by rw[ZWx];have:=len i;omega
   generalize D++oz1 p1.2.2 (s.Gr.take i)=es at*;have ha:=λ(q:AObj)=>XC (h:=[.row 1<|es.map I,q]) (fz:=false) (b:=0) (g:=es.length) (sz:=1) (bytes:=8) (es:=es.map I) (bw:=false) (ex:=false) (ys:=[I x.bg]) (by show(bif (es.map I).length==es.length then _ else none)=_;rw[ZWd,beq_self_eq_true];rfl) rfl rfl (by decide) (by decide) (by simp;omega)
   have hma:(es++[x.bg]).map I=es.map I++[I x.bg]:=by rw[ZWC];rfl
   have hb1:=hbI es;have hb2:∀n,Zd n (es.map I++[I x.bg])=true:=λn=>by rw[<-hma];exact hbI _ n
   change pfn rE 87 _=some (.bool<|ZO3 p1.2.2 x.Id)at hh;cases k:ZO3 p1.2.2 x.Id with
   |false=>rw[k]at hh;exact⟨_,by simp only[go_sem,c37L1b,stI,hg,hi',hwr,hb1,hbS,hcS,zz,nn,hh,Ev.enc,NL.enc,ZWd,ZWT,ZWE,ZWA,ZX0,if_true,cond_false,ZWG];rfl,by simp only[go_sem,stI,cond_false,ZWG]⟩
   |true=>rw[k]at hh;exact⟨_,by simp only[go_sem,c37L1b,stI,hg,hi',hwr,hb1,hb2,hbS,hcS,zz,nn,hh,ha,Ev.enc,NL.enc,ZWd,ZWT,ZWE,ZWA,ZX0,if_true,cond_true,hma,ZOd];rfl,by simp only[go_sem,stI,cond_true,ZWx,ZWJ,ZWN]⟩)
  (e:=.exit 2) (by
   have hb1:=hbI<|D++oz1 p1.2.2 s.Gr;rw[ZWL];simp only[go_sem,c37L1b,stI,ZG,hb1,hbS,ZWd];rfl) (by simp)
 simp only[ZYm]at L;rw[show oz1 p1.2.2 []=[]from rfl,ZWG]at L
 refine⟨_,L,?_,?_,?_⟩<;>simp only[go_sem,stI]
def oz2(l:List Str)(r:List Fa):List Int:=(r.filter<|λx=>ZO3 l x.Id).map (·.bg)
def ZV7(hl:p2.2.2.length<=1000000):∃fr',Zg rE [2,5,6,9] c37L2b [(2,stI s),(5,.sl 0 D.length 0 D.length false),(6,.ptr 1 0 0 1),(9,.int .i64 0)] (ZOd p0 p1 p2 p3 p4 D) =
 some (.exit 4,fr',ZOd p0 p1 p2 p3 p4<|D++oz2 p2.2.2 s.By)/\get fr' 2=stI s/\get fr' 5=.sl 0 (D++oz2 p2.2.2 s.By).length 0 (D++oz2 p2.2.2 s.By).length false/\get fr' 6=.ptr 1 0 0 1:=by
 have hbI:∀(D:List Int)n,Zd n (D.map I)=true:=λD n=>ZN _<|Zw (λt=>rfl) D
 have hcS:∀D:List Str,Z4 (D.map encS)=true:=λD=>Zw (λt=>rfl) _
 have hbS:∀(D:List Str)n,Zd n (D.map encS)=true:=λD n=>ZN _<|hcS D
 have zz:((0:Int)<=2/\(2:Int)<((5:Nat):Int))=True:=by simp
 have nn:Int.toNat 2=2:=rfl;have hL:=hE.sizes.buildings;have len:∀i,(oz2 p2.2.2<|s.By.take i).length<=s.By.length:=λi=>by
  unfold oz2;rw[ZWd];exact ZWW (ZXi _ _)<|by rw[ZWS];omega
 have L:=Y8 (E:=rE) (live:=[2,5,6,9]) (b:=c37L2b) s.By.length (λi=>[(2,stI s),(5,.sl 0 (D++oz2 p2.2.2 (s.By.take i)).length 0 (D++oz2 p2.2.2 (s.By.take i)).length false),(6,.ptr 1 0 0 1),(9,I i)])
  (λi=>ZOd p0 p1 p2 p3 p4<|D++oz2 p2.2.2 (s.By.take i)) (λi=>rfl)
  (λi hi=>by
   obtain⟨x,hx⟩:∃x,s.By[i]?=some x:=⟨_,ZWq hi⟩;have hg:=Z6 (f:=Fa.enc) hx;have hi':=Zh hi;have hwr:=Zx (n:=i)<|by omega
   have htk:D++oz2 p2.2.2 (s.By.take<|i+1)=(D++oz2 p2.2.2 (s.By.take i))++bif ZO3 p2.2.2 x.Id then [x.bg]else []:=by
    unfold oz2;rw[ZX9,hx,ZXG,ZWC,<-ZWU];cases h:ZO3 p2.2.2 x.Id<;>simp[h]
   have hh:=ZPB p2.1 p2.2.1 p2.2.2 hl x.Id;rw[htk];have hlen:(D++oz2 p2.2.2 (s.By.take i)).length<=11000:=by rw[ZWx];have:=len i;omega
   generalize D++oz2 p2.2.2 (s.By.take i)=es at*;have ha:=λ(q:AObj)=>XC (h:=[.row 1<|es.map I,q]) (fz:=false) (b:=0) (g:=es.length) (sz:=1) (bytes:=8) (es:=es.map I) (bw:=false) (ex:=false) (ys:=[I x.bg]) (by show(bif (es.map I).length==es.length then _ else none)=_;rw[ZWd,beq_self_eq_true];rfl) rfl rfl (by decide) (by decide) (by simp;omega)
   have hma:(es++[x.bg]).map I=es.map I++[I x.bg]:=by rw[ZWC];rfl
   have hb1:=hbI es;have hb2:∀n,Zd n (es.map I++[I x.bg])=true:=λn=>by rw[<-hma];exact hbI _ n
   change pfn rE 87 _=some (.bool<|ZO3 p2.2.2 x.Id)at hh;cases k:ZO3 p2.2.2 x.Id with
   |false=>rw[k]at hh;exact⟨_,by simp only[go_sem,c37L2b,stI,hg,hi',hwr,hb1,hbS,hcS,zz,nn,hh,Fa.enc,NL.enc,ZWd,ZWT,ZWE,ZWA,ZX0,if_true,cond_false,ZWG];rfl,by simp only[go_sem,stI,cond_false,ZWG]⟩
   |true=>rw[k]at hh;exact⟨_,by simp only[go_sem,c37L2b,stI,hg,hi',hwr,hb1,hb2,hbS,hcS,zz,nn,hh,ha,Fa.enc,NL.enc,ZWd,ZWT,ZWE,ZWA,ZX0,if_true,cond_true,hma,ZOd];rfl,by simp only[go_sem,stI,cond_true,ZWx,ZWJ,ZWN]⟩)
  (e:=.exit 4) (by
   have hb1:=hbI<|D++oz2 p2.2.2 s.By;rw[ZWL];simp only[go_sem,c37L2b,stI,ZG,hb1,hbS,ZWd];rfl) (by simp)
 simp only[ZYm]at L;rw[show oz2 p2.2.2 []=[]from rfl,ZWG]at L
 refine⟨_,L,?_,?_,?_⟩<;>simp only[go_sem,stI]
def oz3(l:List Str)(r:List Gc):List Int:=(r.filter<|λx=>ZO3 l x.Id).map (·.bg)
def ZV8(hl:p3.2.2.length<=1000000):∃fr',Zg rE [2,5,6,10] c37L3b [(2,stI s),(5,.sl 0 D.length 0 D.length false),(6,.ptr 1 0 0 1),(10,.int .i64 0)] (ZOd p0 p1 p2 p3 p4 D) =
 some (.exit 6,fr',ZOd p0 p1 p2 p3 p4<|D++oz3 p3.2.2 s.Bc)/\get fr' 2=stI s/\get fr' 5=.sl 0 (D++oz3 p3.2.2 s.Bc).length 0 (D++oz3 p3.2.2 s.Bc).length false/\get fr' 6=.ptr 1 0 0 1:=by
 have hbI:∀(D:List Int)n,Zd n (D.map I)=true:=λD n=>ZN _<|Zw (λt=>rfl) D
 have hcS:∀D:List Str,Z4 (D.map encS)=true:=λD=>Zw (λt=>rfl) _
 have hbS:∀(D:List Str)n,Zd n (D.map encS)=true:=λD n=>ZN _<|hcS D
 have zz:((0:Int)<=3/\(3:Int)<((5:Nat):Int))=True:=by simp
 have nn:Int.toNat 3=3:=rfl;have hL:=hE.sizes.doors;have len:∀i,(oz3 p3.2.2<|s.Bc.take i).length<=s.Bc.length:=λi=>by
  unfold oz3;rw[ZWd];exact ZWW (ZXi _ _)<|by rw[ZWS];omega
 have L:=Y8 (E:=rE) (live:=[2,5,6,10]) (b:=c37L3b) s.Bc.length (λi=>[(2,stI s),(5,.sl 0 (D++oz3 p3.2.2 (s.Bc.take i)).length 0 (D++oz3 p3.2.2 (s.Bc.take i)).length false),(6,.ptr 1 0 0 1),(10,I i)])
  (λi=>ZOd p0 p1 p2 p3 p4<|D++oz3 p3.2.2 (s.Bc.take i)) (λi=>rfl)
  (λi hi=>by
   obtain⟨x,hx⟩:∃x,s.Bc[i]?=some x:=⟨_,ZWq hi⟩;have hg:=Z6 (f:=Gc.enc) hx;have hi':=Zh hi;have hwr:=Zx (n:=i)<|by omega
   have htk:D++oz3 p3.2.2 (s.Bc.take<|i+1)=(D++oz3 p3.2.2 (s.Bc.take i))++bif ZO3 p3.2.2 x.Id then [x.bg]else []:=by
    unfold oz3;rw[ZX9,hx,ZXG,ZWC,<-ZWU];cases h:ZO3 p3.2.2 x.Id<;>simp[h]
   have hh:=ZPB p3.1 p3.2.1 p3.2.2 hl x.Id;rw[htk];have hlen:(D++oz3 p3.2.2 (s.Bc.take i)).length<=11000:=by rw[ZWx];have:=len i;omega
   generalize D++oz3 p3.2.2 (s.Bc.take i)=es at*;have ha:=λ(q:AObj)=>XC (h:=[.row 1<|es.map I,q]) (fz:=false) (b:=0) (g:=es.length) (sz:=1) (bytes:=8) (es:=es.map I) (bw:=false) (ex:=false) (ys:=[I x.bg]) (by show(bif (es.map I).length==es.length then _ else none)=_;rw[ZWd,beq_self_eq_true];rfl) rfl rfl (by decide) (by decide) (by simp;omega)
   have hma:(es++[x.bg]).map I=es.map I++[I x.bg]:=by rw[ZWC];rfl
   have hb1:=hbI es;have hb2:∀n,Zd n (es.map I++[I x.bg])=true:=λn=>by rw[<-hma];exact hbI _ n
   change pfn rE 87 _=some (.bool<|ZO3 p3.2.2 x.Id)at hh;cases k:ZO3 p3.2.2 x.Id with
   |false=>rw[k]at hh;exact⟨_,by simp only[go_sem,c37L3b,stI,hg,hi',hwr,hb1,hbS,hcS,zz,nn,hh,Gc.enc,Zo,ZWd,ZWT,ZWE,ZWA,ZX0,if_true,cond_false,ZWG];rfl,by simp only[go_sem,stI,cond_false,ZWG]⟩
   |true=>rw[k]at hh;exact⟨_,by simp only[go_sem,c37L3b,stI,hg,hi',hwr,hb1,hb2,hbS,hcS,zz,nn,hh,ha,Gc.enc,Zo,ZWd,ZWT,ZWE,ZWA,ZX0,if_true,cond_true,hma,ZOd];rfl,by simp only[go_sem,stI,cond_true,ZWx,ZWJ,ZWN]⟩)
  (e:=.exit 6) (by
   have hb1:=hbI<|D++oz3 p3.2.2 s.Bc;rw[ZWL];simp only[go_sem,c37L3b,stI,ZG,hb1,hbS,ZWd];rfl) (by simp)
 simp only[ZYm]at L;rw[show oz3 p3.2.2 []=[]from rfl,ZWG]at L
 refine⟨_,L,?_,?_,?_⟩<;>simp only[go_sem,stI]
def unD(s:Sta)(u:bc):Int:=match s.Bc[(Zn s u.Gc).toNat]? with|some d=>d.bg|none=>0
def oz4(s:Sta)(l:List Str)(r:List bc):List Int:=(r.filter<|λx=>ZO3 l x.Id).map (unD s)
def ZV9(hp:Jx s=true)(hl:p4.2.2.length<=1000000):∃fr',Zg rE [2,5,6,11] c37L4b [(2,stI s),(5,.sl 0 D.length 0 D.length false),(6,.ptr 1 0 0 1),(11,.int .i64 0)] (ZOd p0 p1 p2 p3 p4 D) =
 some (.exit 8,fr',ZOd p0 p1 p2 p3 p4<|D++oz4 s p4.2.2 s.Nk)/\get fr' 5=.sl 0 (D++oz4 s p4.2.2 s.Nk).length 0 (D++oz4 s p4.2.2 s.Nk).length false:=by
 have hbI:∀(D:List Int)n,Zd n (D.map I)=true:=λD n=>ZN _<|Zw (λt=>rfl) D
 have hcS:∀D:List Str,Z4 (D.map encS)=true:=λD=>Zw (λt=>rfl) _
 have hbS:∀(D:List Str)n,Zd n (D.map encS)=true:=λD n=>ZN _<|hcS D
 have zz:((0:Int)<=4/\(4:Int)<((5:Nat):Int))=True:=by simp
 have nn:Int.toNat 4=4:=rfl;have hL:=hE.sizes.units;have len:∀i,(oz4 s p4.2.2<|s.Nk.take i).length<=s.Nk.length:=λi=>by
  unfold oz4;rw[ZWd];exact ZWW (ZXi _ _)<|by rw[ZWS];omega
 have L:=Y8 (E:=rE) (live:=[2,5,6,11]) (b:=c37L4b) s.Nk.length (λi=>[(2,stI s),(5,.sl 0 (D++oz4 s p4.2.2 (s.Nk.take i)).length 0 (D++oz4 s p4.2.2 (s.Nk.take i)).length false),(6,.ptr 1 0 0 1),(11,I i)])
  (λi=>ZOd p0 p1 p2 p3 p4<|D++oz4 s p4.2.2 (s.Nk.take i)) (λi=>rfl)
  (λi hi=>by
   obtain⟨x,hx⟩:∃x,s.Nk[i]?=some x:=⟨_,ZWq hi⟩;have hg:=Z6 (f:=bc.enc) hx;have hi':=Zh hi;have hwr:=Zx (n:=i)<|by omega
   have htk:D++oz4 s p4.2.2 (s.Nk.take<|i+1)=(D++oz4 s p4.2.2 (s.Nk.take i))++bif ZO3 p4.2.2 x.Id then [unD s x]else []:=by
    unfold oz4;rw[ZX9,hx,ZXG,ZWC,<-ZWU];cases h:ZO3 p4.2.2 x.Id<;>simp[h]
   have hu:=((Zdl s x).1 (((Zdb s).1 hp).1.un x (ZWu hx))).1;obtain⟨j,d,hj,hd,_⟩:=ZcU (f:=λx:Gc=>x.Id) hu
   have hgd:=Z6 (f:=Gc.enc) hd;have hF:=ZPz s hE.sizes x.Gc;have hj':Zn s x.Gc=(j:Int):=hj;have e1:unD s x=d.bg:=by unfold unD;rw[hj',show((j:Int)).toNat=j from rfl,hd]
   rw[hj']at hF;simp only[stA]at hF;rw[e1]at htk;have hh:=ZPB p4.1 p4.2.1 p4.2.2 hl x.Id;rw[htk];have hlen:(D++oz4 s p4.2.2 (s.Nk.take i)).length<=11000:=by rw[ZWx];have:=len i;omega
   generalize D++oz4 s p4.2.2 (s.Nk.take i)=es at*;have ha:=λ(q:AObj)=>XC (h:=[.row 1<|es.map I,q]) (fz:=false) (b:=0) (g:=es.length) (sz:=1) (bytes:=8) (es:=es.map I) (bw:=false) (ex:=false) (ys:=[I d.bg]) (by show(bif (es.map I).length==es.length then _ else none)=_;rw[ZWd,beq_self_eq_true];rfl) rfl rfl (by decide) (by decide) (by simp;omega)
   have hma:(es++[d.bg]).map I=es.map I++[I d.bg]:=by rw[ZWC];rfl
   have hb1:=hbI es;have hb2:∀n,Zd n (es.map I++[I d.bg])=true:=λn=>by rw[<-hma];exact hbI _ n
   change pfn rE 87 _=some (.bool<|ZO3 p4.2.2 x.Id)at hh;cases k:ZO3 p4.2.2 x.Id with
   |false=>rw[k]at hh;exact⟨_,by simp only[go_sem,c37L4b,stI,hg,hi',hwr,hb1,hbS,hcS,zz,nn,hh,bc.enc,ZWd,ZWT,ZWE,ZWA,ZX0,if_true,cond_false,ZWG];rfl,by simp only[go_sem,stI,cond_false,ZWG]⟩
   |true=>rw[k]at hh;exact⟨_,by simp only[go_sem,c37L4b,stI,hg,hgd,hF,hi',hwr,hb1,hb2,hbS,hcS,zz,nn,hh,ha,bc.enc,Gc.enc,Zo,ZWd,ZWT,ZWE,ZWA,ZX0,if_true,cond_true,hma,ZOd];rfl,by simp only[go_sem,stI,cond_true,ZWx,ZWJ,ZWN]⟩)
  (e:=.exit 8) (by
   have hb1:=hbI<|D++oz4 s p4.2.2 s.Nk;rw[ZWL];simp only[go_sem,c37L4b,stI,ZG,hb1,hbS,ZWd];rfl) (by simp)
 simp only[ZYm]at L;rw[show oz4 s p4.2.2 []=[]from rfl,ZWG]at L
 refine⟨_,L,?_⟩;simp only[go_sem,stI]
end
end Go.AM
namespace Go.AM
open Go
variable [REdz]
def ozT(s:Sta)(e:Gt):List Int:=((((oz0 (th0 e) s.Ga)++oz1 (th1 e) s.Gr)++oz2 (th2 e) s.By)++oz3 (th3 e) s.Bc)++oz4 s (th4 e) s.Nk
def ZPC(s:Sta)(hE:StE s)(hp:Jx s=true)(e:Gt)(he:EvS e):pfn rE 37 [stA s,evA e]=some (.isl false false 1<|(ozT s e).map I):=by
 have hz:=hE.sizes;have hm:e.Lst.l.length<=1000:=by have:=he.lst;omega
 have hi:e.Ids.l.length<=1000:=by have:=he.ids;omega
 obtain⟨v0,v1,v2,v3,v4,hT,⟨a0,b0,rfl⟩,⟨a1,b1,rfl⟩,⟨a2,b2,rfl⟩,⟨a3,b3,rfl⟩,⟨a4,b4,rfl⟩⟩:=ZV4 e hm;have k0:(th0 e).length<=2000:=by unfold th0;cases kOf [1,3,12] e<;>simp
 have k1:(th1 e).length<=2000:=by unfold th1;cases kOf [3,8,12] e<;>cases kOf [4] e<;>cases kOf [6] e<;>simp
 have k2:(th2 e).length<=2000:=by unfold th2;cases kOf [6] e<;>cases kOf [11] e<;>simp
 have k3:(th3 e).length<=2000:=by unfold th3;cases kOf [7] e<;>cases kOf [8] e<;>cases kOf [9,12] e<;>cases kOf [10] e<;>simp<;>omega
 have k4:(th4 e).length<=2000:=by unfold th4;cases kOf [12] e<;>simp
 have n0:(oz0 (th0 e) s.Ga).length<=1000:=by unfold oz0;rw[ZWd];exact ZWW (ZXi _ _) hz.regions
 have n1:(oz1 (th1 e) s.Gr).length<=1000:=by unfold oz1;rw[ZWd];exact ZWW (ZXi _ _) hz.streets
 have n2:(oz2 (th2 e) s.By).length<=1000:=by unfold oz2;rw[ZWd];exact ZWW (ZXi _ _) hz.buildings
 have n3:(oz3 (th3 e) s.Bc).length<=1000:=by unfold oz3;rw[ZWd];exact ZWW (ZXi _ _) hz.doors
 have hbI:∀(D:List Int)n,Zd n (D.map I)=true:=λD n=>ZN _<|Zw (λt=>rfl) D
 have hcI:∀D:List Int,Z4 (D.map I)=true:=λD=>Zw (λt=>rfl) _
 have hcS:∀D:List Str,Z4 (D.map encS)=true:=λD=>Zw (λt=>rfl) _
 have hbS:∀(D:List Str)n,Zd n (D.map encS)=true:=λD n=>ZN _<|hcS D
 obtain⟨f0,L0,g02,g05,g06⟩:=ZV5 s hE (a0,b0,th0 e) (a1,b1,th1 e) (a2,b2,th2 e) (a3,b3,th3 e) (a4,b4,th4 e) [] (by simp)<|by dsimp only;omega
 simp only[ZWQ]at L0 g05;obtain⟨f1,L1,g12,g15,g16⟩:=ZV6 s hE (a0,b0,th0 e) (a1,b1,th1 e) (a2,b2,th2 e) (a3,b3,th3 e) (a4,b4,th4 e) (oz0 (th0 e) s.Ga) (by omega)<|by dsimp only;omega
 obtain⟨f2,L2,g22,g25,g26⟩:=ZV7 s hE (a0,b0,th0 e) (a1,b1,th1 e) (a2,b2,th2 e) (a3,b3,th3 e) (a4,b4,th4 e) (oz0 (th0 e) s.Ga++oz1 (th1 e) s.Gr) (by rw[ZWx];omega)<|by dsimp only;omega
 obtain⟨f3,L3,g32,g35,g36⟩:=ZV8 s hE (a0,b0,th0 e) (a1,b1,th1 e) (a2,b2,th2 e) (a3,b3,th3 e) (a4,b4,th4 e) (oz0 (th0 e) s.Ga++oz1 (th1 e) s.Gr++oz2 (th2 e) s.By) (by rw[ZWx,ZWx];omega)<|by dsimp only;omega
 obtain⟨f4,L4,g45⟩:=ZV9 s hE (a0,b0,th0 e) (a1,b1,th1 e) (a2,b2,th2 e) (a3,b3,th3 e) (a4,b4,th4 e) (oz0 (th0 e) s.Ga++oz1 (th1 e) s.Gr++oz2 (th2 e) s.By++oz3 (th3 e) s.Bc) (by rw[ZWx,ZWx,ZWx];omega) hp<|by dsimp only;omega
 dsimp only at L0 L1 L2 L3 L4 g05 g15 g25 g35 g45;unfold ozT;generalize oz0 (th0 e) s.Ga=D0 at*;generalize D0++oz1 (th1 e) s.Gr=D1 at*;generalize D1++oz2 (th2 e) s.By=D2 at*;generalize D2++oz3 (th3 e) s.Bc=D3 at*;generalize D3++oz4 s (th4 e) s.Nk=D4 at*;have htA:List.take D4.length (D4.map I)=D4.map I:=ZWP<|by simp
 simp only[stI,ZOd,ZWB,ZWN]at L0 L1 L2 L3 L4 g02 g12 g22 g32;simp only[evA]at hT;rw[Z5 (f:=37) rfl rfl];simp only[go_sem,c37,c37L0,c37L1,c37L2,c37L3,c37L4,stA,hT,L0,g02,g05,g06,L1,g12,g15,g16,L2,g22,g25,g26,L3,g32,g35,g36,L4,g45,hbI,hcI,hbS,hcS,htA,ZWd,ZWA,beq_self_eq_true]
def ZVa(s:Sta)(hs:StS s)(id:Str):pfn rE 40 [stA s,.str id]=some (.bool<|s.Ga.any<|λx=>Z3 x.Id id):=by
 have hl:=hs.regions;have L:=QT (E:=rE) (live:=[1,2,5]) (b:=c40L0b) (h:=[]) s.Ga (λ_ x=>!Z3 x.Id id) (λi=>[(1,.str id),(2,stI s),(5,I i)]) 0 (λ_=>True) (λfr=>get fr 4=.bool true) (λi=>rfl)
  (λi x hx hP=>by
   have hg:=Z6 (f:=Gm.enc) hx;have hi':=Zh<|Z7 hx;have hw:=Zx (n:=i) (by have:=Z7 hx;omega)
   have hP':Z3 x.Id id=false:=by simpa using hP
   refine⟨_,by simp only[go_sem,c40L0b,stI,hg,hi',hw,Gm.enc,NL.enc,hP',ZWd];rfl,?_⟩
   simp only[go_sem])
  (λi x hx hP=>by
   have hg:=Z6 (f:=Gm.enc) hx;have hi':=Zh<|Z7 hx;have hP':Z3 x.Id id=true:=by simpa using hP
   refine⟨_,by simp only[go_sem,c40L0b,stI,hg,hi',Gm.enc,NL.enc,hP',ZWd];rfl,?_⟩
   simp only[go_sem])
  (⟨_,by simp only[go_sem,c40L0b,stI,ZG,ZWd];rfl,trivial⟩)
 rw[QE]at L;obtain⟨fr',h1,_,h2⟩:=L;simp only[stI]at h1;have h1':Zg rE [1,2,5] c40L0b [(1,.str id),(2,stI s),(5,.int .i64 0)] []=_:=h1;have e:s.Ga.any (λx=>Z3 x.Id id) = !s.Ga.all (λx=>!Z3 x.Id id):=by rw[ZYh];simp
 simp only[stI]at h1';rw[Z5 (f:=40) rfl rfl,e];cases hc:s.Ga.all (λx=>!Z3 x.Id id)with
 |true=>rw[hc]at h1';simp only[go_sem,c40,c40L0,stA,h1',ZWg]
 |false=>rw[hc]at h1';simp only[go_sem,c40,c40L0,stA,h1',h2 hc,ZWn,ZWi]
def twB(s:Sta)(m:Int)(x:Gm):Bool:=ZoG x&&Zoq s x.bg==m
def ZVb(s:Sta)(h:ClS s)(m:Int):pfn rE 38 [stA s,I m]=some (.bool<|s.Ga.any<|twB s m):=by
 have hl:=h.E.sizes.regions;have L:=QT (E:=rE) (live:=[1,2,5]) (b:=c38L0b) (h:=[]) s.Ga (λ_ x=>!twB s m x) (λi=>[(1,I m),(2,stI s),(5,I i)]) 0 (λ_=>True) (λfr=>get fr 4=.bool true) (λi=>rfl)
  (λi x hx hP=>by
   have hg:=Z6 (f:=Gm.enc) hx;have hi':=Zh<|Z7 hx;have hw:=Zx (n:=i) (by have:=Z7 hx;omega)
   have hM:=ZOl s h.E h.prop.pa x.bg (h.reg<|ZWu hx).1;simp only[stA]at hM;have hP':twB s m x=false:=by simpa using hP
   unfold twB ZoG at hP';cases k1:x.bp==1 with
   |false=>exact⟨_,by simp only[go_sem,c38L0b,stI,hg,hi',hw,Gm.enc,NL.enc,k1,ZWd];rfl,by simp only[go_sem,stI]⟩
   |true=>
   cases k2:x.Ld==-1 with
   |false=>exact⟨_,by simp only[go_sem,c38L0b,stI,hg,hi',hw,Gm.enc,NL.enc,k1,k2,ZWd];rfl,by simp only[go_sem,stI]⟩
   |true=>
   have k3:(Zoq s x.bg==m)=false:=by rw[k1,k2]at hP';exact hP'
   exact⟨_,by simp only[go_sem,c38L0b,stI,hg,hi',hw,Gm.enc,NL.enc,k1,k2,k3,hM,ZWd];rfl,by simp only[go_sem,stI]⟩)
  (λi x hx hP=>by
   have hg:=Z6 (f:=Gm.enc) hx;have hi':=Zh<|Z7 hx;have hM:=ZOl s h.E h.prop.pa x.bg (h.reg<|ZWu hx).1;simp only[stA]at hM;have hP':twB s m x=true:=by simpa using hP
   unfold twB ZoG at hP';simp only[ZWe]at hP';obtain⟨⟨k1,k2⟩,k3⟩:=hP';exact⟨_,by simp only[go_sem,c38L0b,stI,hg,hi',Gm.enc,NL.enc,k1,k2,k3,hM,ZWd];rfl,by simp only[go_sem]⟩)
  (⟨_,by simp only[go_sem,c38L0b,stI,ZG,ZWd];rfl,trivial⟩)
 rw[QE]at L;obtain⟨fr',h1,_,h2⟩:=L;have h1':Zg rE [1,2,5] c38L0b [(1,I m),(2,stI s),(5,.int .i64 0)] []=_:=h1;have e:s.Ga.any (twB s m) = !s.Ga.all (λx=>!twB s m x):=by rw[ZYh];simp
 simp only[stI]at h1';rw[Z5 (f:=38) rfl rfl,e];cases hc:s.Ga.all (λx=>!twB s m x)with
 |true=>rw[hc]at h1';simp only[go_sem,c38,c38L0,stA,h1',ZWg]
 |false=>rw[hc]at h1';simp only[go_sem,c38,c38L0,stA,h1',h2 hc,ZWn,ZWi]
def ZVc(e:Gt)(hl:e.Lst.l.length<=1000):∃fr',Zg rE [1,3,4] c39L0b [(1,evI e),(3,.sl 0 0 0 0 false),(4,.int .i64 0)] [.row 2 []] =
 some (.exit 1,fr',[.row 2 ((e.Lst.l.map (·.bf)).map Pt.enc)])/\get fr' 3=.sl 0 e.Lst.l.length 0 e.Lst.l.length false:=by
 have hbP:∀(D:List Pt)n,Zd n (D.map Pt.enc)=true:=λD n=>ZN _<|Zw (λt=>rfl) D
 have L:=Y8 (E:=rE) (live:=[1,3,4]) (b:=c39L0b) e.Lst.l.length (λi=>[(1,evI e),(3,.sl 0 i 0 i false),(4,I i)])
  (λi=>[.row 2 (((e.Lst.l.take i).map (·.bf)).map Pt.enc)]) (λi=>rfl)
  (λi hi=>by
   obtain⟨x,hx⟩:∃x,e.Lst.l[i]?=some x:=⟨_,ZWq hi⟩;have hlen:(e.Lst.l.take i).length=i:=by rw[ZWS];omega
   have hg:=Z6 (f:=Ent.enc) hx;have hi':=Zh hi;have hwr:=Zx (n:=i)<|by omega
   have htk:(e.Lst.l.take<|i+1).map (·.bf)=(e.Lst.l.take i).map (·.bf)++[x.bf]:=by
    rw[ZX9,hx,ZWC];rfl
   have ha:=XC (h:=[.row 2 (((e.Lst.l.take i).map (·.bf)).map Pt.enc)]) (fz:=false) (b:=0) (g:=i) (sz:=2) (bytes:=16) (es:=((e.Lst.l.take i).map (·.bf)).map Pt.enc) (bw:=false) (ex:=false) (ys:=[.agg [I x.bf.X,I x.bf.Y]]) (by show(bif (((e.Lst.l.take i).map (·.bf)).map Pt.enc).length==i then _ else none)=_;rw[ZWd,ZWd,hlen,beq_self_eq_true];rfl) rfl rfl (by decide) (by decide) (by simp;omega)
   have hma:((e.Lst.l.take i).map (·.bf)++[x.bf]).map Pt.enc=((e.Lst.l.take i).map (·.bf)).map Pt.enc++[.agg [I x.bf.X,I x.bf.Y]]:=by rw[ZWC];rfl
   rw[htk,hma];have hb1:=hbP ((e.Lst.l.take i).map (·.bf));have hb2:∀n,Zd n (((e.Lst.l.take i).map (·.bf)).map Pt.enc++[.agg [I x.bf.X,I x.bf.Y]])=true:=λn=>by rw[<-hma];exact hbP _ n
   generalize((e.Lst.l.take i).map (·.bf)).map Pt.enc=es at*;refine⟨_,by simp only[go_sem,c39L0b,hg,hi',hwr,ha,hb1,hb2,Ent.enc,ZWd];rfl,?_⟩
   simp only[go_sem])
  (e:=.exit 1) (by
   have hb1:=hbP (e.Lst.l.map (·.bf));rw[ZWL];simp only[go_sem,c39L0b,ZG,hb1,ZWd];rfl) (by simp)
 refine⟨_,L,?_⟩;simp only[go_sem]
def ZPD(e:Gt)(he:EvQ e):∃x,pfn rE 39 [evA e]=some (.isl false x 2<|(ZoM e).map Pt.enc):=by
 have hF:=ZPd e he;obtain⟨fr',hL,hg⟩:=ZVc e (by have:=he.lst;omega)
 have hcP:∀D:List Pt,Z4 (D.map Pt.enc)=true:=λD=>Zw (λt=>rfl) _
 have hbP:∀(D:List Pt)n,Zd n (D.map Pt.enc)=true:=λD n=>ZN _<|hcP D
 have htk:List.take e.Lst.l.length ((e.Lst.l.map (·.bf)).map Pt.enc)=(e.Lst.l.map (·.bf)).map Pt.enc:=ZWP<|by simp
 have hpos:=Zqs (e:=e);rw[Z5 (f:=39) rfl rfl];unfold ZoM;simp only[evA]at hF;cases c0:Q9 e with
 |false=>
  rw[c0]at hF;exact⟨_,by simp only[go_sem,c39,hF,ZWi,cond_true,ZWB]<;>rfl⟩
 |true=>
 rw[c0]at hF;have hp1:(e.bp==1||(e.bp==2||e.bp==5))=true->bounds none (some<|I 1) none e.Path.l.length=some (0,1,none):=λhk=>by
  have h1:=hpos c0 hk;have h2:Nat.ble 1 e.Path.l.length=true:=ZXC h1;simp[bounds,Vz,Wl,VA,numOf,VB,h2];rfl
 have hm:List.take 1 (e.Path.l.map Pt.enc)=(e.Path.l.take 1).map Pt.enc:=ZYL.symm;cases k1:e.bp==1 with
 |true=>
  rw[k1]at hp1;have hp1:=hp1 rfl;exact⟨_,by simp only[go_sem,c39,c39L0,hF,k1,hp1,hm,ZWg,cond_false,cond_true,ZWj,if_true]<;>rfl⟩
 |false=>
 cases k2:e.bp==2 with
 |true=>
  rw[k1,k2]at hp1;have hp1:=hp1 rfl;exact⟨_,by simp only[go_sem,c39,c39L0,hF,k1,k2,hp1,hm,ZWg,cond_false,cond_true,ZWj,ZWt,if_true]<;>rfl⟩
 |false=>
 cases k5:e.bp==5 with
 |true=>
  rw[k1,k2,k5]at hp1;have hp1:=hp1 rfl;exact⟨_,by simp only[go_sem,c39,c39L0,hF,k1,k2,k5,hp1,hm,ZWg,cond_false,cond_true,ZWt,if_true]<;>rfl⟩
 |false=>
 cases k6:e.bp==6 with
 |true=>exact⟨_,by simp only[go_sem,c39,c39L0,hF,k1,k2,k5,k6,ZWg,cond_false,cond_true,ZWj,ZWl,ZWs,ZWB,Pt.enc]<;>rfl⟩
 |false=>
 cases k10:e.bp==10 with
 |true=>exact⟨_,by simp only[go_sem,c39,c39L0,hF,k1,k2,k5,k6,k10,ZWg,cond_false,cond_true,ZWt,ZWl,ZWs,ZWB,Pt.enc]<;>rfl⟩
 |false=>
 cases k9:e.bp==9 with
 |true=>exact⟨_,by simp only[go_sem,c39,c39L0,hF,hL,hg,k1,k2,k5,k6,k10,k9,ZWg,cond_false,cond_true,ZWl,hcP,hbP,htk,ZWd,ZWA,beq_self_eq_true]<;>rfl⟩
 |false=>exact⟨_,by simp only[go_sem,c39,c39L0,hF,k1,k2,k5,k6,k10,k9,ZWg,cond_false,cond_true,ZWl,ZWB]<;>rfl⟩
def ZQv(k:Int)(ks:List Int)(e:Gt):kOf (k::ks) e=(e.bp==k||kOf ks e):=rfl
def ZQw(e:Gt):kOf [] e=false:=rfl
def ZPs{α:Type}(p:α->Bool)(f:α->Int)(q:Int->Bool):∀l:List α,((l.filter p).map f).all q=l.all (λx=>!p x||q (f x))
 |[]=>rfl
 |x::r=>by
  rw[ZWV,<-ZPs p f q r];cases h:p x with
  |true=>rw[List.filter_cons_of_pos h,ZWs,ZWV];simp
  |false=>rw[List.filter_cons_of_neg<|by rw[h];decide];simp
def ZVd{e:Gt}(he:EvS e)(h:Q9 e=true)(hk:(e.bp==10)=false):e.Ids.l=[]:=by
 rw[ZQq e he]at h;simp only[ZWe]at h;have h2:=h.2.1;unfold okU at h2;rw[ZWe]at h2;have h3:=h2.2;unfold ZOZ at h3;simp only[ZWe]at h3;have h4:=h3.2.1.1;have e1:(ZO2 e).Ids.l=[]:=by
  have hi:kIn e [10]=false:=by unfold kIn;simp[hk]
  unfold ZO2;dsimp only;rw[hi];rfl
 rw[e1]at h4;have:=eq_of_beq h4;simp only[ZWN]at this;exact List.eq_nil_of_length_eq_zero<|by omega
def hM(s:Sta)(m:Int)(o:Int):Bool:=Zoq s o==m
def ZPe(a id:Str):ZO3 [a] id=Z3 id a:=by unfold ZO3;rw[ZWR,ZWY,ZWp,ZOv]
def ZVe(a b id:Str):ZO3 [a,b] id=(Z3 id a||Z3 id b):=by unfold ZO3;rw[ZWR,ZWR,ZWY,ZWp,ZOv,ZOv b]
def ZP2(id:Str):ZO3 [] id=false:=rfl
def ZQ1(l r:List Str)(id:Str):ZO3 (l++r) id=(ZO3 l id||ZO3 r id):=by unfold ZO3;rw[ZYk]
def ZVf(l:List Str)(x:Gc):ZoT l x=ZO3 l x.Id:=by
 unfold ZoT ZO3;congr 1
 funext y
 rw[ZOv]
def unL(s:Sta)(e:Gt):List Str:=bif kOf [12] e then(s.Nk.filter<|λu=>Z3 u.Id e.Id).map (·.Gc)else []
def ZVg(s:Sta)(e:Gt)(hf:Q9 e=true)(he:EvS e)(id:Str):ZO3 (Zor s e) id=(ZO3 (th3 e) id||ZO3 (unL s e) id):=by
 unfold Zor;rw[ZQ1];congr 1;rw[ZQ1,ZQ1,ZQ1];unfold th3;simp only[ZQv,ZQw,ZWp];cases k10:e.bp==10 with
 |true=>
  have hk:e.bp=10:=eq_of_beq k10;have q7:(e.bp==7)=false:=by rw[hk];rfl
  have q8:(e.bp==8)=false:=by rw[hk];rfl
  have q9:(e.bp==9)=false:=by rw[hk];rfl
  have q12:(e.bp==12)=false:=by rw[hk];rfl
  rw[q7,q8,q9,q12];simp[ZP2]
 |false=>
  rw[ZVd he hf k10,ZP2];cases k7:e.bp==7 with
  |true=>
   have hk:e.bp=7:=eq_of_beq k7;have q8:(e.bp==8)=false:=by rw[hk];rfl
   have q9:(e.bp==9)=false:=by rw[hk];rfl
   have q12:(e.bp==12)=false:=by rw[hk];rfl
   rw[q8,q9,q12];simp[ZP2]
  |false=>
   cases k8:e.bp==8 with
   |true=>
    have hk:e.bp=8:=eq_of_beq k8;have q9:(e.bp==9)=false:=by rw[hk];rfl
    have q12:(e.bp==12)=false:=by rw[hk];rfl
    rw[q9,q12];simp[ZP2]
   |false=>
    cases(e.bp==9||e.bp==12)<;>simp[ZP2]
def ZVh(s:Sta)(hp:Jx s=true)(e:Gt)(m:Int):(oz4 s (th4 e) s.Nk).all (hM s m)=s.Bc.all (λx=>!ZO3 (unL s e) x.Id||hM s m x.bg):=by
 have hP:=((Zdb s).1 hp).1;unfold oz4 th4 unL;rw[ZPs];cases k:kOf [12] e with
 |false=>
  rw[cond_false,cond_false,ZWI,ZWw,ZWw];simp[ZP2]
 |true=>
  rw[cond_true,cond_true,ZWI,ZWw,ZWw];have key:∀u∈s.Nk,∃(j:Nat)(d:Gc),s.Bc[j]?=some d/\d.Id=u.Gc/\unD s u=d.bg:=λu hu=>by
   have h1:=((Zdl s u).1 (hP.un u hu)).1;obtain⟨j,d,hj,hd,hid⟩:=ZcU (f:=λx:Gc=>x.Id) h1
   have hj':Zn s u.Gc=(j:Int):=hj;exact⟨j,d,hd,hid,by unfold unD;rw[hj',show((j:Int)).toNat=j from rfl,hd]⟩
  constructor
  .intro h x hx;cases hh:ZO3 ((s.Nk.filter<|λu=>Z3 u.Id e.Id).map (·.Gc)) x.Id with
   |false=>rfl
   |true=>
    unfold ZO3 at hh;rw[ZYl]at hh;obtain⟨y,hy,e1⟩:=hh;obtain⟨u,hu,rfl⟩:=ZX4.1 hy;rw[ZXu]at hu;have h2:=h u hu.1;rw[ZPe,hu.2,ZWg,ZWl]at h2;obtain⟨j,d,hd,hid,ho⟩:=key u hu.1;obtain⟨i,hi⟩:=ZYG hx;have ex:x.Id=u.Gc:=((Ky _ _).1 e1).symm;have ji:j=i:=by
     have hn:(s.Bc.map (λx:Gc=>x.Id)).Nodup:=by
      have:=hP.ids;unfold Qp at this;exact(ZXQ.1 (ZXQ.1 (ZXQ.1 (ZXQ.1 this).2.1).2.1).2.1).1
     have g1:=Zi1 (f:=λx:Gc=>x.Id) hn hi
     have g2:=Zi1 (f:=λx:Gc=>x.Id) hn hd
     have ed:d.Id=x.Id:=by rw[ex];exact hid
     rw[ed,g1]at g2;omega
    subst ji;rw[hd]at hi;cases hi;rw[ho]at h2;simpa using h2
  .intro h u hu;cases hh:ZO3 [e.Id] u.Id with
   |false=>rfl
   |true=>
    obtain⟨j,d,hd,hid,ho⟩:=key u hu;have h2:=h d<|ZWu hd;rw[ZPe]at hh;have:ZO3 ((s.Nk.filter<|λu=>Z3 u.Id e.Id).map (·.Gc)) d.Id=true:=by
     unfold ZO3;rw[ZYl];exact⟨u.Gc,ZX4.2 ⟨u,ZXu.2 ⟨hu,hh⟩,rfl⟩,by rw[hid];exact ZOM _⟩
    rw[this]at h2;rw[ho];simpa using h2
def ZSo{α:Type}(a b:α->Bool)(q:α->Bool):∀l:List α,l.all (λx=>!(a x||b x)||q x)=(l.all (λx=>!a x||q x)&&l.all (λx=>!b x||q x))
 |[]=>rfl
 |x::r=>by
  rw[ZWV,ZWV,ZWV,ZSo a b q r];cases a x<;>cases b x<;>cases q x<;>cases r.all (λx=>!a x||q x)<;>cases r.all (λx=>!b x||q x)<;>rfl
def ZPE(s:Sta)(hp:Jx s=true)(e:Gt)(hf:Q9 e=true)(he:EvS e)(m:Int):(ozT s e).all (hM s m)=Zpb s e m:=by
 unfold ozT Zpb;rw[ZYi,ZYi,ZYi,ZYi,ZVh s hp e m];unfold oz0 oz1 oz2 oz3;rw[ZPs,ZPs,ZPs,ZPs];have e0:(λx:Gm=>!ZO3 (th0 e) x.Id||hM s m x.bg)=(λx=>!ZoQ e x||Zou s m x.bg):=by
  funext x
  unfold th0 ZoQ Zou hM;cases kOf [1,3,12] e with
  |true=>rw[cond_true,ZPe,ZWf]
  |false=>rfl
 have e1:(λx:Ev=>!ZO3 (th1 e) x.Id||hM s m x.bg)=(λx=>!ZoR e x||Zou s m x.bg):=by
  funext x
  unfold th1 ZoR Zou hM;simp only[ZQv,ZQw,ZWp];cases k4:e.bp==4 with
  |true=>
   have hk:e.bp=4:=eq_of_beq k4;have q3:(e.bp==3)=false:=by rw[hk];rfl
   have q6:(e.bp==6)=false:=by rw[hk];rfl
   have q8:(e.bp==8)=false:=by rw[hk];rfl
   have q12:(e.bp==12)=false:=by rw[hk];rfl
   rw[q3,q6,q8,q12];simp[ZVe]
  |false=>
   cases k6:e.bp==6 with
   |true=>
    have hk:e.bp=6:=eq_of_beq k6;have q3:(e.bp==3)=false:=by rw[hk];rfl
    have q8:(e.bp==8)=false:=by rw[hk];rfl
    have q12:(e.bp==12)=false:=by rw[hk];rfl
    rw[q3,q8,q12];simp[ZPe]
   |false=>cases(e.bp==3)<;>cases(e.bp==8)<;>cases(e.bp==12)<;>simp[ZPe,ZP2]
 have e2:(λx:Fa=>!ZO3 (th2 e) x.Id||hM s m x.bg)=(λx=>!ZoS e x||Zou s m x.bg):=by
  funext x
  unfold th2 ZoS Zou hM;simp only[ZQv,ZQw,ZWp];cases k6:e.bp==6 with
  |true=>
   have hk:e.bp=6:=eq_of_beq k6;have q11:(e.bp==11)=false:=by rw[hk];rfl
   rw[q11];simp[ZPe]
  |false=>cases(e.bp==11)<;>simp[ZPe,ZP2]
 have e3:(λx:Gc=>!ZoT (Zor s e) x||Zou s m x.bg)=(λx=>!(ZO3 (th3 e) x.Id||ZO3 (unL s e) x.Id)||hM s m x.bg):=by
  funext x
  rw[ZVf,ZVg s e hf he];rfl
 rw[e0,e1,e2,e3,ZSo (λx:Gc=>ZO3 (th3 e) x.Id) (λx=>ZO3 (unL s e) x.Id)<|λx=>hM s m x.bg,ZXp,ZXp,ZXp]
def ZPF(s:Sta)(h:ClS s)(e:Gt):∀o∈ozT s e,0<=o:=by
 intro o ho;unfold ozT at ho;rcases ZX3.1 ho with ho|ho
 .rcases ZX3.1 ho with ho|ho
  .rcases ZX3.1 ho with ho|ho
   .rcases ZX3.1 ho with ho|ho
    .obtain⟨x,hx,rfl⟩:=ZX4.1 ho;exact(h.reg (ZXu.1 hx).1).1
    .obtain⟨x,hx,rfl⟩:=ZX4.1 ho;exact(h.str (ZXu.1 hx).1).1
   .obtain⟨x,hx,rfl⟩:=ZX4.1 ho;exact(h.bld (ZXu.1 hx).1).1
  .obtain⟨x,hx,rfl⟩:=ZX4.1 ho;exact(h.dor (ZXu.1 hx).1).1
 .obtain⟨u,hu,rfl⟩:=ZX4.1 ho;have h1:=((Zdl s u).1 (h.prop.un u (ZXu.1 hu).1)).1;obtain⟨j,d,hj,hd,hid⟩:=ZcU (f:=λx:Gc=>x.Id) h1
  have hj':Zn s u.Gc=(j:Int):=hj;have:unD s u=d.bg:=by unfold unD;rw[hj',show((j:Int)).toNat=j from rfl,hd]
  rw[this];exact(h.dor<|ZWu hd).1
def ZPG(s:Sta)(h:ClS s)(a:Int)(e:Gt)(m:Int)(L:List Int)(hL:L.length<=100000)(hr:∀o∈L,0<=o):∃fr',Zg rE [1,3,5,7,8,9] c14L0b [(1,I a),(3,stI s),(5,evI e),(7,I m),(8,.isl false false 1<|L.map I),(9,.int .i64 0)] []=some (if L.all (hM s m)=true then .exit 0 else .ret,fr',[])/\
 (L.all (hM s m)=true->get fr' 1=I a/\get fr' 3=stI s/\get fr' 5=evI e/\get fr' 6=.bot/\get fr' 7=I m)/\(L.all (hM s m)=false->get fr' 6=I 18):=by
 have R:=QT (E:=rE) (live:=[1,3,5,7,8,9]) (b:=c14L0b) (h:=[]) L (λ_ o=>hM s m o) (λi=>[(1,I a),(3,stI s),(5,evI e),(7,I m),(8,.isl false false 1<|L.map I),(9,I i)]) 0
  (λfr=>get fr 1=I a/\get fr 3=stI s/\get fr 5=evI e/\get fr 6=.bot/\get fr 7=I m) (λfr=>get fr 6=I 18) (λi=>rfl)
  (λi o ho hP=>by
   have hg:=Z6 (f:=I) ho;have hi':=Zh<|Z7 ho;have hw:=Zx (n:=i) (by have:=Z7 ho;omega)
   have hMo:=ZOl s h.E h.prop.pa o<|hr o<|ZWu ho;simp only[stA]at hMo;have hP':(Zoq s o != m)=false:=by unfold hM at hP;rw[bne,hP];rfl
   refine⟨_,by simp only[go_sem,c14L0b,stI,hg,hi',hw,hMo,hP',ZWd];rfl,?_⟩
   simp only[go_sem,stI])
  (λi o ho hP=>by
   have hg:=Z6 (f:=I) ho;have hi':=Zh<|Z7 ho;have hMo:=ZOl s h.E h.prop.pa o<|hr o<|ZWu ho;simp only[stA]at hMo;have hP':(Zoq s o != m)=true:=by unfold hM at hP;rw[bne,hP];rfl
   refine⟨_,by simp only[go_sem,c14L0b,stI,hg,hi',hMo,hP',ZWd];rfl,?_⟩
   simp only[go_sem])
  (⟨_,by simp only[go_sem,c14L0b,stI,ZG,ZWd];rfl,by refine⟨?_,?_,?_,?_,?_⟩<;>simp only[go_sem]⟩)
 rw[QE]at R;exact R
def clB(s:Sta)(m:Int)(c:Int):Bool:=c != m&&!ZoW s m c
def ZVi(s:Sta)(h:ClS s)(a m:Int)(ha:0<=a/\a<=63)(hm:m=Zoq s a)(v:AV)(hv:clean v=true)(i:Nat)(C:List Int)(hC:C.length<=100000)(hr:∀c∈C,0<=c/\Zoq s c=c):
 ∃fr',Zg rE [1,3,7,10,11,12,13] c14L1b [(1,I a),(3,stI s),(7,I m),(10,v),(11,I i),(12,.isl false false 1<|C.map I),(13,.int .i64 0)] []=some (if C.any (clB s m)=false then .exit 4 else .ret,fr',[])/\
 (C.any (clB s m)=false->get fr' 1=I a/\get fr' 3=stI s/\get fr' 6=.bot/\get fr' 7=I m/\get fr' 10=v/\get fr' 11=I i)/\(C.any (clB s m)=true->get fr' 6=I 19):=by
 have hbv:∀n,bel n v=true:=λn=>by
  have:=ZN (n:=n) [v]<|by simp only[Z4,hv,ZWk]
  simpa only[Zd,ZWk]using this
 have R:=QT (E:=rE) (live:=[1,3,7,10,11,12,13]) (b:=c14L1b) (h:=[]) C (λ_ c=>!clB s m c) (λj=>[(1,I a),(3,stI s),(7,I m),(10,v),(11,I i),(12,.isl false false 1<|C.map I),(13,I j)]) 4
  (λfr=>get fr 1=I a/\get fr 3=stI s/\get fr 6=.bot/\get fr 7=I m/\get fr 10=v/\get fr 11=I i) (λfr=>get fr 6=I 19) (λi=>rfl)
  (λj c hc hP=>by
   have hg:=Z6 (f:=I) hc;have hi':=Zh<|Z7 hc;have hw:=Zx (n:=j) (by have:=Z7 hc;omega)
   obtain⟨r1,r2⟩:=hr c<|ZWu hc;have hPr:=ZQu s h a c ha.1 r1;unfold rpT at hPr;rw[r2,<-hm]at hPr;simp only[stA]at hPr;have hP':clB s m c=false:=by simpa using hP
   unfold clB at hP';cases k:c != m with
   |false=>exact⟨_,by simp only[go_sem,c14L1b,stI,hg,hi',hw,hbv,k,ZWd];rfl,by simp only[go_sem,stI]⟩
   |true=>
    have k2:ZoW s m c=true:=by rw[k]at hP';simpa using hP'
    exact⟨_,by simp only[go_sem,c14L1b,stI,hg,hi',hw,hbv,k,hPr,k2,ZWg,ZWd];rfl,by simp only[go_sem,stI]⟩)
  (λj c hc hP=>by
   have hg:=Z6 (f:=I) hc;have hi':=Zh<|Z7 hc;obtain⟨r1,r2⟩:=hr c<|ZWu hc;have hPr:=ZQu s h a c ha.1 r1;unfold rpT at hPr;rw[r2,<-hm]at hPr;simp only[stA]at hPr;have hP':clB s m c=true:=by simpa using hP
   unfold clB at hP';simp only[ZWe,ZWD]at hP';obtain⟨k,k2⟩:=hP';exact⟨_,by simp only[go_sem,c14L1b,stI,hg,hi',hbv,k,hPr,k2,ZWi,ZWd];rfl,by simp only[go_sem]⟩)
  (⟨_,by simp only[go_sem,c14L1b,stI,hbv,ZG,ZWd];rfl,by refine⟨?_,?_,?_,?_,?_,?_⟩<;>simp only[go_sem]⟩)
 rw[QE]at R;have e:(C.all λc=>!clB s m c) = !C.any (clB s m):=by rw[ZZ7]
 rw[e]at R;obtain⟨fr',h1,h2,h3⟩:=R;refine⟨fr',?_,λhq=>h2 (by rw[hq];rfl),λhq=>h3<|by rw[hq];rfl⟩
 refine Eq.trans h1 ?_;cases C.any (clB s m)<;>rfl
def ZVj(s:Sta)(h:ClS s)(p:Pt):∀c∈ZoH s p,0<=c/\Zoq s c=c:=by
 intro c hc;obtain⟨x,hx,_,rfl⟩:=(Zuy s p c).1 hc;have hr:=h.reg hx;exact⟨(ZpH h.prop.pa hr).1,Zsk h.prop.pa hr.1⟩
def ZOz(s:Sta)(h:ClS s)(a m:Int)(ha:0<=a/\a<=63)(hm:m=Zoq s a)(x:Bool)(l:List Pt)(hl:l.length<=1000):∀(k i:Nat),i+k=l.length->
 ∃fr',Zg rE [1,3,7,10,11] c14L2b [(1,I a),(3,stI s),(7,I m),(10,.isl false x 2<|l.map Pt.enc),(11,I i)] []=some (bif plE s m (l.drop i)==0 then .exit 2 else .ret,fr',[])/\(plE s m (l.drop i)≠0->get fr' 6=I (plE s m<|l.drop i))
 |0,i,hi=>by
  have hi':i=l.length:=by omega
  subst hi';rw[ZYM];refine⟨_,Q7 rfl (e:=.exit 2) (by simp only[go_sem,c14L2b,stI,ZG,ZWd]<;>rfl) (by simp),λhc=>absurd rfl hc⟩
 |k+1,i,hi=>by
  obtain⟨p,hx⟩:∃x,l[i]?=some x:=⟨_,ZWq<|by omega⟩
  have hg:=Z6 (f:=Pt.enc) hx;have hi':=Zh<|Z7 hx;have hwr:=Zx (n:=i)<|by omega
  have hd:l.drop i=p::l.drop (i+1):=by
   rw[ZXo<|Z7 hx];congr 1;have:=ZWq<|Z7 hx;rw[hx]at this;exact(Option.some.inj this).symm
  have hC:=ZSj s h.E h.pr p;have hlen:=ZqC s h p;have hI:=ZSf false false (ZoH s p) (by omega) m
  have ea:(ZoH s p).any (λx=>x==m)=(ZoH s p).any (λy=>m==y):=by congr 1;funext y;exact ZYH
  rw[ea]at hI;have hcI:∀D:List Int,Z4 (D.map I)=true:=λD=>Zw (λt=>rfl) _
  have hcP:∀D:List Pt,Z4 (D.map Pt.enc)=true:=λD=>Zw (λt=>rfl) _
  have hbP:∀(D:List Pt)n,Zd n (D.map Pt.enc)=true:=λD n=>ZN _<|hcP D
  have hcv0:Z4 [AV.isl false x 2<|l.map Pt.enc]=true:=by simp only[go_sem,hcP]
  have hcv:clean (.isl false x 2<|l.map Pt.enc)=true:=by simpa only[Z4,ZWk]using hcv0
  obtain⟨f1,L1,g1,g2⟩:=ZVi s h a m ha hm (.isl false x 2<|l.map Pt.enc) hcv i (ZoH s p) (by omega)<|ZVj s h p
  simp only[stA,stI]at hC L1 g1;rw[hd];unfold plE;have ec:(ZoH s p).any (λc=>c != m&&!ZoW s m c)=(ZoH s p).any (clB s m):=rfl
  rw[ec];cases c1:(ZoH s p).any (λy=>m==y)with
  |false=>
   rw[c1]at hI;exact⟨_,Q7 rfl (e:=.ret) (by simp only[go_sem,c14L2b,c14L1,stI,hg,hi',Pt.enc,hC,hI,ZWi,ZWd]<;>rfl) (by simp),λ_=>by simp only[go_sem,ZWi,cond_true]⟩
  |true=>
  rw[c1]at hI;cases c2:(ZoH s p).any (clB s m)with
  |true=>
   rw[c2,if_neg<|by decide]at L1
   have g:=g2 c2;exact⟨_,Q7 rfl (e:=.ret) (by simp only[go_sem,c14L2b,c14L1,stI,hg,hi',Pt.enc,hC,hI,L1,ZWg,ZWd]<;>rfl) (by simp),λ_=>by simp only[go_sem,g,ZWg,cond_true,cond_false]⟩
  |false=>
   rw[c2,if_pos rfl]at L1;obtain⟨q1,q3,q6,q7,q10,q11⟩:=g1 c2;obtain⟨fr',h1,h2⟩:=ZOz s h a m ha hm x l hl k (i+1)<|by omega
   refine⟨fr',?_,by simpa only[ZWg,cond_false]using h2⟩
   simp only[stI]at h1⊢;rw[Yt rfl (fr':=[(1,I a),(3,stI s),(6,.bot),(7,I m),(10,.isl false x 2<|l.map Pt.enc),(11,I (i+1:Nat))]) (h':=[]) (by
    simp only[go_sem,c14L2b,c14L1,stI,hg,hi',hwr,Pt.enc,hC,hI,L1,q1,q3,q6,q7,q10,q11,hbP,ZWg,ZWd])]
   exact h1
def ZVk{a b:Int}(h:K5 a b=true):0<=b:=by
 unfold K5 ZD at h;simp only[ZWe,decide_eq_true_eq]at h;omega
def ZPH(s:Sta)(hE:StE s)(e:Gt)(he:EvS e):(ozT s e).length<=100000:=by
 have hz:=hE.sizes;have h0:=hz.regions;have h1:=hz.streets;have h2:=hz.buildings;have h3:=hz.doors;have h4:=hz.units;have f:∀{α:Type}(p:α->Bool)(g:α->Int)(l:List α),((l.filter p).map g).length<=l.length:=λp g l=>by rw[ZWd];exact ZXi _ _
 unfold ozT oz0 oz1 oz2 oz3 oz4;simp only[ZWx];have a0:=f (λx:Gm=>ZO3 (th0 e) x.Id) (λx=>x.bg) s.Ga
 have a1:=f (λx:Ev=>ZO3 (th1 e) x.Id) (λx=>x.bg) s.Gr
 have a2:=f (λx:Fa=>ZO3 (th2 e) x.Id) (λx=>x.bg) s.By
 have a3:=f (λx:Gc=>ZO3 (th3 e) x.Id) (λx=>x.bg) s.Bc
 have a4:=f (λx:bc=>ZO3 (th4 e) x.Id) (unD s) s.Nk
 omega
def ZPI(e:Gt)(he:EvS e):(ZoM e).length<=1000:=by
 have:=he.lst;unfold ZoM;cases Q9 e<;>cases e.bp==1||(e.bp==2||e.bp==5)<;>cases e.bp==6||e.bp==10<;>cases e.bp==9<;>simp<;>omega
section
variable (s:Sta) (hR:StR s) (h:ClS s) (a:Int) (ha:0≤a∧a≤63) (hA0:Zoz a=true) (e:Gt) (he:EvQ e) (hf:Q9 e=true)
include hR h ha hA0 he hf
def ZVl(hk:e.bp=14):pfn rE 14 [stA s,I a,evA e]=some (I<|cvV [(32,Zp0 s e a<|Zoq s a),(33,Zp6 s e<|Zoq s a),(34,Zp5 s e<|Zoq s a),(35,Zp1 s e a<|Zoq s a)]):=by
 have q14:(e.bp==14)=true:=by rw[hk];rfl
 have q13:(e.bp==13)=false:=by rw[hk];rfl
 have q15:(e.bp==15)=false:=by rw[hk];rfl
 have q1:(e.bp==1)=false:=by rw[hk];rfl
 have hm:Zoq s a=Zoq s a:=rfl;have hP:=ZOP s hR;have hA:=ZOQ a;have hF:=ZPd e he;rw[h.pr]at hP;rw[hA0]at hA;rw[hf]at hF;have hMa:=ZOl s h.E h.prop.pa a ha.1;have hO:=ZPC s h.E h.pr e he.toEvS;obtain⟨f0,L0,g0,g0'⟩:=ZPG s h a e (Zoq s a) (ozT s e) (ZPH s h.E e he.toEvS)<|ZPF s h e;rw[ZPE s h.pr e hf he.toEvS]at L0 g0 g0';obtain⟨xp,hPl⟩:=ZPD e he;obtain⟨f2,L2,g2⟩:=ZOz s h a (Zoq s a) ha rfl xp (ZoM e) (ZPI e he.toEvS) (ZoM e).length 0 (by omega)
 obtain⟨f3,L3,g3⟩:=ZOz s h a (Zoq s a) ha rfl false [] (by simp) 0 0 rfl
 rw[ZWA]at L2 g2;have L3':Zg rE [1,3,7,10,11] c14L2b [(1,I a),(3,stI s),(7,I<|Zoq s a),(10,.isl false false 2 []),(11,.int .i64 0)] []=some (.exit 2,f3,[]):=L3;have L2':Zg rE [1,3,7,10,11] c14L2b [(1,I a),(3,stI s),(7,I<|Zoq s a),(10,.isl false xp 2<|(ZoM e).map Pt.enc),(11,.int .i64 0)] []=_:=L2;have hcI:∀D:List Int,Z4 (D.map I)=true:=λD=>Zw (λt=>rfl) _
 have hcP:∀D:List Pt,Z4 (D.map Pt.enc)=true:=λD=>Zw (λt=>rfl) _
 have hbP:∀(D:List Pt)n,Zd n (D.map Pt.enc)=true:=λD n=>ZN _<|hcP D
 have z18:((18:Int)==0)=false:=rfl;have z0:((0:Int)==0)=true:=rfl;generalize hmm:Zoq s a=m at*;simp only[stI,stA,evA]at hP hF hMa hO L0 L2' L3' g0 hPl;rw[Z5 (f:=14) rfl rfl];unfold Zp0 Zp5 Zp1;cases k:a != 0 with
 |true=>simp only[go_sem,c14,c14L0,c14L2,hP,hA,hF,hMa,q14,q13,q15,q1,k,z18,hcI,hcP,hbP,ZWd,ZWg,ZWi,ZWf,ZWh,ZWk,ZWm,ZWp,ZWj,ZWl,cond_true,cond_false,cvV,beq_self_eq_true,ZWn,if_false,if_true]
 |false=>
  cases t:Zpb s e m with
  |false=>
   rw[t]at L0;have g:=g0' t;simp only[go_sem,c14,c14L0,c14L2,hP,hA,hF,hMa,q14,q13,q15,q1,hO,L0,g,Zp6,t,z18,k,hcI,hcP,hbP,ZWd,ZWg,ZWi,ZWf,ZWh,ZWk,ZWm,ZWp,ZWj,ZWl,cond_true,cond_false,cvV,beq_self_eq_true,ZWn,if_false,if_true]
  |true=>
   rw[t]at L0;obtain⟨j1,j3,j5,j6,j7⟩:=g0 t;cases v:plE s m (ZoM e)==0 with
   |true=>
    rw[v,cond_true]at L2';have v0:plE s m (ZoM e)=0:=eq_of_beq v;simp only[go_sem,c14,c14L0,c14L2,hP,hA,hF,hMa,q14,q13,q15,q1,hO,L0,j1,j3,j5,j6,j7,hPl,L2',Zp6,t,z18,z0,v0,k,hcI,hcP,hbP,ZWd,ZWg,ZWi,ZWf,ZWh,ZWk,ZWm,ZWp,ZWj,ZWl,cond_true,cond_false,cvV,beq_self_eq_true,ZWn,if_false,if_true]
   |false=>
    rw[v,cond_false]at L2';have g:=g2<|by intro hq;rw[hq]at v;cases v
    simp only[go_sem,c14,c14L0,c14L2,hP,hA,hF,hMa,q14,q13,q15,q1,hO,L0,j1,j3,j5,j6,j7,hPl,L2',g,Zp6,t,z18,z0,v,k,hcI,hcP,hbP,ZWd,ZWg,ZWi,ZWf,ZWh,ZWk,ZWm,ZWp,ZWj,ZWl,cond_true,cond_false,cvV,beq_self_eq_true,ZWn,if_false,if_true]
def ZVm(hk:e.bp=13):pfn rE 14 [stA s,I a,evA e]=some (I<|cvV [(32,Zp0 s e a<|Zoq s a),(33,Zp6 s e<|Zoq s a),(34,Zp5 s e<|Zoq s a),(35,Zp1 s e a<|Zoq s a)]):=by
 have q14:(e.bp==14)=false:=by rw[hk];rfl
 have q13:(e.bp==13)=true:=by rw[hk];rfl
 have q15:(e.bp==15)=false:=by rw[hk];rfl
 have q1:(e.bp==1)=false:=by rw[hk];rfl
 have hB:=ZOl s h.E h.prop.pa e.B (by
  have hn:=ZcV hf;rw[ZcW hk]at hn;exact ZVk (show K5 e.A e.B=true from hn))
 have hm:Zoq s a=Zoq s a:=rfl;have hP:=ZOP s hR;have hA:=ZOQ a;have hF:=ZPd e he;rw[h.pr]at hP;rw[hA0]at hA;rw[hf]at hF;have hMa:=ZOl s h.E h.prop.pa a ha.1;have hO:=ZPC s h.E h.pr e he.toEvS;obtain⟨f0,L0,g0,g0'⟩:=ZPG s h a e (Zoq s a) (ozT s e) (ZPH s h.E e he.toEvS)<|ZPF s h e;rw[ZPE s h.pr e hf he.toEvS]at L0 g0 g0';obtain⟨xp,hPl⟩:=ZPD e he;obtain⟨f2,L2,g2⟩:=ZOz s h a (Zoq s a) ha rfl xp (ZoM e) (ZPI e he.toEvS) (ZoM e).length 0 (by omega)
 obtain⟨f3,L3,g3⟩:=ZOz s h a (Zoq s a) ha rfl false [] (by simp) 0 0 rfl
 rw[ZWA]at L2 g2;have L3':Zg rE [1,3,7,10,11] c14L2b [(1,I a),(3,stI s),(7,I<|Zoq s a),(10,.isl false false 2 []),(11,.int .i64 0)] []=some (.exit 2,f3,[]):=L3;have L2':Zg rE [1,3,7,10,11] c14L2b [(1,I a),(3,stI s),(7,I<|Zoq s a),(10,.isl false xp 2<|(ZoM e).map Pt.enc),(11,.int .i64 0)] []=_:=L2;have hcI:∀D:List Int,Z4 (D.map I)=true:=λD=>Zw (λt=>rfl) _
 have hcP:∀D:List Pt,Z4 (D.map Pt.enc)=true:=λD=>Zw (λt=>rfl) _
 have hbP:∀(D:List Pt)n,Zd n (D.map Pt.enc)=true:=λD n=>ZN _<|hcP D
 have z18:((18:Int)==0)=false:=rfl;have z0:((0:Int)==0)=true:=rfl;generalize hmm:Zoq s a=m at*;simp only[stI,stA,evA]at hP hF hMa hO L0 L2' L3' g0 hPl hB;rw[Z5 (f:=14) rfl rfl];unfold Zp0 Zp5 Zp1;cases k:Zoq s e.B != m with
 |true=>simp only[go_sem,c14,c14L0,c14L2,hP,hA,hF,hMa,q14,q13,q15,q1,k,hB,z18,hcI,hcP,hbP,ZWd,ZWg,ZWi,ZWf,ZWh,ZWk,ZWm,ZWp,ZWj,ZWl,cond_true,cond_false,cvV,beq_self_eq_true,ZWn,if_false,if_true]
 |false=>
  cases t:Zpb s e m with
  |false=>
   rw[t]at L0;have g:=g0' t;simp only[go_sem,c14,c14L0,c14L2,hP,hA,hF,hMa,q14,q13,q15,q1,hO,L0,g,Zp6,t,z18,k,hB,hcI,hcP,hbP,ZWd,ZWg,ZWi,ZWf,ZWh,ZWk,ZWm,ZWp,ZWj,ZWl,cond_true,cond_false,cvV,beq_self_eq_true,ZWn,if_false,if_true]
  |true=>
   rw[t]at L0;obtain⟨j1,j3,j5,j6,j7⟩:=g0 t;cases v:plE s m (ZoM e)==0 with
   |true=>
    rw[v,cond_true]at L2';have v0:plE s m (ZoM e)=0:=eq_of_beq v;simp only[go_sem,c14,c14L0,c14L2,hP,hA,hF,hMa,q14,q13,q15,q1,hO,L0,j1,j3,j5,j6,j7,hPl,L2',Zp6,t,z18,z0,v0,k,hB,hcI,hcP,hbP,ZWd,ZWg,ZWi,ZWf,ZWh,ZWk,ZWm,ZWp,ZWj,ZWl,cond_true,cond_false,cvV,beq_self_eq_true,ZWn,if_false,if_true]
   |false=>
    rw[v,cond_false]at L2';have g:=g2<|by intro hq;rw[hq]at v;cases v
    simp only[go_sem,c14,c14L0,c14L2,hP,hA,hF,hMa,q14,q13,q15,q1,hO,L0,j1,j3,j5,j6,j7,hPl,L2',g,Zp6,t,z18,z0,v,k,hB,hcI,hcP,hbP,ZWd,ZWg,ZWi,ZWf,ZWh,ZWk,ZWm,ZWp,ZWj,ZWl,cond_true,cond_false,cvV,beq_self_eq_true,ZWn,if_false,if_true]
def ZVn(hk:e.bp=15):pfn rE 14 [stA s,I a,evA e]=some (I<|cvV [(32,Zp0 s e a<|Zoq s a),(33,Zp6 s e<|Zoq s a),(34,Zp5 s e<|Zoq s a),(35,Zp1 s e a<|Zoq s a)]):=by
 have q14:(e.bp==14)=false:=by rw[hk];rfl
 have q13:(e.bp==13)=false:=by rw[hk];rfl
 have q15:(e.bp==15)=true:=by rw[hk];rfl
 have q1:(e.bp==1)=false:=by rw[hk];rfl
 have hm:Zoq s a=Zoq s a:=rfl;have hP:=ZOP s hR;have hA:=ZOQ a;have hF:=ZPd e he;rw[h.pr]at hP;rw[hA0]at hA;rw[hf]at hF;have hMa:=ZOl s h.E h.prop.pa a ha.1;have hO:=ZPC s h.E h.pr e he.toEvS;obtain⟨f0,L0,g0,g0'⟩:=ZPG s h a e (Zoq s a) (ozT s e) (ZPH s h.E e he.toEvS)<|ZPF s h e;rw[ZPE s h.pr e hf he.toEvS]at L0 g0 g0';obtain⟨xp,hPl⟩:=ZPD e he;obtain⟨f2,L2,g2⟩:=ZOz s h a (Zoq s a) ha rfl xp (ZoM e) (ZPI e he.toEvS) (ZoM e).length 0 (by omega)
 obtain⟨f3,L3,g3⟩:=ZOz s h a (Zoq s a) ha rfl false [] (by simp) 0 0 rfl
 rw[ZWA]at L2 g2;have L3':Zg rE [1,3,7,10,11] c14L2b [(1,I a),(3,stI s),(7,I<|Zoq s a),(10,.isl false false 2 []),(11,.int .i64 0)] []=some (.exit 2,f3,[]):=L3;have L2':Zg rE [1,3,7,10,11] c14L2b [(1,I a),(3,stI s),(7,I<|Zoq s a),(10,.isl false xp 2<|(ZoM e).map Pt.enc),(11,.int .i64 0)] []=_:=L2;have hcI:∀D:List Int,Z4 (D.map I)=true:=λD=>Zw (λt=>rfl) _
 have hcP:∀D:List Pt,Z4 (D.map Pt.enc)=true:=λD=>Zw (λt=>rfl) _
 have hbP:∀(D:List Pt)n,Zd n (D.map Pt.enc)=true:=λD n=>ZN _<|hcP D
 have z18:((18:Int)==0)=false:=rfl;have z0:((0:Int)==0)=true:=rfl;generalize hmm:Zoq s a=m at*;have hT:=ZVb s h m;simp only[stI,stA,evA]at hP hF hMa hO L0 L2' L3' g0 hPl hT;have eT:s.Ga.any (twB s m)=s.Ga.any (λx=>ZoG x&&Zoq s x.bg==m):=rfl
 rw[Z5 (f:=14) rfl rfl];unfold Zp0 Zp5 Zp1;rw[<-eT];cases t:Zpb s e m with
 |false=>
  rw[t]at L0;have g:=g0' t;simp only[go_sem,c14,c14L0,c14L2,hP,hA,hF,hMa,q14,q13,q15,q1,hO,L0,g,Zp6,t,z18,hcI,hcP,hbP,ZWd,ZWg,ZWi,ZWf,ZWh,ZWk,ZWm,ZWp,ZWj,ZWl,cond_true,cond_false,cvV,beq_self_eq_true,ZWn,if_false,if_true]
 |true=>
  rw[t]at L0;obtain⟨j1,j3,j5,j6,j7⟩:=g0 t;cases k:s.Ga.any (twB s m)with
  |false=>rw[k]at hT;simp only[go_sem,c14,c14L0,c14L2,hP,hA,hF,hMa,q14,q13,q15,q1,hO,L0,j1,j3,j5,j6,j7,hT,Zp6,t,z18,z0,k,hcI,hcP,hbP,ZWd,ZWg,ZWi,ZWf,ZWh,ZWk,ZWm,ZWp,ZWj,ZWl,cond_true,cond_false,cvV,beq_self_eq_true,ZWn,if_false,if_true]
  |true=>
   rw[k]at hT;cases v:plE s m (ZoM e)==0 with
   |true=>
    rw[v,cond_true]at L2';have v0:plE s m (ZoM e)=0:=eq_of_beq v;simp only[go_sem,c14,c14L0,c14L2,hP,hA,hF,hMa,q14,q13,q15,q1,hO,L0,j1,j3,j5,j6,j7,hPl,L2',Zp6,t,z18,z0,v0,hT,k,hcI,hcP,hbP,ZWd,ZWg,ZWi,ZWf,ZWh,ZWk,ZWm,ZWp,ZWj,ZWl,cond_true,cond_false,cvV,beq_self_eq_true,ZWn,if_false,if_true]
   |false=>
    rw[v,cond_false]at L2';have g:=g2<|by intro hq;rw[hq]at v;cases v
    simp only[go_sem,c14,c14L0,c14L2,hP,hA,hF,hMa,q14,q13,q15,q1,hO,L0,j1,j3,j5,j6,j7,hPl,L2',g,Zp6,t,z18,z0,v,hT,k,hcI,hcP,hbP,ZWd,ZWg,ZWi,ZWf,ZWh,ZWk,ZWm,ZWp,ZWj,ZWl,cond_true,cond_false,cvV,beq_self_eq_true,ZWn,if_false,if_true]
def ZVo(hk:e.bp=1):pfn rE 14 [stA s,I a,evA e]=some (I<|cvV [(32,Zp0 s e a<|Zoq s a),(33,Zp6 s e<|Zoq s a),(34,Zp5 s e<|Zoq s a),(35,Zp1 s e a<|Zoq s a)]):=by
 have q14:(e.bp==14)=false:=by rw[hk];rfl
 have q13:(e.bp==13)=false:=by rw[hk];rfl
 have q15:(e.bp==15)=false:=by rw[hk];rfl
 have q1:(e.bp==1)=true:=by rw[hk];rfl
 have hm:Zoq s a=Zoq s a:=rfl;have hP:=ZOP s hR;have hA:=ZOQ a;have hF:=ZPd e he;rw[h.pr]at hP;rw[hA0]at hA;rw[hf]at hF;have hMa:=ZOl s h.E h.prop.pa a ha.1;have hO:=ZPC s h.E h.pr e he.toEvS;obtain⟨f0,L0,g0,g0'⟩:=ZPG s h a e (Zoq s a) (ozT s e) (ZPH s h.E e he.toEvS)<|ZPF s h e;rw[ZPE s h.pr e hf he.toEvS]at L0 g0 g0';obtain⟨xp,hPl⟩:=ZPD e he;obtain⟨f2,L2,g2⟩:=ZOz s h a (Zoq s a) ha rfl xp (ZoM e) (ZPI e he.toEvS) (ZoM e).length 0 (by omega)
 obtain⟨f3,L3,g3⟩:=ZOz s h a (Zoq s a) ha rfl false [] (by simp) 0 0 rfl
 rw[ZWA]at L2 g2;have L3':Zg rE [1,3,7,10,11] c14L2b [(1,I a),(3,stI s),(7,I<|Zoq s a),(10,.isl false false 2 []),(11,.int .i64 0)] []=some (.exit 2,f3,[]):=L3;have L2':Zg rE [1,3,7,10,11] c14L2b [(1,I a),(3,stI s),(7,I<|Zoq s a),(10,.isl false xp 2<|(ZoM e).map Pt.enc),(11,.int .i64 0)] []=_:=L2;have hcI:∀D:List Int,Z4 (D.map I)=true:=λD=>Zw (λt=>rfl) _
 have hcP:∀D:List Pt,Z4 (D.map Pt.enc)=true:=λD=>Zw (λt=>rfl) _
 have hbP:∀(D:List Pt)n,Zd n (D.map Pt.enc)=true:=λD n=>ZN _<|hcP D
 have z18:((18:Int)==0)=false:=rfl;have z0:((0:Int)==0)=true:=rfl;generalize hmm:Zoq s a=m at*;have hR1:=ZVa s h.E.sizes e.Id;simp only[stI,stA,evA]at hP hF hMa hO L0 L2' L3' g0 hPl hR1;rw[Z5 (f:=14) rfl rfl];unfold Zp0 Zp5 Zp1;cases t:Zpb s e m with
 |false=>
  rw[t]at L0;have g:=g0' t;simp only[go_sem,c14,c14L0,c14L2,hP,hA,hF,hMa,q14,q13,q15,q1,hO,L0,g,Zp6,t,z18,hcI,hcP,hbP,ZWd,ZWg,ZWi,ZWf,ZWh,ZWk,ZWm,ZWp,ZWj,ZWl,cond_true,cond_false,cvV,beq_self_eq_true,ZWn,if_false,if_true]
 |true=>
  rw[t]at L0;obtain⟨j1,j3,j5,j6,j7⟩:=g0 t;cases k:s.Ga.any (λx=>Z3 x.Id e.Id)with
  |true=>
   rw[k]at hR1;simp only[go_sem,c14,c14L0,c14L2,hP,hA,hF,hMa,q14,q13,q15,q1,hO,L0,j1,j3,j5,j6,j7,hPl,L3',Zp6,t,z18,z0,ZWB,hR1,k,hcI,hcP,hbP,ZWd,ZWg,ZWi,ZWf,ZWh,ZWk,ZWm,ZWp,ZWj,ZWl,cond_true,cond_false,cvV,beq_self_eq_true,ZWn,if_false,if_true]
  |false=>
   rw[k]at hR1;cases k2:e.A==1 with
   |true=>
    cases k3:a==0 with
    |true=>simp only[go_sem,c14,c14L0,c14L2,hP,hA,hF,hMa,q14,q13,q15,q1,hO,L0,j1,j3,j5,j6,j7,hPl,hR1,Zp6,t,z18,z0,k,k2,k3,hcI,hcP,hbP,ZWd,ZWg,ZWi,ZWf,ZWh,ZWk,ZWm,ZWp,ZWj,ZWl,cond_true,cond_false,cvV,beq_self_eq_true,ZWn,if_false,if_true]
    |false=>
     simp only[go_sem,c14,c14L0,c14L2,hP,hA,hF,hMa,q14,q13,q15,q1,hO,L0,j1,j3,j5,j6,j7,hPl,L3',Zp6,t,z18,z0,ZWB,hR1,k,k2,k3,hcI,hcP,hbP,ZWd,ZWg,ZWi,ZWf,ZWh,ZWk,ZWm,ZWp,ZWj,ZWl,cond_true,cond_false,cvV,beq_self_eq_true,ZWn,if_false,if_true]
   |false=>
    cases v:plE s m (ZoM e)==0 with
    |true=>
     rw[v,cond_true]at L2';have v0:plE s m (ZoM e)=0:=eq_of_beq v;simp only[go_sem,c14,c14L0,c14L2,hP,hA,hF,hMa,q14,q13,q15,q1,hO,L0,j1,j3,j5,j6,j7,hPl,L2',Zp6,t,z18,z0,v0,hR1,k,k2,hcI,hcP,hbP,ZWd,ZWg,ZWi,ZWf,ZWh,ZWk,ZWm,ZWp,ZWj,ZWl,cond_true,cond_false,cvV,beq_self_eq_true,ZWn,if_false,if_true]
    |false=>
     rw[v,cond_false]at L2';have g:=g2<|by intro hq;rw[hq]at v;cases v
     simp only[go_sem,c14,c14L0,c14L2,hP,hA,hF,hMa,q14,q13,q15,q1,hO,L0,j1,j3,j5,j6,j7,hPl,L2',g,Zp6,t,z18,z0,v,hR1,k,k2,hcI,hcP,hbP,ZWd,ZWg,ZWi,ZWf,ZWh,ZWk,ZWm,ZWp,ZWj,ZWl,cond_true,cond_false,cvV,beq_self_eq_true,ZWn,if_false,if_true]
def ZVp(hk14:e.bp≠14)(hk13:e.bp≠13)(hk15:e.bp≠15)(hk1:e.bp≠1):pfn rE 14 [stA s,I a,evA e]=some (I<|cvV [(32,Zp0 s e a<|Zoq s a),(33,Zp6 s e<|Zoq s a),(34,Zp5 s e<|Zoq s a),(35,Zp1 s e a<|Zoq s a)]):=by
 have q14:(e.bp==14)=false:=by rw[beq_eq_false_iff_ne];exact hk14
 have q13:(e.bp==13)=false:=by rw[beq_eq_false_iff_ne];exact hk13
 have q15:(e.bp==15)=false:=by rw[beq_eq_false_iff_ne];exact hk15
 have q1:(e.bp==1)=false:=by rw[beq_eq_false_iff_ne];exact hk1
 have hm:Zoq s a=Zoq s a:=rfl;have hP:=ZOP s hR;have hA:=ZOQ a;have hF:=ZPd e he;rw[h.pr]at hP;rw[hA0]at hA;rw[hf]at hF;have hMa:=ZOl s h.E h.prop.pa a ha.1;have hO:=ZPC s h.E h.pr e he.toEvS;obtain⟨f0,L0,g0,g0'⟩:=ZPG s h a e (Zoq s a) (ozT s e) (ZPH s h.E e he.toEvS)<|ZPF s h e;rw[ZPE s h.pr e hf he.toEvS]at L0 g0 g0';obtain⟨xp,hPl⟩:=ZPD e he;obtain⟨f2,L2,g2⟩:=ZOz s h a (Zoq s a) ha rfl xp (ZoM e) (ZPI e he.toEvS) (ZoM e).length 0 (by omega)
 obtain⟨f3,L3,g3⟩:=ZOz s h a (Zoq s a) ha rfl false [] (by simp) 0 0 rfl
 rw[ZWA]at L2 g2;have L3':Zg rE [1,3,7,10,11] c14L2b [(1,I a),(3,stI s),(7,I<|Zoq s a),(10,.isl false false 2 []),(11,.int .i64 0)] []=some (.exit 2,f3,[]):=L3;have L2':Zg rE [1,3,7,10,11] c14L2b [(1,I a),(3,stI s),(7,I<|Zoq s a),(10,.isl false xp 2<|(ZoM e).map Pt.enc),(11,.int .i64 0)] []=_:=L2;have hcI:∀D:List Int,Z4 (D.map I)=true:=λD=>Zw (λt=>rfl) _
 have hcP:∀D:List Pt,Z4 (D.map Pt.enc)=true:=λD=>Zw (λt=>rfl) _
 have hbP:∀(D:List Pt)n,Zd n (D.map Pt.enc)=true:=λD n=>ZN _<|hcP D
 have z18:((18:Int)==0)=false:=rfl;have z0:((0:Int)==0)=true:=rfl;generalize hmm:Zoq s a=m at*;simp only[stI,stA,evA]at hP hF hMa hO L0 L2' L3' g0 hPl;rw[Z5 (f:=14) rfl rfl];unfold Zp0 Zp5 Zp1;cases t:Zpb s e m with
 |false=>
  rw[t]at L0;have g:=g0' t;simp only[go_sem,c14,c14L0,c14L2,hP,hA,hF,hMa,q14,q13,q15,q1,hO,L0,g,Zp6,t,z18,hcI,hcP,hbP,ZWd,ZWg,ZWi,ZWf,ZWh,ZWk,ZWm,ZWp,ZWj,ZWl,cond_true,cond_false,cvV,beq_self_eq_true,ZWn,if_false,if_true]
 |true=>
  rw[t]at L0;obtain⟨j1,j3,j5,j6,j7⟩:=g0 t;cases v:plE s m (ZoM e)==0 with
  |true=>
   rw[v,cond_true]at L2';have v0:plE s m (ZoM e)=0:=eq_of_beq v;simp only[go_sem,c14,c14L0,c14L2,hP,hA,hF,hMa,q14,q13,q15,q1,hO,L0,j1,j3,j5,j6,j7,hPl,L2',Zp6,t,z18,z0,v0,hcI,hcP,hbP,ZWd,ZWg,ZWi,ZWf,ZWh,ZWk,ZWm,ZWp,ZWj,ZWl,cond_true,cond_false,cvV,beq_self_eq_true,ZWn,if_false,if_true]
  |false=>
   rw[v,cond_false]at L2';have g:=g2<|by intro hq;rw[hq]at v;cases v
   simp only[go_sem,c14,c14L0,c14L2,hP,hA,hF,hMa,q14,q13,q15,q1,hO,L0,j1,j3,j5,j6,j7,hPl,L2',g,Zp6,t,z18,z0,v,hcI,hcP,hbP,ZWd,ZWg,ZWi,ZWf,ZWh,ZWk,ZWm,ZWp,ZWj,ZWl,cond_true,cond_false,cvV,beq_self_eq_true,ZWn,if_false,if_true]
end
def ZVq(s:Sta)(hR:StR s)(a:Int)(e:Gt)(he:EvQ e):pfn rE 14 [stA s,I a,evA e]=some (I<|ZoN s a e):=by
 have hP:=ZOP s hR;have hA:=ZOQ a;have hF:=ZPd e he;unfold ZoN;cases c:Jx s with
 |false=>
  rw[c]at hP;simp only[stA]at hP;rw[Z5 (f:=14) rfl rfl];simp only[go_sem,c14,stA,hP,ZWi,ZWj]
 |true=>
 cases c1:Zoz a with
 |false=>
  rw[c]at hP;rw[c1]at hA;simp only[stA]at hP;rw[Z5 (f:=14) rfl rfl];simp only[go_sem,c14,stA,hP,hA,ZWi,ZWg,ZWl,ZWj]
 |true=>
 cases c2:Q9 e with
 |false=>
  rw[c]at hP;rw[c1]at hA;rw[c2]at hF;simp only[stA,evA]at hP hF;rw[Z5 (f:=14) rfl rfl];simp only[go_sem,c14,stA,hP,hA,hF,ZWi,ZWg,ZWl]
 |true=>
 rw[show(!true||(!true||!true))=false from rfl,cond_false]
 have h:ClS s:=⟨hR.toStE,c⟩;have ha:=Zpf c1;by_cases k14:e.bp=14
 .exact ZVl s hR h a ha c1 e he c2 k14
 by_cases k13:e.bp=13
 .exact ZVm s hR h a ha c1 e he c2 k13
 by_cases k15:e.bp=15
 .exact ZVn s hR h a ha c1 e he c2 k15
 by_cases k1:e.bp=1
 .exact ZVo s hR h a ha c1 e he c2 k1
 exact ZVp s hR h a ha c1 e he c2 k14 k13 k15 k1
end Go.AM
namespace Go.AM
open Go
variable [REdz]
def ZQ2{t:Str}(h:ZU t=true):t.size<=1000000:=by
 unfold ZU at h;rw[ZWD]at h;have:=of_decide_eq_false h;omega
def ZQx{l:List Nm}(h:XQ l=true):∀n∈l,n.Lang.size<=1000000/\n.Text.size<=1000000:=by
 unfold XQ at h;rw[ZWe]at h;have hl:=of_decide_eq_true h.2;rw[ZWP<|by omega]at h
 intro n hn;have h1:=ZWw.1 h.1 n hn;unfold M1 at h1;simp only[ZWV,ZXN,ZWe,ZWk]at h1;exact⟨ZQ2 h1.1,ZQ2 h1.2⟩
def ZVr{s:Sta}(h:YQ s=true):StR s:=by
 have hz:=Kl s h;simp only[YQ,M3,ZWe,ZWD]at h;obtain⟨⟨_,_,_,_,_,d5,_⟩,e0,e1,_⟩:=h;have k5:=of_decide_eq_false d5;refine⟨hz.e,λx hx=>?_,λx hx=>?_,by omega⟩
 .have h1:=ZWw.1 e0 x hx;unfold WQ at h1;simp only[ZWe]at h1;exact ZQx h1.2.1
 .have h1:=ZWw.1 e1 x hx;unfold WR at h1;simp only[ZWe]at h1;exact ZQx h1.2.1
def ZVs{e:Gt}(h:Xn e=true):EvQ e:=by
 have hz:=JL e h;simp only[Xn,ZWe]at h;obtain⟨h0,_,_,h3,h4,_,h6⟩:=h;refine⟨⟨hz,ZQx h4⟩,λx hx=>ZQ2<|ZWw.1 h3 x hx,λx hx=>?_⟩
 unfold FT at h0;have hl:=of_decide_eq_true h6;rw[ZWP<|by omega]at h0
 have h1:=ZWw.1 h0 x hx;unfold M2 at h1;simp only[ZWV,ZXN,ZWe,ZWk]at h1;exact ZQ2 h1.1
def ZCp(hup:pfn rE 4 []=some (.bool true))(s:Sta)(p:Pt)(a b:Int)(e:Gt):pfn rE 3 [stA s,.agg [I p.X,I p.Y],I a,I b,evA e]=some (.bool true):=by
 have hw:=ZqV s e;simp only[stA,evA]at hw⊢;cases c1:YQ s&&Xn e with
 |false=>
  rw[c1]at hw;rw[Z5 (f:=3) rfl rfl];simp only[go_sem,c3,hup,hw,ZWi]
 |true=>
 rw[c1]at hw;rw[ZWe]at c1;have hR:=ZVr c1.1;have hQ:=ZVs c1.2;have e1:=ZqU s hR.toStE p;have e2:=ZUI s hR p;have e3:=Zpp s hR.toStE a;have e4:=ZUD s hR a;have e5:=ZqT s hR.toStE a b;have e6:=ZUM s hR a b;have e7:=Zpq s hR.toStE a e hQ.toEvS;have e8:=ZVq s hR a e hQ;have hlen:(Zpg s p).length<=100000:=by
  unfold Zpg;cases c:Jx s with
  |false=>simp
  |true=>
   cases gOn p with
   |false=>simp
   |true=>exact ZqC s ⟨hR.toStE,c⟩ p
 have e9:=ZpZ (Zpg s p) hlen;have hcI:∀D:List Int,Z4 (D.map I)=true:=λD=>Zw (λt=>rfl) _
 have hn:∀n:Int,(n==n)=true:=λn=>by simp
 have hb:∀n:Bool,(n==n)=true:=λn=>by simp
 simp only[stA,evA]at e1 e2 e3 e4 e5 e6 e7 e8;rw[Z5 (f:=3) rfl rfl];simp only[go_sem,c3,hup,hw,e1,e2,e3,e4,e5,e6,e7,e8,e9,hcI,hn,hb,ZWg]
end Go.AM
