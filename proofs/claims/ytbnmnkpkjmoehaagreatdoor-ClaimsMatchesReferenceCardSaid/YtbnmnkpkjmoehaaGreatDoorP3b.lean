/- What the functions of the program compute, part 2, for ClaimsMatchesReference. No condition. -/
import Derived.Test.YtbnmnkpkjmoehaaGreatDoorP3a
import Derived.Test.YtbnmnkpkjmoehaaGreatDoorQ5
set_option linter.unusedVariables false
set_option linter.defProp false
set_option linter.unusedSimpArgs false
set_option linter.unusedSectionVars false
namespace Go.AM
open Go
variable [REdz]
def kIn(e:Gt)(ks:List Int):Bool:=ks.any<|λx=>e.bp==x
def Zq(e:Gt):Gt:=
 {bp:=e.bp,Day:=e.Day,
  A:=bif kIn e [13,14]then(bif kIn e [1]then 0 else 0)else(bif kIn e [1]then 0 else e.A),
  B:=bif kIn e [13,14]then 0 else e.B,
  br:=bif e.bp==15 then 0 else e.br,
  Id:=bif kIn e [13,14]then e.Id else emp,
  bq:=bif kIn e [4,6,7]then emp else e.bq,
  Text:=bif kIn e [6,7,15]then emp else e.Text,
  Ids:=bif e.bp==10 then⟨false,[]⟩else e.Ids,
  bh:=bif e.bp==3 then⟨false,[]⟩else e.bh,
  An:=bif kIn e [6,10]then⟨0,emp,0,0⟩else e.An,
  bf:=bif kIn e [6,10]then⟨0,0⟩else e.bf,
  Path:=bif kIn e [1,2,5]then⟨false,[]⟩else e.Path,
  Lst:=bif kIn e [8,9]then⟨false,[]⟩else e.Lst}
def Zc(ks:List Int)(ex:Bool)(k:Int)(hk:ks.length<=100):pfn rE 109 [.isl false ex 1<|ks.map I,.iptr true [I k]]=some (.bool<|ks.any<|λx=>k==x):=by
 have h:=DR ks ex k<|by omega
 rw[Z5 (f:=109) rfl rfl];simp only[go_sem,c109,h]
def Z2t(e:Gt)(hk:e.bp=1):pfn rE 64 [evA e]=some (evA<|Zq e):=by
 have h0:pfn rE 109 [.isl false false 1 [I 13,I 14],.iptr true [I 1]]=some (.bool false):=Zc [13,14] false 1<|by decide
 have b0:kIn e [13,14]=false:=by unfold kIn;rw[hk];rfl
 have h1:pfn rE 109 [.isl false false 1 [I 1],.iptr true [I 1]]=some (.bool true):=Zc [1] false 1<|by decide
 have b1:kIn e [1]=true:=by unfold kIn;rw[hk];rfl
 have h2:pfn rE 109 [.isl false false 1 [I 1,I 2,I 5],.iptr true [I 1]]=some (.bool true):=Zc [1,2,5] false 1<|by decide
 have b2:kIn e [1,2,5]=true:=by unfold kIn;rw[hk];rfl
 have h3:pfn rE 109 [.isl false false 1 [I 4,I 6,I 7],.iptr true [I 1]]=some (.bool false):=Zc [4,6,7] false 1<|by decide
 have b3:kIn e [4,6,7]=false:=by unfold kIn;rw[hk];rfl
 have h4:pfn rE 109 [.isl false false 1 [I 6,I 7,I 15],.iptr true [I 1]]=some (.bool false):=Zc [6,7,15] false 1<|by decide
 have b4:kIn e [6,7,15]=false:=by unfold kIn;rw[hk];rfl
 have h5:pfn rE 109 [.isl false false 1 [I 6,I 10],.iptr true [I 1]]=some (.bool false):=Zc [6,10] false 1<|by decide
 have b5:kIn e [6,10]=false:=by unfold kIn;rw[hk];rfl
 have h6:pfn rE 109 [.isl false false 1 [I 8,I 9],.iptr true [I 1]]=some (.bool false):=Zc [8,9] false 1<|by decide
 have b6:kIn e [8,9]=false:=by unfold kIn;rw[hk];rfl
 have q0:((1:Int)==3)=false:=rfl;have q1:((1:Int)==10)=false:=rfl;have q2:((1:Int)==15)=false:=rfl;rw[Z5 (f:=64) rfl rfl];unfold Zq;simp only[go_sem,c64,hk,h0,h1,h2,h3,h4,h5,h6,b0,b1,b2,b3,b4,b5,b6,q0,q1,q2]
 try rfl
def Z2u(e:Gt)(hk:e.bp=2):pfn rE 64 [evA e]=some (evA<|Zq e):=by
 have h0:pfn rE 109 [.isl false false 1 [I 13,I 14],.iptr true [I 2]]=some (.bool false):=Zc [13,14] false 2<|by decide
 have b0:kIn e [13,14]=false:=by unfold kIn;rw[hk];rfl
 have h1:pfn rE 109 [.isl false false 1 [I 1],.iptr true [I 2]]=some (.bool false):=Zc [1] false 2<|by decide
 have b1:kIn e [1]=false:=by unfold kIn;rw[hk];rfl
 have h2:pfn rE 109 [.isl false false 1 [I 1,I 2,I 5],.iptr true [I 2]]=some (.bool true):=Zc [1,2,5] false 2<|by decide
 have b2:kIn e [1,2,5]=true:=by unfold kIn;rw[hk];rfl
 have h3:pfn rE 109 [.isl false false 1 [I 4,I 6,I 7],.iptr true [I 2]]=some (.bool false):=Zc [4,6,7] false 2<|by decide
 have b3:kIn e [4,6,7]=false:=by unfold kIn;rw[hk];rfl
 have h4:pfn rE 109 [.isl false false 1 [I 6,I 7,I 15],.iptr true [I 2]]=some (.bool false):=Zc [6,7,15] false 2<|by decide
 have b4:kIn e [6,7,15]=false:=by unfold kIn;rw[hk];rfl
 have h5:pfn rE 109 [.isl false false 1 [I 6,I 10],.iptr true [I 2]]=some (.bool false):=Zc [6,10] false 2<|by decide
 have b5:kIn e [6,10]=false:=by unfold kIn;rw[hk];rfl
 have h6:pfn rE 109 [.isl false false 1 [I 8,I 9],.iptr true [I 2]]=some (.bool false):=Zc [8,9] false 2<|by decide
 have b6:kIn e [8,9]=false:=by unfold kIn;rw[hk];rfl
 have q0:((2:Int)==3)=false:=rfl;have q1:((2:Int)==10)=false:=rfl;have q2:((2:Int)==15)=false:=rfl;rw[Z5 (f:=64) rfl rfl];unfold Zq;simp only[go_sem,c64,hk,h0,h1,h2,h3,h4,h5,h6,b0,b1,b2,b3,b4,b5,b6,q0,q1,q2]
 try rfl
def Z2v(e:Gt)(hk:e.bp=3):pfn rE 64 [evA e]=some (evA<|Zq e):=by
 have h0:pfn rE 109 [.isl false false 1 [I 13,I 14],.iptr true [I 3]]=some (.bool false):=Zc [13,14] false 3<|by decide
 have b0:kIn e [13,14]=false:=by unfold kIn;rw[hk];rfl
 have h1:pfn rE 109 [.isl false false 1 [I 1],.iptr true [I 3]]=some (.bool false):=Zc [1] false 3<|by decide
 have b1:kIn e [1]=false:=by unfold kIn;rw[hk];rfl
 have h2:pfn rE 109 [.isl false false 1 [I 1,I 2,I 5],.iptr true [I 3]]=some (.bool false):=Zc [1,2,5] false 3<|by decide
 have b2:kIn e [1,2,5]=false:=by unfold kIn;rw[hk];rfl
 have h3:pfn rE 109 [.isl false false 1 [I 4,I 6,I 7],.iptr true [I 3]]=some (.bool false):=Zc [4,6,7] false 3<|by decide
 have b3:kIn e [4,6,7]=false:=by unfold kIn;rw[hk];rfl
 have h4:pfn rE 109 [.isl false false 1 [I 6,I 7,I 15],.iptr true [I 3]]=some (.bool false):=Zc [6,7,15] false 3<|by decide
 have b4:kIn e [6,7,15]=false:=by unfold kIn;rw[hk];rfl
 have h5:pfn rE 109 [.isl false false 1 [I 6,I 10],.iptr true [I 3]]=some (.bool false):=Zc [6,10] false 3<|by decide
 have b5:kIn e [6,10]=false:=by unfold kIn;rw[hk];rfl
 have h6:pfn rE 109 [.isl false false 1 [I 8,I 9],.iptr true [I 3]]=some (.bool false):=Zc [8,9] false 3<|by decide
 have b6:kIn e [8,9]=false:=by unfold kIn;rw[hk];rfl
 have q0:((3:Int)==3)=true:=rfl;have q1:((3:Int)==10)=false:=rfl;have q2:((3:Int)==15)=false:=rfl;rw[Z5 (f:=64) rfl rfl];unfold Zq;simp only[go_sem,c64,hk,h0,h1,h2,h3,h4,h5,h6,b0,b1,b2,b3,b4,b5,b6,q0,q1,q2]
 try rfl
def Z2w(e:Gt)(hk:e.bp=4):pfn rE 64 [evA e]=some (evA<|Zq e):=by
 have h0:pfn rE 109 [.isl false false 1 [I 13,I 14],.iptr true [I 4]]=some (.bool false):=Zc [13,14] false 4<|by decide
 have b0:kIn e [13,14]=false:=by unfold kIn;rw[hk];rfl
 have h1:pfn rE 109 [.isl false false 1 [I 1],.iptr true [I 4]]=some (.bool false):=Zc [1] false 4<|by decide
 have b1:kIn e [1]=false:=by unfold kIn;rw[hk];rfl
 have h2:pfn rE 109 [.isl false false 1 [I 1,I 2,I 5],.iptr true [I 4]]=some (.bool false):=Zc [1,2,5] false 4<|by decide
 have b2:kIn e [1,2,5]=false:=by unfold kIn;rw[hk];rfl
 have h3:pfn rE 109 [.isl false false 1 [I 4,I 6,I 7],.iptr true [I 4]]=some (.bool true):=Zc [4,6,7] false 4<|by decide
 have b3:kIn e [4,6,7]=true:=by unfold kIn;rw[hk];rfl
 have h4:pfn rE 109 [.isl false false 1 [I 6,I 7,I 15],.iptr true [I 4]]=some (.bool false):=Zc [6,7,15] false 4<|by decide
 have b4:kIn e [6,7,15]=false:=by unfold kIn;rw[hk];rfl
 have h5:pfn rE 109 [.isl false false 1 [I 6,I 10],.iptr true [I 4]]=some (.bool false):=Zc [6,10] false 4<|by decide
 have b5:kIn e [6,10]=false:=by unfold kIn;rw[hk];rfl
 have h6:pfn rE 109 [.isl false false 1 [I 8,I 9],.iptr true [I 4]]=some (.bool false):=Zc [8,9] false 4<|by decide
 have b6:kIn e [8,9]=false:=by unfold kIn;rw[hk];rfl
 have q0:((4:Int)==3)=false:=rfl;have q1:((4:Int)==10)=false:=rfl;have q2:((4:Int)==15)=false:=rfl;rw[Z5 (f:=64) rfl rfl];unfold Zq;simp only[go_sem,c64,hk,h0,h1,h2,h3,h4,h5,h6,b0,b1,b2,b3,b4,b5,b6,q0,q1,q2]
 try rfl
def Z2x(e:Gt)(hk:e.bp=5):pfn rE 64 [evA e]=some (evA<|Zq e):=by
 have h0:pfn rE 109 [.isl false false 1 [I 13,I 14],.iptr true [I 5]]=some (.bool false):=Zc [13,14] false 5<|by decide
 have b0:kIn e [13,14]=false:=by unfold kIn;rw[hk];rfl
 have h1:pfn rE 109 [.isl false false 1 [I 1],.iptr true [I 5]]=some (.bool false):=Zc [1] false 5<|by decide
 have b1:kIn e [1]=false:=by unfold kIn;rw[hk];rfl
 have h2:pfn rE 109 [.isl false false 1 [I 1,I 2,I 5],.iptr true [I 5]]=some (.bool true):=Zc [1,2,5] false 5<|by decide
 have b2:kIn e [1,2,5]=true:=by unfold kIn;rw[hk];rfl
 have h3:pfn rE 109 [.isl false false 1 [I 4,I 6,I 7],.iptr true [I 5]]=some (.bool false):=Zc [4,6,7] false 5<|by decide
 have b3:kIn e [4,6,7]=false:=by unfold kIn;rw[hk];rfl
 have h4:pfn rE 109 [.isl false false 1 [I 6,I 7,I 15],.iptr true [I 5]]=some (.bool false):=Zc [6,7,15] false 5<|by decide
 have b4:kIn e [6,7,15]=false:=by unfold kIn;rw[hk];rfl
 have h5:pfn rE 109 [.isl false false 1 [I 6,I 10],.iptr true [I 5]]=some (.bool false):=Zc [6,10] false 5<|by decide
 have b5:kIn e [6,10]=false:=by unfold kIn;rw[hk];rfl
 have h6:pfn rE 109 [.isl false false 1 [I 8,I 9],.iptr true [I 5]]=some (.bool false):=Zc [8,9] false 5<|by decide
 have b6:kIn e [8,9]=false:=by unfold kIn;rw[hk];rfl
 have q0:((5:Int)==3)=false:=rfl;have q1:((5:Int)==10)=false:=rfl;have q2:((5:Int)==15)=false:=rfl;rw[Z5 (f:=64) rfl rfl];unfold Zq;simp only[go_sem,c64,hk,h0,h1,h2,h3,h4,h5,h6,b0,b1,b2,b3,b4,b5,b6,q0,q1,q2]
 try rfl
def Z2y(e:Gt)(hk:e.bp=6):pfn rE 64 [evA e]=some (evA<|Zq e):=by
 have h0:pfn rE 109 [.isl false false 1 [I 13,I 14],.iptr true [I 6]]=some (.bool false):=Zc [13,14] false 6<|by decide
 have b0:kIn e [13,14]=false:=by unfold kIn;rw[hk];rfl
 have h1:pfn rE 109 [.isl false false 1 [I 1],.iptr true [I 6]]=some (.bool false):=Zc [1] false 6<|by decide
 have b1:kIn e [1]=false:=by unfold kIn;rw[hk];rfl
 have h2:pfn rE 109 [.isl false false 1 [I 1,I 2,I 5],.iptr true [I 6]]=some (.bool false):=Zc [1,2,5] false 6<|by decide
 have b2:kIn e [1,2,5]=false:=by unfold kIn;rw[hk];rfl
 have h3:pfn rE 109 [.isl false false 1 [I 4,I 6,I 7],.iptr true [I 6]]=some (.bool true):=Zc [4,6,7] false 6<|by decide
 have b3:kIn e [4,6,7]=true:=by unfold kIn;rw[hk];rfl
 have h4:pfn rE 109 [.isl false false 1 [I 6,I 7,I 15],.iptr true [I 6]]=some (.bool true):=Zc [6,7,15] false 6<|by decide
 have b4:kIn e [6,7,15]=true:=by unfold kIn;rw[hk];rfl
 have h5:pfn rE 109 [.isl false false 1 [I 6,I 10],.iptr true [I 6]]=some (.bool true):=Zc [6,10] false 6<|by decide
 have b5:kIn e [6,10]=true:=by unfold kIn;rw[hk];rfl
 have h6:pfn rE 109 [.isl false false 1 [I 8,I 9],.iptr true [I 6]]=some (.bool false):=Zc [8,9] false 6<|by decide
 have b6:kIn e [8,9]=false:=by unfold kIn;rw[hk];rfl
 have q0:((6:Int)==3)=false:=rfl;have q1:((6:Int)==10)=false:=rfl;have q2:((6:Int)==15)=false:=rfl;rw[Z5 (f:=64) rfl rfl];unfold Zq;simp only[go_sem,c64,hk,h0,h1,h2,h3,h4,h5,h6,b0,b1,b2,b3,b4,b5,b6,q0,q1,q2]
 try rfl
def Z2z(e:Gt)(hk:e.bp=7):pfn rE 64 [evA e]=some (evA<|Zq e):=by
 have h0:pfn rE 109 [.isl false false 1 [I 13,I 14],.iptr true [I 7]]=some (.bool false):=Zc [13,14] false 7<|by decide
 have b0:kIn e [13,14]=false:=by unfold kIn;rw[hk];rfl
 have h1:pfn rE 109 [.isl false false 1 [I 1],.iptr true [I 7]]=some (.bool false):=Zc [1] false 7<|by decide
 have b1:kIn e [1]=false:=by unfold kIn;rw[hk];rfl
 have h2:pfn rE 109 [.isl false false 1 [I 1,I 2,I 5],.iptr true [I 7]]=some (.bool false):=Zc [1,2,5] false 7<|by decide
 have b2:kIn e [1,2,5]=false:=by unfold kIn;rw[hk];rfl
 have h3:pfn rE 109 [.isl false false 1 [I 4,I 6,I 7],.iptr true [I 7]]=some (.bool true):=Zc [4,6,7] false 7<|by decide
 have b3:kIn e [4,6,7]=true:=by unfold kIn;rw[hk];rfl
 have h4:pfn rE 109 [.isl false false 1 [I 6,I 7,I 15],.iptr true [I 7]]=some (.bool true):=Zc [6,7,15] false 7<|by decide
 have b4:kIn e [6,7,15]=true:=by unfold kIn;rw[hk];rfl
 have h5:pfn rE 109 [.isl false false 1 [I 6,I 10],.iptr true [I 7]]=some (.bool false):=Zc [6,10] false 7<|by decide
 have b5:kIn e [6,10]=false:=by unfold kIn;rw[hk];rfl
 have h6:pfn rE 109 [.isl false false 1 [I 8,I 9],.iptr true [I 7]]=some (.bool false):=Zc [8,9] false 7<|by decide
 have b6:kIn e [8,9]=false:=by unfold kIn;rw[hk];rfl
 have q0:((7:Int)==3)=false:=rfl;have q1:((7:Int)==10)=false:=rfl;have q2:((7:Int)==15)=false:=rfl;rw[Z5 (f:=64) rfl rfl];unfold Zq;simp only[go_sem,c64,hk,h0,h1,h2,h3,h4,h5,h6,b0,b1,b2,b3,b4,b5,b6,q0,q1,q2]
 try rfl
def Z2A(e:Gt)(hk:e.bp=8):pfn rE 64 [evA e]=some (evA<|Zq e):=by
 have h0:pfn rE 109 [.isl false false 1 [I 13,I 14],.iptr true [I 8]]=some (.bool false):=Zc [13,14] false 8<|by decide
 have b0:kIn e [13,14]=false:=by unfold kIn;rw[hk];rfl
 have h1:pfn rE 109 [.isl false false 1 [I 1],.iptr true [I 8]]=some (.bool false):=Zc [1] false 8<|by decide
 have b1:kIn e [1]=false:=by unfold kIn;rw[hk];rfl
 have h2:pfn rE 109 [.isl false false 1 [I 1,I 2,I 5],.iptr true [I 8]]=some (.bool false):=Zc [1,2,5] false 8<|by decide
 have b2:kIn e [1,2,5]=false:=by unfold kIn;rw[hk];rfl
 have h3:pfn rE 109 [.isl false false 1 [I 4,I 6,I 7],.iptr true [I 8]]=some (.bool false):=Zc [4,6,7] false 8<|by decide
 have b3:kIn e [4,6,7]=false:=by unfold kIn;rw[hk];rfl
 have h4:pfn rE 109 [.isl false false 1 [I 6,I 7,I 15],.iptr true [I 8]]=some (.bool false):=Zc [6,7,15] false 8<|by decide
 have b4:kIn e [6,7,15]=false:=by unfold kIn;rw[hk];rfl
 have h5:pfn rE 109 [.isl false false 1 [I 6,I 10],.iptr true [I 8]]=some (.bool false):=Zc [6,10] false 8<|by decide
 have b5:kIn e [6,10]=false:=by unfold kIn;rw[hk];rfl
 have h6:pfn rE 109 [.isl false false 1 [I 8,I 9],.iptr true [I 8]]=some (.bool true):=Zc [8,9] false 8<|by decide
 have b6:kIn e [8,9]=true:=by unfold kIn;rw[hk];rfl
 have q0:((8:Int)==3)=false:=rfl;have q1:((8:Int)==10)=false:=rfl;have q2:((8:Int)==15)=false:=rfl;rw[Z5 (f:=64) rfl rfl];unfold Zq;simp only[go_sem,c64,hk,h0,h1,h2,h3,h4,h5,h6,b0,b1,b2,b3,b4,b5,b6,q0,q1,q2]
 try rfl
def Z2B(e:Gt)(hk:e.bp=9):pfn rE 64 [evA e]=some (evA<|Zq e):=by
 have h0:pfn rE 109 [.isl false false 1 [I 13,I 14],.iptr true [I 9]]=some (.bool false):=Zc [13,14] false 9<|by decide
 have b0:kIn e [13,14]=false:=by unfold kIn;rw[hk];rfl
 have h1:pfn rE 109 [.isl false false 1 [I 1],.iptr true [I 9]]=some (.bool false):=Zc [1] false 9<|by decide
 have b1:kIn e [1]=false:=by unfold kIn;rw[hk];rfl
 have h2:pfn rE 109 [.isl false false 1 [I 1,I 2,I 5],.iptr true [I 9]]=some (.bool false):=Zc [1,2,5] false 9<|by decide
 have b2:kIn e [1,2,5]=false:=by unfold kIn;rw[hk];rfl
 have h3:pfn rE 109 [.isl false false 1 [I 4,I 6,I 7],.iptr true [I 9]]=some (.bool false):=Zc [4,6,7] false 9<|by decide
 have b3:kIn e [4,6,7]=false:=by unfold kIn;rw[hk];rfl
 have h4:pfn rE 109 [.isl false false 1 [I 6,I 7,I 15],.iptr true [I 9]]=some (.bool false):=Zc [6,7,15] false 9<|by decide
 have b4:kIn e [6,7,15]=false:=by unfold kIn;rw[hk];rfl
 have h5:pfn rE 109 [.isl false false 1 [I 6,I 10],.iptr true [I 9]]=some (.bool false):=Zc [6,10] false 9<|by decide
 have b5:kIn e [6,10]=false:=by unfold kIn;rw[hk];rfl
 have h6:pfn rE 109 [.isl false false 1 [I 8,I 9],.iptr true [I 9]]=some (.bool true):=Zc [8,9] false 9<|by decide
 have b6:kIn e [8,9]=true:=by unfold kIn;rw[hk];rfl
 have q0:((9:Int)==3)=false:=rfl;have q1:((9:Int)==10)=false:=rfl;have q2:((9:Int)==15)=false:=rfl;rw[Z5 (f:=64) rfl rfl];unfold Zq;simp only[go_sem,c64,hk,h0,h1,h2,h3,h4,h5,h6,b0,b1,b2,b3,b4,b5,b6,q0,q1,q2]
 try rfl
def Z2C(e:Gt)(hk:e.bp=10):pfn rE 64 [evA e]=some (evA<|Zq e):=by
 have h0:pfn rE 109 [.isl false false 1 [I 13,I 14],.iptr true [I 10]]=some (.bool false):=Zc [13,14] false 10<|by decide
 have b0:kIn e [13,14]=false:=by unfold kIn;rw[hk];rfl
 have h1:pfn rE 109 [.isl false false 1 [I 1],.iptr true [I 10]]=some (.bool false):=Zc [1] false 10<|by decide
 have b1:kIn e [1]=false:=by unfold kIn;rw[hk];rfl
 have h2:pfn rE 109 [.isl false false 1 [I 1,I 2,I 5],.iptr true [I 10]]=some (.bool false):=Zc [1,2,5] false 10<|by decide
 have b2:kIn e [1,2,5]=false:=by unfold kIn;rw[hk];rfl
 have h3:pfn rE 109 [.isl false false 1 [I 4,I 6,I 7],.iptr true [I 10]]=some (.bool false):=Zc [4,6,7] false 10<|by decide
 have b3:kIn e [4,6,7]=false:=by unfold kIn;rw[hk];rfl
 have h4:pfn rE 109 [.isl false false 1 [I 6,I 7,I 15],.iptr true [I 10]]=some (.bool false):=Zc [6,7,15] false 10<|by decide
 have b4:kIn e [6,7,15]=false:=by unfold kIn;rw[hk];rfl
 have h5:pfn rE 109 [.isl false false 1 [I 6,I 10],.iptr true [I 10]]=some (.bool true):=Zc [6,10] false 10<|by decide
 have b5:kIn e [6,10]=true:=by unfold kIn;rw[hk];rfl
 have h6:pfn rE 109 [.isl false false 1 [I 8,I 9],.iptr true [I 10]]=some (.bool false):=Zc [8,9] false 10<|by decide
 have b6:kIn e [8,9]=false:=by unfold kIn;rw[hk];rfl
 have q0:((10:Int)==3)=false:=rfl;have q1:((10:Int)==10)=true:=rfl;have q2:((10:Int)==15)=false:=rfl;rw[Z5 (f:=64) rfl rfl];unfold Zq;simp only[go_sem,c64,hk,h0,h1,h2,h3,h4,h5,h6,b0,b1,b2,b3,b4,b5,b6,q0,q1,q2]
 try rfl
def Z2D(e:Gt)(hk:e.bp=11):pfn rE 64 [evA e]=some (evA<|Zq e):=by
 have h0:pfn rE 109 [.isl false false 1 [I 13,I 14],.iptr true [I 11]]=some (.bool false):=Zc [13,14] false 11<|by decide
 have b0:kIn e [13,14]=false:=by unfold kIn;rw[hk];rfl
 have h1:pfn rE 109 [.isl false false 1 [I 1],.iptr true [I 11]]=some (.bool false):=Zc [1] false 11<|by decide
 have b1:kIn e [1]=false:=by unfold kIn;rw[hk];rfl
 have h2:pfn rE 109 [.isl false false 1 [I 1,I 2,I 5],.iptr true [I 11]]=some (.bool false):=Zc [1,2,5] false 11<|by decide
 have b2:kIn e [1,2,5]=false:=by unfold kIn;rw[hk];rfl
 have h3:pfn rE 109 [.isl false false 1 [I 4,I 6,I 7],.iptr true [I 11]]=some (.bool false):=Zc [4,6,7] false 11<|by decide
 have b3:kIn e [4,6,7]=false:=by unfold kIn;rw[hk];rfl
 have h4:pfn rE 109 [.isl false false 1 [I 6,I 7,I 15],.iptr true [I 11]]=some (.bool false):=Zc [6,7,15] false 11<|by decide
 have b4:kIn e [6,7,15]=false:=by unfold kIn;rw[hk];rfl
 have h5:pfn rE 109 [.isl false false 1 [I 6,I 10],.iptr true [I 11]]=some (.bool false):=Zc [6,10] false 11<|by decide
 have b5:kIn e [6,10]=false:=by unfold kIn;rw[hk];rfl
 have h6:pfn rE 109 [.isl false false 1 [I 8,I 9],.iptr true [I 11]]=some (.bool false):=Zc [8,9] false 11<|by decide
 have b6:kIn e [8,9]=false:=by unfold kIn;rw[hk];rfl
 have q0:((11:Int)==3)=false:=rfl;have q1:((11:Int)==10)=false:=rfl;have q2:((11:Int)==15)=false:=rfl;rw[Z5 (f:=64) rfl rfl];unfold Zq;simp only[go_sem,c64,hk,h0,h1,h2,h3,h4,h5,h6,b0,b1,b2,b3,b4,b5,b6,q0,q1,q2]
 try rfl
def Z2E(e:Gt)(hk:e.bp=12):pfn rE 64 [evA e]=some (evA<|Zq e):=by
 have h0:pfn rE 109 [.isl false false 1 [I 13,I 14],.iptr true [I 12]]=some (.bool false):=Zc [13,14] false 12<|by decide
 have b0:kIn e [13,14]=false:=by unfold kIn;rw[hk];rfl
 have h1:pfn rE 109 [.isl false false 1 [I 1],.iptr true [I 12]]=some (.bool false):=Zc [1] false 12<|by decide
 have b1:kIn e [1]=false:=by unfold kIn;rw[hk];rfl
 have h2:pfn rE 109 [.isl false false 1 [I 1,I 2,I 5],.iptr true [I 12]]=some (.bool false):=Zc [1,2,5] false 12<|by decide
 have b2:kIn e [1,2,5]=false:=by unfold kIn;rw[hk];rfl
 have h3:pfn rE 109 [.isl false false 1 [I 4,I 6,I 7],.iptr true [I 12]]=some (.bool false):=Zc [4,6,7] false 12<|by decide
 have b3:kIn e [4,6,7]=false:=by unfold kIn;rw[hk];rfl
 have h4:pfn rE 109 [.isl false false 1 [I 6,I 7,I 15],.iptr true [I 12]]=some (.bool false):=Zc [6,7,15] false 12<|by decide
 have b4:kIn e [6,7,15]=false:=by unfold kIn;rw[hk];rfl
 have h5:pfn rE 109 [.isl false false 1 [I 6,I 10],.iptr true [I 12]]=some (.bool false):=Zc [6,10] false 12<|by decide
 have b5:kIn e [6,10]=false:=by unfold kIn;rw[hk];rfl
 have h6:pfn rE 109 [.isl false false 1 [I 8,I 9],.iptr true [I 12]]=some (.bool false):=Zc [8,9] false 12<|by decide
 have b6:kIn e [8,9]=false:=by unfold kIn;rw[hk];rfl
 have q0:((12:Int)==3)=false:=rfl;have q1:((12:Int)==10)=false:=rfl;have q2:((12:Int)==15)=false:=rfl;rw[Z5 (f:=64) rfl rfl];unfold Zq;simp only[go_sem,c64,hk,h0,h1,h2,h3,h4,h5,h6,b0,b1,b2,b3,b4,b5,b6,q0,q1,q2]
 try rfl
def Z2F(e:Gt)(hk:e.bp=13):pfn rE 64 [evA e]=some (evA<|Zq e):=by
 have h0:pfn rE 109 [.isl false false 1 [I 13,I 14],.iptr true [I 13]]=some (.bool true):=Zc [13,14] false 13<|by decide
 have b0:kIn e [13,14]=true:=by unfold kIn;rw[hk];rfl
 have h1:pfn rE 109 [.isl false false 1 [I 1],.iptr true [I 13]]=some (.bool false):=Zc [1] false 13<|by decide
 have b1:kIn e [1]=false:=by unfold kIn;rw[hk];rfl
 have h2:pfn rE 109 [.isl false false 1 [I 1,I 2,I 5],.iptr true [I 13]]=some (.bool false):=Zc [1,2,5] false 13<|by decide
 have b2:kIn e [1,2,5]=false:=by unfold kIn;rw[hk];rfl
 have h3:pfn rE 109 [.isl false false 1 [I 4,I 6,I 7],.iptr true [I 13]]=some (.bool false):=Zc [4,6,7] false 13<|by decide
 have b3:kIn e [4,6,7]=false:=by unfold kIn;rw[hk];rfl
 have h4:pfn rE 109 [.isl false false 1 [I 6,I 7,I 15],.iptr true [I 13]]=some (.bool false):=Zc [6,7,15] false 13<|by decide
 have b4:kIn e [6,7,15]=false:=by unfold kIn;rw[hk];rfl
 have h5:pfn rE 109 [.isl false false 1 [I 6,I 10],.iptr true [I 13]]=some (.bool false):=Zc [6,10] false 13<|by decide
 have b5:kIn e [6,10]=false:=by unfold kIn;rw[hk];rfl
 have h6:pfn rE 109 [.isl false false 1 [I 8,I 9],.iptr true [I 13]]=some (.bool false):=Zc [8,9] false 13<|by decide
 have b6:kIn e [8,9]=false:=by unfold kIn;rw[hk];rfl
 have q0:((13:Int)==3)=false:=rfl;have q1:((13:Int)==10)=false:=rfl;have q2:((13:Int)==15)=false:=rfl;rw[Z5 (f:=64) rfl rfl];unfold Zq;simp only[go_sem,c64,hk,h0,h1,h2,h3,h4,h5,h6,b0,b1,b2,b3,b4,b5,b6,q0,q1,q2]
 try rfl
def Z2G(e:Gt)(hk:e.bp=14):pfn rE 64 [evA e]=some (evA<|Zq e):=by
 have h0:pfn rE 109 [.isl false false 1 [I 13,I 14],.iptr true [I 14]]=some (.bool true):=Zc [13,14] false 14<|by decide
 have b0:kIn e [13,14]=true:=by unfold kIn;rw[hk];rfl
 have h1:pfn rE 109 [.isl false false 1 [I 1],.iptr true [I 14]]=some (.bool false):=Zc [1] false 14<|by decide
 have b1:kIn e [1]=false:=by unfold kIn;rw[hk];rfl
 have h2:pfn rE 109 [.isl false false 1 [I 1,I 2,I 5],.iptr true [I 14]]=some (.bool false):=Zc [1,2,5] false 14<|by decide
 have b2:kIn e [1,2,5]=false:=by unfold kIn;rw[hk];rfl
 have h3:pfn rE 109 [.isl false false 1 [I 4,I 6,I 7],.iptr true [I 14]]=some (.bool false):=Zc [4,6,7] false 14<|by decide
 have b3:kIn e [4,6,7]=false:=by unfold kIn;rw[hk];rfl
 have h4:pfn rE 109 [.isl false false 1 [I 6,I 7,I 15],.iptr true [I 14]]=some (.bool false):=Zc [6,7,15] false 14<|by decide
 have b4:kIn e [6,7,15]=false:=by unfold kIn;rw[hk];rfl
 have h5:pfn rE 109 [.isl false false 1 [I 6,I 10],.iptr true [I 14]]=some (.bool false):=Zc [6,10] false 14<|by decide
 have b5:kIn e [6,10]=false:=by unfold kIn;rw[hk];rfl
 have h6:pfn rE 109 [.isl false false 1 [I 8,I 9],.iptr true [I 14]]=some (.bool false):=Zc [8,9] false 14<|by decide
 have b6:kIn e [8,9]=false:=by unfold kIn;rw[hk];rfl
 have q0:((14:Int)==3)=false:=rfl;have q1:((14:Int)==10)=false:=rfl;have q2:((14:Int)==15)=false:=rfl;rw[Z5 (f:=64) rfl rfl];unfold Zq;simp only[go_sem,c64,hk,h0,h1,h2,h3,h4,h5,h6,b0,b1,b2,b3,b4,b5,b6,q0,q1,q2]
 try rfl
def Z2H(e:Gt)(hk:e.bp=15):pfn rE 64 [evA e]=some (evA<|Zq e):=by
 have h0:pfn rE 109 [.isl false false 1 [I 13,I 14],.iptr true [I 15]]=some (.bool false):=Zc [13,14] false 15<|by decide
 have b0:kIn e [13,14]=false:=by unfold kIn;rw[hk];rfl
 have h1:pfn rE 109 [.isl false false 1 [I 1],.iptr true [I 15]]=some (.bool false):=Zc [1] false 15<|by decide
 have b1:kIn e [1]=false:=by unfold kIn;rw[hk];rfl
 have h2:pfn rE 109 [.isl false false 1 [I 1,I 2,I 5],.iptr true [I 15]]=some (.bool false):=Zc [1,2,5] false 15<|by decide
 have b2:kIn e [1,2,5]=false:=by unfold kIn;rw[hk];rfl
 have h3:pfn rE 109 [.isl false false 1 [I 4,I 6,I 7],.iptr true [I 15]]=some (.bool false):=Zc [4,6,7] false 15<|by decide
 have b3:kIn e [4,6,7]=false:=by unfold kIn;rw[hk];rfl
 have h4:pfn rE 109 [.isl false false 1 [I 6,I 7,I 15],.iptr true [I 15]]=some (.bool true):=Zc [6,7,15] false 15<|by decide
 have b4:kIn e [6,7,15]=true:=by unfold kIn;rw[hk];rfl
 have h5:pfn rE 109 [.isl false false 1 [I 6,I 10],.iptr true [I 15]]=some (.bool false):=Zc [6,10] false 15<|by decide
 have b5:kIn e [6,10]=false:=by unfold kIn;rw[hk];rfl
 have h6:pfn rE 109 [.isl false false 1 [I 8,I 9],.iptr true [I 15]]=some (.bool false):=Zc [8,9] false 15<|by decide
 have b6:kIn e [8,9]=false:=by unfold kIn;rw[hk];rfl
 have q0:((15:Int)==3)=false:=rfl;have q1:((15:Int)==10)=false:=rfl;have q2:((15:Int)==15)=true:=rfl;rw[Z5 (f:=64) rfl rfl];unfold Zq;simp only[go_sem,c64,hk,h0,h1,h2,h3,h4,h5,h6,b0,b1,b2,b3,b4,b5,b6,q0,q1,q2]
 try rfl
def Z2I(e:Gt)(h:ZD e.bp 1 15=true):pfn rE 64 [evA e]=some (evA<|Zq e):=by
 have hk:1<=e.bp/\e.bp<=15:=by simpa[ZD]using h
 have:e.bp=1\/e.bp=2\/e.bp=3\/e.bp=4\/e.bp=5\/e.bp=6\/e.bp=7\/e.bp=8\/e.bp=9\/e.bp=10\/e.bp=11\/e.bp=12\/e.bp=13\/e.bp=14\/e.bp=15:=by omega
 rcases this with h|h|h|h|h|h|h|h|h|h|h|h|h|h|h
 .exact Z2t e h
 .exact Z2u e h
 .exact Z2v e h
 .exact Z2w e h
 .exact Z2x e h
 .exact Z2y e h
 .exact Z2z e h
 .exact Z2A e h
 .exact Z2B e h
 .exact Z2C e h
 .exact Z2D e h
 .exact Z2E e h
 .exact Z2F e h
 .exact Z2G e h
 .exact Z2H e h
def F9(e:Gt):(Zq e).Id.size<=e.Id.size:=by
 unfold Zq;dsimp only;cases kIn e [13,14]with
 |true=>exact ZWo _
 |false=>exact ZWy _
def Jn:List AV:=[.nilfn,.clo (.func 114) [] [.iptr false [.clo (.func 110) [] []]],.clo (.func 115) [] [.iptr false [.clo (.func 110) [] []]],.clo (.func 117) [] [.iptr false [.clo (.func 110) [] []]],.clo (.func 119) [] [],.clo (.func 121) [] [.iptr false [.clo (.func 110) [] []]],.clo (.func 122) [] [],.clo (.func 124) [] [],.clo (.func 126) [] [.iptr false [.clo (.func 110) [] []]],.clo (.func 129) [] [],.clo (.func 130) [] [],.clo (.func 110) [] [],.clo (.func 110) [] [],.clo (.func 112) [] [],.clo (.func 112) [] [],.clo (.func 131) [] [.iptr false [.clo (.func 110) [] []]]]
def Z2K:clean .nilfn=true:=(rfl)
attribute [go_sem] Z2K
def Z2L(off n:Nat)(v:AV):stE off n v .nilfn=st1 off v.cells:=(rfl)
attribute [go_sem] Z2L
def Z2M(sz:Nat):fits sz .nilfn=(sz==1):=(rfl)
attribute [go_sem] Z2M
def Z2N:pfn rE 65 []=some (.agg Jn):=by
 rw[Z5 (f:=65) rfl rfl];unfold Jn;simp only[go_sem,c65]
def Q8(e:Gt):Bool:=
 bif e.bp==1 then ZZ e.Id&&(ZD e.A 1 3&&Vh e.Path.l)else
 bif e.bp==2 then ZZ e.Id&&Ul e.Path.l else
 bif e.bp==3 then ZZ e.Id&&Uz e.bh.l else
 bif e.bp==4 then Qv [e.Id,e.bq]else
 bif e.bp==5 then ZZ e.Id&&Vh e.Path.l else
 bif e.bp==6 then Qv [e.Id,e.bq,e.Text]&&(YO e.An&&gOn e.bf)else
 bif e.bp==7 then Qv [e.Id,e.bq]&&Jm e.Text 24 else
 bif e.bp==8 then ZZ e.Id&&(ZD e.Lst.l.length 1 40&&(Xi e.Lst.l []&&Vk e.Lst.l true))else
 bif e.bp==9 then ZD e.Lst.l.length 2 8&&(Xi e.Lst.l [e.Id]&&Vk e.Lst.l false)else
 bif e.bp==10 then ZD e.Ids.l.length 2 8&&(Qv (e.Id::e.Ids.l)&&(YO e.An&&gOn e.bf))else
 bif e.bp==11 then ZZ e.Id else
 bif e.bp==12 then ZZ e.Id else
 bif e.bp==13 then K5 e.A e.B else
 bif e.bp==14 then K5 e.A e.B else
 ZZ e.Id&&(ZD e.br 0 63&&Uu e.Text)
def NF(x:Gt):Str:=x.Id++x.bq++x.Text
def Fb(x:Gt):Bool:=((((x.A != 0||x.B != 0)||x.br != 0)||!Z3 (NF x) emp)||!QL x.An ⟨0,emp,0,0⟩)||!QK x.bf ⟨0,0⟩
def NG(x:Gt):Bool:=W (W (W ((x.Ids.l.length:Int)+(x.bh.l.length:Int))+(x.Path.l.length:Int))+(x.Lst.l.length:Int))==0
def Q9(e:Gt):Bool:=ZD e.bp 1 15&&(ZD e.Day 0 100000&&(!Fb (Zq e)&&(NG (Zq e)&&Q8 e)))
def Fc(e:Gt):(Zq e).bq.size<=e.bq.size:=by
 unfold Zq;dsimp only;cases kIn e [4,6,7]with
 |true=>exact ZWy _
 |false=>exact ZWo _
def Z2O(e:Gt):(Zq e).Text.size<=e.Text.size:=by
 unfold Zq;dsimp only;cases kIn e [6,7,15]with
 |true=>exact ZWy _
 |false=>exact ZWo _
def Yz(k:Nat)(v:AV)(h:(Jn[k]?)=some v)(hk:k<16):aiV none 1 16 (.agg Jn) (I k)=some v:=by
 rw[LQ];have hb:(0<=(k:Int)/\(k:Int)<((16:Nat):Int)):=by omega
 rw[if_pos hb];have:((k:Int)).toNat*1=k:=by simp
 rw[this];have hl:k<Jn.length:=hk;rw[ZXo hl,N3];rw[ZWq hl]at h;exact h
def Z2P(e:Gt)(hs:EvS e)(h:ZD e.bp 1 15=true):∃g cap,aiV none 1 16 (.agg Jn) (I e.bp)=some (.clo (.func g) [] cap)/\(cap=[]\/cap=[.iptr false [.clo (.func 110) [] []]])/\pfn rE g (evA e::cap)=some (.bool<|Q8 e):=by
 have hk:1<=e.bp/\e.bp<=15:=by simpa[ZD]using h
 have:e.bp=1\/e.bp=2\/e.bp=3\/e.bp=4\/e.bp=5\/e.bp=6\/e.bp=7\/e.bp=8\/e.bp=9\/e.bp=10\/e.bp=11\/e.bp=12\/e.bp=13\/e.bp=14\/e.bp=15:=by omega
 rcases this with hk|hk|hk|hk|hk|hk|hk|hk|hk|hk|hk|hk|hk|hk|hk
 .refine⟨114,[.iptr false [.clo (.func 110) [] []]],?_,Or.inr rfl,?_⟩
  .rw[hk];exact Yz 1 _ rfl (by decide)
  .have hn:Q8 e=(ZZ e.Id&&(ZD e.A 1 3&&Vh e.Path.l)):=by unfold Q8;rw[hk];rfl
   rw[hn];exact Z2i e hs
 .refine⟨115,[.iptr false [.clo (.func 110) [] []]],?_,Or.inr rfl,?_⟩
  .rw[hk];exact Yz 2 _ rfl (by decide)
  .have hn:Q8 e=(ZZ e.Id&&Ul e.Path.l):=by unfold Q8;rw[hk];rfl
   rw[hn];exact Z2j e hs
 .refine⟨117,[.iptr false [.clo (.func 110) [] []]],?_,Or.inr rfl,?_⟩
  .rw[hk];exact Yz 3 _ rfl (by decide)
  .have hn:Q8 e=(ZZ e.Id&&Uz e.bh.l):=by unfold Q8;rw[hk];rfl
   rw[hn];exact Z2k e hs
 .refine⟨119,[],?_,Or.inl rfl,?_⟩
  .rw[hk];exact Yz 4 _ rfl (by decide)
  .have hn:Q8 e=(Qv [e.Id,e.bq]):=by unfold Q8;rw[hk];rfl
   rw[hn];exact Z2h e
 .refine⟨121,[.iptr false [.clo (.func 110) [] []]],?_,Or.inr rfl,?_⟩
  .rw[hk];exact Yz 5 _ rfl (by decide)
  .have hn:Q8 e=(ZZ e.Id&&Vh e.Path.l):=by unfold Q8;rw[hk];rfl
   rw[hn];exact Z2l e hs
 .refine⟨122,[],?_,Or.inl rfl,?_⟩
  .rw[hk];exact Yz 6 _ rfl (by decide)
  .have hn:Q8 e=(Qv [e.Id,e.bq,e.Text]&&(YO e.An&&gOn e.bf)):=by unfold Q8;rw[hk];rfl
   rw[hn];exact Z2m e
 .refine⟨124,[],?_,Or.inl rfl,?_⟩
  .rw[hk];exact Yz 7 _ rfl (by decide)
  .have hn:Q8 e=(Qv [e.Id,e.bq]&&Jm e.Text 24):=by unfold Q8;rw[hk];rfl
   rw[hn];exact Z2n e
 .refine⟨126,[.iptr false [.clo (.func 110) [] []]],?_,Or.inr rfl,?_⟩
  .rw[hk];exact Yz 8 _ rfl (by decide)
  .have hn:Q8 e=(ZZ e.Id&&(ZD e.Lst.l.length 1 40&&(Xi e.Lst.l []&&Vk e.Lst.l true))):=by unfold Q8;rw[hk];rfl
   rw[hn];exact Z2o e hs
 .refine⟨129,[],?_,Or.inl rfl,?_⟩
  .rw[hk];exact Yz 9 _ rfl (by decide)
  .have hn:Q8 e=(ZD e.Lst.l.length 2 8&&(Xi e.Lst.l [e.Id]&&Vk e.Lst.l false)):=by unfold Q8;rw[hk];rfl
   rw[hn];exact Z2p e hs
 .refine⟨130,[],?_,Or.inl rfl,?_⟩
  .rw[hk];exact Yz 10 _ rfl (by decide)
  .have hn:Q8 e=(ZD e.Ids.l.length 2 8&&(Qv (e.Id::e.Ids.l)&&(YO e.An&&gOn e.bf))):=by unfold Q8;rw[hk];rfl
   rw[hn];exact Z2r e hs
 .refine⟨110,[],?_,Or.inl rfl,?_⟩
  .rw[hk];exact Yz 11 _ rfl (by decide)
  .have hn:Q8 e=(ZZ e.Id):=by unfold Q8;rw[hk];rfl
   rw[hn];exact Vl e
 .refine⟨110,[],?_,Or.inl rfl,?_⟩
  .rw[hk];exact Yz 12 _ rfl (by decide)
  .have hn:Q8 e=(ZZ e.Id):=by unfold Q8;rw[hk];rfl
   rw[hn];exact Vl e
 .refine⟨112,[],?_,Or.inl rfl,?_⟩
  .rw[hk];exact Yz 13 _ rfl (by decide)
  .have hn:Q8 e=(K5 e.A e.B):=by unfold Q8;rw[hk];rfl
   rw[hn];exact F8 e
 .refine⟨112,[],?_,Or.inl rfl,?_⟩
  .rw[hk];exact Yz 14 _ rfl (by decide)
  .have hn:Q8 e=(K5 e.A e.B):=by unfold Q8;rw[hk];rfl
   rw[hn];exact F8 e
 .refine⟨131,[.iptr false [.clo (.func 110) [] []]],?_,Or.inr rfl,?_⟩
  .rw[hk];exact Yz 15 _ rfl (by decide)
  .have hn:Q8 e=(ZZ e.Id&&(ZD e.br 0 63&&Uu e.Text)):=by unfold Q8;rw[hk];rfl
   rw[hn];exact Z2s e
def NH(e:Gt)(hs:EvS e):pfn rE 31 [evA e]=some (.bool<|Q9 e):=by
 rw[Z5 (f:=31) rfl rfl];unfold Q9;cases c1:ZD e.bp 1 15 with
 |false=>simp only[go_sem,c31,QU,c1]
 |true=>
 cases c2:ZD e.Day 0 100000 with
 |false=>simp only[go_sem,c31,QU,c1,c2]
 |true=>
 have hb:=Z2I e c1;obtain⟨g,cap,ha,hcap,hn⟩:=Z2P e hs c1;have hz1:(Zq e).Id.size+(Zq e).bq.size<=4611686018427387904:=by have:=F9 e;have:=Fc e;have:=hs.id;have:=hs.other;omega
 have hz2:(Zq e).Id.size+(Zq e).bq.size+(Zq e).Text.size<=4611686018427387904:=by
  have:=F9 e;have:=Fc e;have:=Z2O e;have:=hs.id;have:=hs.other;have:=hs.text;omega
 have e3:((Zq e).Id++(Zq e).bq)++(Zq e).Text=NF (Zq e):=rfl;have hn4:((Zq e).An.N==0&&(Z3 (Zq e).An.bk emp&&((Zq e).An.Num==0&&(Zq e).An.Den==0)))=QL (Zq e).An ⟨0,emp,0,0⟩:=rfl;have hn5:((Zq e).bf.X==0&&(Zq e).bf.Y==0)=QK (Zq e).bf ⟨0,0⟩:=rfl;have hl6:(W (W (W (((Zq e).Ids.l.length:Int)+((Zq e).bh.l.length:Int))+((Zq e).Path.l.length:Int))+((Zq e).Lst.l.length:Int))==0)=NG (Zq e):=rfl;unfold Fb;generalize Zq e=x at hb hz1 hz2 e3 hn4 hn5 hl6⊢;cases a1:x.A != 0 with
 |true=>simp only[go_sem,c31,QU,c1,c2,hb,a1]
 |false=>
 cases a2:x.B != 0 with
 |true=>simp only[go_sem,c31,QU,c1,c2,hb,a1,a2,ZWt,ZWj]
 |false=>
 cases a3:x.br != 0 with
 |true=>simp only[go_sem,c31,QU,c1,c2,hb,a1,a2,a3,ZWt,ZWj,ZX8]
 |false=>
 cases a4:Z3 (NF x) emp with
 |false=>simp only[go_sem,c31,QU,c1,c2,hb,a1,a2,a3,hz1,hz2,ByteArray.size_append,if_true,e3,a4,ZWt,ZWj,ZX8]
 |true=>
 cases a5:QL x.An ⟨0,emp,0,0⟩with
 |false=>simp only[go_sem,c31,QU,c1,c2,hb,a1,a2,a3,hz1,hz2,ByteArray.size_append,if_true,e3,a4,hn4,a5,ZWt,ZWj,ZX8]
 |true=>
 cases a6:QK x.bf ⟨0,0⟩with
 |false=>simp only[go_sem,c31,QU,c1,c2,hb,a1,a2,a3,hz1,hz2,ByteArray.size_append,if_true,e3,a4,hn4,a5,hn5,a6,ZWt,ZX8]
 |true=>
 cases a7:NG x with
 |false=>simp only[go_sem,c31,QU,c1,c2,hb,a1,a2,a3,hz1,hz2,ByteArray.size_append,if_true,e3,a4,hn4,a5,hn5,a6,hl6,a7,ZX8]
 |true=>
  rcases hcap with rfl|rfl<;>simp only[go_sem,c31,QU,c1,c2,hb,a1,a2,a3,hz1,hz2,ByteArray.size_append,if_true,e3,a4,hn4,a5,hn5,a6,hl6,a7,ZX8,Z2N,ha,hn]
structure Sta where
 Ga:List Gm
 Gr:List Ev
 By:List Fa
 Bc:List Gc
 Nk:List bc
 Gk:List be
 Wk:List be
abbrev stA(s:Sta):AV:=.agg [.isl false false 6<|s.Ga.map Gm.enc,.isl false false 5<|s.Gr.map Ev.enc,.isl false false 4<|s.By.map Fa.enc,.isl false false 16<|s.Bc.map Gc.enc,
 .isl false false 6 (s.Nk.map bc.enc),.isl false false 2<|s.Gk.map be.enc,.isl false false 2<|s.Wk.map be.enc]
structure StS(s:Sta):Prop where
 regions:s.Ga.length<=1000
 streets:s.Gr.length<=1000
 buildings:s.By.length<=1000
 doors:s.Bc.length<=1000
 units:s.Nk.length<=1000
 merged:s.Gk.length<=1000
 rulings:s.Wk.length<=1000
def ZL(s:Sta)(id:Str):Int:=Zp (λx:Ev=>Z3 x.Id id) s.Gr 0
def Y1(s:Sta)(id:Str):Int:=Zp (λx:Fa=>Z3 x.Id id) s.By 0
def Zn(s:Sta)(id:Str):Int:=Zp (λx:Gc=>Z3 x.Id id) s.Bc 0
def K7(s:Sta)(hs:StS s)(id:Str):pfn rE 154 [stA s,.str id]=some (I<|ZL s id):=by
 have hp:∀x:Ev,pfn rE 189 [x.enc,.iptr false [.str id]]=some (.bool<|Z3 x.Id id):=λx=>by
  rw[Z5 (f:=189) rfl rfl];simp only[go_sem,c189,Ev.enc,NL.enc]
 have h1:=WF (E:=rE) (f:=219) (sz:=5) (n:=some 5) (enc:=Ev.enc) (p:=λx=>Z3 x.Id id) (g:=189) (cap:=[.iptr false [.str id]]) rfl rfl rfl s.Gr (by have:=hs.streets;omega) (λx _=>x.el) (λx _=>hp x) false false
 have h2:pfn rE 188 [.isl false false 5<|s.Gr.map Ev.enc,.clo (.func 189) [] [.iptr false [.str id]]]=some (I<|ZL s id):=by
  rw[Z5 (f:=188) rfl rfl];simp only[go_sem,c188,h1];rfl
 rw[Z5 (f:=154) rfl rfl];simp only[go_sem,c154,h2]
def Hb(s:Sta)(hs:StS s)(id:Str):pfn rE 153 [stA s,.str id]=some (I<|Y1 s id):=by
 have hp:∀x:Fa,pfn rE 187 [x.enc,.iptr false [.str id]]=some (.bool<|Z3 x.Id id):=λx=>by
  rw[Z5 (f:=187) rfl rfl];simp only[go_sem,c187,Fa.enc,NL.enc]
 have h1:=WF (E:=rE) (f:=218) (sz:=4) (n:=some 4) (enc:=Fa.enc) (p:=λx=>Z3 x.Id id) (g:=187) (cap:=[.iptr false [.str id]]) rfl rfl rfl s.By (by have:=hs.buildings;omega) (λx _=>x.el) (λx _=>hp x) false false
 have h2:pfn rE 186 [.isl false false 4<|s.By.map Fa.enc,.clo (.func 187) [] [.iptr false [.str id]]]=some (I<|Y1 s id):=by
  rw[Z5 (f:=186) rfl rfl];simp only[go_sem,c186,h1];rfl
 rw[Z5 (f:=153) rfl rfl];simp only[go_sem,c153,h2]
def find_ok(s:Sta)(hs:StS s)(id:Str):pfn rE 92 [stA s,.str id]=some (I<|Zn s id):=by
 have hp:∀x:Gc,pfn rE 156 [x.enc,.iptr false [.str id]]=some (.bool<|Z3 x.Id id):=λx=>by
  rw[Z5 (f:=156) rfl rfl];simp only[go_sem,c156,Gc.enc,NL.enc]
 have h1:=WF (E:=rE) (f:=190) (sz:=16) (n:=some 16) (enc:=Gc.enc) (p:=λx=>Z3 x.Id id) (g:=156) (cap:=[.iptr false [.str id]]) rfl rfl rfl s.Bc (by have:=hs.doors;omega) (λx _=>x.el) (λx _=>hp x) false false
 have h2:pfn rE 155 [.isl false false 16<|s.Bc.map Gc.enc,.clo (.func 156) [] [.iptr false [.str id]]]=some (I<|Zn s id):=by
  rw[Z5 (f:=155) rfl rfl];simp only[go_sem,c155,h1];rfl
 rw[Z5 (f:=92) rfl rfl];simp only[go_sem,c92,h2]
def XJ(s:Sta)(a:Int):Int:=match s.Gk.find? (λp=>p.b==a)with
 |some p=>p.a
 |none=>-1
def UA{α:Type}(P:α->Bool):∀(l:List α)(i:Int),(Zp P l i=-1/\l.find? P=none)\/∃(j:Nat)(x:α),Zp P l i=i+j/\l[j]?=some x/\l.find? P=some x
 |[],i=>Or.inl ⟨rfl,rfl⟩
 |y::r,i=>by
  cases h:P y with
  |true=>right;exact⟨0,y,by simp[Zp,h],by simp,by simp[h]⟩
  |false=>
   rcases UA P r (i+1)with⟨h1,h2⟩|⟨j,x,h1,h2,h3⟩
   .left;exact⟨by simp[Zp,h,h1],by simp[h,h2]⟩
   .right;refine⟨j+1,x,?_,by simpa using h2,by simp[h,h3]⟩
    simp only[Zp,h,cond_false,h1];omega
def NJ(s:Sta)(hs:StS s)(a:Int):pfn rE 159 [stA s,I a]=some (I<|XJ s a):=by
 have hp:∀x:be,pfn rE 193 [x.enc,.iptr false [I a]]=some (.bool<|x.b==a):=λx=>by
  have hlt:(0<=(1:Int)/\(1:Int)<((2:Nat):Int))=True:=by simp
  have hn:((1:Int)).toNat=1:=rfl;rw[Z5 (f:=193) rfl rfl];simp only[go_sem,c193,be.enc,hlt,hn,if_true,ZWE]
 have h1:=WF (E:=rE) (f:=229) (sz:=2) (n:=some 2) (enc:=be.enc) (p:=λx=>x.b==a) (g:=193) (cap:=[.iptr false [I a]]) rfl rfl rfl s.Gk (by have:=hs.merged;omega) (λx _=>x.el) (λx _=>hp x) false false
 have h2:pfn rE 192 [.isl false false 2<|s.Gk.map be.enc,.clo (.func 193) [] [.iptr false [I a]]]=some (I<|Zp (λx:be=>x.b==a) s.Gk 0):=by
  rw[Z5 (f:=192) rfl rfl];simp only[go_sem,c192,h1]
 rw[Z5 (f:=159) rfl rfl];unfold XJ;rcases UA (λx:be=>x.b==a) s.Gk 0 with⟨h3,h4⟩|⟨j,x,h3,h4,h5⟩
 .rw[h4];rw[h3]at h2;have hd:decide ((-1:Int)>=0)=false:=rfl;simp only[go_sem,c159,h2,hd]
 .rw[h5];have e:(0:Int)+(j:Int)=(j:Int):=by omega
  rw[h3,e]at h2;have hd:decide ((j:Int)>=0)=true:=decide_eq_true<|by omega
  have hg:=Z6 (f:=be.enc) h4;have hlt:(0<=(0:Int)/\(0:Int)<((2:Nat):Int))=True:=by simp
  have hn:((0:Int)).toNat=0:=rfl;simp only[go_sem,c159,h2,hd,hg,be.enc,hlt,hn,if_true,ZWT]
def Qp(s:Sta):List Str:=s.Ga.map (·.Id)++(s.Gr.map (·.Id)++(s.By.map (·.Id)++(s.Bc.map (·.Id)++s.Nk.map (·.Id))))
def Z2R(v:AV)(hv:∀n,bel n v=true)(K:List Str)(l:List Gm)(hl:l.length<=1000)(hK:K.length<=10000):∃fr',Zg rE [1,3,15,16,17] c94L0b [(1,v),(3,.sl 0 K.length 0 K.length false),(15,.isl false false 6<|l.map Gm.enc),(16,I l.length),(17,.int .i64 0)] [.row 1<|K.map encS] =
 some (.exit 0,fr',[.row 1 ((K++l.map (·.Id)).map encS)])/\get fr' 1=v/\get fr' 3=.sl 0 (K.length+l.length) 0 (K.length+l.length) false:=by
 have hbS:∀n(K:List Str),Zd n (K.map encS)=true:=λn K=>ZN _<|Zw (λt=>rfl) K
 have L:=Y8 (E:=rE) (live:=[1,3,15,16,17]) (b:=c94L0b) l.length (λi=>[(1,v),(3,.sl 0 (K.length+i) 0 (K.length+i) false),(15,.isl false false 6<|l.map Gm.enc),(16,I l.length),(17,I i)])
  (λi=>[.row 1 ((K++(l.take i).map (·.Id)).map encS)]) (λi=>rfl)
  (λi hi=>by
   obtain⟨x,hx⟩:∃x,l[i]?=some x:=⟨_,ZWq hi⟩;have hg:=Z6 (f:=Gm.enc) hx;have hi':=Zh hi;have hw:=Zx (n:=i)<|by omega
   have ht:=YW (λx:Gm=>x.Id) hx
   have hn:(K++(l.take i).map (·.Id)).length=K.length+i:=by rw[ZWx,ZWd,take_len hx]
   have e1:(K++(l.take<|i+1).map (·.Id)).map encS=(K++(l.take i).map (·.Id)).map encS++[.str x.Id]:=by
    rw[ht,<-ZWU,ZWC];rfl
   rw[e1];generalize K++(l.take i).map (·.Id)=KS at hn⊢;rw[<-hn,<-ZXd,<-hn];have ha:=λq=>XC (h:=[.row 1<|KS.map encS,q]) (fz:=false) (b:=0) (g:=KS.length) (sz:=1) (es:=KS.map encS) (bw:=false) (ex:=false) (ys:=[.str x.Id]) (bytes:=16) (by simp[rowAt]) rfl (by rfl) (by omega) (by omega) (by simp;omega)
   refine⟨_,by simp only[go_sem,c94L0b,hg,hi',hw,Gm.enc,NL.enc,ha,beq_self_eq_true,hbS,hv];rfl,?_⟩
   simp only[go_sem])
  (e:=.exit 0) (by simp only[go_sem,c94L0b,ZG,ZWL];rfl) (by simp)
 have e0:K++(l.take 0).map (λx:Gm=>x.Id)=K:=by simp
 rw[e0]at L;refine⟨_,L,?_,?_⟩<;>simp only[go_sem]
def Z2S(v:AV)(hv:∀n,bel n v=true)(K:List Str)(l:List Ev)(hl:l.length<=1000)(hK:K.length<=10000):∃fr',Zg rE [1,3,28,29,30] c94L1b [(1,v),(3,.sl 0 K.length 0 K.length false),(28,.isl false false 5<|l.map Ev.enc),(29,I l.length),(30,.int .i64 0)] [.row 1<|K.map encS] =
 some (.exit 2,fr',[.row 1 ((K++l.map (·.Id)).map encS)])/\get fr' 1=v/\get fr' 3=.sl 0 (K.length+l.length) 0 (K.length+l.length) false:=by
 have hbS:∀n(K:List Str),Zd n (K.map encS)=true:=λn K=>ZN _<|Zw (λt=>rfl) K
 have L:=Y8 (E:=rE) (live:=[1,3,28,29,30]) (b:=c94L1b) l.length (λi=>[(1,v),(3,.sl 0 (K.length+i) 0 (K.length+i) false),(28,.isl false false 5<|l.map Ev.enc),(29,I l.length),(30,I i)])
  (λi=>[.row 1 ((K++(l.take i).map (·.Id)).map encS)]) (λi=>rfl)
  (λi hi=>by
   obtain⟨x,hx⟩:∃x,l[i]?=some x:=⟨_,ZWq hi⟩;have hg:=Z6 (f:=Ev.enc) hx;have hi':=Zh hi;have hw:=Zx (n:=i)<|by omega
   have ht:=YW (λx:Ev=>x.Id) hx
   have hn:(K++(l.take i).map (·.Id)).length=K.length+i:=by rw[ZWx,ZWd,take_len hx]
   have e1:(K++(l.take<|i+1).map (·.Id)).map encS=(K++(l.take i).map (·.Id)).map encS++[.str x.Id]:=by
    rw[ht,<-ZWU,ZWC];rfl
   rw[e1];generalize K++(l.take i).map (·.Id)=KS at hn⊢;rw[<-hn,<-ZXd,<-hn];have ha:=λq=>XC (h:=[.row 1<|KS.map encS,q]) (fz:=false) (b:=0) (g:=KS.length) (sz:=1) (es:=KS.map encS) (bw:=false) (ex:=false) (ys:=[.str x.Id]) (bytes:=16) (by simp[rowAt]) rfl (by rfl) (by omega) (by omega) (by simp;omega)
   refine⟨_,by simp only[go_sem,c94L1b,hg,hi',hw,Ev.enc,NL.enc,ha,beq_self_eq_true,hbS,hv];rfl,?_⟩
   simp only[go_sem])
  (e:=.exit 2) (by simp only[go_sem,c94L1b,ZG,ZWL];rfl) (by simp)
 have e0:K++(l.take 0).map (λx:Ev=>x.Id)=K:=by simp
 rw[e0]at L;refine⟨_,L,?_,?_⟩<;>simp only[go_sem]
def Z2T(v:AV)(hv:∀n,bel n v=true)(K:List Str)(l:List Fa)(hl:l.length<=1000)(hK:K.length<=10000):∃fr',Zg rE [1,3,41,42,43] c94L2b [(1,v),(3,.sl 0 K.length 0 K.length false),(41,.isl false false 4<|l.map Fa.enc),(42,I l.length),(43,.int .i64 0)] [.row 1<|K.map encS] =
 some (.exit 4,fr',[.row 1 ((K++l.map (·.Id)).map encS)])/\get fr' 1=v/\get fr' 3=.sl 0 (K.length+l.length) 0 (K.length+l.length) false:=by
 have hbS:∀n(K:List Str),Zd n (K.map encS)=true:=λn K=>ZN _<|Zw (λt=>rfl) K
 have L:=Y8 (E:=rE) (live:=[1,3,41,42,43]) (b:=c94L2b) l.length (λi=>[(1,v),(3,.sl 0 (K.length+i) 0 (K.length+i) false),(41,.isl false false 4<|l.map Fa.enc),(42,I l.length),(43,I i)])
  (λi=>[.row 1 ((K++(l.take i).map (·.Id)).map encS)]) (λi=>rfl)
  (λi hi=>by
   obtain⟨x,hx⟩:∃x,l[i]?=some x:=⟨_,ZWq hi⟩;have hg:=Z6 (f:=Fa.enc) hx;have hi':=Zh hi;have hw:=Zx (n:=i)<|by omega
   have ht:=YW (λx:Fa=>x.Id) hx
   have hn:(K++(l.take i).map (·.Id)).length=K.length+i:=by rw[ZWx,ZWd,take_len hx]
   have e1:(K++(l.take<|i+1).map (·.Id)).map encS=(K++(l.take i).map (·.Id)).map encS++[.str x.Id]:=by
    rw[ht,<-ZWU,ZWC];rfl
   rw[e1];generalize K++(l.take i).map (·.Id)=KS at hn⊢;rw[<-hn,<-ZXd,<-hn];have ha:=λq=>XC (h:=[.row 1<|KS.map encS,q]) (fz:=false) (b:=0) (g:=KS.length) (sz:=1) (es:=KS.map encS) (bw:=false) (ex:=false) (ys:=[.str x.Id]) (bytes:=16) (by simp[rowAt]) rfl (by rfl) (by omega) (by omega) (by simp;omega)
   refine⟨_,by simp only[go_sem,c94L2b,hg,hi',hw,Fa.enc,NL.enc,ha,beq_self_eq_true,hbS,hv];rfl,?_⟩
   simp only[go_sem])
  (e:=.exit 4) (by simp only[go_sem,c94L2b,ZG,ZWL];rfl) (by simp)
 have e0:K++(l.take 0).map (λx:Fa=>x.Id)=K:=by simp
 rw[e0]at L;refine⟨_,L,?_,?_⟩<;>simp only[go_sem]
def Z2U(v:AV)(hv:∀n,bel n v=true)(K:List Str)(l:List Gc)(hl:l.length<=1000)(hK:K.length<=10000):∃fr',Zg rE [1,3,54,55,56] c94L3b [(1,v),(3,.sl 0 K.length 0 K.length false),(54,.isl false false 16<|l.map Gc.enc),(55,I l.length),(56,.int .i64 0)] [.row 1<|K.map encS] =
 some (.exit 6,fr',[.row 1 ((K++l.map (·.Id)).map encS)])/\get fr' 1=v/\get fr' 3=.sl 0 (K.length+l.length) 0 (K.length+l.length) false:=by
 have hbS:∀n(K:List Str),Zd n (K.map encS)=true:=λn K=>ZN _<|Zw (λt=>rfl) K
 have L:=Y8 (E:=rE) (live:=[1,3,54,55,56]) (b:=c94L3b) l.length (λi=>[(1,v),(3,.sl 0 (K.length+i) 0 (K.length+i) false),(54,.isl false false 16<|l.map Gc.enc),(55,I l.length),(56,I i)])
  (λi=>[.row 1 ((K++(l.take i).map (·.Id)).map encS)]) (λi=>rfl)
  (λi hi=>by
   obtain⟨x,hx⟩:∃x,l[i]?=some x:=⟨_,ZWq hi⟩;have hg:=Z6 (f:=Gc.enc) hx;have hi':=Zh hi;have hw:=Zx (n:=i)<|by omega
   have ht:=YW (λx:Gc=>x.Id) hx
   have hn:(K++(l.take i).map (·.Id)).length=K.length+i:=by rw[ZWx,ZWd,take_len hx]
   have e1:(K++(l.take<|i+1).map (·.Id)).map encS=(K++(l.take i).map (·.Id)).map encS++[.str x.Id]:=by
    rw[ht,<-ZWU,ZWC];rfl
   rw[e1];generalize K++(l.take i).map (·.Id)=KS at hn⊢;rw[<-hn,<-ZXd,<-hn];have ha:=λq=>XC (h:=[.row 1<|KS.map encS,q]) (fz:=false) (b:=0) (g:=KS.length) (sz:=1) (es:=KS.map encS) (bw:=false) (ex:=false) (ys:=[.str x.Id]) (bytes:=16) (by simp[rowAt]) rfl (by rfl) (by omega) (by omega) (by simp;omega)
   refine⟨_,by simp only[go_sem,c94L3b,hg,hi',hw,Gc.enc,NL.enc,ha,beq_self_eq_true,hbS,hv];rfl,?_⟩
   simp only[go_sem])
  (e:=.exit 6) (by simp only[go_sem,c94L3b,ZG,ZWL];rfl) (by simp)
 have e0:K++(l.take 0).map (λx:Gc=>x.Id)=K:=by simp
 rw[e0]at L;refine⟨_,L,?_,?_⟩<;>simp only[go_sem]
def Z2V(v:AV)(hv:∀n,bel n v=true)(K:List Str)(l:List bc)(hl:l.length<=1000)(hK:K.length<=10000):∃fr',Zg rE [3,67,68,69] c94L4b [(3,.sl 0 K.length 0 K.length false),(67,.isl false false 6<|l.map bc.enc),(68,I l.length),(69,.int .i64 0)] [.row 1<|K.map encS] =
 some (.exit 8,fr',[.row 1 ((K++l.map (·.Id)).map encS)])/\get fr' 3=.sl 0 (K.length+l.length) 0 (K.length+l.length) false:=by
 have hbS:∀n(K:List Str),Zd n (K.map encS)=true:=λn K=>ZN _<|Zw (λt=>rfl) K
 have L:=Y8 (E:=rE) (live:=[3,67,68,69]) (b:=c94L4b) l.length (λi=>[(3,.sl 0 (K.length+i) 0 (K.length+i) false),(67,.isl false false 6<|l.map bc.enc),(68,I l.length),(69,I i)])
  (λi=>[.row 1 ((K++(l.take i).map (·.Id)).map encS)]) (λi=>rfl)
  (λi hi=>by
   obtain⟨x,hx⟩:∃x,l[i]?=some x:=⟨_,ZWq hi⟩;have hg:=Z6 (f:=bc.enc) hx;have hi':=Zh hi;have hw:=Zx (n:=i)<|by omega
   have ht:=YW (λx:bc=>x.Id) hx
   have hn:(K++(l.take i).map (·.Id)).length=K.length+i:=by rw[ZWx,ZWd,take_len hx]
   have e1:(K++(l.take<|i+1).map (·.Id)).map encS=(K++(l.take i).map (·.Id)).map encS++[.str x.Id]:=by
    rw[ht,<-ZWU,ZWC];rfl
   rw[e1];generalize K++(l.take i).map (·.Id)=KS at hn⊢;rw[<-hn,<-ZXd,<-hn];have ha:=λq=>XC (h:=[.row 1<|KS.map encS,q]) (fz:=false) (b:=0) (g:=KS.length) (sz:=1) (es:=KS.map encS) (bw:=false) (ex:=false) (ys:=[.str x.Id]) (bytes:=16) (by simp[rowAt]) rfl (by rfl) (by omega) (by omega) (by simp;omega)
   refine⟨_,by simp only[go_sem,c94L4b,hg,hi',hw,bc.enc,ha,beq_self_eq_true,hbS];rfl,?_⟩
   simp only[go_sem])
  (e:=.exit 8) (by simp only[go_sem,c94L4b,ZG,ZWL];rfl) (by simp)
 have e0:K++(l.take 0).map (λx:bc=>x.Id)=K:=by simp
 rw[e0]at L;refine⟨_,L,?_⟩<;>simp only[go_sem]
def Fd(s:Sta)(hs:StS s):pfn rE 94 [stA s]=some (.isl false false 1<|(Qp s).map encS):=by
 have hcS:∀K:List Str,Z4 (K.map encS)=true:=λK=>Zw (λt=>rfl) K
 have hbS:∀n(K:List Str),Zd n (K.map encS)=true:=λn K=>ZN _<|hcS K
 have z:=hs.regions;have z1:=hs.streets;have z2:=hs.buildings;have z3:=hs.doors;have z4:=hs.units;have hbs:∀n,bel n (.iptr false [.isl false false 6<|s.Ga.map Gm.enc,.isl false false 5<|s.Gr.map Ev.enc,.isl false false 4<|s.By.map Fa.enc,.isl false false 16<|s.Bc.map Gc.enc,.isl false false 6<|s.Nk.map bc.enc,.isl false false 2<|s.Gk.map be.enc,.isl false false 2<|s.Wk.map be.enc])=true:=λn=>rfl
 obtain⟨f0,h0,a0,b0⟩:=Z2R _ hbs [] s.Ga z<|by simp
 obtain⟨f1,h1,a1,b1⟩:=Z2S _ hbs (s.Ga.map (·.Id)) s.Gr z1<|by simp;omega
 obtain⟨f2,h2,a2,b2⟩:=Z2T _ hbs (s.Ga.map (·.Id)++s.Gr.map (·.Id)) s.By z2<|by simp;omega
 obtain⟨f3,h3,a3,b3⟩:=Z2U _ hbs ((s.Ga.map (·.Id)++s.Gr.map (·.Id))++s.By.map (·.Id)) s.Bc z3<|by simp;omega
 obtain⟨f4,h4,b4⟩:=Z2V .bot (λn=>rfl) (((s.Ga.map (·.Id)++s.Gr.map (·.Id))++s.By.map (·.Id))++s.Bc.map (·.Id)) s.Nk z4<|by simp;omega
 have e:((((s.Ga.map (·.Id)++s.Gr.map (·.Id))++s.By.map (·.Id))++s.Bc.map (·.Id))++s.Nk.map (·.Id))=Qp s:=by simp[Qp,ZWU]
 rw[e]at h4;have hz:∀K:List Str,List.take K.length (K.map encS)=K.map encS:=λK=>ZWP<|by simp
 have l5:(((s.Ga.map (·.Id)++s.Gr.map (·.Id))++s.By.map (·.Id))++s.Bc.map (·.Id)).length+s.Nk.length=(Qp s).length:=by rw[<-e];simp;omega
 rw[l5]at b4;rw[Z5 (f:=94) rfl rfl];simp only[ZWd,ZWx,ZWQ,ZWN,ZWr,ZWB]at h0 b0 h1 b1 h2 b2 h3 b3 h4 b4;simp only[go_sem,c94,c94L0,c94L1,c94L2,c94L3,c94L4,h0,a0,b0,h1,a1,b1,h2,a2,b2,h3,a3,b3,h4,b4,hbS,hcS,beq_self_eq_true,hz]
def QM(a b c:Int):Bool:=ZD a 0 63&&(ZD b (-1) 100000&&ZD c 0 100000)
def Qc(a b c:Int):pfn rE 88 [I a,I b,I c]=some (.bool<|QM a b c):=by
 rw[Z5 (f:=88) rfl rfl];unfold QM;cases h1:ZD a 0 63<;>cases h2:ZD b (-1) 100000<;>simp only[go_sem,c88,DY,h1,h2]
def Wg(k:Int)(e:Gt)(hs:EvS e):pfn rE 90 [I k,evA e]=some (.bool<|Q9 {e with bp:=k}):=by
 have h:=NH {e with bp:=k} ⟨hs.ids,hs.names,hs.path,hs.lst,hs.id,hs.other,hs.text⟩
 rw[Z5 (f:=90) rfl rfl];simp only[go_sem,c90,h]
def Jo(l:List Nm)(ex:Bool):Gt:=⟨3,0,0,0,0,B [120],emp,emp,⟨false,[]⟩,⟨ex,l⟩,⟨0,emp,0,0⟩,⟨0,0⟩,⟨false,[]⟩,⟨false,[]⟩⟩
def Jp(l:List Nm)(ex:Bool):Bool:=(l.length:Int)==0||Q9 (Jo l ex)
def Hc(l:List Nm)(ex:Bool)(hl:l.length<=100):pfn rE 89 [.isl false ex 3<|l.map Nm.enc]=some (.bool<|Jp l ex):=by
 have h:=NH (Jo l ex) ⟨by simp[Jo],hl,by simp[Jo],by simp[Jo],ZWM rfl,ZWM rfl,ZWM rfl⟩
 have h':pfn rE 31 [.agg [I 3,I 0,I 0,I 0,I 0,.str<|B [120],.str emp,.str emp,.isl false false 1 [],.isl false ex 3<|l.map Nm.enc,I 0,.str emp,I 0,I 0,I 0,I 0,.isl false false 2 [],.isl false false 7 []]]=some (.bool<|Q9<|Jo l ex):=h;rw[Z5 (f:=89) rfl rfl];unfold Jp;cases c:(l.length:Int)==0<;>simp only[go_sem,c89,c,h']
def Jq(l:List Str):Bool:=(((Ys<|Yk<|l.map encS).length:Nat):Int)==(l.length:Int)
def Fe(x:AV):∀l,(Vb x l).length=l.length+1
 |[]=>rfl
 |y::r=>by unfold Vb;cases GP x y<;>simp[Fe x r]
def Ff:∀l,(Yk l).length=l.length
 |[]=>rfl
 |x::r=>by unfold Yk;rw[Fe,Ff r,ZWJ]
def Fg(p:AV->Bool)(x:AV):∀l,(Vb x l).all p=(p x&&l.all p)
 |[]=>rfl
 |y::r=>by
  unfold Vb;cases GP x y with
  |true=>rfl
  |false=>
   rw[cond_false,ZWV,Fg p x r,ZWV];cases p x<;>cases p y<;>rfl
def Fh(p:AV->Bool):∀l,(Yk l).all p=l.all p
 |[]=>rfl
 |x::r=>by unfold Yk;rw[Fg,Fh p r,ZWV]
def Fi:∀m:List AV,(Ys m).length<=m.length
 |[]=>by simp[Ys]
 |a::r=>by
  have ih:=Fi r;unfold Ys;cases h:Ys r with
  |nil=>simp
  |cons b t=>rw[h]at ih;simp at ih⊢;cases sameKey a b<;>simp<;>omega
def Fj(l:List Str)(ex:Bool)(hlen:l.length<=1000000):pfn rE 93 [.isl false ex 1<|l.map encS]=some (.bool<|Jq l):=by
 have hble:Nat.ble l.length 1000000=true:=ZXC hlen;have hfit:(l.map encS).all (fits 1)=true:=by rw[ZXZ,ZWw];intro x _;rfl
 have hstr:(l.map encS).all WB=true:=by rw[ZXZ,ZWw];intro x _;rfl
 have h1:fnV rE 134 [.isl false ex 1<|l.map encS] []=some (.sl 0 l.length 0 l.length false,[.row 1<|l.map encS]):=by
  rw[V8 (s:=J9) rfl];simp only[J9,Q2,Qq,hfit,ZWd,hble,beq_self_eq_true,ZWj,ZWk,cond_true,ZWQ,ZWN]
 have h2:fnV rE 157 [.sl 0 l.length 0 l.length false] [.row 1<|l.map encS]=some (.tup [],[.row 1<|Yk<|l.map encS]):=by
  rw[V8 (s:=J7) rfl];simp only[J7,ZX1,ZWd,beq_self_eq_true,hstr,hble,ZWk,cond_true,GM]
 have h3:∃h',fnV rE 158 [.sl 0 l.length 0 l.length false] [.row 1<|Yk<|l.map encS]=some (.sl 0 l.length 0 (Ys<|Yk<|l.map encS).length false,[.row 1 h'])/\h'.length=l.length:=by
  rw[V8 (s:=J8) rfl];have hl:(Yk<|l.map encS).length=l.length:=by rw[Ff,ZWd]
  have ha:(Yk<|l.map encS).all WB=true:=by rw[Fh,hstr]
  have hc:=Fi<|Yk<|l.map encS;simp only[J8,ZX1,hl,beq_self_eq_true,ha,hble,ZWk,cond_true,GM];refine⟨_,rfl,?_⟩;simp;omega
 obtain⟨h',h3,h4⟩:=h3;rw[Z5 (f:=93) rfl rfl];unfold Jq;simp only[go_sem,c93,h1,h2,h3,h4,beq_self_eq_true]
structure Adr where
 street:Str
 n:HN
def Adr.enc(a:Adr):AV:=.agg [.str a.street,I a.n.N,.str a.n.bk,I a.n.Num,I a.n.Den]
def XK(a b:Adr):Bool:=Z3 a.street b.street&&(a.n.N==b.n.N&&(Z3 a.n.bk b.n.bk&&(a.n.Num==b.n.Num&&a.n.Den==b.n.Den)))
def NK(x y:Adr):Zz true [2,1,2,1,1] x.enc y.enc=some (XK x y):=by simp only[go_sem,Adr.enc,XK]
def WI(d:Gc):Adr:=⟨d.Ev,d.An⟩
def Jr(d:Gc):Bool:=d.Ld != -1||!Z3 d.Veil emp
def Hd(K:List Adr)(d:Gc):List Adr:=bif Jr d then K else Qi XK K<|WI d
def Y9(l:List Gc)(i:Nat):List Adr:=(l.take i).foldl Hd []
def Wh(l:List Gc):Bool:=Zu (λi d=>Jr d||!(Y9 l i).any (XK<|WI d)) 0 l
def Fk(s:Sta)(hs:StS s):pfn rE 95 [stA s]=some (.bool<|Wh s.Bc):=by
 have hcl:Z4 (s.Bc.map Gc.enc)=true:=Zw (λt=>rfl) _
 have hbA:∀n(K:List Adr),Zd n (K.map Adr.enc)=true:=λn K=>ZN _<|Zw (λt=>rfl) K
 have hbT:∀n k,Zd n (ZO k)=true:=λn k=>ZN _<|Ut k
 have L:=Jk (E:=rE) (live:=[3,9,10,11]) (b:=c95L0b) s.Bc (λi d=>Jr d||!(Y9 s.Bc i).any (XK<|WI d))
  (λi=>[(3,.mp 0),(9,.isl false false 16<|s.Bc.map Gc.enc),(10,I s.Bc.length),(11,I i)])
  (λi=>[.map ((Y9 s.Bc i).map Adr.enc)<|ZO (Y9 s.Bc i).length]) 0 (λfr h=>get fr 2=.bot) (λfr h=>get fr 2=.bool false) (λi=>rfl)
  (λi x hx hP=>by
   have hg:=Z6 (f:=Gc.enc) hx;have hi:=Zh<|Z7 hx;have hw:=Zx (n:=i) (by have:=Z7 hx;have:=hs.doors;omega)
   have hf:Y9 s.Bc (i+1)=Hd (Y9 s.Bc i) x:=Us Hd [] hx;have hp:=λhh=>Ur (ag:=true) (kk:=[2,1,2,1,1]) (enc:=Adr.enc) (eq:=XK) NK (Y9 s.Bc i) (WI x) (h:=.map ((Y9 s.Bc i).map Adr.enc) (ZO (Y9 s.Bc i).length)::hh) (b:=0) rfl
   have hq:=λhh=>H5 (ag:=true) (kk:=[2,1,2,1,1]) (enc:=Adr.enc) (eq:=XK) NK (Y9 s.Bc i) (WI x) (h:=.map ((Y9 s.Bc i).map Adr.enc) (ZO (Y9 s.Bc i).length)::hh) (b:=0) rfl
   rw[hf];generalize Y9 s.Bc i=K at hp hq hP⊢;have hp':∀a b,YK [.map (K.map Adr.enc)<|ZO K.length,a,b] true [2,1,2,1,1] (.mp 0) (.agg [.str x.Ev,I x.An.N,.str x.An.bk,I x.An.Num,I x.An.Den]) (.bool true)=_:=λa b=>hp [a,b]
   have hq':∀a b,W5 [.map (K.map Adr.enc)<|ZO K.length,a,b] true [2,1,2,1,1] false (.bool false) (.mp 0) (.agg [.str x.Ev,I x.An.N,.str x.An.bk,I x.An.Num,I x.An.Den])=_:=λa b=>hq [a,b]
   unfold Hd;unfold Jr at hP⊢;cases h1:x.Ld != -1 with
   |true=>
    refine⟨_,by simp only[go_sem,c95L0b,hg,hi,hw,Gc.enc,NL.enc,h1,hbA,hbT];rfl,?_⟩
    simp only[go_sem]
   |false=>
   cases h2:Z3 x.Veil emp with
   |false=>
    refine⟨_,by simp only[go_sem,c95L0b,hg,hi,hw,Gc.enc,NL.enc,h1,h2,hbA,hbT];rfl,?_⟩
    simp only[go_sem]
   |true=>
    have h3:K.any (XK<|WI x)=false:=by simpa[h1,h2]using hP
    refine⟨_,by simp only[go_sem,c95L0b,hg,hi,hw,Gc.enc,NL.enc,h1,h2,hq',hp',h3,hbA,hbT];rfl,?_⟩
    simp only[go_sem])
  (λi x hx hP=>by
   have hg:=Z6 (f:=Gc.enc) hx;have hi:=Zh<|Z7 hx;have hq:=λhh=>H5 (ag:=true) (kk:=[2,1,2,1,1]) (enc:=Adr.enc) (eq:=XK) NK (Y9 s.Bc i) (WI x) (h:=.map ((Y9 s.Bc i).map Adr.enc) (ZO (Y9 s.Bc i).length)::hh) (b:=0) rfl
   generalize Y9 s.Bc i=K at hq hP⊢;have hq':∀a b,W5 [.map (K.map Adr.enc)<|ZO K.length,a,b] true [2,1,2,1,1] false (.bool false) (.mp 0) (.agg [.str x.Ev,I x.An.N,.str x.An.bk,I x.An.Num,I x.An.Den])=_:=λa b=>hq [a,b]
   unfold Jr at hP;have h1:(x.Ld != -1)=false:=by cases h:x.Ld != -1<;>simp_all
   have h2:Z3 x.Veil emp=true:=by cases h:Z3 x.Veil emp<;>simp_all
   have h3:K.any (XK<|WI x)=true:=by simpa[h1,h2]using hP
   refine⟨_,_,by simp only[go_sem,c95L0b,hg,hi,Gc.enc,NL.enc,h1,h2,hq',h3,hbA,hbT];rfl,?_⟩
   simp only[go_sem])
  (⟨_,_,by simp only[go_sem,c95L0b,ZG];rfl,by simp only[go_sem]⟩)
 obtain⟨fr',h',h1,h2,h3⟩:=L;have h1':Zg rE [3,9,10,11] c95L0b [(3,.mp 0),(9,.isl false false 16<|s.Bc.map Gc.enc),(10,I s.Bc.length),(11,.int .i64 0)] [.map [] []]=_:=h1;rw[Z5 (f:=95) rfl rfl];have hdef:Zu (λi d=>Jr d||!(Y9 s.Bc i).any (XK<|WI d)) 0 s.Bc=Wh s.Bc:=rfl
 rw[hdef]at h1' h3;cases hc:Wh s.Bc with
 |true=>rw[hc]at h1';simp only[go_sem,c95,c95L0,h1']
 |false=>rw[hc]at h1';simp only[go_sem,c95,c95L0,h1',h3 hc,ZWn]
def Ye(V:List Bool):List AV:=V.map .bool
def Wi(x y:Int):Zz false [1] (I x) (I y)=some (x==y):=by simp only[go_sem]
def Z2W(K:List Int)(V:List Bool)(hl:V.length=K.length)(x:Int){h:Hp}{b:Nat}(hb:h[b]?=some (.map (K.map I)<|Ye V)):
 ∃c,W5 h false [1] false (.bool false) (.mp b) (I x)=some (.bool c):=by
 simp only[W5,hb,QW,Wi];rcases Uq (ag:=false) (kk:=[1]) (enc:=I) (eq:=λa b=>a==b) Wi x K 0 with⟨h1,h2⟩|⟨j,h1,h2,h3,h4⟩
 .rw[h1];exact⟨false,rfl⟩
 .have:(Ye V)[j]?=some (.bool<|V[j]'(by omega)):=by
   unfold Ye;rw[ZXc,ZWq<|by omega];rfl
  rw[h1];simp only[this];exact⟨_,rfl⟩
def Z2X(K:List Int)(V:List Bool)(hl:V.length=K.length)(x:Int)(c:Bool){h:Hp}{b:Nat}(hb:h[b]?=some (.map (K.map I)<|Ye V)):
 ∃(K':List Int)(V':List Bool),V'.length=K'.length/\K'.length<=K.length+1/\YK h false [1] (.mp b) (I x) (.bool c)=some (.bot,setH h b<|.map (K'.map I)<|Ye V'):=by
 simp only[YK,hb,Yo,Wi];rcases Uq (ag:=false) (kk:=[1]) (enc:=I) (eq:=λa b=>a==b) Wi x K 0 with⟨h1,h2⟩|⟨j,h1,h2,h3,h4⟩
 .rw[h1];refine⟨K++[x],V++[c],by simp[hl],by simp,?_⟩
  simp[Ye,ZM,ZH]
 .rw[h1];refine⟨K,V.set j c,by simp[hl],by omega,?_⟩
  simp[Ye,ZM,ZH,List.map_set]
def Vm(a b:Int):Bool:=a==b
def Y2(p:be):Bool:=QM p.a 0 0&&(QM p.b 0 0&&!(p.a==p.b))
def QV(l:List be)(i:Nat):List Int:=(l.take i).foldl (λK p=>Qi Vm K p.b) []
def UB(l:List be):Bool:=Zu (λi p=>Y2 p&&!(QV l i).any (Vm p.b)) 0 l
def WJ:(0<=(0:Int)/\(0:Int)<((2:Nat):Int))=True:=by simp
def XL:(0<=(1:Int)/\(1:Int)<((2:Nat):Int))=True:=by simp
def Z2Y(a17 a1:AV)(ha17:∀n,bel n a17=true)(ha1:∀n,bel n a1=true)(l:List be)(hl:l.length<=1000):
 ∃fr' h',Zg rE [1,3,4,17,18,19,24,25,26] c96L0b [(1,a1),(3,.mp 0),(4,.int .i64 0),(17,a17),(18,.int .i64 2),(19,.int .i64 0),(24,.isl false false 2<|l.map be.enc),(25,I l.length),(26,.int .i64 0)] [.map [] []] =
  some (if UB l=true then .exit 2 else .ret,fr',h')/\
  (UB l=true->(get fr' 1=a1/\get fr' 2=.bot/\get fr' 3=.mp 0/\get fr' 17=a17/\get fr' 18=.int .i64 2/\get fr' 19=.int .i64 0)/\∃(K:List Int)(V:List Bool),V.length=K.length/\h'=[.map (K.map I)<|Ye V])/\(UB l=false->get fr' 2=.bool false/\get fr' 1=a1/\get fr' 3=.mp 0/\get fr' 17=a17/\get fr' 18=.int .i64 2/\get fr' 19=.int .i64 0):=by
 have hbA:∀n(K:List Int),Zd n (K.map I)=true:=λn K=>ZN _<|Zw (λt=>rfl) K
 have hbT:∀n k,Zd n (ZO k)=true:=λn k=>ZN _<|Ut k
 have n0:((0:Int)).toNat=0:=rfl;have n1:((1:Int)).toNat=1:=rfl;have z0:((0:Int)==0)=true:=rfl;have L:=Jk (E:=rE) (live:=[1,3,4,17,18,19,24,25,26]) (b:=c96L0b) l (λi p=>Y2 p&&!(QV l i).any (Vm p.b))
  (λi=>[(1,a1),(3,.mp 0),(4,.int .i64 0),(17,a17),(18,.int .i64 2),(19,.int .i64 0),(24,.isl false false 2<|l.map be.enc),(25,I l.length),(26,I i)])
  (λi=>[.map ((QV l i).map I)<|ZO (QV l i).length]) 2
  (λfr h=>(get fr 1=a1/\get fr 2=.bot/\get fr 3=.mp 0/\get fr 17=a17/\get fr 18=.int .i64 2/\get fr 19=.int .i64 0)/\h=[.map ((QV l l.length).map I)<|ZO (QV l l.length).length])
  (λfr h=>get fr 2=.bool false/\get fr 1=a1/\get fr 3=.mp 0/\get fr 17=a17/\get fr 18=.int .i64 2/\get fr 19=.int .i64 0) (λi=>rfl)
  (λi x hx hP=>by
   have hg:=Z6 (f:=be.enc) hx;have hi:=Zh<|Z7 hx;have hw:=Zx (n:=i) (by have:=Z7 hx;omega)
   have hf:QV l (i+1)=Qi Vm (QV l i) x.b:=Us _ [] hx;have hp:=λhh=>Ur (ag:=false) (kk:=[1]) (enc:=I) (eq:=Vm) Wi (QV l i) x.b (h:=.map ((QV l i).map I) (ZO (QV l i).length)::hh) (b:=0) rfl
   have hq:=λhh=>H5 (ag:=false) (kk:=[1]) (enc:=I) (eq:=Vm) Wi (QV l i) x.b (h:=.map ((QV l i).map I) (ZO (QV l i).length)::hh) (b:=0) rfl
   rw[hf];generalize QV l i=K at hp hq hP⊢;simp only[Y2,ZWe,ZWD]at hP;obtain⟨⟨h1,h2,h3⟩,h4⟩:=hP;refine⟨_,by simp only[go_sem,c96L0b,hg,hi,hw,be.enc,WJ,XL,n0,n1,ZWE,if_true,Qc,h1,h2,h3,z0,hq,hp,h4,hbA,hbT,ha17,ha1];rfl,?_⟩
   simp only[go_sem])
  (λi x hx hP=>by
   have hg:=Z6 (f:=be.enc) hx;have hi:=Zh<|Z7 hx;have hq:=λhh=>H5 (ag:=false) (kk:=[1]) (enc:=I) (eq:=Vm) Wi (QV l i) x.b (h:=.map ((QV l i).map I) (ZO (QV l i).length)::hh) (b:=0) rfl
   generalize QV l i=K at hq hP⊢;unfold Y2 at hP;cases h1:QM x.a 0 0 with
   |false=>
    refine⟨_,_,by simp only[go_sem,c96L0b,hg,hi,be.enc,WJ,n0,ZWE,if_true,Qc,h1,hbA,hbT,ha17,ha1];rfl,?_⟩
    refine⟨?_,?_,?_,?_,?_,?_⟩<;>simp only[go_sem]
   |true=>
   cases h2:QM x.b 0 0 with
   |false=>
    refine⟨_,_,by simp only[go_sem,c96L0b,hg,hi,be.enc,WJ,XL,n0,n1,ZWE,if_true,Qc,h1,h2,hbA,hbT,ha17,ha1];rfl,?_⟩
    refine⟨?_,?_,?_,?_,?_,?_⟩<;>simp only[go_sem]
   |true=>
   cases h3:x.a==x.b with
   |true=>
    refine⟨_,_,by simp only[go_sem,c96L0b,hg,hi,be.enc,WJ,XL,n0,n1,ZWE,if_true,Qc,h1,h2,h3,hbA,hbT,ha17,ha1];rfl,?_⟩
    refine⟨?_,?_,?_,?_,?_,?_⟩<;>simp only[go_sem]
   |false=>
    have h4:K.any (Vm x.b)=true:=by simpa[h1,h2,h3]using hP
    refine⟨_,_,by simp only[go_sem,c96L0b,hg,hi,be.enc,WJ,XL,n0,n1,ZWE,if_true,Qc,h1,h2,h3,z0,hq,h4,hbA,hbT,ha17,ha1];rfl,?_⟩
    refine⟨?_,?_,?_,?_,?_,?_⟩<;>simp only[go_sem])
  (⟨_,_,by simp only[go_sem,c96L0b,ZG];rfl,by refine⟨⟨?_,?_,?_,?_,?_,?_⟩,?_⟩<;>simp only[go_sem]⟩)
 obtain⟨fr',h',h1,h2,h3⟩:=L;refine⟨fr',h',h1,λh=>?_,h3⟩
 obtain⟨h4,h5⟩:=h2 h;refine⟨h4,QV l l.length,List.replicate (QV l l.length).length true,by simp,?_⟩
 rw[h5];simp[Ye,ZO]
def Z2Z(a17 a1:AV)(ha17:∀n,bel n a17=true)(ha1:∀n,bel n a1=true)(l:List be)(hl:l.length<=1000)(K0:List Int)(V0:List Bool)(hK0:V0.length=K0.length):
 ∃fr' h',Zg rE [1,3,4,17,18,19,24,25,26] c96L0b [(1,a1),(3,.mp 0),(4,.int .i64 1),(17,a17),(18,.int .i64 2),(19,.int .i64 1),(24,.isl false false 2<|l.map be.enc),(25,I l.length),(26,.int .i64 0)] [.map (K0.map I)<|Ye V0] =
  some (if l.all Y2=true then .exit 2 else .ret,fr',h')/\
  (l.all Y2=true->(get fr' 1=a1/\get fr' 2=.bot/\get fr' 3=.mp 0/\get fr' 17=a17/\get fr' 18=.int .i64 2/\get fr' 19=.int .i64 1)/\∃o,h'=[o]/\∀n,Zj n o=true)/\(l.all Y2=false->get fr' 2=.bool false/\get fr' 1=a1/\get fr' 3=.mp 0/\get fr' 17=a17/\get fr' 18=.int .i64 2/\get fr' 19=.int .i64 1):=by
 have hbA:∀n(K:List Int),Zd n (K.map I)=true:=λn K=>ZN _<|Zw (λt=>rfl) K
 have hbT:∀n(V:List Bool),Zd n (Ye V)=true:=λn V=>ZN _<|Zw (λt=>rfl) V
 have n0:((0:Int)).toNat=0:=rfl;have n1:((1:Int)).toNat=1:=rfl;have z0:((1:Int)==0)=false:=rfl
 suffices G:∀(post pre:List be)(K:List Int)(V:List Bool),l=pre++post->V.length=K.length->
  ∃fr' h',Zg rE [1,3,4,17,18,19,24,25,26] c96L0b [(1,a1),(3,.mp 0),(4,.int .i64 1),(17,a17),(18,.int .i64 2),(19,.int .i64 1),(24,.isl false false 2<|l.map be.enc),(25,I l.length),(26,I pre.length)] [.map (K.map I)<|Ye V] =
  some (if post.all Y2=true then .exit 2 else .ret,fr',h')/\
  (post.all Y2=true->(get fr' 1=a1/\get fr' 2=.bot/\get fr' 3=.mp 0/\get fr' 17=a17/\get fr' 18=.int .i64 2/\get fr' 19=.int .i64 1)/\∃o,h'=[o]/\∀n,Zj n o=true)/\(post.all Y2=false->get fr' 2=.bool false/\get fr' 1=a1/\get fr' 3=.mp 0/\get fr' 17=a17/\get fr' 18=.int .i64 2/\get fr' 19=.int .i64 1)from G l [] K0 V0 rfl hK0
 intro post;induction post with
 |nil=>
  intro pre K V hp hKV;have hlen:l.length=pre.length:=by rw[hp];simp
  have hf:decide ((pre.length:Int)<(l.length:Int))=false:=by rw[hlen];exact ZG _
  refine⟨_,_,Q7 rfl (by simp only[go_sem,c96L0b,hf];rfl) (by simp),λ_=>⟨?_,_,rfl,λn=>by simp only[go_sem,hbA,hbT]⟩,λh=>by simp at h⟩
  refine⟨?_,?_,?_,?_,?_,?_⟩<;>simp only[go_sem]
 |cons x post ih=>
  intro pre K V hp hKV;have hx:l[pre.length]?=some x:=by rw[hp];simp
  have hg:=Z6 (f:=be.enc) hx;have hi:=Zh<|Z7 hx;have hlx:=Z7 hx;have hw:=Zx (n:=pre.length)<|by omega
  rw[ZWV];cases h1:QM x.a 0 0 with
  |false=>
   have hP:Y2 x=false:=by simp[Y2,h1]
   rw[hP,ZWh];refine⟨_,_,Q7 rfl (by simp only[go_sem,c96L0b,hg,hi,be.enc,WJ,n0,ZWE,if_true,Qc,h1,hbA,hbT,ha17,ha1];rfl) (by simp),λh=>(by cases h),λ_=>?_⟩
   refine⟨?_,?_,?_,?_,?_,?_⟩<;>simp only[go_sem]
  |true=>
  cases h2:QM x.b 0 0 with
  |false=>
   have hP:Y2 x=false:=by simp[Y2,h2]
   rw[hP,ZWh];refine⟨_,_,Q7 rfl (by simp only[go_sem,c96L0b,hg,hi,be.enc,WJ,XL,n0,n1,ZWE,if_true,Qc,h1,h2,hbA,hbT,ha17,ha1];rfl) (by simp),λh=>(by cases h),λ_=>?_⟩
   refine⟨?_,?_,?_,?_,?_,?_⟩<;>simp only[go_sem]
  |true=>
  cases h3:x.a==x.b with
  |true=>
   have hP:Y2 x=false:=by simp only[Y2,h3,ZWg,ZWm]
   rw[hP,ZWh];refine⟨_,_,Q7 rfl (by simp only[go_sem,c96L0b,hg,hi,be.enc,WJ,XL,n0,n1,ZWE,if_true,Qc,h1,h2,h3,hbA,hbT,ha17,ha1];rfl) (by simp),λh=>(by cases h),λ_=>?_⟩
   refine⟨?_,?_,?_,?_,?_,?_⟩<;>simp only[go_sem]
  |false=>
   have hP:Y2 x=true:=by simp only[Y2,h1,h2,h3,ZWi,ZWO]
   rw[hP,ZWf];obtain⟨c,hq⟩:=Z2W K V hKV x.b (h:=[.map (K.map I)<|Ye V,.row 2 [.agg [I x.a,I x.b]]]) (b:=0) rfl;obtain⟨K',V',hKV',_,hput⟩:=Z2X K V hKV x.b c (h:=[.map (K.map I)<|Ye V,.row 2 [.agg [I x.a,I x.b]]]) (b:=0) rfl;obtain⟨fr',h',h4,h5⟩:=ih (pre++[x]) K' V' (by simp[hp]) hKV'
   refine⟨fr',h',?_,h5⟩;rw[<-h4];have hl1:((pre++[x]).length:Int)=((pre.length+1:Nat):Int):=by simp
   rw[hl1];cases c<;>exact(Yt rfl (by simp only[go_sem,c96L0b,hg,hi,hw,be.enc,WJ,XL,n0,n1,ZWE,if_true,Qc,h1,h2,h3,z0,hq,hput,hbA,hbT,ha17,ha1];rfl)).trans (by simp only[go_sem])
def chN(s:Sta):Nat->Int->Bool
 |0,at'=>!decide (at'>=0)
 |k+1,at'=>bif decide (at'>=0)then chN s k (XJ s at')else true
def Fl(s:Sta)(hs:StS s)(a71 a72 a73:AV)(h:Hp):∀k n at',n+k=s.Gk.length+1->
 ∃fr',Zg rE [1,10,11,71,72,73] c96L2b [(1,.iptr false [.isl false false 6<|s.Ga.map Gm.enc,.isl false false 5<|s.Gr.map Ev.enc,.isl false false 4<|s.By.map Fa.enc,.isl false false 16<|s.Bc.map Gc.enc,.isl false false 6<|s.Nk.map bc.enc,.isl false false 2<|s.Gk.map be.enc,.isl false false 2<|s.Wk.map be.enc]),(10,I at'),(11,I (n:Nat)),(71,a71),(72,a72),(73,a73)] h =
  some (if chN s k at'=true then .exit 6 else .ret,fr',h)/\(chN s k at'=true->get fr' 2=.bot/\get fr' 1=.iptr false [.isl false false 6<|s.Ga.map Gm.enc,.isl false false 5<|s.Gr.map Ev.enc,.isl false false 4<|s.By.map Fa.enc,.isl false false 16<|s.Bc.map Gc.enc,.isl false false 6<|s.Nk.map bc.enc,.isl false false 2<|s.Gk.map be.enc,.isl false false 2<|s.Wk.map be.enc]/\get fr' 71=a71/\get fr' 72=a72/\get fr' 73=a73)/\(chN s k at'=false->get fr' 2=.bool false/\get fr' 1=.iptr false [.isl false false 6<|s.Ga.map Gm.enc,.isl false false 5<|s.Gr.map Ev.enc,.isl false false 4<|s.By.map Fa.enc,.isl false false 16<|s.Bc.map Gc.enc,.isl false false 6<|s.Nk.map bc.enc,.isl false false 2<|s.Gk.map be.enc,.isl false false 2<|s.Wk.map be.enc]/\get fr' 71=a71/\get fr' 72=a72/\get fr' 73=a73):=by
 intro k;induction k with
 |zero=>
  intro n at' hn;unfold chN;cases h1:decide (at'>=0)with
  |false=>
   refine⟨_,Q7 rfl (by simp only[go_sem,c96L2b,h1,GH];rfl) (by simp),λ_=>?_,λhh=>(by simp at hh)⟩
   refine⟨?_,?_,?_,?_,?_⟩<;>simp only[go_sem]
  |true=>
   have h2:decide ((n:Int)>(s.Gk.length:Int))=true:=decide_eq_true<|by omega
   refine⟨_,Q7 rfl (by simp only[go_sem,c96L2b,h1,h2,GH];rfl) (by simp),λhh=>(by simp at hh),λ_=>?_⟩
   refine⟨?_,?_,?_,?_,?_⟩<;>simp only[go_sem]
 |succ k ih=>
  intro n at' hn;unfold chN;cases h1:decide (at'>=0)with
  |false=>
   refine⟨_,Q7 rfl (by simp only[go_sem,c96L2b,h1,GH];rfl) (by simp),λ_=>?_,λhh=>(by simp at hh)⟩
   refine⟨?_,?_,?_,?_,?_⟩<;>simp only[go_sem]
  |true=>
   have h2:decide ((n:Int)>(s.Gk.length:Int))=false:=decide_eq_false<|by omega
   have hm:=hs.merged;have hw:=Zx (n:=n)<|by omega
   have ht:=NJ s hs at';obtain⟨fr',h3,h4⟩:=ih (n+1) (XJ s at')<|by omega
   rw[cond_true];refine⟨fr',?_,h4⟩;rw[<-h3];exact(Yt rfl (by simp only[go_sem,c96L2b,h1,h2,hw,ht,GH];rfl)).trans (by simp only[go_sem])
def WK(s:Sta):Bool:=UB s.Gk&&(s.Wk.all Y2&&s.Gk.all (λp=>chN s (s.Gk.length+1) p.b))
def Z30(s:Sta)(hs:StS s)(o:AObj)(ho:∀n,Zj n o=true):
 ∃fr',Zg rE [1,71,72,73] c96L3b [(1,.iptr false [.isl false false 6<|s.Ga.map Gm.enc,.isl false false 5<|s.Gr.map Ev.enc,.isl false false 4<|s.By.map Fa.enc,.isl false false 16<|s.Bc.map Gc.enc,.isl false false 6<|s.Nk.map bc.enc,.isl false false 2<|s.Gk.map be.enc,.isl false false 2<|s.Wk.map be.enc]),(71,.isl false false 2<|s.Gk.map be.enc),(72,I s.Gk.length),(73,.int .i64 0)] [o] =
  some (if s.Gk.all (λp=>chN s (s.Gk.length+1) p.b)=true then .exit 4 else .ret,fr',[o])/\(s.Gk.all (λp=>chN s (s.Gk.length+1) p.b)=false->get fr' 2=.bool false):=by
 have n1:((1:Int)).toNat=1:=rfl;generalize ha:AV.iptr false [.isl false false 6<|s.Ga.map Gm.enc,.isl false false 5<|s.Gr.map Ev.enc,.isl false false 4<|s.By.map Fa.enc,.isl false false 16<|s.Bc.map Gc.enc,.isl false false 6<|s.Nk.map bc.enc,.isl false false 2<|s.Gk.map be.enc,.isl false false 2<|s.Wk.map be.enc]=a;have hba:∀n,bel n a=true:=λn=>by rw[<-ha];rfl
 have L:=Uf (E:=rE) (live:=[1,71,72,73]) (b:=c96L3b) (h:=[o]) s.Gk (λ_ p=>chN s (s.Gk.length+1) p.b) (λi=>[(1,a),(71,.isl false false 2<|s.Gk.map be.enc),(72,I s.Gk.length),(73,I i)]) 4 (λfr=>get fr 2=.bool false) (λi=>rfl)
  (λi x hx hP=>by
   have hg:=Z6 (f:=be.enc) hx;have hi:=Zh<|Z7 hx;have hw:=Zx (n:=i) (by have:=Z7 hx;have:=hs.merged;omega)
   obtain⟨fr',h1,h2,_⟩:=Fl s hs (.isl false false 2<|s.Gk.map be.enc) (I s.Gk.length) (I i) [o,.row 2 [.agg [I x.a,I x.b]]] (s.Gk.length+1) 0 x.b<|by omega
   rw[hP,if_pos rfl,ha]at h1;obtain⟨q2,q1,q71,q72,q73⟩:=h2 hP;rw[ha]at q1;have h1':Zg rE [1,10,11,71,72,73] c96L2b [(1,a),(10,I x.b),(11,.int .i64 0),(71,.isl false false 2<|s.Gk.map be.enc),(72,I s.Gk.length),(73,I i)] [o,.row 2 [.agg [I x.a,I x.b]]]=_:=h1;refine⟨_,by simp only[go_sem,c96L3b,c96L2,hg,hi,hw,be.enc,XL,n1,ZWE,if_true,h1',q1,q2,q71,q72,q73,ho,hba];rfl,?_⟩
   simp only[go_sem])
  (λi x hx hP=>by
   have hg:=Z6 (f:=be.enc) hx;have hi:=Zh<|Z7 hx;obtain⟨fr',h1,_,h2⟩:=Fl s hs (.isl false false 2<|s.Gk.map be.enc) (I s.Gk.length) (I i) [o,.row 2 [.agg [I x.a,I x.b]]] (s.Gk.length+1) 0 x.b<|by omega
   rw[hP,ha]at h1;obtain⟨q2,q1,q71,q72,q73⟩:=h2 hP;rw[ha]at q1;have h1':Zg rE [1,10,11,71,72,73] c96L2b [(1,a),(10,I x.b),(11,.int .i64 0),(71,.isl false false 2<|s.Gk.map be.enc),(72,I s.Gk.length),(73,I i)] [o,.row 2 [.agg [I x.a,I x.b]]]=_:=h1;refine⟨_,by simp only[go_sem,c96L3b,c96L2,hg,hi,be.enc,XL,n1,ZWE,if_true,h1',q1,q2,q71,q72,q73,ho,hba,ZWn];rfl,?_⟩
   simp only[go_sem])
  (⟨_,by simp only[go_sem,c96L3b,ZG];rfl⟩)
 rw[QE]at L;exact L
def Z31(s:Sta)(hs:StS s):pfn rE 96 [stA s]=some (.bool<|WK s):=by
 have hbA:∀n(K:List Int),Zd n (K.map I)=true:=λn K=>ZN _<|Zw (λt=>rfl) K
 have hbT:∀n(V:List Bool),Zd n (Ye V)=true:=λn V=>ZN _<|Zw (λt=>rfl) V
 have e0:ixG [AV.isl false false 2<|s.Gk.map be.enc,.isl false false 2<|s.Wk.map be.enc] 0=some (.isl false false 2<|s.Gk.map be.enc):=rfl;have e1:ixG [AV.isl false false 2<|s.Gk.map be.enc,.isl false false 2<|s.Wk.map be.enc] 1=some (.isl false false 2<|s.Wk.map be.enc):=rfl;have d02:decide ((0:Int)<2)=true:=rfl;have d12:decide ((1:Int)<2)=true:=rfl;have d22:decide ((2:Int)<2)=false:=rfl;have w0:IntKind.i64.wrap ((0:Int)+1)=1:=rfl;have w1:IntKind.i64.wrap ((1:Int)+1)=2:=rfl;have c2:(((0+1+1:Nat):Nat):Int)=2:=rfl;have c2':((2:Nat):Int)=2:=rfl;obtain⟨f1,g1,hm1,hm2,hm3⟩:=Z2Y (.isl false false 1 [.isl false false 2<|s.Gk.map be.enc,.isl false false 2<|s.Wk.map be.enc]) (.iptr false [.isl false false 6<|s.Ga.map Gm.enc,.isl false false 5<|s.Gr.map Ev.enc,.isl false false 4<|s.By.map Fa.enc,.isl false false 16<|s.Bc.map Gc.enc,.isl false false 6<|s.Nk.map bc.enc,.isl false false 2<|s.Gk.map be.enc,.isl false false 2<|s.Wk.map be.enc]) (λn=>rfl) (λn=>rfl) s.Gk hs.merged
 rw[Z5 (f:=96) rfl rfl];unfold WK;cases c1:UB s.Gk with
 |false=>
  rw[c1]at hm1;obtain⟨q2,q1,q3,q17,q18,q19⟩:=hm3 c1;have R:∃fr h,Zg rE [1,3,17,18,19] c96L1b [(1,.iptr false [.isl false false 6<|s.Ga.map Gm.enc,.isl false false 5<|s.Gr.map Ev.enc,.isl false false 4<|s.By.map Fa.enc,.isl false false 16<|s.Bc.map Gc.enc,.isl false false 6<|s.Nk.map bc.enc,.isl false false 2<|s.Gk.map be.enc,.isl false false 2<|s.Wk.map be.enc]),(3,.mp 0),(17,.isl false false 1 [.isl false false 2<|s.Gk.map be.enc,.isl false false 2<|s.Wk.map be.enc]),(18,.int .i64 2),(19,.int .i64 0)] [.map [] []]=some (.ret,fr,h)/\get fr 2=.bool false:=by
   refine⟨_,_,Q7 rfl (by simp only[go_sem,c96L1b,c96L0,e0,d02,hm1,q1,q2,q3,q17,q18,q19,ZWn];rfl) (by simp),?_⟩
   simp only[go_sem]
  obtain⟨fr,h,hR,hq⟩:=R;simp only[go_sem,c96,c96L1,c2',hR,hq]
 |true=>
  rw[c1,if_pos rfl]at hm1;obtain⟨⟨q1,q2,q3,q17,q18,q19⟩,K,V,hKV,rfl⟩:=hm2 c1;obtain⟨f2,g2,hr1,hr2,hr3⟩:=Z2Z (.isl false false 1 [.isl false false 2<|s.Gk.map be.enc,.isl false false 2<|s.Wk.map be.enc]) (.iptr false [.isl false false 6<|s.Ga.map Gm.enc,.isl false false 5<|s.Gr.map Ev.enc,.isl false false 4<|s.By.map Fa.enc,.isl false false 16<|s.Bc.map Gc.enc,.isl false false 6<|s.Nk.map bc.enc,.isl false false 2<|s.Gk.map be.enc,.isl false false 2<|s.Wk.map be.enc]) (λn=>rfl) (λn=>rfl) s.Wk hs.rulings K V hKV
  have R1:=Yt (E:=rE) (live:=[1,3,17,18,19]) (b:=c96L1b) (fr:=[(1,.iptr false [.isl false false 6<|s.Ga.map Gm.enc,.isl false false 5<|s.Gr.map Ev.enc,.isl false false 4<|s.By.map Fa.enc,.isl false false 16<|s.Bc.map Gc.enc,.isl false false 6<|s.Nk.map bc.enc,.isl false false 2<|s.Gk.map be.enc,.isl false false 2<|s.Wk.map be.enc]),(3,.mp 0),(17,.isl false false 1 [.isl false false 2<|s.Gk.map be.enc,.isl false false 2<|s.Wk.map be.enc]),(18,.int .i64 2),(19,.int .i64 0)]) (h:=[.map [] []]) rfl (by simp only[go_sem,c96L1b,c96L0,e0,d02,w0,hm1,q1,q2,q3,q17,q18,q19];rfl)
  simp only[go_sem]at R1;cases c3:s.Wk.all Y2 with
  |false=>
   rw[c3]at hr1;obtain⟨p2,p1,p3,p17,p18,p19⟩:=hr3 c3;have R:∃fr h,Zg rE [1,3,17,18,19] c96L1b [(1,.iptr false [.isl false false 6<|s.Ga.map Gm.enc,.isl false false 5<|s.Gr.map Ev.enc,.isl false false 4<|s.By.map Fa.enc,.isl false false 16<|s.Bc.map Gc.enc,.isl false false 6<|s.Nk.map bc.enc,.isl false false 2<|s.Gk.map be.enc,.isl false false 2<|s.Wk.map be.enc]),(3,.mp 0),(17,.isl false false 1 [.isl false false 2<|s.Gk.map be.enc,.isl false false 2<|s.Wk.map be.enc]),(18,.int .i64 2),(19,.int .i64 1)] [.map (K.map I)<|Ye V]=some (.ret,fr,h)/\get fr 2=.bool false:=by
    refine⟨_,_,Q7 rfl (by simp only[go_sem,c96L1b,c96L0,e1,d12,hr1,p1,p2,p3,p17,p18,p19,ZWn];rfl) (by simp),?_⟩
    simp only[go_sem]
   obtain⟨fr,h,hR,hq⟩:=R;simp only[go_sem,c96,c96L1,c2',R1,hR,hq]
  |true=>
   rw[c3,if_pos rfl]at hr1;obtain⟨⟨p1,p2,p3,p17,p18,p19⟩,o,rfl,ho⟩:=hr2 c3;have R2:=Yt (E:=rE) (live:=[1,3,17,18,19]) (b:=c96L1b) (fr:=[(1,.iptr false [.isl false false 6<|s.Ga.map Gm.enc,.isl false false 5<|s.Gr.map Ev.enc,.isl false false 4<|s.By.map Fa.enc,.isl false false 16<|s.Bc.map Gc.enc,.isl false false 6<|s.Nk.map bc.enc,.isl false false 2<|s.Gk.map be.enc,.isl false false 2<|s.Wk.map be.enc]),(3,.mp 0),(17,.isl false false 1 [.isl false false 2<|s.Gk.map be.enc,.isl false false 2<|s.Wk.map be.enc]),(18,.int .i64 2),(19,.int .i64 1)]) (h:=[.map (K.map I)<|Ye V]) rfl (by simp only[go_sem,c96L1b,c96L0,e1,d12,w1,hr1,p1,p2,p3,p17,p18,p19];rfl)
   simp only[go_sem]at R2;have R3:=Q7 (E:=rE) (live:=[1,3,17,18,19]) (b:=c96L1b) (fr:=[(1,.iptr false [.isl false false 6<|s.Ga.map Gm.enc,.isl false false 5<|s.Gr.map Ev.enc,.isl false false 4<|s.By.map Fa.enc,.isl false false 16<|s.Bc.map Gc.enc,.isl false false 6<|s.Nk.map bc.enc,.isl false false 2<|s.Gk.map be.enc,.isl false false 2<|s.Wk.map be.enc]),(3,.mp 0),(17,.isl false false 1 [.isl false false 2<|s.Gk.map be.enc,.isl false false 2<|s.Wk.map be.enc]),(18,.int .i64 2),(19,.int .i64 2)]) (h:=[o]) rfl (by simp only[go_sem,c96L1b,d22];rfl) (by simp)
   obtain⟨f4,h4,h5⟩:=Z30 s hs o ho;cases c5004:s.Gk.all (λp=>chN s (s.Gk.length+1) p.b)with
   |true=>rw[c5004,if_pos rfl]at h4;simp only[go_sem,c96,c96L1,c96L3,c2',R1,R2,R3,h4]
   |false=>rw[c5004]at h4;simp only[go_sem,c96,c96L1,c96L3,c2',R1,R2,R3,h4,h5 c5004,ZWn]
def c91_eq:c91=.seq s91p0 (.seq s91p1<|.seq s91p2<|.seq s91p3<|.seq s91p4<|.seq s91p5<|.seq s91p6<|.seq s91p7<|.seq s91p8<|.seq s91p9<|.seq s91p10 .ret):=rfl
def Zo(d:Gc):AV:=.agg [.str d.Id,.str d.Fa,.str d.Ev,I d.bg,I d.An.N,.str d.An.bk,I d.An.Num,I d.An.Den,I d.bf.X,I d.bf.Y,I d.From,I d.Ld,.isl false d.After.ex 1<|d.After.l.map encS,I d.Why,I d.br,.str d.Veil]
def exD(d:Gc):Bool:=d.Ld==-1
def K8(s:Sta)(i:Int)(d:Gc):Bool:=d.After.l.all λid=>!decide (Zn s id<=i)
def Yf(d:Gc):Int:=(d.After.l.length:Int)
def He(d:Gc):Bool:=
 bif d.Why==12 then Yf d==0 else bif d.Why==11 then Yf d==0&&Z3 d.Veil emp else bif d.Why==9 then ZD (Yf d) 2 8&&Z3 d.Veil emp else bif d.Why==10 then Yf d==1&&Z3 d.Veil emp else false
def UC(d:Gc):Bool:=(((!(exD d==(d.Why==0)))||(exD d&&decide (Yf d>0)))||(!exD d&&!He d))||!Jq d.After.l
def NM(d:Gc):Gt:=⟨0,0,0,0,d.br,d.Id,emp,d.Veil,⟨false,[]⟩,⟨false,[]⟩,⟨0,emp,0,0⟩,⟨0,0⟩,⟨false,[]⟩,⟨false,[]⟩⟩
def Hf(d:Gc):Gt:=⟨0,0,0,0,0,d.Id,d.Fa,d.Ev,⟨false,[]⟩,⟨false,[]⟩,d.An,d.bf,⟨false,[]⟩,⟨false,[]⟩⟩
def NN(d:Gc):Bool:=Z3 d.Fa emp&&(Z3 d.Ev emp&&(QL d.An ⟨0,emp,0,0⟩&&(QK d.bf ⟨0,0⟩&&Q9 {NM d with bp:=15})))
def WL(s:Sta)(k:Int):Int:=match s.By[k.toNat]? with|some b=>b.Ld|none=>0
def QF(s:Sta)(k:Int):Int:=match s.Gr[k.toNat]? with|some b=>b.Ld|none=>0
def NO(s:Sta)(d:Gc):Bool:=((d.br != 0||decide (Y1 s d.Fa<0))||decide (ZL s d.Ev<0))||(exD d&&(WL s (Y1 s d.Fa) != -1||QF s (ZL s d.Ev) != -1))
def Hg(s:Sta)(i:Int)(d:Gc):Bool:=
 K8 s i d&&(!UC d&&(bif Z3 d.Veil emp then !NO s d&&Q9 {Hf d with bp:=6}else NN d))
structure DoS(d:Gc):Prop where
 after:d.After.l.length<=100
 id:d.Id.size<=1000
 building:d.Fa.size<=1000
 street:d.Ev.size<=1000
 veil:d.Veil.size<=1000
abbrev stI(s:Sta):AV:=.iptr false [.isl false false 6<|s.Ga.map Gm.enc,.isl false false 5<|s.Gr.map Ev.enc,.isl false false 4<|s.By.map Fa.enc,.isl false false 16<|s.Bc.map Gc.enc,.isl false false 6<|s.Nk.map bc.enc,.isl false false 2<|s.Gk.map be.enc,.isl false false 2<|s.Wk.map be.enc]
def Z32(s:Sta)(hs:StS s)(i:Int)(d:Gc)(hd:DoS d):∃fr',Zg rE [1,2,5,6,22,23,24] c91L0b [(1,I i),(2,stI s),(5,.ptr 0 0 0 1),(6,.bool<|exD d),(22,.isl false d.After.ex 1<|d.After.l.map encS),(23,I d.After.l.length),(24,.int .i64 0)] [.row 16 [Zo d]] =
 some (if K8 s i d=true then .exit 0 else .ret,fr',[.row 16 [Zo d]])/\(K8 s i d=true->get fr' 2=stI s/\get fr' 4=.bot/\get fr' 5=.ptr 0 0 0 1/\get fr' 6=.bool (exD d))/\(K8 s i d=false->get fr' 4=.bool false):=by
 have L:=QT (E:=rE) (live:=[1,2,5,6,22,23,24]) (b:=c91L0b) (h:=[.row 16 [Zo d]]) d.After.l (λ_ id=>!decide (Zn s id<=i))
  (λj=>[(1,I i),(2,stI s),(5,.ptr 0 0 0 1),(6,.bool<|exD d),(22,.isl false d.After.ex 1<|d.After.l.map encS),(23,I d.After.l.length),(24,I j)]) 0
  (λfr=>get fr 2=stI s/\get fr 4=.bot/\get fr 5=.ptr 0 0 0 1/\get fr 6=.bool (exD d)) (λfr=>get fr 4=.bool false) (λj=>rfl)
  (λj x hx hP=>by
   have hg:=Z6 (f:=encS) hx;have hi:=Zh<|Z7 hx;have hw:=Zx (n:=j) (by have:=Z7 hx;have:=hd.after;omega)
   have hf:=find_ok s hs x;have hP':decide (Zn s x<=i)=false:=by simpa using hP
   refine⟨_,by simp only[go_sem,c91L0b,hg,hi,hw,encS,hf,hP'];rfl,?_⟩
   simp only[go_sem])
  (λj x hx hP=>by
   have hg:=Z6 (f:=encS) hx;have hi:=Zh<|Z7 hx;have hf:=find_ok s hs x;have hP':decide (Zn s x<=i)=true:=by simpa using hP
   refine⟨_,by simp only[go_sem,c91L0b,hg,hi,encS,hf,hP'];rfl,?_⟩
   simp only[go_sem])
  (⟨_,by simp only[go_sem,c91L0b,ZG];rfl,by refine⟨?_,?_,?_,?_⟩<;>simp only[go_sem]⟩)
 rw[QE]at L;exact L
def Fm(s:Sta)(hs:StS s)(i:Nat)(d:Gc)(hd:DoS d)(hx:s.Bc[i]?=some d)(rest:ACode):
 (K8 s i d=true->Zb rE (.seq s91p0<|.seq s91p1<|.seq s91p2<|.seq s91p3 rest) [(0,stA s),(1,I i)] []=Zb rE rest [(2,stI s),(4,.bot),(5,.ptr 0 0 0 1),(6,.bool<|exD d)] [.row 16 [Zo d]])/\
 (K8 s i d=false->∃fr h,Zb rE (.seq s91p0<|.seq s91p1<|.seq s91p2<|.seq s91p3 rest) [(0,stA s),(1,I i)] []=some (.ret,fr,h)/\get fr 4=.bool false):=by
 obtain⟨fr',h1,h2,h3⟩:=Z32 s hs i d hd;have hg:=Z6 (f:=Gc.enc) hx;have hex:(d.Ld==-1)=exD d:=rfl;unfold Zo at h1⊢;constructor
 .intro ha;rw[if_pos ha]at h1;obtain⟨q2,q4,q5,q6⟩:=h2 ha;simp only[go_sem,s91p0,s91p1,s91p2,s91p3,c91L0,hg,Gc.enc,NL.enc,hex,h1,q2,q4,q5,q6]
 .intro ha;rw[ha]at h1;have q4:=h3 ha;simp only[ZWn,if_false]at h1;refine⟨_,_,by simp only[go_sem,s91p0,s91p1,s91p2,s91p3,c91L0,hg,Gc.enc,NL.enc,hex,h1,q4];rfl,?_⟩
  simp only[go_sem]
def XM(d:Gc):AObj:=.map [.int .i64 12,.int .i64 11,.int .i64 9,.int .i64 10] [.bool<|Yf d==0,.bool<|Yf d==0&&Z3 d.Veil emp,.bool<|ZD (Yf d) 2 8&&Z3 d.Veil emp,.bool<|Yf d==1&&Z3 d.Veil emp]
def Z33(a1 a2:Bool)(r1 r2:List Nat)(w1 w2:Option Nat)(k v j u:AV):Kp ⟨a1,r1,w1,some (k,v)⟩ ⟨a2,r2,w2,some (j,u)⟩=YF k j:=(rfl)
def Fo(a b:Int):YF (.int .i64 a) (.int .i64 b)=(a != b):=by simp[YF]
def Z34(x:AObj)(ks vs:List AV)(k:Int)(v:AV)(hk:ZW false [1] (I k) ks 0=some none):YK [x,.map ks vs] false [1] (.mp 1) (I k) v=some (.bot,[x,.map (ks++[I k])<|vs++[v]]):=by
 simp only[YK,ZXj,ZX1,Yo,Wi,hk,ZM,ZH,GN,GM]
def Js(b:Nat)(v:AV):Bool:=match v with| .mp c=>c==b|_=>false
def Z35(b:Nat):Js b (.mp b)=true:=by simp[Js]
def Z36{b:Nat}{v:AV}(h:Js b v=true):v=.mp b:=by
 cases v with
 |mp c=>have:c=b:=by simpa[Js]using h
        rw[this]
 |_=>simp[Js]at h
def Z37(fr:Fr)(x:AObj)(ks vs:List AV)(k:Int)(t:Nat)(h37':Js 1 (get fr 37)=true)(hk:ZW false [1] (I k) ks 0=some none)(htn:t≠37):
 Za rE (.ins false [1] (.t 37) (.c<|.int .i64 k)<|.t t) fr [x,.map ks vs]=⟨false,[],some 1,some (I k,get fr t)⟩:=by
 have h37:=Z36 h37';obtain⟨v,ht⟩:∃v,get fr t=v:=⟨_,rfl⟩;rw[ht];have e37:get (Z2 (AOp.ins false [1] (.t 37) (.c<|.int .i64 k)<|.t t).slots fr) 37=.mp 1:=by
  simp[AOp.slots,Arg.slots,Z2,get,h37]
 have et:get (Z2 (AOp.ins false [1] (.t 37) (.c<|.int .i64 k)<|.t t).slots fr) t=v:=by
  have:(37==t)=false:=by rw[beq_eq_false_iff_ne];exact λh=>htn h.symm
  simp[AOp.slots,Arg.slots,Z2,get,this,ht]
 have hne:YF (I k) (I k)=false:=by rw[Fo];simp
 have hd:Za rE (.ins false [1] (.t 37) (.c<|.int .i64 k)<|.t t) fr [x,.map ks vs]=QG rE (Z2 (AOp.ins false [1] (.t 37) (.c<|.int .i64 k)<|.t t).slots fr) [x,.map ks vs] (.ins false [1] (.t 37) (.c<|.int .i64 k)<|.t t) (match Z8 rE (Z2 (AOp.ins false [1] (.t 37) (.c<|.int .i64 k)<|.t t).slots fr) [x,.map ks vs] ([x,.map ks vs]:Hp).length (.ins false [1] (.t 37) (.c<|.int .i64 k)<|.t t)with|some r=>r.2.2|none=>none):=rfl
 rw[hd];generalize Z2 (AOp.ins false [1] (.t 37) (.c<|.int .i64 k)<|.t t).slots fr=f at e37 et;have ho:Z8 rE f [x,.map ks vs] ([x,.map ks vs]:Hp).length (.ins false [1] (.t 37) (.c<|.int .i64 k)<|.t t)=some (.bot,[1],some (1,.map (ks++[I k])<|vs++[v])):=by
  simp only[Z8,ev,e37,et,ZXj,ZX1,Yo,Wi,hk]
 have hi:Wm rE f [x,.map ks vs] (.ins false [1] (.t 37) (.c<|.int .i64 k)<|.t t)=some (I k,v):=by
  simp only[Wm,ev,e37,et,ZXj,ZX1,hk,hne,cond_false]
 rw[ho];simp only[QG,hi,ZWH]
def Z38(s:Sta)(d:Gc)(rest:ACode):
 Zb rE (.seq s91p4<|.seq s91p5 rest) [(2,stI s),(4,.bot),(5,.ptr 0 0 0 1),(6,.bool<|exD d)] [.row 16 [Zo d]] =
  Zb rE rest [(2,stI s),(5,.ptr 0 0 0 1),(6,.bool<|exD d),(9,I<|Yf d),(10,.mp 1)] [.row 16 [Zo d],XM d]:=by
 have hn:((d.After.l.length:Nat):Int)=Yf d:=rfl;have f1:ZW false [1] (.int .i64 12) [] 0=some none:=rfl;have f2:ZW false [1] (.int .i64 11) [.int .i64 12] 0=some none:=rfl;have f3:ZW false [1] (.int .i64 9) [.int .i64 12,.int .i64 11] 0=some none:=rfl;have f4:ZW false [1] (.int .i64 10) [.int .i64 12,.int .i64 11,.int .i64 9] 0=some none:=rfl;have n1:((11:Int) != 12)=true:=rfl;have n2:((9:Int) != 12)=true:=rfl;have n3:((9:Int) != 11)=true:=rfl;have n4:((10:Int) != 12)=true:=rfl;have n5:((10:Int) != 11)=true:=rfl;have n6:((10:Int) != 9)=true:=rfl;have b1:∀x:AV,Zd 1 [x]=bel 1 x:=λx=>by simp[Zd]
 unfold XM Zo;cases c1:Yf d==0<;>cases c2:Yf d==1<;>cases c3:ZD (Yf d) 2 8<;>cases c5004:Z3 d.Veil emp<;>
  simp only[go_sem,s91p4,s91p5,hn,c1,c2,c3,c5004,DY,Z37,Z35,Z34,f1,f2,f3,f4,Z33,Fo,n1,n2,n3,n4,n5,n6,ne_eq,Nat.reduceEqDiff,not_false_eq_true]
def Z39(d:Gc)(x:AObj):W5 [x,XM d] false [1] false (.bool false) (.mp 1) (I d.Why)=some (.bool<|He d):=by
 unfold XM He;simp only[W5,ZXj,ZX1,QW,Wi,ZW];cases c1:d.Why==12<;>cases c2:d.Why==11<;>cases c3:d.Why==9<;>cases c5004:d.Why==10<;>rfl
set_option maxHeartbeats 4000000 in
def Fp(s:Sta)(d:Gc)(hd:DoS d)(rest:ACode):
 (UC d=false->Zb rE (.seq s91p6 rest) [(2,stI s),(5,.ptr 0 0 0 1),(6,.bool<|exD d),(9,I<|Yf d),(10,.mp 1)] [.row 16 [Zo d],XM d]=Zb rE rest [(2,stI s),(5,.ptr 0 0 0 1),(6,.bool<|exD d),(90,.bool false)] [.row 16 [Zo d],XM d])/\
 (UC d=true->∃fr h,Zb rE (.seq s91p6 rest) [(2,stI s),(5,.ptr 0 0 0 1),(6,.bool<|exD d),(9,I<|Yf d),(10,.mp 1)] [.row 16 [Zo d],XM d]=some (.ret,fr,h)/\get fr 4=.bool false):=by
 have hg:=Z39 d;have hso:=Fj d.After.l d.After.ex (by have:=hd.after;omega)
 have t1:(true==true)=true:=rfl;have t2:(true==false)=false:=rfl;have t3:(false==true)=false:=rfl;have t4:(false==false)=true:=rfl;generalize XM d=m at hg⊢;unfold UC Zo;cases c1:exD d<;>cases c2:d.Why==0<;>cases c3:decide (Yf d>0)<;>cases c5004:He d<;>cases c5005:Jq d.After.l<;>rw[c5004]at hg<;>rw[c5005]at hso<;>
  (constructor<;>intro hb<;>first|(exact absurd hb<|by decide)|skip)
 all_goals first
  |(simp only[go_sem,s91p6,c2,c3,hg,hso,t1,t2,t3,t4];done)
  |(refine⟨_,_,by simp only[go_sem,s91p6,c2,c3,hg,hso,t1,t2,t3,t4];rfl,?_⟩;simp only[go_sem])
def Z3a(d:Gc)(hd:DoS d):EvS (NM d):=⟨ZWy _,ZWy _,ZWy _,ZWy _,hd.id,ZWy _,hd.veil⟩
def Z3b(d:Gc)(hd:DoS d):EvS (Hf d):=⟨ZWy _,ZWy _,ZWy _,ZWy _,hd.id,hd.building,hd.street⟩
def Fq(s:Sta)(d:Gc)(hd:DoS d)(m:AObj)(rest:ACode):
 (Z3 d.Veil emp=true->Zb rE (.seq s91p7 rest) [(2,stI s),(5,.ptr 0 0 0 1),(6,.bool<|exD d),(90,.bool false)] [.row 16 [Zo d],m]=Zb rE rest [(2,stI s),(5,.ptr 0 0 0 1),(6,.bool<|exD d),(93,.bool false)] [.row 16 [Zo d],m])/\
 (Z3 d.Veil emp=false->∃fr h,Zb rE (.seq s91p7 rest) [(2,stI s),(5,.ptr 0 0 0 1),(6,.bool<|exD d),(90,.bool false)] [.row 16 [Zo d],m]=some (.ret,fr,h)/\get fr 4=.bool (NN d)):=by
 have hm:=Wg 15 (NM d)<|Z3a d hd;have hm':pfn rE 90 [I 15,.agg [I 0,I 0,I 0,I 0,I d.br,.str d.Id,.str emp,.str d.Veil,.isl false false 1 [],.isl false false 3 [],I 0,.str emp,I 0,I 0,I 0,I 0,.isl false false 2 [],.isl false false 7 []]]=_:=hm;have hn4:(d.An.N==0&&(Z3 d.An.bk emp&&(d.An.Num==0&&d.An.Den==0)))=QL d.An ⟨0,emp,0,0⟩:=rfl;have hn5:(d.bf.X==0&&d.bf.Y==0)=QK d.bf ⟨0,0⟩:=rfl;unfold NN Zo;constructor
 .intro hv;simp only[go_sem,s91p7,hv]
 .intro hv;cases c1:Z3 d.Fa emp with
  |false=>refine⟨_,_,by simp only[go_sem,s91p7,hv,c1];rfl,?_⟩;simp only[go_sem]
  |true=>
  cases c2:Z3 d.Ev emp with
  |false=>refine⟨_,_,by simp only[go_sem,s91p7,hv,c1,c2];rfl,?_⟩;simp only[go_sem]
  |true=>
  cases c3:QL d.An ⟨0,emp,0,0⟩with
  |false=>refine⟨_,_,by simp only[go_sem,s91p7,hv,c1,c2,hn4,c3];rfl,?_⟩;simp only[go_sem]
  |true=>
  cases c5004:QK d.bf ⟨0,0⟩with
  |false=>refine⟨_,_,by simp only[go_sem,s91p7,hv,c1,c2,hn4,c3,hn5,c5004];rfl,?_⟩;simp only[go_sem]
  |true=>refine⟨_,_,by simp only[go_sem,s91p7,hv,c1,c2,hn4,c3,hn5,c5004,hm'];rfl,?_⟩;simp only[go_sem]
def QC{α:Type}{P:α->Bool}{l:List α}(h:decide (Zp P l 0<0)=false):∃(j:Nat)(x:α),Zp P l 0=(j:Int)/\l[j]?=some x:=by
 rcases UA P l 0 with⟨h1,_⟩|⟨j,x,h1,h2,_⟩
 .rw[h1]at h;simp at h
 .exact⟨j,x,by rw[h1];omega,h2⟩
def Z3c(s:Sta)(hs:StS s)(d:Gc)(hd:DoS d)(m:AObj):
 ∃fr h,Zb rE (.seq s91p8<|.seq s91p9<|.seq s91p10 .ret) [(2,stI s),(5,.ptr 0 0 0 1),(6,.bool<|exD d),(93,.bool false)] [.row 16 [Zo d],m]=some (.ret,fr,h)/\get fr 4=.bool (!NO s d&&Q9 {Hf d with bp:=6}):=by
 have hm:=Wg 6 (Hf d)<|Z3b d hd;have hm':pfn rE 90 [I 6,.agg [I 0,I 0,I 0,I 0,I 0,.str d.Id,.str d.Fa,.str d.Ev,.isl false false 1 [],.isl false false 3 [],I d.An.N,.str d.An.bk,I d.An.Num,I d.An.Den,I d.bf.X,I d.bf.Y,.isl false false 2 [],.isl false false 7 []]]=_:=hm;have hb:=Hb s hs d.Fa;have ht:=K7 s hs d.Ev;unfold NO Zo;cases c1:d.br != 0 with
 |true=>refine⟨_,_,by simp only[go_sem,s91p8,s91p9,s91p10,hb,ht,c1];rfl,?_⟩;simp only[go_sem]
 |false=>
 cases c2:decide (Y1 s d.Fa<0)with
 |true=>refine⟨_,_,by simp only[go_sem,s91p8,s91p9,s91p10,hb,ht,c1,c2];rfl,?_⟩;simp only[go_sem]
 |false=>
 cases c3:decide (ZL s d.Ev<0)with
 |true=>refine⟨_,_,by simp only[go_sem,s91p8,s91p9,s91p10,hb,ht,c1,c2,c3];rfl,?_⟩;simp only[go_sem]
 |false=>
 obtain⟨j,x,hj,hx⟩:=QC c2;obtain⟨k,y,hk,hy⟩:=QC c3;have hj':Y1 s d.Fa=(j:Int):=hj;have hk':ZL s d.Ev=(k:Int):=hk;have hbE:WL s (Y1 s d.Fa)=x.Ld:=by rw[hj'];simp[WL,hx]
 have hsE:QF s (ZL s d.Ev)=y.Ld:=by rw[hk'];simp[QF,hy]
 have gx:=Z6 (f:=Fa.enc) hx;have gy:=Z6 (f:=Ev.enc) hy;rw[hbE,hsE];rw[hj']at hb c2;rw[hk']at ht c3;cases c5004:exD d with
 |false=>refine⟨_,_,by simp only[go_sem,s91p8,s91p9,s91p10,hb,ht,c1,c2,c3,hm'];rfl,?_⟩;simp only[go_sem]
 |true=>
 cases c5005:x.Ld != -1 with
 |true=>refine⟨_,_,by simp only[go_sem,s91p8,s91p9,s91p10,hb,ht,c1,c2,c3,gx,Fa.enc,NL.enc,c5005];rfl,?_⟩;simp only[go_sem]
 |false=>
 cases c5006:y.Ld != -1 with
 |true=>refine⟨_,_,by simp only[go_sem,s91p8,s91p9,s91p10,hb,ht,c1,c2,c3,gx,gy,Fa.enc,Ev.enc,NL.enc,c5005,c5006];rfl,?_⟩;simp only[go_sem]
 |false=>refine⟨_,_,by simp only[go_sem,s91p8,s91p9,s91p10,hb,ht,c1,c2,c3,gx,gy,Fa.enc,Ev.enc,NL.enc,c5005,c5006,hm'];rfl,?_⟩;simp only[go_sem]
def Fs(s:Sta)(hs:StS s)(i:Nat)(d:Gc)(hd:DoS d)(hx:s.Bc[i]?=some d):pfn rE 91 [stA s,I i]=some (.bool<|Hg s i d):=by
 rw[Z5 (f:=91) (c:=c91) rfl rfl,c91_eq];have e0:QP 0 [stA s,I i]=[(0,stA s),(1,I i)]:=rfl;rw[e0];unfold Hg;have fin:∀(fr:Fr)(h:Hp)(b:Bool),get fr 4=.bool b->frz (fnd [ResVar.tmp 4]<|some (.ret,fr,h))=some (.bool b):=by
  intro fr h b hg;simp only[go_sem,hg]
 cases c1:K8 s i d with
 |false=>
  obtain⟨fr,h,h1,h2⟩:=(Fm s hs i d hd hx _).2 c1;rw[h1];exact fin fr h false h2
 |true=>
  rw[(Fm s hs i d hd hx _).1 c1,Z38];cases c2:UC d with
  |true=>
   obtain⟨fr,h,h1,h2⟩:=(Fp s d hd _).2 c2;rw[h1];exact fin fr h false h2
  |false=>
   rw[(Fp s d hd _).1 c2];cases c3:Z3 d.Veil emp with
   |false=>
    obtain⟨fr,h,h1,h2⟩:=(Fq s d hd (XM d) _).2 c3;rw[h1];exact fin fr h _ h2
   |true=>
    rw[(Fq s d hd (XM d) _).1 c3];obtain⟨fr,h,h1,h2⟩:=Z3c s hs d hd<|XM d;rw[h1];exact fin fr h _ h2
structure StE(s:Sta):Prop where
 sizes:StS s
 regions:∀x∈s.Ga,x.bh.l.length<=100/\x.Ring.l.length<=100/\x.Id.size<=1000
 streets:∀x∈s.Gr,x.bh.l.length<=100/\x.Line.l.length<=100/\x.Id.size<=1000
 buildings:∀x∈s.By,x.Ring.l.length<=100/\x.Id.size<=1000
 doors:∀x∈s.Bc,DoS x
 units:∀x∈s.Nk,x.Id.size<=1000/\x.Gc.size<=1000/\x.Text.size<=1000
def Jt(x:Gm):Gt:=⟨0,0,x.bp,0,0,x.Id,emp,emp,⟨false,[]⟩,⟨false,[]⟩,⟨0,emp,0,0⟩,⟨0,0⟩,x.Ring,⟨false,[]⟩⟩
def Ju(x:Ev):Gt:=⟨0,0,0,0,0,x.Id,emp,emp,⟨false,[]⟩,⟨false,[]⟩,⟨0,emp,0,0⟩,⟨0,0⟩,x.Line,⟨false,[]⟩⟩
def Jv(x:Fa):Gt:=⟨0,0,0,0,0,x.Id,emp,emp,⟨false,[]⟩,⟨false,[]⟩,⟨0,emp,0,0⟩,⟨0,0⟩,x.Ring,⟨false,[]⟩⟩
def Vn(x:bc):Gt:=⟨0,0,0,0,0,x.Id,x.Gc,x.Text,⟨false,[]⟩,⟨false,[]⟩,⟨0,emp,0,0⟩,⟨0,0⟩,⟨false,[]⟩,⟨false,[]⟩⟩
def Vo(x:Gm):Bool:=QM x.bg x.Ld 0&&(Jp x.bh.l x.bh.ex&&Q9 {Jt x with bp:=1})
def Vp(x:Ev):Bool:=QM x.bg x.Ld 0&&(Jp x.bh.l x.bh.ex&&Q9 {Ju x with bp:=2})
def Vq(x:Fa):Bool:=QM x.bg x.Ld 0&&Q9 {Jv x with bp:=5}
def Vr(s:Sta)(i:Nat)(x:Gc):Bool:=QM x.bg x.Ld x.From&&Hg s i x
def QN(s:Sta)(k:Int):Int:=match s.Bc[k.toNat]? with|some d=>d.Ld|none=>0
def Jw(s:Sta)(x:bc):Bool:=(x.Ld==-1&&(x.Why != 0||QN s (Zn s x.Gc) != -1))||((x.Ld != -1&&x.Why != 12)&&x.Why != 11)
def Vs(s:Sta)(x:bc):Bool:=!decide (Zn s x.Gc<0)&&(QM 0 x.Ld x.From&&(Q9 {Vn x with bp:=7}&&!Jw s x))
def Jx(s:Sta):Bool:=s.Ga.all Vo&&(s.Gr.all Vp&&(s.By.all Vq&&(Zu (Vr s) 0 s.Bc&&(s.Nk.all (Vs s)&&(Jq (Qp s)&&(Wh s.Bc&&WK s))))))
def Z3d(s:Sta)(hs:StE s):∃fr',Zg rE [1,15,16,17] c45L0b [(1,stI s),(15,.isl false false 6<|s.Ga.map Gm.enc),(16,I s.Ga.length),(17,.int .i64 0)] [] =
 some (if Zu (λ_ x=>Vo x) 0 s.Ga=true then .exit 0 else .ret,fr',[])/\(Zu (λ_ x=>Vo x) 0 s.Ga=true->get fr' 1=stI s/\get fr' 2=.bot)/\(Zu (λ_ x=>Vo x) 0 s.Ga=false->get fr' 2=.bool false):=by
 have L:=QT (E:=rE) (live:=[1,15,16,17]) (b:=c45L0b) (h:=[]) s.Ga (λ_ x=>Vo x)
  (λi=>[(1,stI s),(15,.isl false false 6<|s.Ga.map Gm.enc),(16,I s.Ga.length),(17,I i)]) 0
  (λfr=>get fr 1=stI s/\get fr 2=.bot) (λfr=>get fr 2=.bool false) (λi=>rfl)
  (λi x hx hP=>by
   have hg:=Z6 (f:=Gm.enc) hx;have hi:=Zh<|Z7 hx;have hw:=Zx (n:=i) (by have:=Z7 hx;have:=hs.sizes.regions;omega)
   have hm:=ZWu hx;obtain⟨z1,z2,z3⟩:=hs.regions x hm;have hnm:=Hc x.bh.l x.bh.ex z1;have hmd:pfn rE 90 [I 1,.agg [I 0,I 0,I x.bp,I 0,I 0,.str x.Id,.str emp,.str emp,.isl false false 1 [],.isl false false 3 [],I 0,.str emp,I 0,I 0,I 0,I 0,.isl false x.Ring.ex 2<|x.Ring.l.map Pt.enc,.isl false false 7 []]]=some (.bool<|Q9 {Jt x with bp:=1}):=Wg 1 (Jt x) ⟨ZWy _,ZWy _,z2,ZWy _,z3,ZWy _,ZWy _⟩
   simp only[Vo,ZWe]at hP;obtain⟨p1,p2,p3⟩:=hP;refine⟨_,by simp only[go_sem,c45L0b,hg,hi,hw,Gm.enc,NL.enc,Qc,hnm,hmd,p1,p2,p3];rfl,?_⟩
   simp only[go_sem])
  (λi x hx hP=>by
   have hg:=Z6 (f:=Gm.enc) hx;have hi:=Zh<|Z7 hx;have hm:=ZWu hx;obtain⟨z1,z2,z3⟩:=hs.regions x hm;have hnm:=Hc x.bh.l x.bh.ex z1;have hmd:pfn rE 90 [I 1,.agg [I 0,I 0,I x.bp,I 0,I 0,.str x.Id,.str emp,.str emp,.isl false false 1 [],.isl false false 3 [],I 0,.str emp,I 0,I 0,I 0,I 0,.isl false x.Ring.ex 2<|x.Ring.l.map Pt.enc,.isl false false 7 []]]=some (.bool<|Q9 {Jt x with bp:=1}):=Wg 1 (Jt x) ⟨ZWy _,ZWy _,z2,ZWy _,z3,ZWy _,ZWy _⟩
   unfold Vo at hP;cases p1:QM x.bg x.Ld 0 with
   |false=>
    refine⟨_,by simp only[go_sem,c45L0b,hg,hi,Gm.enc,NL.enc,Qc,p1];rfl,?_⟩
    simp only[go_sem]
   |true=>
   cases p2:Jp x.bh.l x.bh.ex with
   |false=>
    refine⟨_,by simp only[go_sem,c45L0b,hg,hi,Gm.enc,NL.enc,Qc,hnm,p1,p2];rfl,?_⟩
    simp only[go_sem]
   |true=>
    have p3:Q9 {Jt x with bp:=1}=false:=by simpa[p1,p2]using hP
    refine⟨_,by simp only[go_sem,c45L0b,hg,hi,Gm.enc,NL.enc,Qc,hnm,hmd,p1,p2,p3];rfl,?_⟩
    simp only[go_sem])
  (⟨_,by simp only[go_sem,c45L0b,ZG];rfl,by refine⟨?_,?_⟩<;>simp only[go_sem]⟩)
 exact L
def Z3e(s:Sta)(hs:StE s):∃fr',Zg rE [1,46,47,48] c45L1b [(1,stI s),(46,.isl false false 5<|s.Gr.map Ev.enc),(47,I s.Gr.length),(48,.int .i64 0)] [] =
 some (if Zu (λ_ x=>Vp x) 0 s.Gr=true then .exit 2 else .ret,fr',[])/\(Zu (λ_ x=>Vp x) 0 s.Gr=true->get fr' 1=stI s/\get fr' 2=.bot)/\(Zu (λ_ x=>Vp x) 0 s.Gr=false->get fr' 2=.bool false):=by
 have L:=QT (E:=rE) (live:=[1,46,47,48]) (b:=c45L1b) (h:=[]) s.Gr (λ_ x=>Vp x)
  (λi=>[(1,stI s),(46,.isl false false 5<|s.Gr.map Ev.enc),(47,I s.Gr.length),(48,I i)]) 2
  (λfr=>get fr 1=stI s/\get fr 2=.bot) (λfr=>get fr 2=.bool false) (λi=>rfl)
  (λi x hx hP=>by
   have hg:=Z6 (f:=Ev.enc) hx;have hi:=Zh<|Z7 hx;have hw:=Zx (n:=i) (by have:=Z7 hx;have:=hs.sizes.streets;omega)
   have hm:=ZWu hx;obtain⟨z1,z2,z3⟩:=hs.streets x hm;have hnm:=Hc x.bh.l x.bh.ex z1;have hmd:pfn rE 90 [I 2,.agg [I 0,I 0,I 0,I 0,I 0,.str x.Id,.str emp,.str emp,.isl false false 1 [],.isl false false 3 [],I 0,.str emp,I 0,I 0,I 0,I 0,.isl false x.Line.ex 2<|x.Line.l.map Pt.enc,.isl false false 7 []]]=some (.bool<|Q9 {Ju x with bp:=2}):=Wg 2 (Ju x) ⟨ZWy _,ZWy _,z2,ZWy _,z3,ZWy _,ZWy _⟩
   simp only[Vp,ZWe]at hP;obtain⟨p1,p2,p3⟩:=hP;refine⟨_,by simp only[go_sem,c45L1b,hg,hi,hw,Ev.enc,NL.enc,Qc,hnm,hmd,p1,p2,p3];rfl,?_⟩
   simp only[go_sem])
  (λi x hx hP=>by
   have hg:=Z6 (f:=Ev.enc) hx;have hi:=Zh<|Z7 hx;have hm:=ZWu hx;obtain⟨z1,z2,z3⟩:=hs.streets x hm;have hnm:=Hc x.bh.l x.bh.ex z1;have hmd:pfn rE 90 [I 2,.agg [I 0,I 0,I 0,I 0,I 0,.str x.Id,.str emp,.str emp,.isl false false 1 [],.isl false false 3 [],I 0,.str emp,I 0,I 0,I 0,I 0,.isl false x.Line.ex 2<|x.Line.l.map Pt.enc,.isl false false 7 []]]=some (.bool<|Q9 {Ju x with bp:=2}):=Wg 2 (Ju x) ⟨ZWy _,ZWy _,z2,ZWy _,z3,ZWy _,ZWy _⟩
   unfold Vp at hP;cases p1:QM x.bg x.Ld 0 with
   |false=>
    refine⟨_,by simp only[go_sem,c45L1b,hg,hi,Ev.enc,NL.enc,Qc,p1];rfl,?_⟩
    simp only[go_sem]
   |true=>
   cases p2:Jp x.bh.l x.bh.ex with
   |false=>
    refine⟨_,by simp only[go_sem,c45L1b,hg,hi,Ev.enc,NL.enc,Qc,hnm,p1,p2];rfl,?_⟩
    simp only[go_sem]
   |true=>
    have p3:Q9 {Ju x with bp:=2}=false:=by simpa[p1,p2]using hP
    refine⟨_,by simp only[go_sem,c45L1b,hg,hi,Ev.enc,NL.enc,Qc,hnm,hmd,p1,p2,p3];rfl,?_⟩
    simp only[go_sem])
  (⟨_,by simp only[go_sem,c45L1b,ZG];rfl,by refine⟨?_,?_⟩<;>simp only[go_sem]⟩)
 exact L
def Z3f(s:Sta)(hs:StE s):∃fr',Zg rE [1,75,76,77] c45L2b [(1,stI s),(75,.isl false false 4<|s.By.map Fa.enc),(76,I s.By.length),(77,.int .i64 0)] [] =
 some (if Zu (λ_ x=>Vq x) 0 s.By=true then .exit 4 else .ret,fr',[])/\(Zu (λ_ x=>Vq x) 0 s.By=true->get fr' 1=stI s/\get fr' 2=.bot)/\(Zu (λ_ x=>Vq x) 0 s.By=false->get fr' 2=.bool false):=by
 have L:=QT (E:=rE) (live:=[1,75,76,77]) (b:=c45L2b) (h:=[]) s.By (λ_ x=>Vq x)
  (λi=>[(1,stI s),(75,.isl false false 4<|s.By.map Fa.enc),(76,I s.By.length),(77,I i)]) 4
  (λfr=>get fr 1=stI s/\get fr 2=.bot) (λfr=>get fr 2=.bool false) (λi=>rfl)
  (λi x hx hP=>by
   have hg:=Z6 (f:=Fa.enc) hx;have hi:=Zh<|Z7 hx;have hw:=Zx (n:=i) (by have:=Z7 hx;have:=hs.sizes.buildings;omega)
   have hm:=ZWu hx;obtain⟨z2,z3⟩:=hs.buildings x hm;have hmd:pfn rE 90 [I 5,.agg [I 0,I 0,I 0,I 0,I 0,.str x.Id,.str emp,.str emp,.isl false false 1 [],.isl false false 3 [],I 0,.str emp,I 0,I 0,I 0,I 0,.isl false x.Ring.ex 2<|x.Ring.l.map Pt.enc,.isl false false 7 []]]=some (.bool<|Q9 {Jv x with bp:=5}):=Wg 5 (Jv x) ⟨ZWy _,ZWy _,z2,ZWy _,z3,ZWy _,ZWy _⟩
   simp only[Vq,ZWe]at hP;obtain⟨p1,p3⟩:=hP;refine⟨_,by simp only[go_sem,c45L2b,hg,hi,hw,Fa.enc,NL.enc,Qc,hmd,p1,p3];rfl,?_⟩
   simp only[go_sem])
  (λi x hx hP=>by
   have hg:=Z6 (f:=Fa.enc) hx;have hi:=Zh<|Z7 hx;have hm:=ZWu hx;obtain⟨z2,z3⟩:=hs.buildings x hm;have hmd:pfn rE 90 [I 5,.agg [I 0,I 0,I 0,I 0,I 0,.str x.Id,.str emp,.str emp,.isl false false 1 [],.isl false false 3 [],I 0,.str emp,I 0,I 0,I 0,I 0,.isl false x.Ring.ex 2<|x.Ring.l.map Pt.enc,.isl false false 7 []]]=some (.bool<|Q9 {Jv x with bp:=5}):=Wg 5 (Jv x) ⟨ZWy _,ZWy _,z2,ZWy _,z3,ZWy _,ZWy _⟩
   unfold Vq at hP;cases p1:QM x.bg x.Ld 0 with
   |false=>
    refine⟨_,by simp only[go_sem,c45L2b,hg,hi,Fa.enc,NL.enc,Qc,p1];rfl,?_⟩
    simp only[go_sem]
   |true=>
    have p3:Q9 {Jv x with bp:=5}=false:=by simpa[p1]using hP
    refine⟨_,by simp only[go_sem,c45L2b,hg,hi,Fa.enc,NL.enc,Qc,hmd,p1,p3];rfl,?_⟩
    simp only[go_sem])
  (⟨_,by simp only[go_sem,c45L2b,ZG];rfl,by refine⟨?_,?_⟩<;>simp only[go_sem]⟩)
 exact L
def Z3g(s:Sta)(hs:StE s):∃fr',Zg rE [1,98,99,100] c45L3b [(1,stI s),(98,.isl false false 16<|s.Bc.map Gc.enc),(99,I s.Bc.length),(100,.int .i64 0)] [] =
 some (if Zu (Vr s) 0 s.Bc=true then .exit 6 else .ret,fr',[])/\(Zu (Vr s) 0 s.Bc=true->get fr' 1=stI s/\get fr' 2=.bot)/\(Zu (Vr s) 0 s.Bc=false->get fr' 2=.bool false):=by
 have L:=QT (E:=rE) (live:=[1,98,99,100]) (b:=c45L3b) (h:=[]) s.Bc (Vr s)
  (λi=>[(1,stI s),(98,.isl false false 16<|s.Bc.map Gc.enc),(99,I s.Bc.length),(100,I i)]) 6
  (λfr=>get fr 1=stI s/\get fr 2=.bot) (λfr=>get fr 2=.bool false) (λi=>rfl)
  (λi x hx hP=>by
   have hg:=Z6 (f:=Gc.enc) hx;have hi:=Zh<|Z7 hx;have hw:=Zx (n:=i) (by have:=Z7 hx;have:=hs.sizes.doors;omega)
   have hm:=ZWu hx;have hst:=Fs s hs.sizes i x (hs.doors x hm) hx;simp only[Vr,ZWe]at hP;obtain⟨p1,p3⟩:=hP;refine⟨_,by simp only[go_sem,c45L3b,hg,hi,hw,Gc.enc,NL.enc,Qc,hst,p1,p3];rfl,?_⟩
   simp only[go_sem])
  (λi x hx hP=>by
   have hg:=Z6 (f:=Gc.enc) hx;have hi:=Zh<|Z7 hx;have hm:=ZWu hx;have hst:=Fs s hs.sizes i x (hs.doors x hm) hx;unfold Vr at hP;cases p1:QM x.bg x.Ld x.From with
   |false=>
    refine⟨_,by simp only[go_sem,c45L3b,hg,hi,Gc.enc,NL.enc,Qc,p1];rfl,?_⟩
    simp only[go_sem]
   |true=>
    have p3:Hg s i x=false:=by simpa[p1]using hP
    refine⟨_,by simp only[go_sem,c45L3b,hg,hi,Gc.enc,NL.enc,Qc,hst,p1,p3];rfl,?_⟩
    simp only[go_sem])
  (⟨_,by simp only[go_sem,c45L3b,ZG];rfl,by refine⟨?_,?_⟩<;>simp only[go_sem]⟩)
 exact L
def Z3h(s:Sta)(hs:StE s):∃fr',Zg rE [1,121,122,123] c45L4b [(1,stI s),(121,.isl false false 6<|s.Nk.map bc.enc),(122,I s.Nk.length),(123,.int .i64 0)] [] =
 some (if Zu (λ_ x=>Vs s x) 0 s.Nk=true then .exit 8 else .ret,fr',[])/\(Zu (λ_ x=>Vs s x) 0 s.Nk=true->get fr' 1=stI s/\get fr' 2=.bot)/\(Zu (λ_ x=>Vs s x) 0 s.Nk=false->get fr' 2=.bool false):=by
 have L:=QT (E:=rE) (live:=[1,121,122,123]) (b:=c45L4b) (h:=[]) s.Nk (λ_ x=>Vs s x)
  (λi=>[(1,stI s),(121,.isl false false 6<|s.Nk.map bc.enc),(122,I s.Nk.length),(123,I i)]) 8
  (λfr=>get fr 1=stI s/\get fr 2=.bot) (λfr=>get fr 2=.bool false) (λi=>rfl)
  (λi x hx hP=>by
   have hg:=Z6 (f:=bc.enc) hx;have hi:=Zh<|Z7 hx;have hw:=Zx (n:=i) (by have:=Z7 hx;have:=hs.sizes.units;omega)
   have hm:=ZWu hx;obtain⟨z1,z2,z3⟩:=hs.units x hm;have hf:=find_ok s hs.sizes x.Gc;have hmd:pfn rE 90 [I 7,.agg [I 0,I 0,I 0,I 0,I 0,.str x.Id,.str x.Gc,.str x.Text,.isl false false 1 [],.isl false false 3 [],I 0,.str emp,I 0,I 0,I 0,I 0,.isl false false 2 [],.isl false false 7 []]]=some (.bool<|Q9 {Vn x with bp:=7}):=Wg 7 (Vn x) ⟨ZWy _,ZWy _,ZWy _,ZWy _,z1,z2,z3⟩
   unfold Vs at hP;have p0:decide (Zn s x.Gc<0)=false:=by cases h:decide (Zn s x.Gc<0)<;>simp_all
   have p1:QM 0 x.Ld x.From=true:=by cases h:QM 0 x.Ld x.From<;>simp_all
   have p2:Q9 {Vn x with bp:=7}=true:=by cases h:Q9 {Vn x with bp:=7}<;>simp_all
   have p3:Jw s x=false:=by cases h:Jw s x<;>simp_all
   obtain⟨j,y,hj,hy⟩:=QC p0;have hj':Zn s x.Gc=(j:Int):=hj;have gy:=Z6 (f:=Gc.enc) hy;have hdE:QN s (Zn s x.Gc)=y.Ld:=by rw[hj'];simp[QN,hy]
   unfold Jw at p3;rw[hdE]at p3;rw[hj']at hf p0;have ne:(x.Ld != -1) = !(x.Ld==-1):=rfl;rw[ne]at p3;cases q1:x.Ld==-1 with
   |true=>
    have ne':(x.Ld != -1)=false:=by rw[ne,q1];rfl
    have q2:(x.Why != 0)=false:=by cases h:x.Why != 0<;>simp_all
    have q3:(y.Ld != -1)=false:=by cases h:y.Ld != -1<;>simp_all
    refine⟨_,by simp only[go_sem,c45L4b,hg,hi,hw,gy,bc.enc,Gc.enc,NL.enc,Qc,hf,hmd,p0,p1,p2,q1,q2,q3,ne'];rfl,?_⟩
    simp only[go_sem]
   |false=>
    have ne':(x.Ld != -1)=true:=by rw[ne,q1];rfl
    cases q4:x.Why != 12 with
    |false=>
     refine⟨_,by simp only[go_sem,c45L4b,hg,hi,hw,bc.enc,Qc,hf,hmd,p0,p1,p2,q1,ne',q4];rfl,?_⟩
     simp only[go_sem]
    |true=>
     have q5:(x.Why != 11)=false:=by cases h:x.Why != 11<;>simp_all
     refine⟨_,by simp only[go_sem,c45L4b,hg,hi,hw,bc.enc,Qc,hf,hmd,p0,p1,p2,q1,ne',q4,q5];rfl,?_⟩
     simp only[go_sem])
  (λi x hx hP=>by
   have hg:=Z6 (f:=bc.enc) hx;have hi:=Zh<|Z7 hx;have hm:=ZWu hx;obtain⟨z1,z2,z3⟩:=hs.units x hm;have hf:=find_ok s hs.sizes x.Gc;have hmd:pfn rE 90 [I 7,.agg [I 0,I 0,I 0,I 0,I 0,.str x.Id,.str x.Gc,.str x.Text,.isl false false 1 [],.isl false false 3 [],I 0,.str emp,I 0,I 0,I 0,I 0,.isl false false 2 [],.isl false false 7 []]]=some (.bool<|Q9 {Vn x with bp:=7}):=Wg 7 (Vn x) ⟨ZWy _,ZWy _,ZWy _,ZWy _,z1,z2,z3⟩
   unfold Vs at hP;cases p0:decide (Zn s x.Gc<0)with
   |true=>
    refine⟨_,by simp only[go_sem,c45L4b,hg,hi,bc.enc,hf,p0];rfl,?_⟩
    simp only[go_sem]
   |false=>
   cases p1:QM 0 x.Ld x.From with
   |false=>
    refine⟨_,by simp only[go_sem,c45L4b,hg,hi,bc.enc,hf,p0,Qc,p1];rfl,?_⟩
    simp only[go_sem]
   |true=>
   cases p2:Q9 {Vn x with bp:=7}with
   |false=>
    refine⟨_,by simp only[go_sem,c45L4b,hg,hi,bc.enc,hf,p0,Qc,p1,hmd,p2];rfl,?_⟩
    simp only[go_sem]
   |true=>
   have p3:Jw s x=true:=by simpa[p0,p1,p2]using hP
   obtain⟨j,y,hj,hy⟩:=QC p0;have hj':Zn s x.Gc=(j:Int):=hj;have gy:=Z6 (f:=Gc.enc) hy;have hdE:QN s (Zn s x.Gc)=y.Ld:=by rw[hj'];simp[QN,hy]
   unfold Jw at p3;rw[hdE]at p3;rw[hj']at hf p0;have ne:(x.Ld != -1) = !(x.Ld==-1):=rfl;rw[ne]at p3;cases q1:x.Ld==-1 with
   |true=>
    have ne':(x.Ld != -1)=false:=by rw[ne,q1];rfl
    cases q2:x.Why != 0 with
    |true=>
     refine⟨_,by simp only[go_sem,c45L4b,hg,hi,bc.enc,Qc,hf,hmd,p0,p1,p2,q1,q2];rfl,?_⟩
     simp only[go_sem]
    |false=>
     have q3:(y.Ld != -1)=true:=by simpa[q1,q2]using p3
     refine⟨_,by simp only[go_sem,c45L4b,hg,hi,gy,bc.enc,Gc.enc,NL.enc,Qc,hf,hmd,p0,p1,p2,q1,q2,q3];rfl,?_⟩
     simp only[go_sem]
   |false=>
    have ne':(x.Ld != -1)=true:=by rw[ne,q1];rfl
    have q4:(x.Why != 12)=true:=by cases h:x.Why != 12<;>simp_all
    have q5:(x.Why != 11)=true:=by cases h:x.Why != 11<;>simp_all
    refine⟨_,by simp only[go_sem,c45L4b,hg,hi,bc.enc,Qc,hf,hmd,p0,p1,p2,q1,ne',q4,q5];rfl,?_⟩
    simp only[go_sem])
  (⟨_,by simp only[go_sem,c45L4b,ZG];rfl,by refine⟨?_,?_⟩<;>simp only[go_sem]⟩)
 exact L
def Z3i(s:Sta)(hs:StE s):pfn rE 45 [stA s]=some (.bool<|Jx s):=by
 obtain⟨f0,a0,b0,d0⟩:=Z3d s hs;obtain⟨f1,a1,b1,d1⟩:=Z3e s hs;obtain⟨f2,a2,b2,d2⟩:=Z3f s hs;obtain⟨f3,a3,b3,d3⟩:=Z3g s hs;obtain⟨f4,a4,b4,d4⟩:=Z3h s hs;rw[QE]at a0 b0 d0 a1 b1 d1 a2 b2 d2 a4 b4 d4;have hi:=Fd s hs.sizes;have hso:=Fj (Qp s) false (by have h1:=hs.sizes.regions;have h2:=hs.sizes.streets;have h3:=hs.sizes.buildings;have h4:=hs.sizes.doors;have h5:=hs.sizes.units;simp[Qp];omega)
 have hn:=Fk s hs.sizes;have hp:=Z31 s hs.sizes;rw[Z5 (f:=45) rfl rfl];unfold Jx;cases c0:s.Ga.all Vo with
 |false=>rw[c0]at a0;simp only[go_sem,c45,c45L0,a0,d0 c0,ZWn]
 |true=>
 rw[c0,if_pos rfl]at a0;obtain⟨p0,q0⟩:=b0 c0;cases c1:s.Gr.all Vp with
 |false=>rw[c1]at a1;simp only[go_sem,c45,c45L0,c45L1,a0,p0,q0,a1,d1 c1,ZWn]
 |true=>
 rw[c1,if_pos rfl]at a1;obtain⟨p1,q1⟩:=b1 c1;cases c2:s.By.all Vq with
 |false=>rw[c2]at a2;simp only[go_sem,c45,c45L0,c45L1,c45L2,a0,p0,q0,a1,p1,q1,a2,d2 c2,ZWn]
 |true=>
 rw[c2,if_pos rfl]at a2;obtain⟨p2,q2⟩:=b2 c2;cases c3:Zu (Vr s) 0 s.Bc with
 |false=>rw[c3]at a3;simp only[go_sem,c45,c45L0,c45L1,c45L2,c45L3,a0,p0,q0,a1,p1,q1,a2,p2,q2,a3,d3 c3,ZWn]
 |true=>
 rw[c3,if_pos rfl]at a3;obtain⟨p3,q3⟩:=b3 c3;cases c5004:s.Nk.all (Vs s)with
 |false=>rw[c5004]at a4;simp only[go_sem,c45,c45L0,c45L1,c45L2,c45L3,c45L4,a0,p0,q0,a1,p1,q1,a2,p2,q2,a3,p3,q3,a4,d4 c5004,ZWn]
 |true=>
 rw[c5004,if_pos rfl]at a4;obtain⟨p4,q4⟩:=b4 c5004;cases c5005:Jq (Qp s)<;>cases c5006:Wh s.Bc<;>rw[c5005]at hso<;>rw[c5006]at hn<;>
  simp only[go_sem,c45,c45L0,c45L1,c45L2,c45L3,c45L4,a0,p0,q0,a1,p1,q1,a2,p2,q2,a3,p3,q3,a4,p4,q4,hi,hso,hn,hp]
def ZcX:List (List UInt8)->List (List UInt8)
 |[]=>[]
 |a::r=>match ZcX r with
  |[]=>[a]
  |b::s=>if a=b then b::s else a::b::s
def ZdC:∀l:List<|List UInt8,Ys (l.map Qd)=(ZcX l).map Qd
 |[]=>rfl
 |a::r=>by
  rw[ZWs];unfold Ys ZcX;rw[ZdC r];cases ZcX r with
  |nil=>rfl
  |cons b s=>
   have e:sameKey (Qd a) (Qd b)=decide (a=b):=by
    show Z3 _ _=_
    unfold Z3;have e1:(⟨a.toArray⟩:ByteArray).data.toList=a:=by simp
    have e2:(⟨b.toArray⟩:ByteArray).data.toList=b:=by simp
    rw[e1,e2];by_cases h:a=b
    .subst h;simp
    .rw[decide_eq_false h];simpa using h
   show(bif sameKey (Qd a) (Qd b)then _ else _)=_
   rw[e];by_cases h:a=b
   .simp[h]
   .simp[h]
def Ze5(a:List UInt8)(r:List<|List UInt8):∃t,ZcX (a::r)=a::t/\t.length<=r.length:=by
 induction r generalizing a with
 |nil=>exact⟨[],rfl,ZWo _⟩
 |cons b s ih=>
  obtain⟨t,h1,h2⟩:=ih b;unfold ZcX;rw[h1];by_cases h:a=b
  .subst h;exact⟨t,by simp,by simp;omega⟩
  .exact⟨b::t,by simp[h],by simp;omega⟩
def Adj:List (List UInt8)->Prop
 |[]=>True
 |[_]=>True
 |a::b::r=>a≠b/\Adj (b::r)
def ZdD:∀l:List<|List UInt8,(ZcX l).length=l.length↔Adj l
 |[]=>⟨λ_=>trivial,λ_=>rfl⟩
 |[a]=>⟨λ_=>trivial,λ_=>rfl⟩
 |a::b::r=>by
  have ih:=ZdD<|b::r;obtain⟨t,h1,h2⟩:=Ze5 b r;rw[h1]at ih;unfold Adj;rw[<-ih];unfold ZcX;rw[h1];by_cases h:a=b
  .subst h;simp;omega
  .simp[h]
def ZdE:∀l:List<|List UInt8,l.Pairwise (λa b=>leB a b=true)->Adj l->l.Nodup
 |[],_,_=>.nil
 |[a],_,_=>by simp
 |a::b::r,hs,h=>by
  unfold Adj at h;rw[ZXB]at hs;have ih:=ZdE (b::r) hs.2 h.2;rw[ZXs];refine⟨λhm=>?_,ih⟩
  rcases ZWF.1 hm with e|hm
  .exact h.1 e
  .have hb:=(ZXB.1 hs.2).1 a hm;exact h.1<|ET _ _ (hs.1 b<|ZXh ..) hb
def ZdF:∀l:List<|List UInt8,l.Nodup->Adj l
 |[],_=>trivial
 |[a],_=>trivial
 |a::b::r,h=>by
  rw[ZXs]at h;exact⟨λe=>h.1 (by rw[e];exact ZXh ..),ZdF (b::r) h.2⟩
def bytes_inj{a b:Str}(h:a.data.toList=b.data.toList):a=b:=by
 obtain⟨⟨a⟩⟩:=a;obtain⟨⟨b⟩⟩:=b;have:a=b:=h;rw[this]
def ZdG{α β:Type}{f:α->β}(hf:∀a b,f a=f b->a=b):∀{l:List α},(l.map f).Nodup↔l.Nodup
 |[]=>by simp
 |a::r=>by
  rw[ZWs,ZXs,ZXs,ZdG hf];refine and_congr_left λ_=>not_congr ⟨λh=>?_,λh=>ZZ4 h⟩
  obtain⟨b,hb,e⟩:=ZX4.1 h;rw[<-hf _ _ e];exact hb
def Ze6(l:List Str):l.map encS=(l.map (λx:Str=>x.data.toList)).map Qd:=by
 rw[ZYd];apply ZYq;intro x _;obtain⟨⟨x⟩⟩:=x;rfl
def Zdk(l:List Str):Jq l=true↔l.Nodup:=by
 have e:(Ys<|Yk<|l.map encS).length=(ZcX<|WD<|l.map (λx:Str=>x.data.toList)).length:=by
  rw[Ze6,D4,ZdC,ZWd]
 have hl:(WD<|l.map (λx:Str=>x.data.toList)).length=l.length:=by
  rw[(RS _).length_eq,ZWd]
 unfold Jq;rw[beq_iff_eq,e];rw[show((ZcX<|WD<|l.map (λx:Str=>x.data.toList)).length:Int)=(l.length:Int)↔(ZcX<|WD<|l.map (λx:Str=>x.data.toList)).length=(WD<|l.map (λx:Str=>x.data.toList)).length from by rw[hl];omega]
 rw[ZdD];have h1:Adj (WD<|l.map (λx:Str=>x.data.toList))↔(WD<|l.map (λx:Str=>x.data.toList)).Nodup:=⟨ZdE _<|D8 _,ZdF _⟩
 rw[h1,(RS _).nodup_iff,ZdG<|λa b h=>bytes_inj h]
def Z3k(a0 a1 a2 a3 a4:AObj)(b:Bool):trimB 5 [a0,a1,a2,a3,a4] b=[a0,a1,a2,a3,a4]:=by cases b<;>rfl
def Z3l(a0 a1 a2 a3 a4 a5:AObj)(b:Bool):trimB 6 [a0,a1,a2,a3,a4,a5] b=[a0,a1,a2,a3,a4,a5]:=by cases b<;>rfl
attribute [go_sem] Z3k Z3l
def Z3p(b g off len:Nat)(ex:Bool):Zy (.sl b g off len ex)=false:=(rfl)
def Z3q(b:Nat):Zy (.mp b)=false:=(rfl)
attribute [go_sem] Z3p Z3q
structure Prop'(s:Sta):Prop where
 rg:∀x∈s.Ga,Vo x=true
 st:∀x∈s.Gr,Vp x=true
 bu:∀x∈s.By,Vq x=true
 dr:∀(i:Nat)d,s.Bc[i]?=some d->Vr s i d=true
 un:∀x∈s.Nk,Vs s x=true
 ids:(Qp s).Nodup
 pa:WK s=true
def Zda{α:Type}{P:Nat->α->Bool}:∀{l:List α}{i:Nat},Zu P i l=true↔∀(j:Nat)x,l[j]?=some x->P (i+j) x=true
 |[],i=>⟨λ_ j x h=>(by simp at h),λ_=>rfl⟩
 |y::r,i=>by
  unfold Zu;rw[ZWe,Zda (l:=r)];constructor
  .rintro⟨h1,h2⟩ j x hx;cases j with
   |zero=>cases hx;exact h1
   |succ j=>have:=h2 j x hx;rw[show i+(j+1)=i+1+j by omega];exact this
  .intro h;exact⟨h 0 y rfl,λj x hx=>by have:=h (j+1) x hx;rw[show i+1+j=i+(j+1)by omega];exact this⟩
def Zdb(s:Sta):Jx s=true↔Prop' s/\Wh s.Bc=true:=by
 unfold Jx;simp only[ZWe];constructor
 .rintro⟨h1,h2,h3,h4,h5,h6,h7,h8⟩;exact⟨⟨ZWw.1 h1,ZWw.1 h2,ZWw.1 h3,λi d hd=>by have:=Zda.1 h4 i d hd;rwa[ZWr]at this,ZWw.1 h5,(Zdk _).1 h6,h8⟩,h7⟩
 .rintro⟨⟨h1,h2,h3,h4,h5,h6,h8⟩,h7⟩;exact⟨ZWw.2 h1,ZWw.2 h2,ZWw.2 h3,Zda.2 (λi d hd=>by rw[ZWr];exact h4 i d hd),ZWw.2 h5,(Zdk _).2 h6,h7,h8⟩
def look{α:Type}(f:α->Str)(l:List α)(id:Str):Int:=Zp (λx=>Z3 (f x) id) l 0
def ZcU{α:Type}{f:α->Str}{l:List α}{id:Str}(h:decide (look f l id<0)=false):∃(j:Nat)(x:α),look f l id=(j:Int)/\l[j]?=some x/\f x=id:=by
 unfold look at h⊢;rcases UA (λx=>Z3 (f x) id) l 0 with⟨h1,_⟩|⟨j,x,h1,h2,h3⟩
 .rw[h1]at h;cases h
 .exact⟨j,x,by omega,h2,by have:=ZYb h3;exact(Ky _ _).1 this⟩
def Ze8{α:Type}{f:α->Str}{l:List α}{x:α}(h:x∈l):decide (look f l (f x)<0)=false:=by
 unfold look;rcases UA (λy=>Z3 (f y)<|f x) l 0 with⟨_,h2⟩|⟨j,y,h1,_,_⟩
 .exfalso;have:=ZYK.1 h2 x h;exact this<|(Ky _ _).2 rfl
 .exact decide_eq_false<|by omega
def Zi1{α:Type}{f:α->Str}{l:List α}{j:Nat}{x:α}(hn:(l.map f).Nodup)(h:l[j]?=some x):look f l (f x)=(j:Int):=by
 obtain⟨k,y,h1,h2,h3⟩:=ZcU<|Ze8 (f:=f)<|ZWu h;have hk:(l.map f)[k]?=some (f x):=by rw[ZXc,h2,ZWH,h3]
 have hj:(l.map f)[j]?=some (f x):=by rw[ZXc,h,ZWH]
 have hkl:=(ZWv.1 hk).1;have:k=j:=(List.getElem?_inj hkl hn).1 (hk.trans hj.symm);rw[h1,this]
def Zdl(s:Sta)(x:bc):Vs s x=true↔decide (Zn s x.Gc<0)=false/\QM 0 x.Ld x.From=true/\Q9 {Vn x with bp:=7}=true/\(x.Ld=-1->x.Why=0/\QN s (Zn s x.Gc)=-1)/\(x.Ld≠-1->x.Why=12\/x.Why=11):=by
 unfold Vs Jw;rw[ZWe,ZWe,ZWe,ZWD,ZWD];refine and_congr_right λ_=>and_congr_right λ_=>and_congr_right λ_=>?_
 rw[ZXJ];cases he:x.Ld==-1 with
 |true=>
  have h:x.Ld=-1:=by simpa using he
  have h2:(x.Ld != -1)=false:=by simpa using he
  rw[h2];simp[h]
 |false=>
  have h:x.Ld≠-1:=by simpa using he
  have h2:(x.Ld != -1)=true:=by simpa using he
  rw[h2];simp[h];by_cases hw:x.Why=12
  .simp[hw]
  .simp[hw]
def ZoO(m:List<|Int×Int)(k v:Int):List (Int×Int):=match m.findIdx? (λp=>k==p.1)with|some i=>m.set i (k,v)|none=>m++[(k,v)]
def Zos(l:List be):List (Int×Int):=l.foldl (λm p=>ZoO m p.b p.a) []
def ZoB(m:List<|Int×Int)(k:Int):Option Int:=(m.find?<|λp=>k==p.1).map (·.2)
def ZoL(m:List<|Int×Int):Nat->Int->Option Int
 |0,_=>none
 |n+1,a=>match ZoB m a with|some b=>ZoL m n b|none=>some a
def Zpn(k:Int):∀(m:List<|Int×Int)(i:Nat),ZW false [1] (I k) (m.map<|λp=>I p.1) i=some ((m.findIdx?<|λp=>k==p.1).map (· + i))
 |[],i=>rfl
 |p::r,i=>by
  have ih:=Zpn k r<|i+1;have he:Zz false [1] (I k) (I p.1)=some (k==p.1):=by simp only[go_sem,ZWk,if_true]
  rw[ZWs];unfold ZW;rw[he];dsimp only;rw[ih,List.findIdx?_cons];cases k==p.1 with
  |true=>simp
  |false=>
   simp only[cond_false,ZWn,if_false];congr 1;cases List.findIdx? (λp=>k==p.1) r with
   |none=>rfl
   |some j=>simp;omega
def ZpA(k:Int):Zz false [1] (I k) (I k)=some true:=by simp only[go_sem,ZWk,beq_self_eq_true,if_true]
def Zq7(m:List<|Int×Int)(k v:Int){h:Hp}{b:Nat}(hb:h[b]?=some (.map (m.map<|λp=>I p.1)<|m.map<|λp=>I p.2)):
 YK h false [1] (.mp b) (I k) (I v)=some (.bot,setH h b<|.map ((ZoO m k v).map (λp=>I p.1))<|(ZoO m k v).map (λp=>I p.2)):=by
 simp only[YK,hb,Yo,ZpA];rw[Zpn k m 0];unfold ZoO;cases hf:m.findIdx? (λp=>k==p.1)with
 |none=>
  simp only[Option.map_none,ZM,ZH,ZWC,ZWs,ZWB]
 |some i=>
  simp only[ZWH,ZWZ,ZM,ZH,List.map_set];obtain⟨hi,hp,_⟩:=ZZ5.1 hf;have hk:(m.map<|λp=>I p.1).set i (I k)=m.map (λp=>I p.1):=by
   have hke:k=m[i].1:=by simpa using hp
   apply ZXR;intro j;rw[ZYQ];by_cases hj:i=j
   .subst hj;rw[if_pos rfl,if_pos (by rw[ZWd];exact hi),ZXc,ZWq hi,hke]
    rfl
   .rw[if_neg hj]
  rw[hk]
def lkV:Option Int->AV
 |some v=>I v
 |none=>I 0
def look_ok(m:List<|Int×Int)(k:Int)(bw:Bool)(h:Hp):
 W5 h false [1] true (I 0) (.imap bw (m.map<|λp=>I p.1)<|m.map<|λp=>I p.2) (I k)=some (.tup [lkV<|ZoB m k,.bool (ZoB m k).isSome]):=by
 simp only[W5,QW,ZpA];rw[Zpn k m 0];unfold ZoB;cases hf:m.findIdx? (λp=>k==p.1)with
 |none=>
  have hn:m.find? (λp=>k==p.1)=none:=by
   rw[ZYK];intro x hx;have:=List.findIdx?_eq_none_iff.1 hf x hx;simpa using this
  rw[hn];rfl
 |some i=>
  obtain⟨hi,hp,hlt⟩:=ZZ5.1 hf;have hs:m.find? (λp=>k==p.1)=some m[i]:=by
   rw[List.find?_eq_some_iff_getElem];exact⟨hp,i,hi,rfl,λj hj=>by have:=hlt j hj;simpa using this⟩
  rw[hs];simp only[ZWH,ZWZ,ZXc,ZWq hi,ZYW];rfl
def Zq8(m:List<|Int×Int)(k v x:Int):ZoB (ZoO m k v) x=if x=k then some v else ZoB m x:=by
 unfold ZoO;cases hf:m.findIdx? (λp=>k==p.1)with
 |none=>
  have hn:∀p∈m,p.1≠k:=by
   intro p hp hc;have:=List.findIdx?_eq_none_iff.1 hf p hp;rw[hc]at this;simp at this
  unfold ZoB;dsimp only;rw[List.find?_append];by_cases hx:x=k
  .subst hx;have:m.find? (λp=>x==p.1)=none:=by
    rw[ZYK];intro p hp hc;exact hn p hp (by simpa using hc:x=p.1).symm
   rw[this,if_pos rfl];simp
  .rw[if_neg hx];cases m.find? (λp=>x==p.1)with
   |some p=>rfl
   |none=>
    have:(x==k)=false:=by simpa using hx
    simp[this]
 |some i=>
  obtain⟨hi,hp,hlt⟩:=ZZ5.1 hf;have hp':k=m[i].1:=by simpa using hp
  dsimp only;clear hf;induction m generalizing i with
  |nil=>exact absurd hi<|Nat.not_lt_zero _
  |cons p r ih=>
   cases i with
   |zero=>
    have hpk:k=p.1:=hp';unfold ZoB;rw[List.set_cons_zero,ZYt,ZYt];by_cases hx:x=k
    .subst hx;rw[if_pos rfl];simp
    .rw[if_neg hx];have h1:(x==k)=false:=by simpa using hx
     have h2:(x==p.1)=false:=by rw[<-hpk];exact h1
     simp only[h1,h2]
   |succ i=>
    have h0:=hlt 0<|Nat.succ_pos i;have h0':(k==p.1)=false:=by simpa using h0
    have ih':=ih i (by simpa using hi) (by simpa using hp) (λj hj=>by have:=hlt (j+1) (by omega);simpa using this)<|by simpa using hp'
    unfold ZoB at ih'⊢;rw[List.set_cons_succ,ZYt,ZYt];cases hx:x==p.1 with
    |true=>
     have hxp:x=p.1:=by simpa using hx
     have hxk:x≠k:=by
      intro hc;rw[<-hc,hx]at h0';cases h0'
     rw[if_neg hxk]
    |false=>exact ih'
def Zq9(l:List be)(h:(l.map (·.b)).Nodup)(x:Int):ZoB (Zos l) x=(l.find?<|λp=>p.b==x).map (·.a):=by
 have G:∀(l:List be)(m:List<|Int×Int),(l.map (·.b)).Nodup->ZoB (l.foldl (λm p=>ZoO m p.b p.a) m) x=match(l.find?<|λp=>p.b==x).map (·.a)with|some v=>some v|none=>ZoB m x:=by
  intro l;induction l with
  |nil=>intro m _;rfl
  |cons p r ih=>
   intro m hn;rw[ZWs,ZXs]at hn;rw[ZXb,ih _ hn.2,Zq8,ZYt];cases hx:p.b==x with
   |true=>
    have hpx:p.b=x:=by simpa using hx
    have hr:r.find? (λp=>p.b==x)=none:=by
     rw[ZYK];intro q hq hc;have:q.b=x:=by simpa using hc
     exact hn.1 (by rw[hpx,<-this];exact ZZ4 (f:=(·.b)) hq)
    rw[hr,if_pos hpx.symm];rfl
   |false=>
    have hpx:¬x=p.b:=λhc=>by rw[hc]at hx;simp at hx
    rw[if_neg hpx]
 have:=G l [] h;unfold Zos;rw[this];cases(l.find?<|λp=>p.b==x).map (·.a)<;>rfl
def ZpB:∀(l:List be)(K:List Int)(b:Int),(K.any (Vm b)=true\/∃p∈l,p.b=b)->(l.foldl (λK p=>Qi Vm K p.b) K).any (Vm b)=true
 |[],K,b,h=>h.elim id<|λ⟨p,hp,_⟩=>by cases hp
 |p::r,K,b,h=>by
  rw[ZXb];refine ZpB r _ b ?_;rcases h with h|⟨q,hq,hb⟩
  .left;unfold Qi;cases K.any (Vm p.b)with
   |true=>exact h
   |false=>rw[cond_false,ZYk,h,ZWj]
  .rcases ZWF.1 hq with rfl|hq
   .left;unfold Qi;cases hc:K.any (Vm q.b)with
    |true=>rw[cond_true,<-hb];exact hc
    |false=>
     rw[cond_false,ZYk,hb];unfold Vm;simp
   .exact Or.inr ⟨q,hq,hb⟩
def ZpC{s:Sta}(hp:WK s=true):(s.Gk.map (·.b)).Nodup/\∀q∈s.Gk,Y2 q=true:=by
 unfold WK at hp;simp only[ZWe]at hp;obtain⟨p1,_,_⟩:=hp;unfold UB at p1;rw[Zda]at p1;refine⟨?_,λq hq=>?_⟩
 .rw[ZZ6,ZYr,List.pairwise_iff_getElem];intro i j hi hj hij hc;have:=p1 j s.Gk[j]<|ZWq hj;rw[ZWr,ZWe,ZWD]at this;have h2:=this.2;unfold QV at h2;rw[ZpB (s.Gk.take j) [] s.Gk[j].b<|Or.inr ⟨s.Gk[i],?_,hc⟩]at h2
  .cases h2
  .rw[ZXL];exact⟨i,by rw[List.getElem?_take,if_pos hij];exact ZWq hi⟩
 .obtain⟨j,hj⟩:=ZXL.1 hq;have:=p1 j q hj;rw[ZWe]at this;exact this.1
def Zoz(a:Int):Bool:=decide (0<=a)&&decide (a<=63)
def Zpo{q:be}(h:Y2 q=true):(0<=q.a/\q.a<=63)/\(0<=q.b/\q.b<=63):=by
 unfold Y2 QM ZD at h;simp only[ZWe,decide_eq_true_eq]at h;exact⟨⟨h.1.1.1,h.1.1.2⟩,⟨h.2.1.1.1,h.2.1.1.2⟩⟩
def ZpD{s:Sta}(hp:WK s=true)(x:Int):ZoB (Zos s.Gk) x=bif decide (XJ s x<0)then none else some (XJ s x):=by
 obtain⟨h1,h2⟩:=ZpC hp;rw[Zq9 _ h1];unfold XJ;cases hf:s.Gk.find? (λp=>p.b==x)with
 |none=>rfl
 |some p=>
  have:=(Zpo<|h2 p<|ZXW hf).1;have hd:decide (p.a<0)=false:=decide_eq_false<|by omega
  simp only[ZWH,hd,cond_false]
def ZpE{s:Sta}(hp:WK s=true):∀(n:Nat)(x:Int),0<=x->chN s n x=true->∃b,ZoL (Zos s.Gk) n x=some b
 |0,x,hx,h=>by
  unfold chN at h;rw[show decide (x>=0)=true from decide_eq_true hx]at h
  cases h
 |n+1,x,hx,h=>by
  unfold chN at h;rw[show decide (x>=0)=true from decide_eq_true hx,cond_true]at h
  unfold ZoL;rw[ZpD hp];cases hd:decide (XJ s x<0)with
  |true=>exact⟨x,rfl⟩
  |false=>
   have:=of_decide_eq_false hd;exact ZpE hp n (XJ s x) (by omega) h
def Zoq(s:Sta)(a:Int):Int:=(ZoL (Zos s.Gk) (s.Gk.length+1) a).getD a
def Z3L(s:Sta)(hp:WK s=true)(a:Int):chN s (s.Gk.length+1) a=true:=by
 simp only[WK,ZWe]at hp;obtain⟨_,_,h3⟩:=hp;rw[ZWw]at h3;cases hf:s.Gk.find? (λp=>p.b==a)with
 |some p=>
  have h1:=ZYb hf;have h2:=h3 p<|ZXW hf;have:p.b=a:=by simpa using h1
  rw[<-this];exact h2
 |none=>
  have ht:XJ s a=-1:=by unfold XJ;rw[hf]
  rw[chN];cases decide (a>=0)with
  |false=>rfl
  |true=>
   rw[cond_true,ht];cases s.Gk.length<;>rfl
def ZpF{s:Sta}(hp:WK s=true){a:Int}(ha:0<=a):ZoL (Zos s.Gk) (s.Gk.length+1) a=some (Zoq s a):=by
 obtain⟨b,hb⟩:=ZpE hp _ a ha<|Z3L s hp a;unfold Zoq;rw[hb];rfl
def Zs9(m:List<|Int×Int):∀(n:Nat)(a b:Int),ZoL m n a=some b->ZoB m b=none/\∀k,ZoL m (n+k) a=some b
 |0,a,b,h=>by cases h
 |n+1,a,b,h=>by
  unfold ZoL at h;cases hl:ZoB m a with
  |none=>
   rw[hl]at h;cases h;refine⟨hl,λk=>?_⟩
   rw[Nat.add_right_comm];unfold ZoL;rw[hl]
  |some c=>
   rw[hl]at h;obtain⟨h1,h2⟩:=Zs9 m n c b h;refine⟨h1,λk=>?_⟩
   rw[Nat.add_right_comm];unfold ZoL;rw[hl];exact h2 k
def ZpG{s:Sta}(hp:WK s=true):∀(n:Nat)(a b:Int),0<=a/\a<=63->ZoL (Zos s.Gk) n a=some b->0<=b/\b<=63
 |0,a,b,_,h=>by cases h
 |n+1,a,b,ha,h=>by
  unfold ZoL at h;rw[ZpD hp]at h;cases hd:decide (XJ s a<0)with
  |true=>rw[hd]at h;cases h;exact ha
  |false=>
   rw[hd]at h;refine ZpG hp n (XJ s a) b ?_ h;have h0:=of_decide_eq_false hd;unfold XJ at h0⊢;cases hf:s.Gk.find? (λp=>p.b==a)with
   |none=>rw[hf]at h0;exact absurd (by decide) h0
   |some p=>exact(Zpo<|(ZpC hp).2 p (ZXW hf)).1
def ZpH{s:Sta}(hp:WK s=true){a:Int}(ha:0<=a/\a<=63):0<=Zoq s a/\Zoq s a<=63:=ZpG hp _ a _ ha<|ZpF hp ha.1
def Zsk{s:Sta}(hp:WK s=true){a:Int}(ha:0<=a):Zoq s (Zoq s a)=Zoq s a:=by
 have h:=(Zs9 _ _ _ _<|ZpF hp ha).1;show(ZoL (Zos s.Gk) (s.Gk.length+1)<|Zoq s a).getD _=_
 unfold ZoL;rw[h];rfl
def ibr(h:Hp)(a b c:Bool):DRec:=bif a&&(!b&&!c)then⟨false,[],some h.length,none⟩else⟨false,[],none,none⟩
def Zqa(h:Hp):ibr h true false false=⟨false,[],some h.length,none⟩:=rfl
def Zqd{E:Env}{sz:Nat}{x:Arg}{fr:Fr}{h:Hp}:Za E (.ibox sz x) fr h=ibr h (fits sz<|ev E (Z2 x.slots fr) x) (Z4 (ev E (Z2 x.slots fr) x).cells) (Zi (ev E (Z2 x.slots fr) x).cells):=by
 simp only[Za,Z8,AOp.slots];cases fits sz (ev E (Z2 x.slots fr) x)<;>cases Z4 (ev E (Z2 x.slots fr) x).cells<;>cases Zi (ev E (Z2 x.slots fr) x).cells<;>rfl
attribute [go_sem] Zqd Zqa
def Zqe(bw:Bool)(h:Hp)(n:Nat)(l:List AV)(hc:Z4 l=true):ZC bw h (n+1) l=some l:=by
 unfold ZC;rw[hc];rfl
def Zqf(bw:Bool)(h:Hp)(n b:Nat)(ks vs:List AV)(hb:h[b]?=some (.map ks vs))(hk:Z4 ks=true)(hv:Z4 vs=true):freeze bw h (n+2) (.mp b)=some (.imap bw ks vs):=by
 unfold freeze;rw[show clean (.mp b)=false from rfl,cond_false]
 dsimp only;rw[hb];dsimp only;rw[hk,cond_true,Zqe bw h n vs hv];rfl
abbrev tkV(s:Sta):AV:=.imap false ((Zos s.Gk).map (λp=>I p.1))<|(Zos s.Gk).map (λp=>I p.2)
abbrev ldA(s:Sta):List AV:=[.isl false false 6<|s.Ga.map Gm.enc,.isl false false 5<|s.Gr.map Ev.enc,.isl false false 4<|s.By.map Fa.enc,.isl false false 16<|s.Bc.map Gc.enc,.isl false false 6<|s.Nk.map bc.enc,.isl false false 2<|s.Gk.map be.enc,.isl false false 2<|s.Wk.map be.enc,tkV s]
abbrev ldI(s:Sta):AV:=.iptr false<|ldA s
def Zqg(s:Sta)(hl:s.Gk.length<=1000):Zg rE [1,4,9,10,11] c19L0b [(1,stI s),(4,.mp 0),(9,.isl false false 2<|s.Gk.map be.enc),(10,I s.Gk.length),(11,.int .i64 0)] [.map [] []] =
 some (.exit 0,[(1,stI s),(4,.mp 0),(9,.isl false false 2<|s.Gk.map be.enc),(10,I s.Gk.length),(11,I s.Gk.length)],[.map ((Zos s.Gk).map (λp=>I p.1))<|(Zos s.Gk).map (λp=>I p.2)]):=by
 have hb:∀(m:List<|Int×Int)n,Zd n (m.map<|λp=>I p.1)=true/\Zd n (m.map<|λp=>I p.2)=true:=λm n=>⟨ZN _<|Zw (λt=>rfl) m,ZN _<|Zw (λt=>rfl) m⟩
 have L:=Y8 (E:=rE) (live:=[1,4,9,10,11]) (b:=c19L0b) s.Gk.length (λi=>[(1,stI s),(4,.mp 0),(9,.isl false false 2<|s.Gk.map be.enc),(10,I s.Gk.length),(11,I i)])
  (λi=>[.map ((Zos<|s.Gk.take i).map (λp=>I p.1))<|(Zos<|s.Gk.take i).map (λp=>I p.2)]) (λi=>rfl)
  (λi hi=>by
   obtain⟨x,hx⟩:∃x,s.Gk[i]?=some x:=⟨_,ZWq hi⟩;have hg:=Z6 (f:=be.enc) hx;have hi':=Zh hi;have hwr:=Zx (n:=i)<|by omega
   have htk:Zos (s.Gk.take<|i+1)=ZoO (Zos<|s.Gk.take i) x.b x.a:=Us _ _ hx;rw[htk];have hp:=λ(q:AObj)=>Zq7 (Zos<|s.Gk.take i) x.b x.a (h:=[.map ((Zos<|s.Gk.take i).map (λp=>I p.1))<|(Zos<|s.Gk.take i).map (λp=>I p.2),q]) (b:=0) rfl
   generalize Zos (s.Gk.take i)=m at*;have n0:((0:Int)).toNat=0:=rfl;have n1:((1:Int)).toNat=1:=rfl;refine⟨[(1,stI s),(4,.mp 0),(9,.isl false false 2<|s.Gk.map be.enc),(10,I s.Gk.length),(11,I (i+1:Nat))],?_,rfl⟩;simp only[go_sem,c19L0b,hg,hi',hwr,be.enc,WJ,XL,n0,n1,if_true,hp,hb])
  (e:=.exit 0) (fr:=[(1,stI s),(4,.mp 0),(9,.isl false false 2<|s.Gk.map be.enc),(10,I s.Gk.length),(11,I s.Gk.length)]) (h:=[.map ((Zos s.Gk).map (λp=>I p.1))<|(Zos s.Gk).map (λp=>I p.2)]) (by
   rw[ZWL];simp only[go_sem,c19L0b,ZG,hb]) (by simp)
 exact L
def Zp7(s:Sta)(hE:StE s):pfn rE 19 [stA s]=some (.tup [ldI s,.bool<|Jx s]):=by
 have hP:=Z3i s hE;have L:=Zqg s hE.sizes.merged;have hb:∀(m:List<|Int×Int)n,Zd n (m.map<|λp=>I p.1)=true/\Zd n (m.map<|λp=>I p.2)=true:=λm n=>⟨ZN _<|Zw (λt=>rfl) m,ZN _<|Zw (λt=>rfl) m⟩
 have hc:Z4 ((Zos s.Gk).map (λp=>I p.1))=true/\Z4 ((Zos s.Gk).map (λp=>I p.2))=true:=⟨Zw (λt=>rfl) _,Zw (λt=>rfl) _⟩
 have hz:=λq=>Zqf false [.map ((Zos s.Gk).map (λp=>I p.1))<|(Zos s.Gk).map (λp=>I p.2),q] 27 0 _ _ rfl hc.1 hc.2
 simp only[stI]at L;rw[Z5 (f:=19) rfl rfl];simp only[go_sem,c19,c19L0,L,hP,hb,hz]
def Zp8(a:Int):pfn rE 25 [I a]=some (.bool<|Zoz a):=by
 rw[Z5 (f:=25) rfl rfl];unfold Zoz;have h:decide (a<64)=decide (a<=63):=by
  by_cases c:a<=63
  .rw[decide_eq_true c,decide_eq_true<|by omega]
  .rw[decide_eq_false c,decide_eq_false<|by omega]
 have h0:decide (a>=0)=decide (0<=a):=rfl;cases c:decide (0<=a)<;>simp only[go_sem,c25,h0,c,h]
def ZpI(s:Sta)(b:Int):∀(n:Nat)(a:Int),ZoL (Zos s.Gk) n a=some b->
 ∃fr',Zg rE [0,1,5,6] c26L0b [(0,ldI s),(1,I a),(5,lkV<|ZoB (Zos s.Gk) a),(6,.bool (ZoB (Zos s.Gk) a).isSome)] []=some (.exit 0,fr',[])/\get fr' 1=I b
 |0,a,h=>by cases h
 |n+1,a,h=>by
  unfold ZoL at h;have hk:=λx=>look_ok (Zos s.Gk) x false []
  cases hl:ZoB (Zos s.Gk) a with
  |none=>
   rw[hl]at h;cases h;refine⟨_,Q7 rfl (e:=.exit 0) (fr':=[(0,ldI s),(1,I b),(5,I 0),(6,.bool false)]) (by simp only[go_sem,c26L0b,ZYV,lkV]) (by simp),by simp only[go_sem]⟩
  |some c=>
   rw[hl]at h;dsimp only at h;obtain⟨fr',h1,h2⟩:=ZpI s b n c h;refine⟨fr',?_,h2⟩;have hs:=hk c;rw[Yt rfl (fr':=[(0,ldI s),(1,I c),(5,lkV<|ZoB (Zos s.Gk) c),(6,.bool (ZoB (Zos s.Gk) c).isSome)]) (h':=[]) (by simp only[go_sem,c26L0b,ZYW,lkV,hs])]
   exact h1
def ZpJ(s:Sta)(hp:WK s=true)(a:Int)(ha:0<=a):pfn rE 26 [ldI s,I a]=some (I<|Zoq s a):=by
 obtain⟨fr',h1,h2⟩:=ZpI s _ _ a<|ZpF hp ha;have hk:=look_ok (Zos s.Gk) a false [];rw[Z5 (f:=26) rfl rfl];simp only[go_sem,c26,c26L0,hk,h1,h2]
def Zpp(s:Sta)(hE:StE s)(a:Int):pfn rE 8 [stA s,I a]=some (I<|bif Jx s&&Zoz a then Zoq s a else -1):=by
 have hO:=Zp7 s hE;have hA:=Zp8 a;rw[Z5 (f:=8) rfl rfl];cases c1:Jx s with
 |false=>
  rw[c1]at hO;simp only[go_sem,c8,hO,ZWh,cond_false]
 |true=>
 rw[c1]at hO;cases c2:Zoz a with
 |false=>
  rw[c2]at hA;simp only[go_sem,c8,hO,hA,ZWm,cond_false]
 |true=>
  rw[c2]at hA;have ha:0<=a:=by
   unfold Zoz at c2;rw[ZWe,decide_eq_true_eq]at c2;exact c2.1
  have hM:=ZpJ s ((Zdb s).1 c1).1.pa a ha;simp only[go_sem,c8,hO,hA,hM,ZWk,cond_true]
def ZoE(m:Int->Int)(a b:Int):List be->Option Bool
 |[]=>none
 |p::r=>bif m p.a==a&&m p.b==b then some (a != b)else bif m p.a==b&&m p.b==a then some false else ZoE m a b r
def ZoW(s:Sta)(a b:Int):Bool:=(ZoE (Zoq s) a b s.Wk.reverse).getD false
abbrev ruV(s:Sta):AV:=.isl false false 2<|s.Wk.map be.enc
def Zov(s:Sta)(a b:Int):Fr:=[(3,.iptr false [ldI s]),(4,.iptr false [I a]),(5,.iptr false [I b]),(6,.ptr 0 0 0 1),(16,.clo (.func 108) [] [.iptr false [ruV s]])]
def prH(s:Sta)(a b:Int):Hp:=[.row 1 [.bool false],.loop .ready .normal (Zov s a b) [17,18] c29R0a c29R0b]
def prD(s:Sta)(a b:Int)(r:Bool):Hp:=[.row 1 [.bool r],.loop .done .ret (Zov s a b) [17,18] c29R0a c29R0b]
def Zot(s:Sta)(n:Nat):bel n (ldI s)=true:=by
 have hc:Z4 [ldI s]=true:=by
  have hb:Z4 ((Zos s.Gk).map (λp=>I p.1))=true/\Z4 ((Zos s.Gk).map (λp=>I p.2))=true:=⟨Zw (λt=>rfl) _,Zw (λt=>rfl) _⟩
  simp only[go_sem]
 have:=ZN (n:=n) [ldI s] hc;unfold Zd at this;rw[ZWe]at this;exact this.1
def Zow(s:Sta):clean (ldI s)=true:=by
 have hb:Z4 ((Zos s.Gk).map (λp=>I p.1))=true/\Z4 ((Zos s.Gk).map (λp=>I p.2))=true:=⟨Zw (λt=>rfl) _,Zw (λt=>rfl) _⟩
 simp only[go_sem]
def Zqh(s:Sta)(a b:Int)(i:Nat)(p:be)(ha:pfn rE 26 [ldI s,I p.a]=some (I<|Zoq s p.a))(hb:pfn rE 26 [ldI s,I p.b]=some (I<|Zoq s p.b)):
 U4 rE 1 [I i,.agg [I p.a,I p.b]] (prH s a b)=some (match ZoE (Zoq s) a b [p]with
  |none=>(.bool true,prH s a b++[.row 2 [.agg [I p.a,I p.b]]])
  |some r=>(.bool false,prD s a b r++[.row 2 [.agg [I p.a,I p.b]]])):=by
 have n0:((0:Int)).toNat=0:=rfl;have n1:((1:Int)).toNat=1:=rfl;have hl:=Zot s;have hc:=Zow s;unfold ZoE ZoE;generalize Zoq s p.a=x at*;generalize Zoq s p.b=y at*;cases c1:x==a&&y==b with
 |true=>
  have h:=Ss (E:=rE) (b:=1) (args:=[I i,.agg [I p.a,I p.b]]) (h:=prH s a b) (fr:=Zov s a b) (ps:=[17,18]) (assign:=c29R0a) (body:=c29R0b)
   (fr0:=(18,.agg [I p.a,I p.b])::(17,I i)::Zov s a b) rfl rfl (by simp only[go_sem,c29R0a,prH,Zov]<;>rfl) (by rfl)
   (by
    cases d1:x==a with
    |false=>rw[d1]at c1;cases c1
    |true=>
    rw[d1,ZWf]at c1;simp only[go_sem,c29R0b,ha,hb,WJ,XL,n0,n1,d1,c1]<;>rfl) (by rfl)
  exact h
 |false=>
  rw[cond_false];cases c2:x==b&&y==a with
  |true=>
   have h:=Ss (E:=rE) (b:=1) (args:=[I i,.agg [I p.a,I p.b]]) (h:=prH s a b) (fr:=Zov s a b) (ps:=[17,18]) (assign:=c29R0a) (body:=c29R0b)
    (fr0:=(18,.agg [I p.a,I p.b])::(17,I i)::Zov s a b) rfl rfl (by simp only[go_sem,c29R0a,prH,Zov]<;>rfl) (by rfl)
    (by
     cases e1:x==b with
     |false=>rw[e1]at c2;cases c2
     |true=>
     rw[e1,ZWf]at c2;cases d1:x==a with
     |false=>simp only[go_sem,c29R0b,ha,hb,WJ,XL,n0,n1,d1,e1,c2]<;>rfl
     |true=>
      rw[d1,ZWf]at c1;simp only[go_sem,c29R0b,ha,hb,WJ,XL,n0,n1,d1,c1,e1,c2]<;>rfl) (by rfl)
   exact h
  |false=>
   have h:=Ss (E:=rE) (b:=1) (args:=[I i,.agg [I p.a,I p.b]]) (h:=prH s a b) (fr:=Zov s a b) (ps:=[17,18]) (assign:=c29R0a) (body:=c29R0b)
    (fr0:=(18,.agg [I p.a,I p.b])::(17,I i)::Zov s a b) rfl rfl (by simp only[go_sem,c29R0a,prH,Zov]<;>rfl) (by rfl)
    (e:=.normal) (fr2:=[]) (h2:=[.row 1 [.bool false],.loop .busy .normal (Zov s a b) [17,18] c29R0a c29R0b,.row 2 [.agg [I p.a,I p.b]]])
    (by
     cases d1:x==a with
     |false=>
      cases e1:x==b with
      |false=>simp only[go_sem,c29R0b,Zov,ha,hb,WJ,XL,n0,n1,d1,e1]<;>rfl
      |true=>
       rw[e1,ZWf]at c2;simp only[go_sem,c29R0b,Zov,ha,hb,WJ,XL,n0,n1,d1,e1,c2]<;>rfl
     |true=>
      rw[d1,ZWf]at c1;cases e1:x==b with
      |false=>simp only[go_sem,c29R0b,Zov,ha,hb,WJ,XL,n0,n1,d1,c1,e1]<;>rfl
      |true=>
       rw[e1,ZWf]at c2;simp only[go_sem,c29R0b,Zov,ha,hb,WJ,XL,n0,n1,d1,c1,e1,c2]<;>rfl) (by rfl)
   exact h
def ZpK(s:Sta)(a b:Int)(hl:s.Wk.length<=1000)(hM:∀p∈s.Wk,pfn rE 26 [ldI s,I p.a]=some (I<|Zoq s p.a)/\pfn rE 26 [ldI s,I p.b]=some (I<|Zoq s p.b)):
 ∀(k:Nat),k<=s.Wk.length->∃fr',Zg rE [0,1,3] c108L0b [(0,.yld 1),(1,.iptr false [ruV s]),(3,I<|(k:Int)-1)] (prH s a b) =
  some (match ZoE (Zoq s) a b (s.Wk.take k).reverse with|none=>(.exit 0,fr',prH s a b)|some r=>(.ret,fr',prD s a b r))
 |0,_=>⟨_,Q7 rfl (e:=.exit 0) (fr':=[(0,.yld 1),(1,.iptr false [ruV s]),(3,I<|-1)]) (by
  have h0:decide (((0:Nat):Int)-1>=0)=false:=rfl;simp only[go_sem,c108L0b,h0,prH];rfl) (by simp)⟩
 |k+1,hk=>by
  obtain⟨x,hx⟩:∃x,s.Wk[k]?=some x:=⟨_,ZWq<|by omega⟩
  obtain⟨m1,m2⟩:=hM x<|ZWu hx;have hg:=Z6 (f:=be.enc) hx;have hy:=Zqh s a b k x m1 m2;have hk1:(((k+1:Nat):Int)-1)=(k:Int):=by omega
  have hge:decide ((k:Int)>=0)=true:=decide_eq_true<|by omega
  have hw:IntKind.i64.wrap ((k:Int)-1)=(k:Int)-1:=YM (by omega)<|by omega
  have htk:(s.Wk.take<|k+1).reverse=x::(s.Wk.take k).reverse:=by
   rw[ZX9,hx,List.reverse_append];rfl
  have hbl:=Zot s;have hbf:Zd 2 (frV<|Zov s a b)=true:=by simp only[go_sem,Zov]
  have hp1:ZoE (Zoq s) a b (x::(s.Wk.take k).reverse)=match ZoE (Zoq s) a b [x]with|some r=>some r|none=>ZoE (Zoq s) a b (s.Wk.take k).reverse:=by
   show(bif _ then _ else bif _ then _ else _)=_
   unfold ZoE;cases Zoq s x.a==a&&Zoq s x.b==b with
   |true=>rfl
   |false=>
    rw[cond_false,cond_false];cases Zoq s x.a==b&&Zoq s x.b==a with
    |true=>rfl
    |false=>rw[cond_false,cond_false];unfold ZoE;rfl
  rw[htk,hp1,hk1];cases hc:ZoE (Zoq s) a b [x]with
  |some r=>
   rw[hc]at hy;dsimp only at hy;refine⟨_,Q7 rfl (e:=.ret) (fr':=[(0,.yld 1),(1,.iptr false [ruV s]),(3,I k)]) (by
    simp only[prH,prD,ZWK,ZWQ]at hy⊢;simp only[go_sem,c108L0b,S3,hg,hge,hy,be.enc,hbf]) (by simp)⟩
  |none=>
   rw[hc]at hy;dsimp only at hy;obtain⟨fr',h1⟩:=ZpK s a b hl hM k<|by omega
   refine⟨fr',?_⟩;rw[Yt rfl (fr':=[(0,.yld 1),(1,.iptr false [ruV s]),(3,I<|(k:Int)-1)]) (h':=prH s a b) (by
    simp only[prH,ZWK,ZWQ]at hy⊢;simp only[go_sem,c108L0b,S3,hg,hge,hw,hy,be.enc,hbf])]
   exact h1
def Zqi(ex:Bool)(es:List AV)(h:Hp)(hc:Z4 es=true):fnV rE 62 [.isl false ex 2 es] h=some (.clo (.func 108) [] [.iptr false [.isl false ex 2 es]],h):=by
 rw[Q6 (f:=62) rfl rfl];simp only[go_sem,c62]
def Zqj(s:Sta)(a b:Int)(hl:s.Wk.length<=1000)(hM:∀p∈s.Wk,pfn rE 26 [ldI s,I p.a]=some (I<|Zoq s p.a)/\pfn rE 26 [ldI s,I p.b]=some (I<|Zoq s p.b)):
 rf rE (.clo (.func 108) [] [.iptr false [ruV s]]) [17,18] c29R0a c29R0b (Zov s a b) [.row 1 [.bool false]]=match ZoE (Zoq s) a b s.Wk.reverse with
  |none=>some (.normal,Zov s a b,[.row 1 [.bool false],.loop .exhausted .normal (Zov s a b) [17,18] c29R0a c29R0b])
  |some r=>some (.ret,Zov s a b,[.row 1 [.bool r],.loop .exhausted .ret (Zov s a b) [17,18] c29R0a c29R0b]):=by
 obtain⟨fr',L⟩:=ZpK s a b hl hM s.Wk.length<|ZWo _;rw[ZWL]at L;have hw:IntKind.i64.wrap ((s.Wk.length:Int)-1)=(s.Wk.length:Int)-1:=YM (by omega)<|by omega
 have hbl:=Zot s;have hbf:Zd 2 (frV<|Zov s a b)=true:=by simp only[go_sem,Zov]
 rw[Z1k (c:=c108) rfl];simp only[prH,prD]at L;cases hc:ZoE (Zoq s) a b s.Wk.reverse with
 |none=>
  rw[hc]at L;dsimp only at L;simp only[go_sem,c108,c108L0,hw,L,hbf];rfl
 |some r=>
  rw[hc]at L;dsimp only at L;simp only[go_sem,c108,c108L0,hw,L,hbf];rfl
def ZpL(s:Sta)(a b:Int)(hl:s.Wk.length<=1000)(hM:∀p∈s.Wk,pfn rE 26 [ldI s,I p.a]=some (I<|Zoq s p.a)/\pfn rE 26 [ldI s,I p.b]=some (I<|Zoq s p.b)):
 pfn rE 29 [ldI s,I a,I b]=some (.bool<|ZoW s a b):=by
 have hrf:=Zqj s a b hl hM;have hB:=λh=>Zqi false (s.Wk.map be.enc) h<|Zw (λt=>rfl) _
 have hc:=Zow s;have hbl:=Zot s;unfold ZoW;rw[Z5 (f:=29) rfl rfl];cases hp:ZoE (Zoq s) a b s.Wk.reverse with
 |none=>
  rw[hp]at hrf;dsimp only at hrf;simp only[Zov]at hrf;simp only[go_sem,c29,hB,Sr,hrf,hc];rfl
 |some r=>
  rw[hp]at hrf;dsimp only at hrf;simp only[Zov]at hrf;simp only[go_sem,c29,hB,Sr,hrf,hc];rfl
def hfX(q:Int)(p:Int):Int:=W<|W (2*q)-p
def ZoX(p a b:Pt):Int:=W<|W (hfX a.X p.X*hfX b.Y p.Y)-W (hfX a.Y p.Y*hfX b.X p.X)
def Zp9(p a b:Pt):Bool:=ZoX p a b==0&&decide (W (W (hfX a.X p.X*hfX b.X p.X)+W (hfX a.Y p.Y*hfX b.Y p.Y))<=0)
def Zp4(p a b:Pt)(w:Int):Int:=
 bif decide (hfX a.Y p.Y<=0)&&(decide (hfX b.Y p.Y>0)&&decide (ZoX p a b>0))then W<|w+1
 else bif decide (hfX a.Y p.Y>0)&&(decide (hfX b.Y p.Y<=0)&&decide (ZoX p a b<0))then W (w-1)else w
def ZoP(p:Pt)(l:List Pt)(st:Int×Bool)(i:Nat):Int×Bool:=
 (Zp4 p (pAt l i) (pAt l<|(i+1)%l.length) st.1,st.2||Zp9 p (pAt l i) (pAt l<|(i+1)%l.length))
def ZoC(l:List Pt)(p:Pt):Int×Bool:=(List.range l.length).foldl (ZoP p l) (0,false)
def ZoD(v:AV)(p:Pt):Fr:=[(14,.clo (.func 230) [] [.iptr false [v]]),(13,v),(0,v),(3,.iptr false [I p.X,I p.Y]),(4,.ptr 0 0 0 1),(5,.ptr 1 0 0 1)]
def hfH(v:AV)(p:Pt)(st:Int×Bool):Hp:=[.row 1 [I st.1],.row 1 [.bool st.2],.loop .ready .normal (ZoD v p) [15,16] c163R0a c163R0b]
def hfD:ACode:=
 .keep []<|.block 2<|
  .seq (.keep [4,9,11,12,63]<|.region [o 64<|.mv<|.t 9,
   o 65 (.bin .leq (.t 64)<|.c<|.int .i64 0),
   o 66 (.mv<|.t 65),
   og 67 (.mv<|.t 11) 66 true,
   og 68 (.bin .gtr (.t 67)<|.c<|.int .i64 0) 66 true,
   o 69 (.pick (.t 66) (.t 68)<|.c<|.bool false),
   o 70 (.mv<|.t 69),
   og 71 (.mv<|.t 12) 70 true,
   og 72 (.bin .gtr (.t 71)<|.c<|.int .i64 0) 70 true,
   o 73 (.pick (.t 70) (.t 72)<|.c<|.bool false),
   o 63 (.mv<|.t 73)])<|
  .cond (.t 63)
   (.keep []<|.region [o 74<|.load none<|.t 4,
    o 75 (.bin .add (.t 74)<|.c<|.int .i64 1),
    ⟨none,.store 1 (.t 4)<|.t 75,none⟩])
   (.seq (.keep [4,76]<|.region [o 77<|.mv<|.t 9,
     o 78 (.bin .gtr (.t 77)<|.c<|.int .i64 0),
     o 79 (.mv<|.t 78),
     og 80 (.mv<|.t 11) 79 true,
     og 81 (.bin .leq (.t 80)<|.c<|.int .i64 0) 79 true,
     o 82 (.pick (.t 79) (.t 81)<|.c<|.bool false),
     o 83 (.mv<|.t 82),
     og 84 (.mv<|.t 12) 83 true,
     og 85 (.bin .lss (.t 84)<|.c<|.int .i64 0) 83 true,
     o 86 (.pick (.t 83) (.t 85)<|.c<|.bool false),
     o 76 (.mv<|.t 86)])<|
    .cond (.t 76)
     (.keep []<|.region [o 87<|.load none<|.t 4,
      o 88 (.bin .sub (.t 87)<|.c<|.int .i64 1),
      ⟨none,.store 1 (.t 4)<|.t 88,none⟩])
     (.skip))
def hfB:ACode:=
 .keep []<|.block 1<|
  .seq (.keep [4,5,8,9,10,11]<|.draw [[],[],[],[],[],[],[],[],[],[],[],[],[],[],[],[],[],[],[],[],[],[],[],[],[],[],[]]
   [o 17<|.fadr 0<|.t 6,
   o 18 (.load none<|.t 17),
   o 19 (.bin .mul (.c<|.int .i64 2)<|.t 18),
   o 20 (.fadr 0<|.t 3),
   o 21 (.load none<|.t 20),
   o 22 (.bin .sub (.t 19)<|.t 21),
   o 23 (.fadr 1<|.t 6),
   o 24 (.load none<|.t 23),
   o 25 (.bin .mul (.c<|.int .i64 2)<|.t 24),
   o 26 (.fadr 1<|.t 3),
   o 27 (.load none<|.t 26),
   o 28 (.bin .sub (.t 25)<|.t 27),
   o 29 (.fadr 0<|.t 7),
   o 30 (.load none<|.t 29),
   o 31 (.bin .mul (.c<|.int .i64 2)<|.t 30),
   o 32 (.fadr 0<|.t 3),
   o 33 (.load none<|.t 32),
   o 34 (.bin .sub (.t 31)<|.t 33),
   o 35 (.fadr 1<|.t 7),
   o 36 (.load none<|.t 35),
   o 37 (.bin .mul (.c<|.int .i64 2)<|.t 36),
   o 38 (.fadr 1<|.t 3),
   o 39 (.load none<|.t 38),
   o 40 (.bin .sub (.t 37)<|.t 39),
   o 8 (.mv<|.t 22),
   o 9 (.mv<|.t 28),
   o 10 (.mv<|.t 34)]
   [o 11<|.mv<|.t 40])<|
  .seq (.keep [4,5,8,9,10,11,12]<|.region [o 41<|.mv<|.t 8,
   o 42 (.mv<|.t 11),
   o 43 (.bin .mul (.t 41)<|.t 42),
   o 44 (.mv<|.t 9),
   o 45 (.mv<|.t 10),
   o 46 (.bin .mul (.t 44)<|.t 45),
   o 47 (.bin .sub (.t 43)<|.t 46),
   o 12 (.mv<|.t 47)])<|
  .seq (.keep [4,9,11,12]<|.region [o 48<|.load none<|.t 5,
   o 49 (.mv<|.t 48),
   og 50 (.mv<|.t 12) 49 false,
   og 51 (.bin .eql (.t 50)<|.c<|.int .i64 0) 49 false,
   og 52 (.mv<|.t 51) 49 false,
   og 53 (.mv<|.t 8) 52 true,
   og 54 (.mv<|.t 10) 52 true,
   og 55 (.bin .mul (.t 53)<|.t 54) 52 true,
   og 56 (.mv<|.t 9) 52 true,
   og 57 (.mv<|.t 11) 52 true,
   og 58 (.bin .mul (.t 56)<|.t 57) 52 true,
   og 59 (.bin .add (.t 55)<|.t 58) 52 true,
   og 60 (.bin .leq (.t 59)<|.c<|.int .i64 0) 52 true,
   og 61 (.pick (.t 52) (.t 60)<|.c<|.bool false) 49 false,
   o 62 (.pick (.t 49) (.c<|.bool true)<|.t 61),
   ⟨none,.store 1 (.t 5)<|.t 62,none⟩])<|
  hfD
def Zqk(p a b:Pt)(w:Int)(F:Fr)(hb6:Zd 6 (frV F)=true)(x:Bool)(r3 r4 r5:AObj)(h3:∀n,2<=n->Zj n r3=true)(h4:∀n,2<=n->Zj n r4=true)(h5:∀n,2<=n->Zj n r5=true):
 Zb rE hfD [(4,.ptr 0 0 0 1),(9,I<|hfX a.Y p.Y),(11,I<|hfX b.Y p.Y),(12,I<|ZoX p a b)] [.row 1 [I w],.row 1 [.bool x],.loop .busy .normal F [15,16] c163R0a c163R0b,r3,r4,r5] =
  some (.normal,[],[.row 1 [I<|Zp4 p a b w],.row 1 [.bool x],.loop .busy .normal F [15,16] c163R0a c163R0b,r3,r4,r5]):=by
 have t6:decide (hfX a.Y p.Y>0) = !decide (hfX a.Y p.Y<=0):=by by_cases c:hfX a.Y p.Y<=0<;>simp[c]<;>omega
 have t7:decide (hfX b.Y p.Y<=0) = !decide (hfX b.Y p.Y>0):=by by_cases c:hfX b.Y p.Y>0<;>simp[c]<;>omega
 have q3:=h3 6<|by decide
 have q4:=h4 6<|by decide
 have q5:=h5 6<|by decide
 unfold Zp4;rw[t6,t7];generalize hfX a.Y p.Y=ay at*;generalize hfX b.Y p.Y=by' at*
 generalize ZoX p a b=tn at*;cases d3:decide (ay<=0)with
 |true=>
  cases d4:decide (by'>0)with
  |true=>
   rw[d3]at t6;cases d5:decide (tn>0)with
   |true=>simp only[go_sem,hfD,d3,d4,d5,hb6,q3,q4,q5]
   |false=>simp only[go_sem,hfD,d3,d4,d5,t6,hb6,q3,q4,q5,ZWg,ZWm,ZWh,cond_false]
  |false=>
   rw[d3]at t6;simp only[go_sem,hfD,d3,d4,t6,hb6,q3,q4,q5,ZWg,ZWm,ZWh,cond_false]
 |false=>
  rw[d3]at t6;cases d4:decide (by'>0)with
  |true=>
   rw[d4]at t7;simp only[go_sem,hfD,d3,t6,t7,hb6,q3,q4,q5,ZWg,ZWi,ZWm,ZWh,cond_false]
  |false=>
   rw[d4]at t7;cases d8:decide (tn<0)with
   |true=>simp only[go_sem,hfD,d3,t6,t7,d8,hb6,q3,q4,q5,ZWi,ZWh,cond_false,ZWk,cond_true]
   |false=>simp only[go_sem,hfD,d3,t6,t7,d8,hb6,q3,q4,q5,ZWi,ZWh,cond_false,ZWm]
def Zql(v:AV)(hv:∀n,bel n v=true)(p:Pt)(st:Int×Bool)(q a b:Pt):
 U4 rE 2 [.agg [I a.X,I a.Y],.agg [I b.X,I b.Y]] (hfH v p st++[.row 2 [.agg [I q.X,I q.Y]]]) =
  some (.bool true,hfH v p (Zp4 p a b st.1,st.2||Zp9 p a b)++[.row 2 [.agg [I q.X,I q.Y]],.row 2 [.agg [I a.X,I a.Y]],.row 2 [.agg [I b.X,I b.Y]]]):=by
 have h:=Ss (E:=rE) (b:=2) (args:=[.agg [I a.X,I a.Y],.agg [I b.X,I b.Y]]) (h:=hfH v p st++[.row 2 [.agg [I q.X,I q.Y]]]) (fr:=ZoD v p) (ps:=[15,16]) (assign:=c163R0a) (body:=c163R0b)
  (fr0:=(16,.agg [I b.X,I b.Y])::(15,.agg [I a.X,I a.Y])::ZoD v p) rfl rfl (by simp only[go_sem,c163R0a,hfH,ZoD]<;>rfl) (by rfl)
  (e:=.normal) (fr2:=[]) (h2:=[.row 1 [I<|Zp4 p a b st.1],.row 1 [.bool<|st.2||Zp9 p a b],.loop .busy .normal (ZoD v p) [15,16] c163R0a c163R0b,.row 2 [.agg [I q.X,I q.Y]],.row 2 [.agg [I a.X,I a.Y]],.row 2 [.agg [I b.X,I b.Y]]])
  (by
   show Zb rE hfB [(7,.ptr 5 0 0 1),(6,.ptr 4 0 0 1),(16,.agg [I b.X,I b.Y]),(15,.agg [I a.X,I a.Y]),(14,.clo (.func 230) [] [.iptr false [v]]),(13,v),(0,v),(3,.iptr false [I p.X,I p.Y]),(4,.ptr 0 0 0 1),(5,.ptr 1 0 0 1)]
    [.row 1 [I st.1],.row 1 [.bool st.2],.loop .busy .normal (ZoD v p) [15,16] c163R0a c163R0b,.row 2 [.agg [I q.X,I q.Y]],.row 2 [.agg [I a.X,I a.Y]],.row 2 [.agg [I b.X,I b.Y]]]=_
   have hb6:Zd 6 (frV<|ZoD v p)=true:=by simp only[go_sem,ZoD,hv]
   have hr:∀(z:Pt)n,2<=n->Zj n (.row 2 [.agg [I z.X,I z.Y]])=true:=λz n _=>rfl
   have hL:=λx=>Zqk p a b st.1 (ZoD v p) hb6 x (.row 2 [.agg [I q.X,I q.Y]]) (.row 2 [.agg [I a.X,I a.Y]]) (.row 2 [.agg [I b.X,I b.Y]]) (hr q) (hr a)<|hr b
   simp only[hfX,ZoX]at hL;unfold Zp9 ZoX hfX;cases c1:st.2 with
   |true=>
    rw[ZWj];simp only[go_sem,hfB,hb6,hL]
   |false=>
    rw[ZWl];cases d1:W (W (W (W (2*a.X)-p.X)*W (W (2*b.Y)-p.Y))-W (W (W (2*a.Y)-p.Y)*W (W (2*b.X)-p.X)))==0 with
    |true=>simp only[go_sem,hfB,hb6,hL,d1,ZWf]
    |false=>simp only[go_sem,hfB,hb6,hL,d1,ZWh]) (by rfl)
 exact h
def Zqm(l:List Pt)(ex:Bool)(hl:l.length<=1000000)(p:Pt):pfn rE 163 [.isl false ex 2<|l.map Pt.enc,.agg [I p.X,I p.Y]]=some (.tup [I (ZoC l p).1,.bool (ZoC l p).2]):=by
 have hv:∀n,bel n (.isl false ex 2<|l.map Pt.enc)=true:=λn=>by
  have:=ZN (n:=n) [.isl false ex 2<|l.map Pt.enc] (by have:=Zw (f:=Pt.enc) (λt=>rfl) l;simp only[go_sem])
  unfold Zd at this;rw[ZWe]at this;exact this.1
 have hb3:Zd 3 (frV<|ZoD (.isl false ex 2<|l.map Pt.enc) p)=true:=by simp only[go_sem,ZoD,hv]
 have L:=Y8 (E:=rE) (live:=[0,1,5,6,7]) (b:=c230L0b) l.length (λi=>[(0,.yld 2),(1,.iptr false [.isl false ex 2<|l.map Pt.enc]),(5,.isl false ex 2<|l.map Pt.enc),(6,I l.length),(7,I i)])
  (λi=>hfH (.isl false ex 2<|l.map Pt.enc) p<|(List.range i).foldl (ZoP p l) (0,false)) (λi=>rfl)
  (λi hi=>by
   have h0:0<l.length:=by omega
   have hg:=YN hi;have hg2:=YN (l:=l)<|ZXg (i+1) h0;have hi':=Zh hi;have hw:=Zx (n:=i)<|by omega
   have hn:=nat_ne h0;have hy:=Zql (.isl false ex 2<|l.map Pt.enc) hv p ((List.range i).foldl (ZoP p l) (0,false)) (pAt l i) (pAt l i)<|pAt l<|(i+1)%l.length;have hs:(List.range<|i+1).foldl (ZoP p l) (0,false)=ZoP p l ((List.range i).foldl (ZoP p l) (0,false)) i:=by
    rw[ZXX,ZYf];rfl
   rw[hs];generalize(List.range i).foldl (ZoP p l) (0,false)=n at*;unfold ZoP;simp only[hfH,ZWK,ZWQ]at hy⊢;refine⟨_,by simp only[go_sem,c230L0b,S3,hg,hg2,hi',hw,hn,Jc,hy,Pt.enc,hb3];rfl,?_⟩
   simp only[go_sem])
  (e:=.exit 0) (by simp only[go_sem,hfH,c230L0b,ZG];rfl) (by simp)
 have L':Zg rE [0,1,5,6,7] c230L0b [(0,.yld 2),(1,.iptr false [.isl false ex 2<|l.map Pt.enc]),(5,.isl false ex 2<|l.map Pt.enc),(6,I l.length),(7,.int .i64 0)] [.row 1 [.int .i64 0],.row 1 [.bool false],.loop .ready .normal (ZoD (.isl false ex 2<|l.map Pt.enc) p) [15,16] c163R0a c163R0b]=_:=L;rw[Z5 (f:=163) rfl rfl];have hrf:rf rE (.clo (.func 230) [] [.iptr false [.isl false ex 2<|l.map Pt.enc]]) [15,16] c163R0a c163R0b (ZoD (.isl false ex 2<|l.map Pt.enc) p) [.row 1 [.int .i64 0],.row 1 [.bool false]] =
  some (.normal,ZoD (.isl false ex 2<|l.map Pt.enc) p,[.row 1 [I (ZoC l p).1],.row 1 [.bool (ZoC l p).2],.loop .exhausted .normal (ZoD (.isl false ex 2<|l.map Pt.enc) p) [15,16] c163R0a c163R0b]):=by
  rw[Z1k (c:=c230) rfl];simp only[go_sem,c230,c230L0,L',hb3];rfl
 simp only[ZoD]at hrf;simp only[go_sem,c163,Z1l,Sr,hrf,hv]
def ZoY(l:List Pt)(p:Pt):Int:=
 bif (!Vh l||Jf p)||((ZoC l ⟨W<|2*p.X,W<|2*p.Y⟩).1==0&&!(ZoC l ⟨W<|2*p.X,W<|2*p.Y⟩).2)then -1
 else bif (ZoC l ⟨W<|2*p.X,W<|2*p.Y⟩).1 != 0&&!(ZoC l ⟨W<|2*p.X,W<|2*p.Y⟩).2 then 1 else 0
def Zqn(l:List Pt)(ex:Bool)(hl:l.length<=1000000)(p:Pt):pfn rE 47 [.isl false ex 2<|l.map Pt.enc,.agg [I p.X,I p.Y]]=some (I<|ZoY l p):=by
 have hV:=Dz l ex hl;have hO:=Z1h p;have hH:=Zqm l ex hl ⟨W<|2*p.X,W<|2*p.Y⟩;have hO2:pfn rE 99 [.isl false ex 2<|l.map Pt.enc,.agg [I<|W<|2*p.X,I<|W<|2*p.Y]]=some (.bool<|(ZoC l ⟨W<|2*p.X,W<|2*p.Y⟩).1==0&&!(ZoC l ⟨W<|2*p.X,W<|2*p.Y⟩).2):=by
  rw[Z5 (f:=99) rfl rfl];cases c:(ZoC l ⟨W<|2*p.X,W<|2*p.Y⟩).1==0<;>simp only[go_sem,c99,hH,c,ZWf,ZWh]
 have hI:pfn rE 100 [.isl false ex 2<|l.map Pt.enc,.agg [I<|W<|2*p.X,I<|W<|2*p.Y]]=some (.bool<|(ZoC l ⟨W<|2*p.X,W<|2*p.Y⟩).1 != 0&&!(ZoC l ⟨W<|2*p.X,W<|2*p.Y⟩).2):=by
  rw[Z5 (f:=100) rfl rfl];cases c:(ZoC l ⟨W<|2*p.X,W<|2*p.Y⟩).1 != 0<;>simp only[go_sem,c100,hH,c,ZWf,ZWh]
 rw[Z5 (f:=47) rfl rfl];unfold ZoY;generalize((ZoC l ⟨W<|2*p.X,W<|2*p.Y⟩).1==0&&!(ZoC l ⟨W<|2*p.X,W<|2*p.Y⟩).2)=b1 at*;generalize((ZoC l ⟨W<|2*p.X,W<|2*p.Y⟩).1 != 0&&!(ZoC l ⟨W<|2*p.X,W<|2*p.Y⟩).2)=b2 at*;cases c1:Vh l with
 |false=>simp only[go_sem,c47,hV,c1,ZWi,ZWj,cond_true]
 |true=>
 cases c2:Jf p with
 |true=>simp only[go_sem,c47,hV,hO,c1,c2,ZWg,ZWl,ZWj,cond_true]
 |false=>
 cases b1 with
 |true=>simp only[go_sem,c47,hV,hO,hO2,c1,c2,ZWg,ZWl,cond_true]
 |false=>
 cases b2<;>simp only[go_sem,c47,hV,hO,hO2,hI,c1,c2,ZWg,ZWl,cond_true,cond_false]
def wOn(P a b:Pt):Bool:=ZO5 P a b==0&&decide ((2*a.X-P.X)*(2*b.X-P.X)+(2*a.Y-P.Y)*(2*b.Y-P.Y)<=0)
def ZPl(P a b:Pt):Bool:=ZO5 P a b==0&&(decide (P.X>=min (2*a.X) (2*b.X))&&(decide (P.X<=max (2*a.X) (2*b.X))&&(decide (P.Y>=min (2*a.Y) (2*b.Y))&&decide (P.Y<=max (2*a.Y) (2*b.Y)))))
def ZSP{ux uy vx vy:Int}(hc:ux*vy=uy*vx)(hd:ux*vx+uy*vy=0):(ux=0/\uy=0)\/(vx=0/\vy=0):=by
 have h1:vx*(ux*ux+uy*uy)=0:=by grind
 have h2:vy*(ux*ux+uy*uy)=0:=by grind
 rcases ZOs h1 with a|a
 .rcases ZOs h2 with b|b
  .exact .inr ⟨a,b⟩
  .have:=ZPv (a:=ux);have:=ZPv (a:=uy);have e1:ux*ux=0:=by omega
   have e2:uy*uy=0:=by omega
   refine .inl ⟨?_,?_⟩
   .rcases ZOs e1 with k|k<;>exact k
   .rcases ZOs e2 with k|k<;>exact k
 .have:=ZPv (a:=ux);have:=ZPv (a:=uy);have e1:ux*ux=0:=by omega
  have e2:uy*uy=0:=by omega
  refine .inl ⟨?_,?_⟩
  .rcases ZOs e1 with k|k<;>exact k
  .rcases ZOs e2 with k|k<;>exact k
def ZRv(P a b:Pt):ZPl P a b=wOn P a b:=by
 unfold ZPl wOn;cases ht:ZO5 P a b==0 with
 |false=>rfl
 |true=>
  have hc:(2*a.X-P.X)*(2*b.Y-P.Y)=(2*a.Y-P.Y)*(2*b.X-P.X):=by
   have:=eq_of_beq ht;unfold ZO5 at this;omega
  have hb:=ZRk hc;have hz:=ZSP hc;have hz0:∀z:Int,(0:Int)*z=0:=ZXP;have hz1:∀z:Int,z*(0:Int)=0:=Int.mul_zero;rw[ZWf,ZWf,ZWI];simp only[ZWe,decide_eq_true_iff];generalize 2*a.X=ax at*;generalize 2*a.Y=ay at*;generalize 2*b.X=bx at*;generalize 2*b.Y=by' at*
  constructor
  .intro h;rcases hb.2 (by omega)with k|k|k
   .rw[k.1,k.2,hz0,hz0];decide
   .rw[k.1,k.2,hz1,hz1];decide
   .omega
  .intro h;have:=hb.1 (by
    rcases Int.lt_or_eq_of_le h with k|k
    .exact .inr<|.inr k
    .rcases hz k with q|q
     .exact .inl q
     .exact .inr<|.inl q)
   omega
def wC(P:Pt)(l:List Pt)(k:Nat):Bool:=wUp P (uP l k) (uP l<|k+1)||wDn P (uP l k) (uP l<|k+1)
def ZPm(l:List Pt)(P:Pt):Bool:=(List.range l.length).any (λk=>wOn P (uP l k)<|uP l<|k+1)
def ZLs(l:List Pt)(P:Pt):Int:=bif ZPm l P then 0 else bif xs (wC P l) l.length then 1 else -1
def dbl(p:Pt):Pt:=⟨W<|2*p.X,W<|2*p.Y⟩
def ZPx(p:Pt):pfn rE 107 [.agg [I p.X,I p.Y]]=some (.agg [I (dbl p).X,I (dbl p).Y]):=by
 rw[Z5 (f:=107) rfl rfl];unfold dbl;simp only[go_sem,c107]
def ZQi{p:Pt}(h:gOn p=true):dbl p=⟨2*p.X,2*p.Y⟩:=by
 have:=ZOb h;unfold dbl;rw[ZO6 (by omega) (by omega),ZO6 (by omega)<|by omega]
def ZRw{a b P:Pt}(ha:gOn a=true)(hb:gOn b=true)(hP:(0<=P.X/\P.X<=65534)/\(0<=P.Y/\P.Y<=65534)):ZOa ⟨2*a.X,2*a.Y⟩ ⟨2*b.X,2*b.Y⟩ P=ZO5 P a b:=by
 have h1:=ZOb ha;have h2:=ZOb hb;unfold ZOa Uh Yv;dsimp only;rw[ZO6 (n:=2*b.X-2*a.X) (by omega) (by omega),ZO6 (n:=2*b.Y-2*a.Y) (by omega) (by omega),ZO6 (n:=P.X-2*a.X) (by omega) (by omega),ZO6 (n:=P.Y-2*a.Y) (by omega)<|by omega]
 have k1:=ZOC (a:=2*b.X-2*a.X) (b:=P.Y-2*a.Y) (by omega) (by omega) (by omega)<|by omega
 have k2:=ZOC (a:=2*b.Y-2*a.Y) (b:=P.X-2*a.X) (by omega) (by omega) (by omega)<|by omega
 rw[ZO6 (n:=(2*b.X-2*a.X)*(P.Y-2*a.Y)) (by omega) (by omega),ZO6 (n:=(2*b.Y-2*a.Y)*(P.X-2*a.X)) (by omega) (by omega),ZO6 (by omega)<|by omega]
 unfold ZO5
 grind
def flp(P a b:Pt)(tn:Int):Bool:=(decide (2*a.Y<=P.Y)&&(!decide (2*b.Y<=P.Y)&&decide (tn>0)))||(!decide (2*a.Y<=P.Y)&&(decide (2*b.Y<=P.Y)&&decide (tn<0)))
def bx4(P a b:Pt):Bool:=decide (P.X>=min (2*a.X) (2*b.X))&&(decide (P.X<=max (2*a.X) (2*b.X))&&(decide (P.Y>=min (2*a.Y) (2*b.Y))&&decide (P.Y<=max (2*a.Y) (2*b.Y))))
section
variable {l:List Pt} {ex:Bool} {k:Nat} {a b P:Pt} {tn:Int} {q:Bool}
def ZSQ(hg:(l.map Pt.enc)[k]?=some a.enc)(hx:pfn rE 149 [.isl false ex 2<|l.map Pt.enc,I k]=some (.agg [I b.X,I b.Y]))(hlt:decide ((k:Int)<(l.length:Int))=true)(hw:IntKind.i64.wrap ((k:Int)+1)=((k+1:Nat):Int))
 (d1:pfn rE 107 [.agg [I a.X,I a.Y]]=some (.agg [I<|2*a.X,I<|2*a.Y])) (d2:pfn rE 107 [.agg [I b.X,I b.Y]]=some (.agg [I<|2*b.X,I<|2*b.Y])) (hA:pfn rE 167 [.agg [I<|2*a.X,I<|2*a.Y],.agg [I<|2*b.X,I<|2*b.Y],.agg [I P.X,I P.Y]]=some (I tn))
 (e1:(tn==0)=false):∃fr',Zb rE c106L0b [(0,.isl false ex 2<|l.map Pt.enc),(3,.iptr false [I P.X,I P.Y]),(5,.bool q),(6,I k)] []=some (.normal,fr',[])/\Z2 [0,3,5,6] fr'=[(0,.isl false ex 2<|l.map Pt.enc),(3,.iptr false [I P.X,I P.Y]),(5,.bool<|q ^^ flp P a b tn),(6,I (k+1:Nat))]:=by
 have s5:decide (2*a.Y>P.Y) = !decide (2*a.Y<=P.Y):=by by_cases h:2*a.Y<=P.Y<;>simp[h]<;>omega
 have s6:decide (2*b.Y>P.Y) = !decide (2*b.Y<=P.Y):=by by_cases h:2*b.Y<=P.Y<;>simp[h]<;>omega
 unfold flp;cases e2:decide (2*a.Y<=P.Y)<;>cases e3:decide (2*b.Y<=P.Y)<;>cases e4:decide (tn>0)<;>cases e5:decide (tn<0)<;>rw[e2]at s5<;>rw[e3]at s6<;>
  (refine⟨_,by simp only[go_sem,c106L0b,hg,hx,hlt,hw,Pt.enc,d1,d2,hA,e1,e2,e3,e4,e5,s5,s6,ZWd,ZWg,ZWi];rfl,?_⟩;cases q<;>rfl)
def ZSR(hg:(l.map Pt.enc)[k]?=some a.enc)(hx:pfn rE 149 [.isl false ex 2<|l.map Pt.enc,I k]=some (.agg [I b.X,I b.Y]))(hlt:decide ((k:Int)<(l.length:Int))=true)(hw:IntKind.i64.wrap ((k:Int)+1)=((k+1:Nat):Int))
 (d1:pfn rE 107 [.agg [I a.X,I a.Y]]=some (.agg [I<|2*a.X,I<|2*a.Y])) (d2:pfn rE 107 [.agg [I b.X,I b.Y]]=some (.agg [I<|2*b.X,I<|2*b.Y])) (hA:pfn rE 167 [.agg [I<|2*a.X,I<|2*a.Y],.agg [I<|2*b.X,I<|2*b.Y],.agg [I P.X,I P.Y]]=some (I tn))
 (e1:(tn==0)=true) (hB:bx4 P a b=false):∃fr',Zb rE c106L0b [(0,.isl false ex 2<|l.map Pt.enc),(3,.iptr false [I P.X,I P.Y]),(5,.bool q),(6,I k)] []=some (.normal,fr',[])/\Z2 [0,3,5,6] fr'=[(0,.isl false ex 2<|l.map Pt.enc),(3,.iptr false [I P.X,I P.Y]),(5,.bool<|q ^^ flp P a b tn),(6,I (k+1:Nat))]:=by
 have s5:decide (2*a.Y>P.Y) = !decide (2*a.Y<=P.Y):=by by_cases h:2*a.Y<=P.Y<;>simp[h]<;>omega
 have s6:decide (2*b.Y>P.Y) = !decide (2*b.Y<=P.Y):=by by_cases h:2*b.Y<=P.Y<;>simp[h]<;>omega
 have z1:decide (tn>0)=false:=by rw[eq_of_beq e1];rfl
 have z2:decide (tn<0)=false:=by rw[eq_of_beq e1];rfl
 have ef:flp P a b tn=false:=by unfold flp;rw[z1,z2];simp
 rw[ef];unfold bx4 at hB;cases e2:decide (2*a.Y<=P.Y)<;>cases e3:decide (2*b.Y<=P.Y)<;>rw[e2]at s5<;>rw[e3]at s6<;>
  (cases e6:decide (P.X>=min (2*a.X) (2*b.X))with
  |false=>(refine⟨_,by simp only[go_sem,c106L0b,hg,hx,hlt,hw,Pt.enc,d1,d2,hA,e1,e2,e3,s5,s6,z1,z2,e6,ZWd,ZWg,ZWi];rfl,?_⟩;cases q<;>rfl)
  |true=>
  cases e7:decide (P.X<=max (2*a.X) (2*b.X))with
  |false=>(refine⟨_,by simp only[go_sem,c106L0b,hg,hx,hlt,hw,Pt.enc,d1,d2,hA,e1,e2,e3,s5,s6,z1,z2,e6,e7,ZWd,ZWg,ZWi];rfl,?_⟩;cases q<;>rfl)
  |true=>
  cases e8:decide (P.Y>=min (2*a.Y) (2*b.Y))with
  |false=>(refine⟨_,by simp only[go_sem,c106L0b,hg,hx,hlt,hw,Pt.enc,d1,d2,hA,e1,e2,e3,s5,s6,z1,z2,e6,e7,e8,ZWd,ZWg,ZWi];rfl,?_⟩;cases q<;>rfl)
  |true=>
  have e9:decide (P.Y<=max (2*a.Y) (2*b.Y))=false:=by rw[e6,e7,e8]at hB;exact hB
  (refine⟨_,by simp only[go_sem,c106L0b,hg,hx,hlt,hw,Pt.enc,d1,d2,hA,e1,e2,e3,s5,s6,z1,z2,e6,e7,e8,e9,ZWd,ZWg,ZWi];rfl,?_⟩;cases q<;>rfl))
end
def ZSS(l:List Pt)(ex:Bool)(h3:3<=l.length)(h40:l.length<=40)(hon:∀k,gOn (uP l k)=true)(P:Pt)(hP:(0<=P.X/\P.X<=65534)/\(0<=P.Y/\P.Y<=65534)):pfn rE 106 [.isl false ex 2<|l.map Pt.enc,.agg [I P.X,I P.Y]]=some (I<|ZLs l P):=by
 have L:=QT (E:=rE) (live:=[0,3,5,6]) (b:=c106L0b) (h:=[]) (List.range l.length) (λ_ k=>!wOn P (uP l k) (uP l<|k+1)) (λi=>[(0,.isl false ex 2<|l.map Pt.enc),(3,.iptr false [I P.X,I P.Y]),(5,.bool<|xs (wC P l) i),(6,I i)]) 0
  (λfr=>get fr 5=.bool (xs (wC P l) l.length)) (λfr=>get fr 4=.int .i64 0) (λi=>rfl)
  (λi k hk hO=>by
   obtain⟨rfl,hi⟩:=Ds hk;have eu:pAt l k=uP l k:=by unfold uP;rw[ZXM hi]
   have eu2:pAt l ((k+1)%l.length)=uP l (k+1):=rfl;have hg:=YN hi;have hx:=ZPi false ex l (by omega) k hi
   have hlt:=Zh hi;have hw:=Zx (n:=k)<|by omega
   rw[eu]at hg;rw[eu2]at hx;have d1:=ZPx<|uP l k;have d2:=ZPx<|uP l<|k+1;rw[ZQi<|hon _]at d1 d2;have hA:=ZP6 ⟨2*(uP l k).X,2*(uP l k).Y⟩ ⟨2*(uP l<|k+1).X,2*(uP l<|k+1).Y⟩ P;rw[ZRw (hon _) (hon _) hP]at hA;have hs:xs (wC P l) (k+1)=(xs (wC P l) k ^^ wC P l k):=rfl;have hO':ZPl P (uP l k) (uP l<|k+1)=false:=by rw[ZRv];simpa using hO
   rw[hs];generalize xs (wC P l) k=q;unfold ZPl at hO';have s1:decide (2*(uP l k).Y-P.Y<=0)=decide (2*(uP l k).Y<=P.Y):=by rw[decide_eq_decide];omega
   have s2:decide (2*(uP l<|k+1).Y-P.Y>0)=decide (2*(uP l<|k+1).Y>P.Y):=by rw[decide_eq_decide];omega
   have s3:decide (2*(uP l k).Y-P.Y>0)=decide (2*(uP l k).Y>P.Y):=by rw[decide_eq_decide];omega
   have s4:decide (2*(uP l<|k+1).Y-P.Y<=0)=decide (2*(uP l<|k+1).Y<=P.Y):=by rw[decide_eq_decide];omega
   have s5:decide (2*(uP l k).Y>P.Y) = !decide (2*(uP l k).Y<=P.Y):=by by_cases h:2*(uP l k).Y<=P.Y<;>simp[h]<;>omega
   have s6:decide (2*(uP l<|k+1).Y>P.Y) = !decide (2*(uP l<|k+1).Y<=P.Y):=by by_cases h:2*(uP l<|k+1).Y<=P.Y<;>simp[h]<;>omega
   have ef:(wUp P (uP l k) (uP l<|k+1)||wDn P (uP l k) (uP l<|k+1))=flp P (uP l k) (uP l<|k+1) (ZO5 P (uP l k)<|uP l<|k+1):=by
    unfold wUp wDn flp;rw[s1,s2,s3,s4,s5,s6]
   have hw4:wC P l k=flp P (uP l k) (uP l<|k+1) (ZO5 P (uP l k)<|uP l<|k+1):=ef;rw[hw4];cases e1:ZO5 P (uP l k) (uP l<|k+1)==0 with
   |false=>exact ZSQ hg hx hlt hw d1 d2 hA e1
   |true=>
    rw[e1,ZWf]at hO';exact ZSR hg hx hlt hw d1 d2 hA e1 hO')
  (λi k hk hO=>by
   obtain⟨rfl,hi⟩:=Ds hk;have eu:pAt l k=uP l k:=by unfold uP;rw[ZXM hi]
   have eu2:pAt l ((k+1)%l.length)=uP l (k+1):=rfl;have hg:=YN hi;have hx:=ZPi false ex l (by omega) k hi
   have hlt:=Zh hi;rw[eu]at hg;rw[eu2]at hx;have d1:=ZPx<|uP l k;have d2:=ZPx<|uP l<|k+1;rw[ZQi<|hon _]at d1 d2;have hA:=ZP6 ⟨2*(uP l k).X,2*(uP l k).Y⟩ ⟨2*(uP l<|k+1).X,2*(uP l<|k+1).Y⟩ P;rw[ZRw (hon _) (hon _) hP]at hA;have hO':ZPl P (uP l k) (uP l<|k+1)=true:=by rw[ZRv];simpa using hO
   unfold ZPl at hO';simp only[ZWe]at hO';obtain⟨e1,e6,e7,e8,e9⟩:=hO';refine⟨_,by simp only[go_sem,c106L0b,hg,hx,hlt,Pt.enc,d1,d2,hA,e1,e6,e7,e8,e9,ZWd];rfl,?_⟩
   simp only[go_sem])
  (⟨_,by simp only[go_sem,c106L0b,ZXY,ZWd,ZG];rfl,by simp only[go_sem,ZXY]⟩)
 rw[QE]at L;obtain⟨fr',h1,h2,h4⟩:=L;have h1':Zg rE [0,3,5,6] c106L0b [(0,.isl false ex 2<|l.map Pt.enc),(3,.iptr false [I P.X,I P.Y]),(5,.bool false),(6,.int .i64 0)] []=_:=h1;have ep:ZPm l P = !(List.range l.length).all (λk=>!wOn P (uP l k) (uP l<|k+1)):=by
  unfold ZPm;rw[ZYh];simp
 rw[Z5 (f:=106) rfl rfl];unfold ZLs;rw[ep];cases hc:(List.range l.length).all (λk=>!wOn P (uP l k) (uP l<|k+1))with
 |true=>
  rw[hc]at h1';have g:=h2 hc;cases hx:xs (wC P l) l.length with
  |true=>rw[hx]at g;simp only[go_sem,c106,c106L0,h1',g,ZWg,if_true]
  |false=>rw[hx]at g;simp only[go_sem,c106,c106L0,h1',g,ZWg,if_true]
 |false=>
  rw[hc]at h1';have g:=h4 hc;simp only[go_sem,c106,c106L0,h1',g,ZWi,ZWn,if_false]
end Go.AM
namespace Go.AM
open Go
variable [REdz]
def ZOD{q p:Int}(hq:0<=q/\q<=32767)(hp:0<=p/\p<=65534):hfX q p=2*q-p:=by
 unfold hfX;rw[ZO6 (n:=2*q) (by omega) (by omega),ZO6 (by omega)<|by omega]
def ZRx{P a b:Pt}(ha:gOn a=true)(hb:gOn b=true)(hP:(0<=P.X/\P.X<=65534)/\(0<=P.Y/\P.Y<=65534)):ZoX P a b=ZO5 P a b:=by
 have h1:=ZOb ha;have h2:=ZOb hb;unfold ZoX ZO5;rw[ZOD ⟨h1.1,h1.2.1⟩ hP.1,ZOD ⟨h1.2.2.1,h1.2.2.2⟩ hP.2,ZOD ⟨h2.1,h2.2.1⟩ hP.1,ZOD ⟨h2.2.2.1,h2.2.2.2⟩ hP.2];have k1:=ZOC (a:=2*a.X-P.X) (b:=2*b.Y-P.Y) (by omega) (by omega) (by omega)<|by omega
 have k2:=ZOC (a:=2*a.Y-P.Y) (b:=2*b.X-P.X) (by omega) (by omega) (by omega)<|by omega
 rw[ZO6 (n:=(2*a.X-P.X)*(2*b.Y-P.Y)) (by omega) (by omega),ZO6 (n:=(2*a.Y-P.Y)*(2*b.X-P.X)) (by omega) (by omega),ZO6 (by omega)<|by omega]
def ZST{P a b:Pt}(ha:gOn a=true)(hb:gOn b=true)(hP:(0<=P.X/\P.X<=65534)/\(0<=P.Y/\P.Y<=65534)):Zp9 P a b=wOn P a b:=by
 have h1:=ZOb ha;have h2:=ZOb hb;unfold Zp9 wOn;rw[ZRx ha hb hP,ZOD ⟨h1.1,h1.2.1⟩ hP.1,ZOD ⟨h1.2.2.1,h1.2.2.2⟩ hP.2,ZOD ⟨h2.1,h2.2.1⟩ hP.1,ZOD ⟨h2.2.2.1,h2.2.2.2⟩ hP.2];have k1:=ZOC (a:=2*a.X-P.X) (b:=2*b.X-P.X) (by omega) (by omega) (by omega)<|by omega
 have k2:=ZOC (a:=2*a.Y-P.Y) (b:=2*b.Y-P.Y) (by omega) (by omega) (by omega)<|by omega
 rw[ZO6 (n:=(2*a.X-P.X)*(2*b.X-P.X)) (by omega) (by omega),ZO6 (n:=(2*a.Y-P.Y)*(2*b.Y-P.Y)) (by omega) (by omega),ZO6 (by omega)<|by omega]
def ZSU{P a b:Pt}{w:Int}(ha:gOn a=true)(hb:gOn b=true)(hP:(0<=P.X/\P.X<=65534)/\(0<=P.Y/\P.Y<=65534))(hw:-100<=w/\w<=100):Zp4 P a b w=w+wS P a b:=by
 have h1:=ZOb ha;have h2:=ZOb hb;unfold Zp4 wS wUp wDn;rw[ZRx ha hb hP,ZOD ⟨h1.2.2.1,h1.2.2.2⟩ hP.2,ZOD ⟨h2.2.2.1,h2.2.2.2⟩ hP.2,ZO6 (n:=w+1) (by omega) (by omega),ZO6 (n:=w-1) (by omega)<|by omega]
 cases(decide (2*a.Y-P.Y<=0)&&(decide (2*b.Y-P.Y>0)&&decide (ZO5 P a b>0)))<;>cases(decide (2*a.Y-P.Y>0)&&(decide (2*b.Y-P.Y<=0)&&decide (ZO5 P a b<0)))<;>simp<;>omega
def ZSV(P a b:Pt):-1<=wS P a b/\wS P a b<=1:=by unfold wS;cases wUp P a b<;>cases wDn P a b<;>decide
def ZRy{l:List Pt}(h40:l.length<=40)(hon:∀k,gOn (uP l k)=true){P:Pt}(hP:(0<=P.X/\P.X<=65534)/\(0<=P.Y/\P.Y<=65534)):∀n,n<=l.length->
 (List.range n).foldl (ZoP P l) (0,false)=(sm (λk=>wS P (uP l k)<|uP l<|k+1) n,(List.range n).any (λk=>wOn P (uP l k)<|uP l<|k+1))/\(-(n:Int)<=sm (λk=>wS P (uP l k)<|uP l<|k+1) n/\sm (λk=>wS P (uP l k)<|uP l<|k+1) n<=n)
 |0,_=>⟨rfl,Int.le_refl 0,Int.le_refl 0⟩
 |n+1,hn=>by
  obtain⟨ih,b1,b2⟩:=ZRy h40 hon hP n<|by omega
  have hb:=ZSV P (uP l n)<|uP l<|n+1;have e1:pAt l n=uP l n:=by unfold uP;rw[ZXM<|by omega]
  have e2:pAt l ((n+1)%l.length)=uP l (n+1):=rfl;have e3:sm (λk=>wS P (uP l k)<|uP l<|k+1) (n+1)=sm (λk=>wS P (uP l k)<|uP l<|k+1) n+wS P (uP l n) (uP l<|n+1):=rfl
  rw[ZXX,ZYf,ZYk,ih,e3];refine⟨?_,by omega,by omega⟩
  simp only[ZXb,List.foldl_nil,ZWR,ZWY,ZWp,ZoP];rw[e1,e2,ZSU (hon _) (hon _) hP (by omega),ZST (hon _) (hon _) hP]
def ZSW{l:List Pt}(hV:Vh l=true){p:Pt}(hp:gOn p=true):ZLs l ⟨2*p.X,2*p.Y⟩=ZoY l p:=by
 have g:=ZQg hV;have h1:=ZOb hp;have hP:(0<=(⟨2*p.X,2*p.Y⟩:Pt).X/\(⟨2*p.X,2*p.Y⟩:Pt).X<=65534)/\(0<=(⟨2*p.X,2*p.Y⟩:Pt).Y/\(⟨2*p.X,2*p.Y⟩:Pt).Y<=65534):=by dsimp only;omega
 have hf:=(ZRy g.n40 g.on hP l.length<|ZWo _).1;have e:(⟨W<|2*p.X,W<|2*p.Y⟩:Pt)=⟨2*p.X,2*p.Y⟩:=by rw[ZO6 (by omega) (by omega),ZO6 (by omega)<|by omega]
 unfold ZoY;rw[e];generalize hPP:(⟨2*p.X,2*p.Y⟩:Pt)=P at*;have hh:ZoC l P=(sm (λk=>wS P (uP l k)<|uP l<|k+1) l.length,ZPm l P):=hf
 have ho:Jf p=false:=by unfold Jf;rw[hp];rfl
 rw[hh,hV,ho];unfold ZLs;cases hO:ZPm l P with
 |true=>simp
 |false=>
  have hw:=ZSO hV (P:=P) hP.1 (λk hk hc=>by
   unfold ZPm at hO;rw[ZZ3]at hO;apply hO k<|ZXA.2 hk;unfold wOn ZO5;rw[hc.1,hc.2,Int.sub_self,Int.sub_self,ZXP,ZXP];decide)
  cases hx:xs (wC P l) l.length with
  |false=>
   have:=hw.2 hx;rw[this];rfl
  |true=>
   have hne:sm (λk=>wS P (uP l k)<|uP l<|k+1) l.length≠0:=λh=>by
    have h':xs (wC P l) l.length=false:=hw.1 h;rw[hx]at h';cases h'
   have e0:(sm (λk=>wS P (uP l k)<|uP l<|k+1) l.length==0)=false:=by simpa using hne
   have e1:(sm (λk=>wS P (uP l k)<|uP l<|k+1) l.length != 0)=true:=by simpa using hne
   rw[e0,e1];rfl
def ZSX(l:List Pt)(ex:Bool)(hl:l.length<=1000000)(p:Pt):pfn rE 60 [.isl false ex 2<|l.map Pt.enc,.agg [I p.X,I p.Y]]=some (I<|ZoY l p):=by
 have hV:=ZQe l ex hl;have hO:=ZO4 p;rw[Z5 (f:=60) rfl rfl];cases h1:Vh l with
 |false=>
  have e:ZoY l p=-1:=by unfold ZoY;rw[h1];rfl
  rw[e];simp only[go_sem,c60,hV,h1,ZWi]
 |true=>
 cases h2:gOn p with
 |false=>
  have e:ZoY l p=-1:=by unfold ZoY Jf;rw[h1,h2];rfl
  rw[e];simp only[go_sem,c60,hV,hO,h1,h2,ZWi,ZWg]
 |true=>
  have g:=ZQg h1;have hr:=ZOb h2;have hD:=ZPx p;rw[ZQi h2]at hD;have hc:=ZSS l ex g.n3 g.n40 g.on ⟨2*p.X,2*p.Y⟩<|by dsimp only;omega
  rw[ZSW h1 h2]at hc;simp only[go_sem,c60,hV,hO,h1,h2,hD,hc,ZWg]
def ZoG(x:Gm):Bool:=x.bp==1&&x.Ld==-1
def ZpM(x:Gm):pfn rE 46 [x.enc]=some (.bool<|ZoG x):=by
 rw[Z5 (f:=46) rfl rfl];unfold ZoG;cases c:x.bp==1<;>simp only[go_sem,c46,Gm.enc,NL.enc,c,ZWf,ZWh]
def ZoF(s:Sta)(p:Pt)(K:List Int)(x:Gm):List Int:=bif ZoG x&&decide (ZoY x.Ring.l p>=0)then Qi Vm K (Zoq s x.bg)else K
def Zoy(s:Sta)(p:Pt):List Int:=s.Ga.foldl (ZoF s p) []
def ZoH(s:Sta)(p:Pt):List Int:=Zox<|Zoy s p
structure ClS(s:Sta):Prop where
 E:StE s
 pr:Jx s=true
def ClS.prop{s:Sta}(h:ClS s):Prop' s:=((Zdb s).1 h.pr).1
def Zpa{a b c:Int}(h:QM a b c=true):0<=a/\a<=63:=by
 unfold QM ZD at h;simp only[ZWe,decide_eq_true_eq]at h;exact h.1
def ClS.reg{s:Sta}(h:ClS s){x:Gm}(hx:x∈s.Ga):0<=x.bg/\x.bg<=63:=by
 have:=h.prop.rg x hx;unfold Vo at this;simp only[ZWe]at this;exact Zpa this.1
def ClS.mst{s:Sta}(h:ClS s){a:Int}(ha:0<=a):pfn rE 26 [ldI s,I a]=some (I<|Zoq s a):=ZpJ s h.prop.pa a ha
def ZpN{s:Sta}(h:ClS s)(p:Pt):∀(l:List Gm)(K:List Int),(∀x∈l,x∈s.Ga)->(∀z∈K,0<=z/\z<=63)->∀z∈l.foldl (ZoF s p) K,0<=z/\z<=63
 |[],K,_,hK=>hK
 |x::r,K,hl,hK=>by
  rw[ZXb];refine ZpN h p r _ (λy hy=>hl y<|ZXz _ hy)<|λz hz=>?_
  unfold ZoF at hz;cases c:ZoG x&&decide (ZoY x.Ring.l p>=0)with
  |false=>rw[c]at hz;exact hK z hz
  |true=>
   rw[c,cond_true]at hz;unfold Qi at hz;cases d:K.any (Vm<|Zoq s x.bg)with
   |true=>rw[d]at hz;exact hK z hz
   |false=>
    rw[d,cond_false,ZX3,ZX2]at hz;rcases hz with hz|rfl
    .exact hK z hz
    .exact ZpH h.prop.pa<|h.reg<|hl x<|ZXh ..
def Zqo(s:Sta)(h:ClS s)(p:Pt):Zg rE [0,3,5,13,14,15] c21L0b [(0,ldI s),(3,.iptr false [I p.X,I p.Y]),(5,.mp 0),(13,.isl false false 6<|s.Ga.map Gm.enc),(14,I s.Ga.length),(15,.int .i64 0)] [.map [] []] =
 some (.exit 0,[(0,ldI s),(3,.iptr false [I p.X,I p.Y]),(5,.mp 0),(13,.isl false false 6<|s.Ga.map Gm.enc),(14,I s.Ga.length),(15,I s.Ga.length)],[.map ((Zoy s p).map I)<|ZO (Zoy s p).length]):=by
 have hl:=h.E.sizes.regions;have hbl:=Zot s;have hb:∀(K:List Int)n,Zd n (K.map I)=true/\Zd n (ZO K.length)=true:=λK n=>⟨ZN _<|Zw (λt=>rfl) K,ZN _<|Ut _⟩
 have L:=Y8 (E:=rE) (live:=[0,3,5,13,14,15]) (b:=c21L0b) s.Ga.length (λi=>[(0,ldI s),(3,.iptr false [I p.X,I p.Y]),(5,.mp 0),(13,.isl false false 6<|s.Ga.map Gm.enc),(14,I s.Ga.length),(15,I i)])
  (λi=>[.map (((s.Ga.take i).foldl (ZoF s p) []).map I)<|ZO ((s.Ga.take i).foldl (ZoF s p) []).length]) (λi=>rfl)
  (λi hi=>by
   obtain⟨x,hx⟩:∃x,s.Ga[i]?=some x:=⟨_,ZWq hi⟩;have hm:=ZWu hx;have hg:=Z6 (f:=Gm.enc) hx;have hi':=Zh hi;have hwr:=Zx (n:=i)<|by omega
   have hT:=ZpM x;have hW:=Zqn x.Ring.l x.Ring.ex (ZWW (h.E.regions x hm).2.1 (by omega)) p
   have hM:=h.mst (h.reg hm).1;rw[Us _ _ hx];generalize List.foldl (ZoF s p) [] (s.Ga.take i)=K at*;unfold ZoF;have hp:=λ(q:AObj)=>Ur (eq:=Vm) Wi K (Zoq s x.bg) (h:=[.map (K.map I)<|ZO K.length,q]) (b:=0) rfl
   refine⟨[(0,ldI s),(3,.iptr false [I p.X,I p.Y]),(5,.mp 0),(13,.isl false false 6<|s.Ga.map Gm.enc),(14,I s.Ga.length),(15,I (i+1:Nat))],?_,rfl⟩;simp only[Gm.enc,NL.enc]at hT;cases c1:ZoG x with
   |false=>
    rw[c1]at hT;simp only[go_sem,c21L0b,hg,hi',hwr,hT,Gm.enc,NL.enc,hb,hbl,ZWh,cond_false]
   |true=>
   rw[c1]at hT;cases c2:decide (ZoY x.Ring.l p>=0)with
   |false=>simp only[go_sem,c21L0b,hg,hi',hwr,hT,hW,c2,Gm.enc,NL.enc,hb,hbl,ZWf,cond_false]
   |true=>simp only[go_sem,c21L0b,hg,hi',hwr,hT,hW,hM,hp,c2,Gm.enc,NL.enc,hb,hbl,ZWf,cond_true])
  (e:=.exit 0) (fr:=[(0,ldI s),(3,.iptr false [I p.X,I p.Y]),(5,.mp 0),(13,.isl false false 6<|s.Ga.map Gm.enc),(14,I s.Ga.length),(15,I s.Ga.length)]) (h:=[.map ((Zoy s p).map I)<|ZO (Zoy s p).length]) (by
   rw[ZWL];show Zb rE _ _ [.map ((Zoy s p).map I)<|ZO (Zoy s p).length]=_
   simp only[go_sem,c21L0b,ZG,hb,hbl]) (by simp)
 exact L
def Zqp(b:Nat)(h:Hp):fnV rE 49 [.mp b] h=some (.clo (.func 103) [] [.ptr h.length 0 0 1],h++[.row 1 [.mp b]]):=by
 rw[Q6 (f:=49) rfl rfl];simp only[go_sem,c49]
def Zqq(K:List Int)(vs:List AV)(hK:∀z∈K,0<=z/\z<=63)(hl:K.length<=1000000):fnV rE 48 [.clo (.func 103) [] [.ptr 1 0 0 1]] [.map (K.map I) vs,.row 1 [.mp 0]] =
 some (.sl 2 K.length 0 K.length false,[.map (K.map I) vs,.row 1 [.mp 0],.row 1<|(Zox K).map I]):=by
 have hi:(K.map I).all Zp2=true:=by
  rw[ZXZ,ZWw];intro z hz;obtain⟨h1,h2⟩:=hK z hz;show(decide (-9223372036854775808<=z)&&decide (z<=9223372036854775807))=true
  rw[decide_eq_true (by omega),decide_eq_true<|by omega]
  rfl
 have hb:Nat.ble K.length 1000000=true:=ZXC hl;have hs:Yk (K.map I)=(Zox K).map I:=Zpl K;rw[V8 (s:=ZoZ 103) rfl];unfold ZoZ;simp only[ZXj,ZX1,hi,hb,ZWk,hs,ZWd];rfl
def ZpO(s:Sta)(h:ClS s)(p:Pt):pfn rE 21 [ldI s,.agg [I p.X,I p.Y]]=some (.isl false false 1<|(ZoH s p).map I):=by
 have L:=Zqo s h p;have hR:∀z∈Zoy s p,0<=z/\z<=63:=ZpN h p s.Ga [] (λx hx=>hx)<|λz hz=>by cases hz
 have hlen:(Zoy s p).length<=1000000:=by
  have G:∀(l:List Gm)(K:List Int),(l.foldl (ZoF s p) K).length<=K.length+l.length:=by
   intro l;induction l with
   |nil=>intro K;exact ZWo _
   |cons x r ih=>
    intro K;rw[ZXb,ZWJ];refine ZWW (ih _) ?_;have:(ZoF s p K x).length<=K.length+1:=by
     unfold ZoF Qi;cases ZoG x&&decide (ZoY x.Ring.l p>=0)with
     |false=>exact ZXF _
     |true=>
      rw[cond_true];cases K.any (Vm<|Zoq s x.bg)with
      |true=>exact ZXF _
      |false=>rw[cond_false,ZWx];exact ZWo _
    omega
  have:=G s.Ga [];have hl:=h.E.sizes.regions;unfold Zoy;simp only[ZWN]at this;omega
 have hk:=Zqp 0 [.map ((Zoy s p).map I)<|ZO (Zoy s p).length];have hs:=Zqq (Zoy s p) (ZO (Zoy s p).length) hR hlen;have hsl:(Zox<|Zoy s p).length=(Zoy s p).length:=(Zp3 _).length_eq;have hc:Z4 ((Zox<|Zoy s p).map I)=true:=Zw (λt=>rfl) _
 have htk:List.take (Zoy s p).length ((Zox<|Zoy s p).map I)=(Zox<|Zoy s p).map I:=ZWP<|by simp[hsl]
 have hb:∀(K:List Int)n,Zd n (K.map I)=true/\Zd n (ZO K.length)=true:=λK n=>⟨ZN _<|Zw (λt=>rfl) K,ZN _<|Ut _⟩
 have hbl:=Zot s;have hcl:=Zow s;unfold ZoH;rw[Z5 (f:=21) rfl rfl];simp only[ZWJ,ZWN,ZWK,ZWQ,ZWr]at hk;simp only[go_sem,c21,c21L0,L,hk,hs,hb,hbl,hc,hsl,ZWd,htk,ZWA,beq_self_eq_true]
def Zqr(l:List Str)(hl:l.length<=100000)(id:Str)(bw ex:Bool):pfn rE 136 [.isl bw ex 1<|l.map encS,.str id]=some (.bool<|l.any<|λx=>Z3 id x):=by
 have h:=Nz (f:=182) (enc:=encS) (p:=λx=>Z3 id x) (v:=.str id) rfl rfl l (by omega) (λx _=>rfl) rfl (λx _=>rfl) bw ex
 rw[Z5 (f:=136) rfl rfl,<-Vg];unfold WG;cases bw<;>simp only[go_sem,c136,h]
def ZoM(e:Gt):List Pt:=
 bif !Q9 e then []else
 bif e.bp==1||(e.bp==2||e.bp==5)then e.Path.l.take 1 else
 bif e.bp==6||e.bp==10 then [e.bf]else
 bif e.bp==9 then e.Lst.l.map (·.bf)else []
def ZcV{e:Gt}(h:Q9 e=true):Q8 e=true:=by
 unfold Q9 at h;simp only[ZWe]at h;exact h.2.2.2.2
def ZcW{e:Gt}{k:Int}(hk:e.bp=k):Q8 e=Q8 {e with bp:=k}:=by rw[<-hk]
def Zqs{e:Gt}(h:Q9 e=true)(hk:(e.bp==1||(e.bp==2||e.bp==5))=true):0<e.Path.l.length:=by
 have hn:=ZcV h;have hp:Vh e.Path.l=true\/Ul e.Path.l=true:=by
  rcases(by simpa using hk:e.bp=1\/e.bp=2\/e.bp=5)with k|k|k
  .rw[ZcW k]at hn;have hn':(ZZ e.Id&&(ZD e.A 1 3&&Vh e.Path.l))=true:=hn;simp only[ZWe]at hn';exact Or.inl hn'.2.2
  .rw[ZcW k]at hn;have hn':(ZZ e.Id&&Ul e.Path.l)=true:=hn;simp only[ZWe]at hn';exact Or.inr hn'.2
  .rw[ZcW k]at hn;have hn':(ZZ e.Id&&Vh e.Path.l)=true:=hn;simp only[ZWe]at hn';exact Or.inl hn'.2
 rcases hp with hp|hp
 .unfold Vh at hp;rw[ZWe]at hp;have:=of_decide_eq_true hp.1;omega
 .unfold Ul at hp;simp only[ZWe]at hp;have:=of_decide_eq_true hp.2.1;omega
def Zqt(e:Gt)(hl:e.Lst.l.length<=1000):Zg rE [3,28,29,30] c70L0b [(3,.sl 0 0 0 0 false),(28,.isl false e.Lst.ex 7<|e.Lst.l.map Ent.enc),(29,I e.Lst.l.length),(30,.int .i64 0)] [.row 2 []] =
 some (.exit 1,[(3,.sl 0 e.Lst.l.length 0 e.Lst.l.length false),(28,.isl false e.Lst.ex 7<|e.Lst.l.map Ent.enc),(29,I e.Lst.l.length),(30,I e.Lst.l.length)],[.row 2 ((e.Lst.l.map (·.bf)).map Pt.enc)]):=by
 have hbP:∀(D:List Pt)n,Zd n (D.map Pt.enc)=true:=λD n=>ZN _<|Zw (λt=>rfl) D
 have L:=Y8 (E:=rE) (live:=[3,28,29,30]) (b:=c70L0b) e.Lst.l.length (λi=>[(3,.sl 0 i 0 i false),(28,.isl false e.Lst.ex 7<|e.Lst.l.map Ent.enc),(29,I e.Lst.l.length),(30,I i)])
  (λi=>[.row 2 (((e.Lst.l.take i).map (·.bf)).map Pt.enc)]) (λi=>rfl)
  (λi hi=>by
   obtain⟨x,hx⟩:∃x,e.Lst.l[i]?=some x:=⟨_,ZWq hi⟩;have hlen:(e.Lst.l.take i).length=i:=by rw[ZWS];omega
   have hg:=Z6 (f:=Ent.enc) hx;have hi':=Zh hi;have hwr:=Zx (n:=i)<|by omega
   have htk:(e.Lst.l.take<|i+1).map (·.bf)=(e.Lst.l.take i).map (·.bf)++[x.bf]:=by
    rw[ZX9,hx,ZWC];rfl
   have ha:=λ(q:AObj)=>XC (h:=[.row 2 (((e.Lst.l.take i).map (·.bf)).map Pt.enc),q]) (fz:=false) (b:=0) (g:=i) (sz:=2) (bytes:=16) (es:=((e.Lst.l.take i).map (·.bf)).map Pt.enc) (bw:=false) (ex:=false) (ys:=[.agg [I x.bf.X,I x.bf.Y]]) (by show(bif (((e.Lst.l.take i).map (·.bf)).map Pt.enc).length==i then _ else none)=_;rw[ZWd,ZWd,hlen,beq_self_eq_true];rfl) rfl rfl (by decide) (by decide) (by simp;omega)
   have hma:((e.Lst.l.take i).map (·.bf)++[x.bf]).map Pt.enc=((e.Lst.l.take i).map (·.bf)).map Pt.enc++[.agg [I x.bf.X,I x.bf.Y]]:=by rw[ZWC];rfl
   rw[htk,hma];have hb2:∀n,Zd n (((e.Lst.l.take i).map (·.bf)).map Pt.enc++[.agg [I x.bf.X,I x.bf.Y]])=true:=λn=>by rw[<-hma];exact hbP _ n
   generalize((e.Lst.l.take i).map (·.bf)).map Pt.enc=es at*;refine⟨[(3,.sl 0 (i+1) 0 (i+1) false),(28,.isl false e.Lst.ex 7<|e.Lst.l.map Ent.enc),(29,I e.Lst.l.length),(30,I (i+1:Nat))],?_,rfl⟩;simp only[go_sem,c70L0b,hg,hi',hwr,ha,hb2,Ent.enc])
  (e:=.exit 1) (fr:=[(3,.sl 0 e.Lst.l.length 0 e.Lst.l.length false),(28,.isl false e.Lst.ex 7<|e.Lst.l.map Ent.enc),(29,I e.Lst.l.length),(30,I e.Lst.l.length)]) (h:=[.row 2 ((e.Lst.l.map (·.bf)).map Pt.enc)]) (by
   rw[ZWL];simp only[go_sem,c70L0b,ZG,hbP]) (by simp)
 exact L
def Zqu(l:List Pt)(ex:Bool)(h0:0<l.length)(hl:l.length<=1000000):pfn rE 138 [.isl false ex 2<|l.map Pt.enc]=some (.isl false false 2<|l.map Pt.enc):=by
 have hfit:(l.map Pt.enc).all (fits 2)=true:=by
  rw[ZXZ,ZWw];intro x _;rfl
 have hne:(l.map Pt.enc).isEmpty=false:=by
  cases l with
  |nil=>exact absurd h0<|Nat.not_lt_zero _
  |cons x r=>rfl
 have hble:Nat.ble l.length 1000000=true:=ZXC hl;have hc:Z4 (l.map Pt.enc)=true:=Zw (λt=>rfl) _
 have htk:List.take l.length (l.map Pt.enc)=l.map Pt.enc:=ZWP<|by simp
 have h1:fnV rE 138 [.isl false ex 2<|l.map Pt.enc] []=some (.sl 0 l.length 0 l.length false,[.row 2<|l.map Pt.enc]):=by
  rw[V8 (s:=ZPh 2) rfl];simp only[ZPh,Q2,Qq,hfit,hne,ZWd,hble,beq_self_eq_true,ZWj,ZWk,ZWi,cond_true,ZWQ,ZWN]
 unfold pfn;rw[h1,ZM];simp only[go_sem,hc,htk,ZWd,ZWA,beq_self_eq_true]
def Zqv(e:Gt)(he:EvS e):pfn rE 70 [evA e]=some (.isl false false 2<|(ZoM e).map Pt.enc):=by
 have hF:=NH e he;have hL:=Zqt e (by have:=he.lst;omega)
 have hcP:∀D:List Pt,Z4 (D.map Pt.enc)=true:=λD=>Zw (λt=>rfl) _
 have htk:List.take e.Lst.l.length ((e.Lst.l.map (·.bf)).map Pt.enc)=(e.Lst.l.map (·.bf)).map Pt.enc:=ZWP<|by simp
 have hpos:=Zqs (e:=e);rw[Z5 (f:=70) rfl rfl];unfold ZoM;simp only[evA]at hF;cases c0:Q9 e with
 |false=>
  rw[c0]at hF;simp only[go_sem,c70,hF,ZWi,cond_true,ZWB]
 |true=>
 rw[c0]at hF;have hcl:(e.bp==1||(e.bp==2||e.bp==5))=true->∀x,pfn rE 138 [.isl false x 2<|(e.Path.l.take 1).map Pt.enc]=some (.isl false false 2<|(e.Path.l.take 1).map Pt.enc):=λhk x=>Zqu _ _ (by have:=hpos c0 hk;rw[ZWS];omega)<|by rw[ZWS];omega
 have hp1:(e.bp==1||(e.bp==2||e.bp==5))=true->bounds none (some<|I 1) none e.Path.l.length=some (0,1,none):=λhk=>by
  have h1:=hpos c0 hk;have h2:Nat.ble 1 e.Path.l.length=true:=ZXC h1;simp[bounds,Vz,Wl,VA,numOf,VB,h2];rfl
 have hm:List.take 1 (e.Path.l.map Pt.enc)=(e.Path.l.take 1).map Pt.enc:=ZYL.symm;cases k1:e.bp==1 with
 |true=>
  rw[k1]at hcl hp1;have hcl:=hcl rfl;have hp1:=hp1 rfl;simp only[go_sem,c70,c70L0,hF,k1,hp1,hm,hcl,ZWg,cond_false,cond_true,ZWj,if_true]
 |false=>
 cases k2:e.bp==2 with
 |true=>
  rw[k1,k2]at hcl hp1;have hcl:=hcl rfl;have hp1:=hp1 rfl;simp only[go_sem,c70,c70L0,hF,k1,k2,hp1,hm,hcl,ZWg,cond_false,cond_true,ZWj,ZWt,if_true]
 |false=>
 cases k5:e.bp==5 with
 |true=>
  rw[k1,k2,k5]at hcl hp1;have hcl:=hcl rfl;have hp1:=hp1 rfl;simp only[go_sem,c70,c70L0,hF,k1,k2,k5,hp1,hm,hcl,ZWg,cond_false,cond_true,ZWt,if_true]
 |false=>
 cases k6:e.bp==6 with
 |true=>simp only[go_sem,c70,c70L0,hF,k1,k2,k5,k6,ZWg,cond_false,cond_true,ZWj,ZWl,ZWs,ZWB,Pt.enc]
 |false=>
 cases k10:e.bp==10 with
 |true=>simp only[go_sem,c70,c70L0,hF,k1,k2,k5,k6,k10,ZWg,cond_false,cond_true,ZWt,ZWl,ZWs,ZWB,Pt.enc]
 |false=>
 cases k9:e.bp==9 with
 |true=>simp only[go_sem,c70,c70L0,hF,hL,k1,k2,k5,k6,k10,k9,ZWg,cond_false,cond_true,ZWl,hcP,htk,ZWd,ZWA,beq_self_eq_true]
 |false=>simp only[go_sem,c70,c70L0,hF,k1,k2,k5,k6,k10,k9,ZWg,cond_false,cond_true,ZWl,ZWB]
abbrev rqL(s:Sta)(e:Gt)(a m:Int):List AV:=[ldI s,I e.bp,I e.Day,I e.A,I e.B,I e.br,.str e.Id,.str e.bq,.str e.Text,.isl false e.Ids.ex 1<|e.Ids.l.map encS,.isl false e.bh.ex 3<|e.bh.l.map Nm.enc,
 I e.An.N,.str e.An.bk,I e.An.Num,I e.An.Den,I e.bf.X,I e.bf.Y,.isl false e.Path.ex 2<|e.Path.l.map Pt.enc,.isl false e.Lst.ex 7<|e.Lst.l.map Ent.enc,I a,I m]
abbrev rqI(s:Sta)(e:Gt)(a m:Int):AV:=.iptr false<|rqL s e a m
structure RqS(s:Sta)(e:Gt)(m:Int):Prop where
 c:ClS s
 ev:EvS e
 f:Q9 e=true
 m:0<=m/\m<=63
def Zp0(s:Sta)(e:Gt)(a m:Int):Int:=bif (e.bp==14&&a != 0)||(e.bp==13&&Zoq s e.B != m)then 18 else 0
def Zqw(s:Sta)(e:Gt)(a m:Int)(h:RqS s e m):pfn rE 32 [rqI s e a m]=some (I<|Zp0 s e a m):=by
 have hM:(e.bp==13)=true->pfn rE 26 [ldI s,I e.B]=some (I<|Zoq s e.B):=λhk=>by
  have hn:=ZcV h.f;rw[ZcW (k:=13)<|by simpa using hk]at hn
  have hn':K5 e.A e.B=true:=hn;unfold K5 ZD at hn';simp only[ZWe,decide_eq_true_eq]at hn';exact h.c.mst<|by omega
 have hcl:=Zow s;have hbl:=Zot s;rw[Z5 (f:=32) rfl rfl];unfold Zp0;cases c1:e.bp==14 with
 |true=>
  have c3:(e.bp==13)=false:=by
   rw[(by simpa using c1:e.bp=14)]
   rfl
  cases c2:a != 0 with
  |true=>simp only[go_sem,c32,c1,c2,c3,ZWf,ZWj,cond_true]
  |false=>simp only[go_sem,c32,c1,c2,c3,ZWf,ZWh,ZWl,cond_false]
 |false=>
  cases c3:e.bp==13 with
  |false=>simp only[go_sem,c32,c1,c3,ZWh,ZWl,cond_false]
  |true=>
   have hM:=hM c3;cases c5004:Zoq s e.B != m<;>simp only[go_sem,c32,c1,c3,c5004,hM,hcl,ZWf,ZWh,ZWl,cond_true,cond_false]
def Zp5(s:Sta)(e:Gt)(m:Int):Int:=bif e.bp==15&&!s.Ga.any (λx=>ZoG x&&Zoq s x.bg==m)then 18 else 0
def Zqx(s:Sta)(e:Gt)(a m:Int)(h:RqS s e m)(x:Gm)(hx:x∈s.Ga):pfn rE 67 [x.enc,.iptr false [rqI s e a m]]=some (.bool<|ZoG x&&Zoq s x.bg==m):=by
 have hT:=ZpM x;have hM:=h.c.mst (h.c.reg hx).1;have hcl:=Zow s;have hbl:=Zot s;simp only[Gm.enc,NL.enc]at hT;rw[Z5 (f:=67) rfl rfl];cases c:ZoG x with
 |false=>
  rw[c]at hT;simp only[go_sem,c67,Gm.enc,NL.enc,hT,ZWh]
 |true=>
  rw[c]at hT;simp only[go_sem,c67,Gm.enc,NL.enc,hT,hM,ZWf]
def ZpP(l:List Gm)(hl:l.length<=1000000)(p:Gm->Bool)(g:Nat)(cap:List AV)(hc:Z4 cap=true)(hp:∀x∈l,pfn rE g (x.enc::cap)=some (.bool<|p x)):pfn rE 68 [.isl false false 6<|l.map Gm.enc,.clo (.func g) [] cap]=some (.bool<|l.any p):=by
 have h:=WF (E:=rE) (f:=137) (sz:=6) (n:=some 6) (enc:=Gm.enc) (p:=p) (g:=g) (cap:=cap) rfl rfl hc l (by omega) (λx _=>x.el) hp false false
 rw[Z5 (f:=68) rfl rfl,<-Vg];unfold WG;simp only[go_sem,c68,h,hc]
def Zqy(s:Sta)(e:Gt)(a m:Int)(h:RqS s e m):pfn rE 34 [rqI s e a m]=some (I<|Zp5 s e m):=by
 have hcl:=Zow s;have hbl:=Zot s;have hc:Z4 [.iptr false [rqI s e a m]]=true:=by simp only[go_sem]
 have hA:=ZpP s.Ga (by have:=h.c.E.sizes.regions;omega) (λx=>ZoG x&&Zoq s x.bg==m) 67 [.iptr false [rqI s e a m]] hc<|Zqx s e a m h
 rw[Z5 (f:=34) rfl rfl];unfold Zp5;cases c1:e.bp==15 with
 |false=>simp only[go_sem,c34,c1,ZWh,cond_false]
 |true=>
  generalize s.Ga.any (λx=>ZoG x&&Zoq s x.bg==m)=b at*
  cases b<;>simp only[go_sem,c34,c1,hA,ZWf,ZWg,ZWi,cond_true,cond_false]
def plE(s:Sta)(m:Int):List Pt->Int
 |[]=>0
 |p::r=>bif !(ZoH s p).any (λx=>m==x)then 18 else bif (ZoH s p).any (λc=>c != m&&!ZoW s m c)then 19 else plE s m r
def Zp1(s:Sta)(e:Gt)(a m:Int):Int:=
 bif e.bp==1 then bif s.Ga.any (λx=>Z3 x.Id e.Id)then 0 else bif e.A==1&&a==0 then 18 else bif e.A==1 then 0 else plE s m<|ZoM e
 else plE s m<|ZoM e
def ZpQ{s:Sta}(h:ClS s):∀p∈s.Wk,pfn rE 26 [ldI s,I p.a]=some (I<|Zoq s p.a)/\pfn rE 26 [ldI s,I p.b]=some (I<|Zoq s p.b):=by
 intro p hp;have hpa:=h.prop.pa;unfold WK at hpa;simp only[ZWe]at hpa;have:=Zpo<|ZWw.1 hpa.2.1 p hp;exact⟨h.mst this.1.1,h.mst this.2.1⟩
def Zqz(l:List Int)(hl:l.length<=1000000)(p:Int->Bool)(g:Nat)(cap:List AV)(hc:Z4 cap=true)(hp:∀x∈l,pfn rE g (I x::cap)=some (.bool<|p x)):pfn rE 72 [.isl false false 1<|l.map I,.clo (.func g) [] cap]=some (.bool<|l.any p):=by
 have h:=WF (E:=rE) (f:=140) (sz:=1) (n:=none) (enc:=I) (p:=p) (g:=g) (cap:=cap) rfl rfl hc l (by omega) (λx _=>⟨rfl,rfl⟩) hp false false
 rw[Z5 (f:=72) rfl rfl,<-Vg];unfold WG;simp only[go_sem,c72,h,hc]
def ZqA(s:Sta)(e:Gt)(a m:Int)(x:Gm):pfn rE 69 [x.enc,.iptr false [rqI s e a m]]=some (.bool<|Z3 x.Id e.Id):=by
 have hcl:=Zow s;have hbl:=Zot s;rw[Z5 (f:=69) rfl rfl];simp only[go_sem,c69,Gm.enc,NL.enc]
def ZqB(s:Sta)(e:Gt)(a m:Int)(h:RqS s e m)(c:Int):pfn rE 73 [I c,.iptr false [rqI s e a m]]=some (.bool<|c != m&&!ZoW s m c):=by
 have hP:=ZpL s m c h.c.E.sizes.rulings<|ZpQ h.c;have hcl:=Zow s;have hbl:=Zot s;rw[Z5 (f:=73) rfl rfl];cases c1:c != m with
 |false=>simp only[go_sem,c73,c1,ZWh]
 |true=>simp only[go_sem,c73,c1,hP,hcl,ZWf]
def ZqC(s:Sta)(h:ClS s)(p:Pt):(ZoH s p).length<=100000:=by
 unfold ZoH;rw[(Zp3 _).length_eq];have G:∀(l:List Gm)(K:List Int),(l.foldl (ZoF s p) K).length<=K.length+l.length:=by
  intro l;induction l with
  |nil=>intro K;exact ZWo _
  |cons x r ih=>
   intro K;rw[ZXb,ZWJ];refine ZWW (ih _) ?_;have:(ZoF s p K x).length<=K.length+1:=by
    unfold ZoF Qi;cases ZoG x&&decide (ZoY x.Ring.l p>=0)with
    |false=>exact ZXF _
    |true=>
     rw[cond_true];cases K.any (Vm<|Zoq s x.bg)with
     |true=>exact ZXF _
     |false=>rw[cond_false,ZWx];exact ZWo _
   omega
 have:=G s.Ga [];have hl:=h.E.sizes.regions;unfold Zoy;simp only[ZWN]at this;omega
def ZpR(s:Sta)(e:Gt)(a m:Int)(h:RqS s e m)(l:List Pt)(hl:l.length<=1000):∀(k i:Nat),i+k=l.length->
 ∃fr',(plE s m (l.drop i)=0->Zg rE [1,50,51,52] c35L0b [(1,.iptr false [rqI s e a m]),(50,.isl false false 2<|l.map Pt.enc),(51,I l.length),(52,I i)] []=some (.exit 1,fr',[]))/\
  (plE s m (l.drop i)≠0->Zg rE [1,50,51,52] c35L0b [(1,.iptr false [rqI s e a m]),(50,.isl false false 2<|l.map Pt.enc),(51,I l.length),(52,I i)] []=some (.ret,fr',[])/\get fr' 2=I (plE s m<|l.drop i))
 |0,i,hi=>by
  have hd:l.drop i=[]:=ZYF<|by omega
  have hi':i=l.length:=by omega
  refine⟨[(1,.iptr false [rqI s e a m]),(2,.bot),(50,.isl false false 2<|l.map Pt.enc),(51,I l.length),(52,I i)],λ_=>?_,λhc=>?_⟩
  .rw[hi'];refine Q7 rfl ?_ (by simp)
   simp only[go_sem,c35L0b,ZG]
  .rw[hd]at hc;exact absurd rfl hc
 |k+1,i,hi=>by
  obtain⟨x,hx⟩:∃x,l[i]?=some x:=⟨_,ZWq<|by omega⟩
  have hg:=Z6 (f:=Pt.enc) hx;have hi':=Zh<|Z7 hx;have hwr:=Zx (n:=i)<|by omega
  have hd:l.drop i=x::l.drop (i+1):=by
   rw[ZXo<|Z7 hx];congr 1;have:=ZWq<|Z7 hx;rw[hx]at this;exact(Option.some.inj this).symm
  have hcl:=Zow s;have hbl:=Zot s;have hc:Z4 [.iptr false [rqI s e a m]]=true:=by simp only[go_sem]
  have hC:=ZpO s h.c x;have hlen:=ZqC s h.c x;have hI:=DR (ZoH s x) false m<|by omega
  have hA:=Zqz (ZoH s x) (by omega) (λc=>c != m&&!ZoW s m c) 73 [.iptr false [rqI s e a m]] hc<|λc _=>ZqB s e a m h c
  rw[hd];unfold plE;cases c1:(ZoH s x).any (λy=>m==y)with
  |false=>
   rw[c1]at hI;refine⟨[(1,.iptr false [rqI s e a m]),(2,I 18),(50,.isl false false 2<|l.map Pt.enc),(51,I l.length),(52,I i)],λhq=>?_,λ_=>⟨?_,by simp only[go_sem,ZWi,cond_true]⟩⟩
   .exact absurd (show(18:Int)=0 from hq)<|by decide
   .refine Q7 rfl ?_ (by simp)
    simp only[go_sem,c35L0b,hg,hi',Pt.enc,hC,hI]
  |true=>
  rw[c1]at hI;cases c2:(ZoH s x).any (λc=>c != m&&!ZoW s m c)with
  |true=>
   rw[c2]at hA;refine⟨[(1,.iptr false [rqI s e a m]),(2,I 19),(50,.isl false false 2<|l.map Pt.enc),(51,I l.length),(52,I i)],λhq=>?_,λ_=>⟨?_,by simp only[go_sem,ZWg,cond_false,cond_true]⟩⟩
   .exact absurd (show(19:Int)=0 from hq)<|by decide
   .refine Q7 rfl ?_ (by simp)
    simp only[go_sem,c35L0b,hg,hi',Pt.enc,hC,hI,hA]
  |false=>
  rw[c2]at hA;obtain⟨fr',h1,h2⟩:=ZpR s e a m h l hl k (i+1)<|by omega
  have hstep:Zb rE c35L0b [(1,.iptr false [rqI s e a m]),(50,.isl false false 2<|l.map Pt.enc),(51,I l.length),(52,I i)] []=some (.normal,[(1,.iptr false [rqI s e a m]),(2,.bot),(50,.isl false false 2<|l.map Pt.enc),(51,I l.length),(52,I (i+1:Nat))],[]):=by
   simp only[go_sem,c35L0b,hg,hi',hwr,Pt.enc,hC,hI,hA]
  rw[Yt rfl hstep];exact⟨fr',h1,h2⟩
def ZqD(s:Sta)(e:Gt)(a m:Int)(h:RqS s e m):pfn rE 35 [rqI s e a m]=some (I<|Zp1 s e a m):=by
 have hcl:=Zow s;have hbl:=Zot s;have hc:Z4 [.iptr false [rqI s e a m]]=true:=by simp only[go_sem]
 have hA:=ZpP s.Ga (by have:=h.c.E.sizes.regions;omega) (λx=>Z3 x.Id e.Id) 69 [.iptr false [rqI s e a m]] hc<|λx _=>ZqA s e a m x
 have hP:=Zqv e h.ev;have hlen:(ZoM e).length<=1000:=by
  unfold ZoM;have h1:=h.ev.lst;cases Q9 e with
  |false=>exact ZWy _
  |true=>
  cases e.bp==1||(e.bp==2||e.bp==5)with
  |true=>show(e.Path.l.take 1).length<=1000;rw[ZWS];omega
  |false=>
  cases e.bp==6||e.bp==10 with
  |true=>show 1<=1000;omega
  |false=>
  cases e.bp==9 with
  |true=>show(e.Lst.l.map (·.bf)).length<=1000;rw[ZWd];omega
  |false=>exact ZWy _
 have L:=ZpR s e a m h (ZoM e) hlen (ZoM e).length 0<|by omega
 rw[ZWA]at L;obtain⟨fr',l1,l2⟩:=L;simp only[evA]at hP;rw[Z5 (f:=35) rfl rfl];unfold Zp1;have z0:((0:Nat):Int)=0:=rfl;rw[z0]at l1 l2;by_cases hz:plE s m (ZoM e)=0
 .have l1:=l1 hz;rw[hz];cases k1:e.bp==1 with
  |false=>simp only[go_sem,c35,c35L0,k1,hP,l1,cond_false,ZWd]
  |true=>
   cases k2:s.Ga.any (λx=>Z3 x.Id e.Id)with
   |true=>
    rw[k2]at hA;simp only[go_sem,c35,c35L0,k1,hA,cond_true]
   |false=>
   rw[k2]at hA;cases k3:e.A==1 with
   |false=>simp only[go_sem,c35,c35L0,k1,k3,hA,hP,l1,cond_true,cond_false,ZWh,ZWd]
   |true=>cases k4:a==0<;>simp only[go_sem,c35,c35L0,k1,k3,k4,hA,cond_true,cond_false,ZWf]
 .obtain⟨l2,l3⟩:=l2 hz;cases k1:e.bp==1 with
  |false=>simp only[go_sem,c35,c35L0,k1,hP,l2,l3,cond_false,ZWd]
  |true=>
   cases k2:s.Ga.any (λx=>Z3 x.Id e.Id)with
   |true=>
    rw[k2]at hA;simp only[go_sem,c35,c35L0,k1,hA,cond_true]
   |false=>
   rw[k2]at hA;cases k3:e.A==1 with
   |false=>simp only[go_sem,c35,c35L0,k1,k3,hA,hP,l2,l3,cond_true,cond_false,ZWh,ZWd]
   |true=>cases k4:a==0<;>simp only[go_sem,c35,c35L0,k1,k3,k4,hA,cond_true,cond_false,ZWf]
def ZU(s:Str):Bool:=!decide ((s.size:Int)>100)
def Vv(bw ex:Bool)(l:List Str)(hl:l.length<9223372036854775807):pfn rE 43 [.isl bw ex 1<|l.map encS]=some (.bool<|l.all ZU):=by
 have L:=Uf (E:=rE) (live:=[0,3]) (b:=c43L0b) (h:=[]) l (λ_ x=>ZU x) (λi=>[(0,.isl bw ex 1<|l.map encS),(3,I i)]) 0 (λfr=>get fr 2=.bool false) (λi=>rfl)
  (λi x hx hP=>by
   have hg:=Z6 (f:=encS) hx;have hi:=Zh<|Z7 hx;have hw:=Zx (n:=i) (by have:=Z7 hx;omega)
   have hP':decide ((x.size:Int)>100)=false:=by simpa[ZU]using hP
   refine⟨_,by simp only[go_sem,c43L0b,hg,hi,hw,hP',encS];rfl,?_⟩
   simp only[go_sem])
  (λi x hx hP=>by
   have hg:=Z6 (f:=encS) hx;have hi:=Zh<|Z7 hx;have hP':decide ((x.size:Int)>100)=true:=by simpa[ZU]using hP
   refine⟨_,by simp only[go_sem,c43L0b,hg,hi,hP',encS];rfl,?_⟩
   simp only[go_sem])
  (⟨_,by simp only[go_sem,c43L0b,ZG];rfl⟩)
 rw[Z5 (f:=43) rfl rfl];rw[QE]at L;obtain⟨fr',h1,h2⟩:=L;have h1':Zg rE [0,3] c43L0b [(0,.isl bw ex 1<|l.map encS),(3,.int .i64 0)] []=_:=h1;cases hc:l.all ZU with
 |true=>rw[hc]at h1';simp only[go_sem,c43,c43L0,h1']
 |false=>
  rw[hc]at h1';have h2':=h2 hc;simp only[go_sem,c43,c43L0,h1',h2',ZWn]
def JK(a:Str):pfn rE 43 [.isl false false 1 [.str a]]=some (.bool<|[a].all ZU):=Vv false false [a]<|by simp
def HG(a b:Str):pfn rE 43 [.isl false false 1 [.str a,.str b]]=some (.bool<|[a,b].all ZU):=Vv false false [a,b]<|by simp
def FP(a b c:Str):pfn rE 43 [.isl false false 1 [.str a,.str b,.str c]]=some (.bool<|[a,b,c].all ZU):=Vv false false [a,b,c]<|by simp
def Z4y(a b c d:Str):pfn rE 43 [.isl false false 1 [.str a,.str b,.str c,.str d]]=some (.bool<|[a,b,c,d].all ZU):=Vv false false [a,b,c,d]<|by simp
def FQ(a b c d e:Str):pfn rE 43 [.isl false false 1 [.str a,.str b,.str c,.str d,.str e]]=some (.bool<|[a,b,c,d,e].all ZU):=Vv false false [a,b,c,d,e]<|by simp
def HH{α:Type}{l:List α}{n i:Nat}{x:α}(h:(l.take n)[i]?=some x):l[i]?=some x/\i<n:=by
 have hi:=Z7 h;rw[ZWS]at hi;rw[ZY4<|by omega]at h
 exact⟨h,by omega⟩
def FR{α:Type}(l:List α):(decide ((((l.take 10).length:Nat):Int)<(l.length:Int))=true->decide ((((l.take 10).length:Nat):Int)<10)=false):=by
 intro h;have:=of_decide_eq_true h;rw[ZWS]at*;exact decide_eq_false<|by omega
def M1(x:Nm):Bool:=[x.Lang,x.Text].all ZU
def XQ(l:List Nm):Bool:=(l.take 10).all M1&&decide ((l.length:Int)<=10)
def UQ(ex:Bool)(l:List Nm):pfn rE 44 [.isl false ex 3<|l.map Nm.enc]=some (.bool<|XQ l):=by
 have L:=QT (E:=rE) (live:=[0,3]) (b:=c44L0b) (h:=[]) (l.take 10) (λ_ x=>M1 x) (λi=>[(0,.isl false ex 3<|l.map Nm.enc),(3,I i)]) 0 (λfr=>get fr 0=.isl false ex 3 (l.map Nm.enc)/\get fr 2=.bot) (λfr=>get fr 2=.bool false) (λi=>rfl)
  (λi x hx hP=>by
   obtain⟨hx',hi10⟩:=HH hx;have hg:=Z6 (f:=Nm.enc) hx';have hi:=Zh<|Z7 hx';have hw:=Zx (n:=i)<|by omega
   have h10:decide ((i:Int)<10)=true:=decide_eq_true<|by omega
   have hS:=HG x.Lang x.Text;have hP':[x.Lang,x.Text].all ZU=true:=hP;rw[hP']at hS;refine⟨_,by simp only[go_sem,c44L0b,hg,hi,hw,h10,Nm.enc,hS];rfl,?_⟩
   simp only[go_sem])
  (λi x hx hP=>by
   obtain⟨hx',hi10⟩:=HH hx;have hg:=Z6 (f:=Nm.enc) hx';have hi:=Zh<|Z7 hx';have h10:decide ((i:Int)<10)=true:=decide_eq_true<|by omega
   have hS:=HG x.Lang x.Text;have hP':[x.Lang,x.Text].all ZU=false:=hP;rw[hP']at hS;refine⟨_,by simp only[go_sem,c44L0b,hg,hi,h10,Nm.enc,hS];rfl,?_⟩
   simp only[go_sem])
  (by
   cases c:decide ((((l.take 10).length:Nat):Int)<(l.length:Int))with
   |true=>
    have h10:=FR l c;exact⟨_,by simp only[go_sem,c44L0b,c,h10];rfl,by simp only[go_sem],by simp only[go_sem]⟩
   |false=>exact⟨_,by simp only[go_sem,c44L0b,c];rfl,by simp only[go_sem],by simp only[go_sem]⟩)
 rw[Z5 (f:=44) rfl rfl];rw[QE]at L;obtain⟨fr',h1,h3,h2⟩:=L;have h1':Zg rE [0,3] c44L0b [(0,.isl false ex 3<|l.map Nm.enc),(3,.int .i64 0)] []=_:=h1;unfold XQ;cases hc:(l.take 10).all M1 with
 |true=>
  rw[hc]at h1';obtain⟨q0,q2⟩:=h3 hc;simp only[go_sem,c44,c44L0,h1',q0,q2]
 |false=>
  rw[hc]at h1';have h2':=h2 hc;simp only[go_sem,c44,c44L0,h1',h2',ZWn]
def M2(x:Ent):Bool:=[x.Id,x.An.bk].all ZU
def FT(l:List Ent):Bool:=(l.take 10).all M2
abbrev evI(e:Gt):AV:=.iptr false [I e.bp,I e.Day,I e.A,I e.B,I e.br,.str e.Id,.str e.bq,.str e.Text,.isl false e.Ids.ex 1<|e.Ids.l.map encS,.isl false e.bh.ex 3<|e.bh.l.map Nm.enc,
 I e.An.N,.str e.An.bk,I e.An.Num,I e.An.Den,I e.bf.X,I e.bf.Y,.isl false e.Path.ex 2<|e.Path.l.map Pt.enc,.isl false e.Lst.ex 7<|e.Lst.l.map Ent.enc]
def Xn(e:Gt):Bool:=
 FT e.Lst.l&&([e.Id,e.bq,e.Text,e.An.bk].all ZU&&(decide ((e.Ids.l.length:Int)<=10)&&(e.Ids.l.all ZU&&(XQ e.bh.l&&(decide ((e.Path.l.length:Int)<=12)&&decide ((e.Lst.l.length:Int)<=10))))))
def Z4z(e:Gt):pfn rE 18 [evA e]=some (.bool<|Xn e):=by
 have L:=QT (E:=rE) (live:=[1,3]) (b:=c18L0b) (h:=[]) (e.Lst.l.take 10) (λ_ x=>M2 x) (λi=>[(1,evI e),(3,I i)]) 0 (λfr=>get fr 1=evI e/\get fr 2=.bot) (λfr=>get fr 2=.bool false) (λi=>rfl)
  (λi x hx hP=>by
   obtain⟨hx',hi10⟩:=HH hx;have hg:=Z6 (f:=Ent.enc) hx';have hi:=Zh<|Z7 hx';have hw:=Zx (n:=i)<|by omega
   have h10:decide ((i:Int)<10)=true:=decide_eq_true<|by omega
   have hS:=HG x.Id x.An.bk;have hP':[x.Id,x.An.bk].all ZU=true:=hP;rw[hP']at hS;refine⟨_,by simp only[go_sem,c18L0b,hg,hi,hw,h10,Ent.enc,hS];rfl,?_⟩
   simp only[go_sem])
  (λi x hx hP=>by
   obtain⟨hx',hi10⟩:=HH hx;have hg:=Z6 (f:=Ent.enc) hx';have hi:=Zh<|Z7 hx';have h10:decide ((i:Int)<10)=true:=decide_eq_true<|by omega
   have hS:=HG x.Id x.An.bk;have hP':[x.Id,x.An.bk].all ZU=false:=hP;rw[hP']at hS;refine⟨_,by simp only[go_sem,c18L0b,hg,hi,h10,Ent.enc,hS];rfl,?_⟩
   simp only[go_sem])
  (by
   cases c:decide ((((e.Lst.l.take 10).length:Nat):Int)<(e.Lst.l.length:Int))with
   |true=>
    have h10:=FR e.Lst.l c;exact⟨_,by simp only[go_sem,c18L0b,c,h10];rfl,by simp only[go_sem],by simp only[go_sem]⟩
   |false=>exact⟨_,by simp only[go_sem,c18L0b,c];rfl,by simp only[go_sem],by simp only[go_sem]⟩)
 rw[Z5 (f:=18) rfl rfl];rw[QE]at L;obtain⟨fr',h1,h3,h2⟩:=L;have h1':Zg rE [1,3] c18L0b [(1,evI e),(3,.int .i64 0)] []=_:=h1;have hS:=Z4y e.Id e.bq e.Text e.An.bk;have hN:=UQ e.bh.ex e.bh.l;unfold Xn FT;cases hc:(e.Lst.l.take 10).all M2 with
 |false=>
  rw[hc]at h1';have h2':=h2 hc;simp only[evI]at h1';simp only[go_sem,c18,c18L0,h1',h2',ZWn]
 |true=>
  rw[hc]at h1';obtain⟨q1,q2⟩:=h3 hc;simp only[evI]at h1' q1;cases c1:[e.Id,e.bq,e.Text,e.An.bk].all ZU with
  |false=>rw[c1]at hS;simp only[go_sem,c18,c18L0,h1',q1,q2,hS]
  |true=>
  rw[c1]at hS;cases c2:decide ((e.Ids.l.length:Int)<=10)with
  |false=>simp only[go_sem,c18,c18L0,h1',q1,q2,hS,c2]
  |true=>
  have hI:=Vv false e.Ids.ex e.Ids.l (by have:=of_decide_eq_true c2;omega)
  cases c3:e.Ids.l.all ZU with
  |false=>rw[c3]at hI;simp only[go_sem,c18,c18L0,h1',q1,q2,hS,c2,hI]
  |true=>
  rw[c3]at hI;cases c5004:XQ e.bh.l with
  |false=>rw[c5004]at hN;simp only[go_sem,c18,c18L0,h1',q1,q2,hS,c2,hI,hN]
  |true=>
  rw[c5004]at hN;cases c5005:decide ((e.Path.l.length:Int)<=12)with
  |false=>simp only[go_sem,c18,c18L0,h1',q1,q2,hS,c2,hI,hN,c5005]
  |true=>simp only[go_sem,c18,c18L0,h1',q1,q2,hS,c2,hI,hN,c5005]
def JL(e:Gt)(h:Xn e=true):EvS e:=by
 simp only[Xn,ZWe]at h;obtain⟨_,h1,h2,h3,h4,h5,h6⟩:=h;have k2:=of_decide_eq_true h2;have k5:=of_decide_eq_true h5;have k6:=of_decide_eq_true h6;have k4:(e.bh.l.length:Int)<=10:=by
  simp only[XQ,ZWe]at h4;exact of_decide_eq_true h4.2
 simp[ZU]at h1;exact⟨by omega,by omega,by omega,by omega,by omega,by omega,by omega⟩
def kOf(ks:List Int)(e:Gt):Bool:=ks.any<|λx=>e.bp==x
def ZoJ(e:Gt)(ks:List Int)(ex:Bool)(hl:ks.length<=1000):pfn rE 133 [.isl false ex 1<|ks.map I,evI e]=some (.bool<|kOf ks e):=by
 have h:=DR ks ex e.bp<|by omega
 rw[Z5 (f:=133) rfl rfl];unfold kOf;simp only[go_sem,c133,h]
def Zor(s:Sta)(e:Gt):List Str:=
 (((e.Ids.l++bif kOf [9,12] e then [e.Id]else [])++bif kOf [7] e then [e.bq]else [])++bif kOf [8] e then e.Lst.l.map (·.Id)else [])++bif kOf [12] e then(s.Nk.filter<|λu=>Z3 u.Id e.Id).map (·.Gc)else []
def ZoQ(e:Gt)(x:Gm):Bool:=kOf [1,3,12] e&&Z3 x.Id e.Id
def ZoR(e:Gt)(x:Ev):Bool:=(kOf [3,4,8,12] e&&Z3 x.Id e.Id)||((kOf [4] e&&Z3 x.Id e.bq)||(kOf [6] e&&Z3 x.Id e.Text))
def ZoS(e:Gt)(x:Fa):Bool:=(kOf [11] e&&Z3 x.Id e.Id)||(kOf [6] e&&Z3 x.Id e.bq)
def ZoT(l:List Str)(x:Gc):Bool:=l.any<|λy=>Z3 x.Id y
def Zou(s:Sta)(m o:Int):Bool:=Zoq s o==m
def Zpb(s:Sta)(e:Gt)(m:Int):Bool:=
 s.Ga.all (λx=>!ZoQ e x||Zou s m x.bg)&&(s.Gr.all (λx=>!ZoR e x||Zou s m x.bg)&&(s.By.all (λx=>!ZoS e x||Zou s m x.bg)&&s.Bc.all (λx=>!ZoT (Zor s e) x||Zou s m x.bg)))
def Zp6(s:Sta)(e:Gt)(m:Int):Int:=bif Zpb s e m then 0 else 18
def ZoA(s:Sta)(e:Gt)(a m:Int):Fr:=[(1,.iptr false [rqI s e a m]),(2,.ptr 0 0 0 1),(12,.clo (.func 135) [] [.iptr false [ldI s],.ptr 1 0 0 1,evI e,.ptr 3 0 0 1])]
def thX(s:Sta)(e:Gt)(a m:Int)(n:Int)(st:LoopState)(ex:AExit)(l:List Str):Hp:=[.row 1 [I n],.row 1 [.clo (.func 133) [] [evI e]],.row 1<|l.map encS,.row 1 [.sl 2 l.length 0 l.length false],.loop st ex (ZoA s e a m) [13] c33R0a c33R0b]
abbrev thH(s:Sta)(e:Gt)(a m:Int):Hp:=thX s e a m 0 .ready .normal<|Zor s e
abbrev thD(s:Sta)(e:Gt)(a m:Int):Hp:=thX s e a m 18 .done .ret<|Zor s e
def ZoI(s:Sta)(e:Gt)(a m:Int):Zd 5 (frV<|ZoA s e a m)=true/\Zd 6 (frV<|ZoA s e a m)=true:=by
 have hbl:=Zot s;have hcl:=Zow s;have hc:Z4 [rqI s e a m,ldI s,evI e]=true:=by simp only[go_sem,hcl]
 have hb:=λn=>ZN (n:=n) _ hc
 simp only[Zd,ZWe]at hb;constructor
 .obtain⟨h1,h2,h3,_⟩:=hb 5;simp only[go_sem,ZoA,h1,h2,h3,hbl]
 .obtain⟨h1,h2,h3,_⟩:=hb 6;simp only[go_sem,ZoA,h1,h2,h3,hbl]
def Zpc(s:Sta)(e:Gt)(a m:Int)(o:Int)(q:AObj)(hq:∀n,Zj n q=true)(hM:pfn rE 26 [ldI s,I o]=some (I<|Zoq s o)):
 U4 rE 4 [I o] (thH s e a m++[q])=some (bif Zou s m o then(.bool true,thH s e a m++[q])else(.bool false,thD s e a m++[q])):=by
 have hcl:=Zow s;have hbl:=Zot s;obtain⟨hf4,hf5⟩:=ZoI s e a m;unfold Zou;have hS:∀n,Zd n ((Zor s e).map encS)=true:=λn=>ZN _<|Zw (λt=>rfl) _
 cases c:Zoq s o==m with
 |true=>
  have h:=Ss (E:=rE) (b:=4) (args:=[I o]) (h:=thH s e a m++[q]) (fr:=ZoA s e a m) (ps:=[13]) (assign:=c33R0a) (body:=c33R0b)
   (fr0:=(13,I o)::ZoA s e a m) rfl rfl (by simp only[go_sem,c33R0a,thX,ZoA,ZWK,ZWQ]<;>rfl) (by rfl)
   (e:=.normal) (fr2:=[]) (h2:=thX s e a m 0 .busy .normal (Zor s e)++[q])
   (by
    have hne:(Zoq s o != m)=false:=by rw[bne,c];rfl
    simp only[go_sem,c33R0b,thX,ZoA,ZWK,ZWQ,hM,hne,hcl,hbl,hq,hS]<;>rfl) (by rfl)
  exact h
 |false=>
  have h:=Ss (E:=rE) (b:=4) (args:=[I o]) (h:=thH s e a m++[q]) (fr:=ZoA s e a m) (ps:=[13]) (assign:=c33R0a) (body:=c33R0b)
   (fr0:=(13,I o)::ZoA s e a m) rfl rfl (by simp only[go_sem,c33R0a,thX,ZoA,ZWK,ZWQ]<;>rfl) (by rfl)
   (e:=.ret) (fr2:=[]) (h2:=thX s e a m 18 .busy .normal (Zor s e)++[q])
   (by
    have hne:(Zoq s o != m)=true:=by rw[bne,c];rfl
    simp only[go_sem,c33R0b,thX,ZoA,ZWK,ZWQ,hM,hne,hcl,hbl,hq,hS]<;>rfl) (by rfl)
  exact h
def ZpS(s:Sta)(e:Gt)(a m:Int)(h:RqS s e m)(i:Nat)(x:Gm)(hx:s.Ga[i]?=some x)(hl:s.Ga.length<=1000)(ho:0<=x.bg):
 Zb rE c135L0b [(0,.yld 4),(1,.iptr false [ldI s]),(2,.ptr 1 0 0 1),(3,evI e),(4,.ptr 3 0 0 1),(20,.isl false false 6<|s.Ga.map Gm.enc),(21,I s.Ga.length),(22,I i)] (thH s e a m)=bif !ZoQ e x||Zou s m x.bg then some (.normal,[(0,.yld 4),(1,.iptr false [ldI s]),(2,.ptr 1 0 0 1),(3,evI e),(4,.ptr 3 0 0 1),(20,.isl false false 6<|s.Ga.map Gm.enc),(21,I s.Ga.length),(22,I (i+1:Nat))],thH s e a m)else some (.ret,[(0,.yld 4),(1,.iptr false [ldI s]),(2,.ptr 1 0 0 1),(3,evI e),(4,.ptr 3 0 0 1),(20,.isl false false 6<|s.Ga.map Gm.enc),(21,I s.Ga.length),(22,I i)],thD s e a m):=by
 have hg:=Z6 (f:=Gm.enc) hx;have hi':=Zh<|Z7 hx;have hwr:=Zx (n:=i) (by have:=Z7 hx;omega)
 have hcl:=Zow s;have hbl:=Zot s;obtain⟨hf4,hf5⟩:=ZoI s e a m;have hS:∀n,Zd n ((Zor s e).map encS)=true:=λn=>ZN _<|Zw (λt=>rfl) _
 have hq:∀n,Zj n (.row 6 [x.enc])=true:=λn=>ZN (n:=n) [x.enc]<|Zw (f:=Gm.enc) (λt=>rfl) [x]
 have hy:=Zpc s e a m x.bg (.row 6 [x.enc]) hq<|h.c.mst ho;simp only[thX,ZWK,ZWQ,Gm.enc,NL.enc]at hy;simp only[Gm.enc,NL.enc]at hq;have hk0:=ZoJ e [1,3,12] false<|by decide
 simp only[ZWs,ZWB]at hk0;unfold ZoQ;cases c1:kOf [1,3,12] e with
 |false=>
  rw[c1]at hk0;simp only[go_sem,c135L0b,thX,S3,hg,hi',hwr,hcl,hbl,hf4,hf5,hq,hS,hy,Gm.enc,NL.enc,ZWg,ZWi,ZWl,ZWj,ZWp,ZWt,ZWf,ZWh,cond_true,cond_false,hk0]
 |true=>
 rw[c1]at hk0;cases c2:Z3 x.Id e.Id with
 |false=>simp only[go_sem,c135L0b,thX,S3,hg,hi',hwr,hcl,hbl,hf4,hf5,hq,hS,hy,Gm.enc,NL.enc,ZWg,ZWi,ZWl,ZWj,ZWp,ZWt,ZWf,ZWh,cond_true,cond_false,hk0,c2]
 |true=>cases c5009:Zou s m x.bg<;>rw[c5009]at hy<;>simp only[cond_true,cond_false]at hy<;>simp only[go_sem,c135L0b,thX,S3,hg,hi',hwr,hcl,hbl,hf4,hf5,hq,hS,hy,Gm.enc,NL.enc,ZWg,ZWi,ZWl,ZWj,ZWp,ZWt,ZWf,ZWh,cond_true,cond_false,hk0,c2]
set_option maxHeartbeats 4000000 in
def ZpT(s:Sta)(e:Gt)(a m:Int)(h:RqS s e m)(i:Nat)(x:Ev)(hx:s.Gr[i]?=some x)(hl:s.Gr.length<=1000)(ho:0<=x.bg):
 Zb rE c135L1b [(0,.yld 4),(1,.iptr false [ldI s]),(2,.ptr 1 0 0 1),(3,evI e),(4,.ptr 3 0 0 1),(48,.isl false false 5<|s.Gr.map Ev.enc),(49,I s.Gr.length),(50,I i)] (thH s e a m)=bif !ZoR e x||Zou s m x.bg then some (.normal,[(0,.yld 4),(1,.iptr false [ldI s]),(2,.ptr 1 0 0 1),(3,evI e),(4,.ptr 3 0 0 1),(48,.isl false false 5<|s.Gr.map Ev.enc),(49,I s.Gr.length),(50,I (i+1:Nat))],thH s e a m)else some (.ret,[(0,.yld 4),(1,.iptr false [ldI s]),(2,.ptr 1 0 0 1),(3,evI e),(4,.ptr 3 0 0 1),(48,.isl false false 5<|s.Gr.map Ev.enc),(49,I s.Gr.length),(50,I i)],thD s e a m):=by
 have hg:=Z6 (f:=Ev.enc) hx;have hi':=Zh<|Z7 hx;have hwr:=Zx (n:=i) (by have:=Z7 hx;omega)
 have hcl:=Zow s;have hbl:=Zot s;obtain⟨hf4,hf5⟩:=ZoI s e a m;have hS:∀n,Zd n ((Zor s e).map encS)=true:=λn=>ZN _<|Zw (λt=>rfl) _
 have hq:∀n,Zj n (.row 5 [x.enc])=true:=λn=>ZN (n:=n) [x.enc]<|Zw (f:=Ev.enc) (λt=>rfl) [x]
 have hy:=Zpc s e a m x.bg (.row 5 [x.enc]) hq<|h.c.mst ho;simp only[thX,ZWK,ZWQ,Ev.enc,NL.enc]at hy;simp only[Ev.enc,NL.enc]at hq;have hk0:=ZoJ e [3,4,8,12] false<|by decide
 simp only[ZWs,ZWB]at hk0;have hk1:=ZoJ e [4] false<|by decide
 simp only[ZWs,ZWB]at hk1;have hk2:=ZoJ e [6] false<|by decide
 simp only[ZWs,ZWB]at hk2;unfold ZoR;cases c1:kOf [3,4,8,12] e<;>cases c5004:kOf [4] e<;>cases c5006:kOf [6] e<;>rw[c1]at hk0<;>rw[c5004]at hk1<;>rw[c5006]at hk2<;>cases d1:Z3 x.Id e.Id<;>cases d2:Z3 x.Id e.bq<;>cases d3:Z3 x.Id e.Text<;>
  (first|(simp only[go_sem,c135L1b,thX,S3,hg,hi',hwr,hcl,hbl,hf4,hf5,hq,hS,hy,Ev.enc,NL.enc,ZWg,ZWi,ZWl,ZWj,ZWp,ZWt,ZWf,ZWh,cond_true,cond_false,hk0,hk1,hk2,d1,d2,d3];done)|(cases c5009:Zou s m x.bg<;>rw[c5009]at hy<;>simp only[cond_true,cond_false]at hy<;>simp only[go_sem,c135L1b,thX,S3,hg,hi',hwr,hcl,hbl,hf4,hf5,hq,hS,hy,Ev.enc,NL.enc,ZWg,ZWi,ZWl,ZWj,ZWp,ZWt,ZWf,ZWh,cond_true,cond_false,hk0,hk1,hk2,d1,d2,d3]))
set_option maxHeartbeats 1000000 in
def ZpU(s:Sta)(e:Gt)(a m:Int)(h:RqS s e m)(i:Nat)(x:Fa)(hx:s.By[i]?=some x)(hl:s.By.length<=1000)(ho:0<=x.bg):
 Zb rE c135L2b [(0,.yld 4),(1,.iptr false [ldI s]),(2,.ptr 1 0 0 1),(3,evI e),(4,.ptr 3 0 0 1),(102,.isl false false 4<|s.By.map Fa.enc),(103,I s.By.length),(104,I i)] (thH s e a m)=bif !ZoS e x||Zou s m x.bg then some (.normal,[(0,.yld 4),(1,.iptr false [ldI s]),(2,.ptr 1 0 0 1),(3,evI e),(4,.ptr 3 0 0 1),(102,.isl false false 4<|s.By.map Fa.enc),(103,I s.By.length),(104,I (i+1:Nat))],thH s e a m)else some (.ret,[(0,.yld 4),(1,.iptr false [ldI s]),(2,.ptr 1 0 0 1),(3,evI e),(4,.ptr 3 0 0 1),(102,.isl false false 4<|s.By.map Fa.enc),(103,I s.By.length),(104,I i)],thD s e a m):=by
 have hg:=Z6 (f:=Fa.enc) hx;have hi':=Zh<|Z7 hx;have hwr:=Zx (n:=i) (by have:=Z7 hx;omega)
 have hcl:=Zow s;have hbl:=Zot s;obtain⟨hf4,hf5⟩:=ZoI s e a m;have hS:∀n,Zd n ((Zor s e).map encS)=true:=λn=>ZN _<|Zw (λt=>rfl) _
 have hq:∀n,Zj n (.row 4 [x.enc])=true:=λn=>ZN (n:=n) [x.enc]<|Zw (f:=Fa.enc) (λt=>rfl) [x]
 have hy:=Zpc s e a m x.bg (.row 4 [x.enc]) hq<|h.c.mst ho;simp only[thX,ZWK,ZWQ,Fa.enc,NL.enc]at hy;simp only[Fa.enc,NL.enc]at hq;have hk0:=ZoJ e [11] false<|by decide
 simp only[ZWs,ZWB]at hk0;have hk1:=ZoJ e [6] false<|by decide
 simp only[ZWs,ZWB]at hk1;unfold ZoS;cases c1:kOf [11] e<;>cases c5006:kOf [6] e<;>rw[c1]at hk0<;>rw[c5006]at hk1<;>cases d1:Z3 x.Id e.Id<;>cases d2:Z3 x.Id e.bq<;>
  (first|(simp only[go_sem,c135L2b,thX,S3,hg,hi',hwr,hcl,hbl,hf4,hf5,hq,hS,hy,Fa.enc,NL.enc,ZWg,ZWi,ZWl,ZWj,ZWp,ZWt,ZWf,ZWh,cond_true,cond_false,hk0,hk1,d1,d2];done)|(cases c5009:Zou s m x.bg<;>rw[c5009]at hy<;>simp only[cond_true,cond_false]at hy<;>simp only[go_sem,c135L2b,thX,S3,hg,hi',hwr,hcl,hbl,hf4,hf5,hq,hS,hy,Fa.enc,NL.enc,ZWg,ZWi,ZWl,ZWj,ZWp,ZWt,ZWf,ZWh,cond_true,cond_false,hk0,hk1,d1,d2]))
def ZpV(s:Sta)(e:Gt)(a m:Int)(h:RqS s e m)(i:Nat)(x:Gc)(hx:s.Bc[i]?=some x)(hl:s.Bc.length<=1000)(ho:0<=x.bg)(hd:(Zor s e).length<=100000):
 Zb rE c135L3b [(0,.yld 4),(4,.ptr 3 0 0 1),(142,.isl false false 16<|s.Bc.map Gc.enc),(143,I s.Bc.length),(144,I i)] (thH s e a m)=bif !ZoT (Zor s e) x||Zou s m x.bg then some (.normal,[(0,.yld 4),(4,.ptr 3 0 0 1),(142,.isl false false 16<|s.Bc.map Gc.enc),(143,I s.Bc.length),(144,I (i+1:Nat))],thH s e a m)else some (.ret,[(0,.yld 4),(4,.ptr 3 0 0 1),(142,.isl false false 16<|s.Bc.map Gc.enc),(143,I s.Bc.length),(144,I i)],thD s e a m):=by
 have hg:=Z6 (f:=Gc.enc) hx;have hi':=Zh<|Z7 hx;have hwr:=Zx (n:=i) (by have:=Z7 hx;omega)
 have hcl:=Zow s;have hbl:=Zot s;obtain⟨hf4,hf5⟩:=ZoI s e a m;have hS:∀n,Zd n ((Zor s e).map encS)=true:=λn=>ZN _<|Zw (λt=>rfl) _
 have hq:∀n,Zj n (.row 16 [x.enc])=true:=λn=>ZN (n:=n) [x.enc]<|Zw (f:=Gc.enc) (λt=>rfl) [x]
 have hy:=Zpc s e a m x.bg (.row 16 [x.enc]) hq<|h.c.mst ho;simp only[thX,ZWK,ZWQ,Gc.enc,NL.enc]at hy;simp only[Gc.enc,NL.enc]at hq;unfold ZoT;have hD:=Zqr (Zor s e) hd x.Id true false;have hcS:Z4 ((Zor s e).map encS)=true:=Zw (λt=>rfl) _
 have htk:List.take (Zor s e).length ((Zor s e).map encS)=(Zor s e).map encS:=ZWP<|by simp
 cases c1:(Zor s e).any (λy=>Z3 x.Id y)with
 |false=>
  rw[c1]at hD;simp only[go_sem,c135L3b,thX,S3,hg,hi',hwr,hcl,hbl,hf4,hf5,hq,hS,hy,Gc.enc,NL.enc,ZWg,ZWi,ZWl,ZWj,ZWp,ZWt,ZWf,ZWh,cond_true,cond_false,hD,hcS,htk,ZWd,ZWA,beq_self_eq_true]
 |true=>
  rw[c1]at hD;cases c5009:Zou s m x.bg<;>rw[c5009]at hy<;>simp only[cond_true,cond_false]at hy<;>simp only[go_sem,c135L3b,thX,S3,hg,hi',hwr,hcl,hbl,hf4,hf5,hq,hS,hy,Gc.enc,NL.enc,ZWg,ZWi,ZWl,ZWj,ZWp,ZWt,ZWf,ZWh,cond_true,cond_false,hD,hcS,htk,ZWd,ZWA,beq_self_eq_true]
def ZqE(s:Sta)(e:Gt)(a m:Int)(h:RqS s e m)(hl:s.Ga.length<=1000)(ho:∀x∈s.Ga,0<=x.bg):
 ∃fr' h',Zg rE [0,1,2,3,4,20,21,22] c135L0b [(0,.yld 4),(1,.iptr false [ldI s]),(2,.ptr 1 0 0 1),(3,evI e),(4,.ptr 3 0 0 1),(20,.isl false false 6<|s.Ga.map Gm.enc),(21,I s.Ga.length),(22,.int .i64 0)] (thH s e a m)=some (if s.Ga.all (λx=>!ZoQ e x||Zou s m x.bg)=true then .exit 0 else .ret,fr',h')/\
  (s.Ga.all (λx=>!ZoQ e x||Zou s m x.bg)=true->fr'=[(0,.yld 4),(1,.iptr false [ldI s]),(2,.ptr 1 0 0 1),(3,evI e),(4,.ptr 3 0 0 1),(20,.isl false false 6<|s.Ga.map Gm.enc),(21,I s.Ga.length),(22,I s.Ga.length)]/\h'=thH s e a m)/\(s.Ga.all (λx=>!ZoQ e x||Zou s m x.bg)=false->h'=thD s e a m):=by
 have hbl:=Zot s;have hcl:=Zow s;obtain⟨hf4,hf5⟩:=ZoI s e a m;have hS:∀n,Zd n ((Zor s e).map encS)=true:=λn=>ZN _<|Zw (λt=>rfl) _
 have L:=Jk (E:=rE) (live:=[0,1,2,3,4,20,21,22]) (b:=c135L0b) s.Ga (λ_ x=>!ZoQ e x||Zou s m x.bg) (λi=>[(0,.yld 4),(1,.iptr false [ldI s]),(2,.ptr 1 0 0 1),(3,evI e),(4,.ptr 3 0 0 1),(20,.isl false false 6<|s.Ga.map Gm.enc),(21,I s.Ga.length),(22,I i)]) (λ_=>thH s e a m) 0
  (λfr h'=>fr=[(0,.yld 4),(1,.iptr false [ldI s]),(2,.ptr 1 0 0 1),(3,evI e),(4,.ptr 3 0 0 1),(20,.isl false false 6<|s.Ga.map Gm.enc),(21,I s.Ga.length),(22,I s.Ga.length)]/\h'=thH s e a m) (λ_ h'=>h'=thD s e a m) (λi=>rfl)
  (λi x hx hP=>by
   have:=ZpS s e a m h i x hx hl<|ho x<|ZWu hx;rw[hP,cond_true]at this;exact⟨_,this,rfl⟩)
  (λi x hx hP=>by
   have:=ZpS s e a m h i x hx hl<|ho x<|ZWu hx;rw[hP,cond_false]at this;exact⟨_,_,this,rfl⟩)
  ⟨[(0,.yld 4),(1,.iptr false [ldI s]),(2,.ptr 1 0 0 1),(3,evI e),(4,.ptr 3 0 0 1),(20,.isl false false 6<|s.Ga.map Gm.enc),(21,I s.Ga.length),(22,I s.Ga.length)],thH s e a m,by simp only[go_sem,c135L0b,thX,ZG,hf4,hS],rfl,rfl⟩
 rw[QE]at L;exact L
def ZqF(s:Sta)(e:Gt)(a m:Int)(h:RqS s e m)(hl:s.Gr.length<=1000)(ho:∀x∈s.Gr,0<=x.bg):
 ∃fr' h',Zg rE [0,1,2,3,4,48,49,50] c135L1b [(0,.yld 4),(1,.iptr false [ldI s]),(2,.ptr 1 0 0 1),(3,evI e),(4,.ptr 3 0 0 1),(48,.isl false false 5<|s.Gr.map Ev.enc),(49,I s.Gr.length),(50,.int .i64 0)] (thH s e a m)=some (if s.Gr.all (λx=>!ZoR e x||Zou s m x.bg)=true then .exit 2 else .ret,fr',h')/\
  (s.Gr.all (λx=>!ZoR e x||Zou s m x.bg)=true->fr'=[(0,.yld 4),(1,.iptr false [ldI s]),(2,.ptr 1 0 0 1),(3,evI e),(4,.ptr 3 0 0 1),(48,.isl false false 5<|s.Gr.map Ev.enc),(49,I s.Gr.length),(50,I s.Gr.length)]/\h'=thH s e a m)/\(s.Gr.all (λx=>!ZoR e x||Zou s m x.bg)=false->h'=thD s e a m):=by
 have hbl:=Zot s;have hcl:=Zow s;obtain⟨hf4,hf5⟩:=ZoI s e a m;have hS:∀n,Zd n ((Zor s e).map encS)=true:=λn=>ZN _<|Zw (λt=>rfl) _
 have L:=Jk (E:=rE) (live:=[0,1,2,3,4,48,49,50]) (b:=c135L1b) s.Gr (λ_ x=>!ZoR e x||Zou s m x.bg) (λi=>[(0,.yld 4),(1,.iptr false [ldI s]),(2,.ptr 1 0 0 1),(3,evI e),(4,.ptr 3 0 0 1),(48,.isl false false 5<|s.Gr.map Ev.enc),(49,I s.Gr.length),(50,I i)]) (λ_=>thH s e a m) 2
  (λfr h'=>fr=[(0,.yld 4),(1,.iptr false [ldI s]),(2,.ptr 1 0 0 1),(3,evI e),(4,.ptr 3 0 0 1),(48,.isl false false 5<|s.Gr.map Ev.enc),(49,I s.Gr.length),(50,I s.Gr.length)]/\h'=thH s e a m) (λ_ h'=>h'=thD s e a m) (λi=>rfl)
  (λi x hx hP=>by
   have:=ZpT s e a m h i x hx hl<|ho x<|ZWu hx;rw[hP,cond_true]at this;exact⟨_,this,rfl⟩)
  (λi x hx hP=>by
   have:=ZpT s e a m h i x hx hl<|ho x<|ZWu hx;rw[hP,cond_false]at this;exact⟨_,_,this,rfl⟩)
  ⟨[(0,.yld 4),(1,.iptr false [ldI s]),(2,.ptr 1 0 0 1),(3,evI e),(4,.ptr 3 0 0 1),(48,.isl false false 5<|s.Gr.map Ev.enc),(49,I s.Gr.length),(50,I s.Gr.length)],thH s e a m,by simp only[go_sem,c135L1b,thX,ZG,hf4,hS],rfl,rfl⟩
 rw[QE]at L;exact L
def ZqG(s:Sta)(e:Gt)(a m:Int)(h:RqS s e m)(hl:s.By.length<=1000)(ho:∀x∈s.By,0<=x.bg):
 ∃fr' h',Zg rE [0,1,2,3,4,102,103,104] c135L2b [(0,.yld 4),(1,.iptr false [ldI s]),(2,.ptr 1 0 0 1),(3,evI e),(4,.ptr 3 0 0 1),(102,.isl false false 4<|s.By.map Fa.enc),(103,I s.By.length),(104,.int .i64 0)] (thH s e a m)=some (if s.By.all (λx=>!ZoS e x||Zou s m x.bg)=true then .exit 4 else .ret,fr',h')/\
  (s.By.all (λx=>!ZoS e x||Zou s m x.bg)=true->fr'=[(0,.yld 4),(1,.iptr false [ldI s]),(2,.ptr 1 0 0 1),(3,evI e),(4,.ptr 3 0 0 1),(102,.isl false false 4<|s.By.map Fa.enc),(103,I s.By.length),(104,I s.By.length)]/\h'=thH s e a m)/\(s.By.all (λx=>!ZoS e x||Zou s m x.bg)=false->h'=thD s e a m):=by
 have hbl:=Zot s;have hcl:=Zow s;obtain⟨hf4,hf5⟩:=ZoI s e a m;have hS:∀n,Zd n ((Zor s e).map encS)=true:=λn=>ZN _<|Zw (λt=>rfl) _
 have L:=Jk (E:=rE) (live:=[0,1,2,3,4,102,103,104]) (b:=c135L2b) s.By (λ_ x=>!ZoS e x||Zou s m x.bg) (λi=>[(0,.yld 4),(1,.iptr false [ldI s]),(2,.ptr 1 0 0 1),(3,evI e),(4,.ptr 3 0 0 1),(102,.isl false false 4<|s.By.map Fa.enc),(103,I s.By.length),(104,I i)]) (λ_=>thH s e a m) 4
  (λfr h'=>fr=[(0,.yld 4),(1,.iptr false [ldI s]),(2,.ptr 1 0 0 1),(3,evI e),(4,.ptr 3 0 0 1),(102,.isl false false 4<|s.By.map Fa.enc),(103,I s.By.length),(104,I s.By.length)]/\h'=thH s e a m) (λ_ h'=>h'=thD s e a m) (λi=>rfl)
  (λi x hx hP=>by
   have:=ZpU s e a m h i x hx hl<|ho x<|ZWu hx;rw[hP,cond_true]at this;exact⟨_,this,rfl⟩)
  (λi x hx hP=>by
   have:=ZpU s e a m h i x hx hl<|ho x<|ZWu hx;rw[hP,cond_false]at this;exact⟨_,_,this,rfl⟩)
  ⟨[(0,.yld 4),(1,.iptr false [ldI s]),(2,.ptr 1 0 0 1),(3,evI e),(4,.ptr 3 0 0 1),(102,.isl false false 4<|s.By.map Fa.enc),(103,I s.By.length),(104,I s.By.length)],thH s e a m,by simp only[go_sem,c135L2b,thX,ZG,hf4,hS],rfl,rfl⟩
 rw[QE]at L;exact L
def ZqH(s:Sta)(e:Gt)(a m:Int)(h:RqS s e m)(hl:s.Bc.length<=1000)(ho:∀x∈s.Bc,0<=x.bg)(hd:(Zor s e).length<=100000):
 ∃fr' h',Zg rE [0,4,142,143,144] c135L3b [(0,.yld 4),(4,.ptr 3 0 0 1),(142,.isl false false 16<|s.Bc.map Gc.enc),(143,I s.Bc.length),(144,.int .i64 0)] (thH s e a m)=some (if s.Bc.all (λx=>!ZoT (Zor s e) x||Zou s m x.bg)=true then .exit 6 else .ret,fr',h')/\
  (s.Bc.all (λx=>!ZoT (Zor s e) x||Zou s m x.bg)=true->fr'=[(0,.yld 4),(4,.ptr 3 0 0 1),(142,.isl false false 16<|s.Bc.map Gc.enc),(143,I s.Bc.length),(144,I s.Bc.length)]/\h'=thH s e a m)/\(s.Bc.all (λx=>!ZoT (Zor s e) x||Zou s m x.bg)=false->h'=thD s e a m):=by
 have hbl:=Zot s;have hcl:=Zow s;obtain⟨hf4,hf5⟩:=ZoI s e a m;have hS:∀n,Zd n ((Zor s e).map encS)=true:=λn=>ZN _<|Zw (λt=>rfl) _
 have L:=Jk (E:=rE) (live:=[0,4,142,143,144]) (b:=c135L3b) s.Bc (λ_ x=>!ZoT (Zor s e) x||Zou s m x.bg) (λi=>[(0,.yld 4),(4,.ptr 3 0 0 1),(142,.isl false false 16<|s.Bc.map Gc.enc),(143,I s.Bc.length),(144,I i)]) (λ_=>thH s e a m) 6
  (λfr h'=>fr=[(0,.yld 4),(4,.ptr 3 0 0 1),(142,.isl false false 16<|s.Bc.map Gc.enc),(143,I s.Bc.length),(144,I s.Bc.length)]/\h'=thH s e a m) (λ_ h'=>h'=thD s e a m) (λi=>rfl)
  (λi x hx hP=>by
   have:=ZpV s e a m h i x hx hl (ho x<|ZWu hx) hd;rw[hP,cond_true]at this;exact⟨_,this,rfl⟩)
  (λi x hx hP=>by
   have:=ZpV s e a m h i x hx hl (ho x<|ZWu hx) hd;rw[hP,cond_false]at this;exact⟨_,_,this,rfl⟩)
  ⟨[(0,.yld 4),(4,.ptr 3 0 0 1),(142,.isl false false 16<|s.Bc.map Gc.enc),(143,I s.Bc.length),(144,I s.Bc.length)],thH s e a m,by simp only[go_sem,c135L3b,thX,ZG,hf4,hS],rfl,rfl⟩
 rw[QE]at L;exact L
def owH(e:Gt)(l:List Str):Hp:=[.row 1 [I 0],.row 1 [.clo (.func 133) [] [evI e]],.row 1<|l.map encS,.row 1 [.sl 2 l.length 0 l.length false]]
def Zpd(e:Gt)(l:List Str)(x:Str)(hl:l.length<=1000000)(r:List AObj):appW (owH e l++r) true 1 16 (.sl 2 l.length 0 l.length false) (.isl false false 1 [.str x]) =
 some (.sl 2 (l.length+1) 0 (l.length+1) false,[.row 1 [I 0],.row 1 [.clo (.func 133) [] [evI e]],.row 1<|(l++[x]).map encS,.row 1 [.sl 2 l.length 0 l.length false]]++r):=by
 have:=XC (h:=owH e l++r) (fz:=true) (b:=2) (g:=l.length) (sz:=1) (bytes:=16) (es:=l.map encS) (bw:=false) (ex:=false) (ys:=[.str x]) (by
  show(bif (l.map encS).length==l.length then some (1,l.map encS)else none)=_
  rw[ZWd,beq_self_eq_true];rfl) rfl rfl (by decide) (by decide) (by simp;omega)
 rw[this,ZWC];rfl
def ZoU(e:Gt)(n:Nat):bel n (evI e)=true:=by
 have hc:Z4 [evI e]=true:=by simp only[go_sem]
 have:=ZN (n:=n) [evI e] hc;unfold Zd at this;rw[ZWe]at this;exact this.1
def ZqI(s:Sta)(e:Gt)(l:List Str)(hl:l.length+e.Lst.l.length<=100000):Zg rE [2,3,5,6,35,36,37] c66L0b [(2,.iptr false [ldI s]),(3,evI e),(5,.ptr 1 0 0 1),(6,.ptr 3 0 0 1),(35,.isl false e.Lst.ex 7<|e.Lst.l.map Ent.enc),(36,I e.Lst.l.length),(37,.int .i64 0)] (owH e l) =
 some (.exit 0,[(2,.iptr false [ldI s]),(3,evI e),(5,.ptr 1 0 0 1),(6,.ptr 3 0 0 1),(35,.isl false e.Lst.ex 7<|e.Lst.l.map Ent.enc),(36,I e.Lst.l.length),(37,I e.Lst.l.length)],owH e (l++e.Lst.l.map (·.Id))):=by
 have hbl:=Zot s;have hbe:=ZoU e;have hS:∀(D:List Str)n,Zd n (D.map encS)=true:=λD n=>ZN _<|Zw (λt=>rfl) _
 have L:=Y8 (E:=rE) (live:=[2,3,5,6,35,36,37]) (b:=c66L0b) e.Lst.l.length (λi=>[(2,.iptr false [ldI s]),(3,evI e),(5,.ptr 1 0 0 1),(6,.ptr 3 0 0 1),(35,.isl false e.Lst.ex 7<|e.Lst.l.map Ent.enc),(36,I e.Lst.l.length),(37,I i)])
  (λi=>owH e (l++(e.Lst.l.take i).map (·.Id))) (λi=>rfl)
  (λi hi=>by
   obtain⟨x,hx⟩:∃x,e.Lst.l[i]?=some x:=⟨_,ZWq hi⟩;have hg:=Z6 (f:=Ent.enc) hx;have hi':=Zh hi;have hwr:=Zx (n:=i)<|by omega
   have htk:l++(e.Lst.l.take<|i+1).map (·.Id)=(l++(e.Lst.l.take i).map (·.Id))++[x.Id]:=by
    rw[ZX9,hx,ZWC,ZWU];rfl
   have hlen:(l++(e.Lst.l.take i).map (·.Id)).length<=1000000:=by rw[ZWx,ZWd,ZWS];omega
   rw[htk];generalize l++(e.Lst.l.take i).map (·.Id)=D at*;have ha:=λq=>Zpd e D x.Id hlen [q]
   simp only[owH,ZWK,ZWQ]at ha;have hl1:(D++[x.Id]).length=D.length+1:=by simp
   refine⟨[(2,.iptr false [ldI s]),(3,evI e),(5,.ptr 1 0 0 1),(6,.ptr 3 0 0 1),(35,.isl false e.Lst.ex 7<|e.Lst.l.map Ent.enc),(36,I e.Lst.l.length),(37,I (i+1:Nat))],?_,rfl⟩;unfold owH;rw[hl1];simp only[go_sem,c66L0b,hg,hi',hwr,ha,Ent.enc,hbe,hS])
  (e:=.exit 0) (fr:=[(2,.iptr false [ldI s]),(3,evI e),(5,.ptr 1 0 0 1),(6,.ptr 3 0 0 1),(35,.isl false e.Lst.ex 7<|e.Lst.l.map Ent.enc),(36,I e.Lst.l.length),(37,I e.Lst.l.length)]) (h:=owH e (l++e.Lst.l.map (·.Id))) (by
   rw[ZWL];simp only[go_sem,c66L0b,owH,ZG,hbe,hS]) (by simp)
 have e0:l++(e.Lst.l.take 0).map (·.Id)=l:=by simp
 rw[e0]at L;exact L
def ZqJ(s:Sta)(e:Gt)(l:List Str)(hl:l.length+s.Nk.length<=100000):Zg rE [2,3,5,6,54,55,56] c66L1b [(2,.iptr false [ldI s]),(3,evI e),(5,.ptr 1 0 0 1),(6,.ptr 3 0 0 1),(54,.isl false false 6<|s.Nk.map bc.enc),(55,I s.Nk.length),(56,.int .i64 0)] (owH e l) =
 some (.exit 2,[(2,.iptr false [ldI s]),(3,evI e),(5,.ptr 1 0 0 1),(6,.ptr 3 0 0 1),(54,.isl false false 6<|s.Nk.map bc.enc),(55,I s.Nk.length),(56,I s.Nk.length)],owH e (l++(s.Nk.filter<|λu=>Z3 u.Id e.Id).map (·.Gc))):=by
 have hbl:=Zot s;have hbe:=ZoU e;have hS:∀(D:List Str)n,Zd n (D.map encS)=true:=λD n=>ZN _<|Zw (λt=>rfl) _
 have L:=Y8 (E:=rE) (live:=[2,3,5,6,54,55,56]) (b:=c66L1b) s.Nk.length (λi=>[(2,.iptr false [ldI s]),(3,evI e),(5,.ptr 1 0 0 1),(6,.ptr 3 0 0 1),(54,.isl false false 6<|s.Nk.map bc.enc),(55,I s.Nk.length),(56,I i)])
  (λi=>owH e (l++((s.Nk.take i).filter (λu=>Z3 u.Id e.Id)).map (·.Gc))) (λi=>rfl)
  (λi hi=>by
   obtain⟨x,hx⟩:∃x,s.Nk[i]?=some x:=⟨_,ZWq hi⟩;have hg:=Z6 (f:=bc.enc) hx;have hi':=Zh hi;have hwr:=Zx (n:=i)<|by omega
   have htk:l++((s.Nk.take<|i+1).filter (λu=>Z3 u.Id e.Id)).map (·.Gc)=(l++((s.Nk.take i).filter (λu=>Z3 u.Id e.Id)).map (·.Gc))++bif Z3 x.Id e.Id then [x.Gc]else []:=by
    rw[ZX9,hx,ZXG,ZWC,ZWU];congr 2;show([x].filter _).map _=_
    cases hc:Z3 x.Id e.Id<;>simp[hc]
   have hlen:(l++((s.Nk.take i).filter (λu=>Z3 u.Id e.Id)).map (·.Gc)).length<=1000000:=by
    rw[ZWx,ZWd];have:=ZXi (λu:bc=>Z3 u.Id e.Id)<|s.Nk.take i
    rw[ZWS]at this;omega
   rw[htk];generalize l++((s.Nk.take i).filter (λu=>Z3 u.Id e.Id)).map (·.Gc)=D at*
   refine⟨[(2,.iptr false [ldI s]),(3,evI e),(5,.ptr 1 0 0 1),(6,.ptr 3 0 0 1),(54,.isl false false 6<|s.Nk.map bc.enc),(55,I s.Nk.length),(56,I (i+1:Nat))],?_,rfl⟩;cases c:Z3 x.Id e.Id with
   |false=>
    rw[cond_false,ZWG];simp only[go_sem,c66L1b,owH,hg,hi',hwr,bc.enc,c,hbe,hS]
   |true=>
    rw[cond_true];have ha:=λq=>Zpd e D x.Gc hlen [q]
    simp only[owH,ZWK,ZWQ]at ha;have hl1:(D++[x.Gc]).length=D.length+1:=by simp
    unfold owH;rw[hl1];simp only[go_sem,c66L1b,hg,hi',hwr,ha,bc.enc,c,hbe,hS])
  (e:=.exit 2) (fr:=[(2,.iptr false [ldI s]),(3,evI e),(5,.ptr 1 0 0 1),(6,.ptr 3 0 0 1),(54,.isl false false 6<|s.Nk.map bc.enc),(55,I s.Nk.length),(56,I s.Nk.length)]) (h:=owH e (l++(s.Nk.filter<|λu=>Z3 u.Id e.Id).map (·.Gc))) (by
   rw[ZWL];simp only[go_sem,c66L1b,owH,ZG,hbe,hS]) (by simp)
 have e0:l++((s.Nk.take 0).filter (λu=>Z3 u.Id e.Id)).map (·.Gc)=l:=by simp
 rw[e0]at L;exact L
def ZqK(l:List Str)(ex:Bool)(hl:l.length<=1000000)(h:Hp):fnV rE 134 [.isl false ex 1<|l.map encS] h=some (.sl h.length l.length 0 l.length false,h++[.row 1<|l.map encS]):=by
 have hble:Nat.ble l.length 1000000=true:=ZXC hl;have hfit:(l.map encS).all (fits 1)=true:=by rw[ZXZ,ZWw];intro x _;rfl
 rw[V8 (s:=J9) rfl];simp only[J9,Q2,Qq,hfit,ZWd,hble,beq_self_eq_true,ZWj,ZWk,cond_true]
def c66_eq:c66=.seq s66p0 (.seq s66p1<|.seq s66p2<|.seq s66p3<|.seq s66p4<|.seq s66p5<|.seq s66p6<|.seq s66p7 .ret):=rfl
def owG(s:Sta)(e:Gt)(k:Nat)(b:Bool):Fr:=bif b then [(2,.iptr false [ldI s]),(3,evI e),(5,.ptr 1 0 0 1),(6,.ptr 3 0 0 1)]else [(2,.iptr false [ldI s]),(3,evI e),(5,.ptr 1 0 0 1),(6,.ptr 3 0 0 1),(k,.bool false)]
def ow1(e:Gt)(l:List Str):List Str:=l++bif kOf [9,12] e then [e.Id]else []
def ow2(e:Gt)(l:List Str):List Str:=l++bif kOf [7] e then [e.bq]else []
def ow3(e:Gt)(l:List Str):List Str:=l++bif kOf [8] e then e.Lst.l.map (·.Id)else []
def ow4(s:Sta)(e:Gt)(l:List Str):List Str:=l++bif kOf [12] e then(s.Nk.filter<|λu=>Z3 u.Id e.Id).map (·.Gc)else []
def ZpW(s:Sta)(e:Gt):Zor s e=ow4 s e (ow3 e<|ow2 e<|ow1 e e.Ids.l):=rfl
def ZqL(s:Sta)(e:Gt)(l:List Str)(b:Bool)(hl:l.length<=100000):Zb rE s66p3 (owG s e 0 b) (owH e l)=some (.normal,owG s e 17<|kOf [9,12] e,owH e<|ow1 e l):=by
 have hbl:=Zot s;have hbe:=ZoU e;have hS:∀(D:List Str)n,Zd n (D.map encS)=true:=λD n=>ZN _<|Zw (λt=>rfl) _
 have hk:=ZoJ e [9,12] false<|by decide
 simp only[ZWs,ZWB]at hk;unfold ow1;cases c:kOf [9,12] e with
 |false=>
  rw[c]at hk;rw[cond_false,ZWG];cases b<;>simp only[go_sem,s66p3,owG,cond_true,cond_false,owH,hk,hbe,hS]
 |true=>
  rw[c]at hk;rw[cond_true];have ha:=Zpd e l e.Id (by omega) []
  have hl1:(l++[e.Id]).length=l.length+1:=by simp
  unfold owH at ha⊢;rw[hl1];simp only[ZWG]at ha;cases b<;>simp only[go_sem,s66p3,owG,cond_true,cond_false,hk,ha,hbe,hS]
def ZqM(s:Sta)(e:Gt)(l:List Str)(b:Bool)(hl:l.length<=100000):Zb rE s66p4 (owG s e 17 b) (owH e l)=some (.normal,owG s e 25<|kOf [7] e,owH e<|ow2 e l):=by
 have hbl:=Zot s;have hbe:=ZoU e;have hS:∀(D:List Str)n,Zd n (D.map encS)=true:=λD n=>ZN _<|Zw (λt=>rfl) _
 have hk:=ZoJ e [7] false<|by decide
 simp only[ZWs,ZWB]at hk;unfold ow2;cases c:kOf [7] e with
 |false=>
  rw[c]at hk;rw[cond_false,ZWG];cases b<;>simp only[go_sem,s66p4,owG,cond_true,cond_false,owH,hk,hbe,hS]
 |true=>
  rw[c]at hk;rw[cond_true];have ha:=Zpd e l e.bq (by omega) []
  have hl1:(l++[e.bq]).length=l.length+1:=by simp
  unfold owH at ha⊢;rw[hl1];simp only[ZWG]at ha;cases b<;>simp only[go_sem,s66p4,owG,cond_true,cond_false,hk,ha,hbe,hS]
def ZqN(s:Sta)(e:Gt)(l:List Str)(b:Bool)(hl:l.length+e.Lst.l.length<=100000):Zb rE s66p5 (owG s e 25 b) (owH e l)=some (.normal,owG s e 33<|kOf [8] e,owH e<|ow3 e l):=by
 have hbl:=Zot s;have hbe:=ZoU e;have hS:∀(D:List Str)n,Zd n (D.map encS)=true:=λD n=>ZN _<|Zw (λt=>rfl) _
 have hE:∀n,Zd n (e.Lst.l.map Ent.enc)=true:=λn=>ZN _<|Zw (λt=>rfl) _
 have hk:=ZoJ e [8] false<|by decide
 simp only[ZWs,ZWB]at hk;unfold ow3;cases c:kOf [8] e with
 |false=>
  rw[c]at hk;rw[cond_false,ZWG];cases b<;>simp only[go_sem,s66p5,owG,cond_true,cond_false,owH,hk,hbe,hS]
 |true=>
  rw[c]at hk;rw[cond_true];have hL:=ZqI s e l hl;generalize l++e.Lst.l.map (·.Id)=D at*;unfold owH at hL⊢;cases b<;>simp only[go_sem,s66p5,c66L0,owG,cond_true,cond_false,hk,hL,hbe,hS]
def ZqO(s:Sta)(e:Gt)(l:List Str)(b:Bool)(hl:l.length+s.Nk.length<=100000):Zb rE s66p6 (owG s e 33 b) (owH e l)=some (.normal,owG s e 49<|kOf [12] e,owH e<|ow4 s e l):=by
 have hbl:=Zot s;have hbe:=ZoU e;have hS:∀(D:List Str)n,Zd n (D.map encS)=true:=λD n=>ZN _<|Zw (λt=>rfl) _
 have hE:∀n,Zd n (s.Nk.map bc.enc)=true:=λn=>ZN _<|Zw (λt=>rfl) _
 have hk:=ZoJ e [12] false<|by decide
 simp only[ZWs,ZWB]at hk;unfold ow4;cases c:kOf [12] e with
 |false=>
  rw[c]at hk;rw[cond_false,ZWG];cases b<;>simp only[go_sem,s66p6,owG,cond_true,cond_false,owH,hk,hbe,hS]
 |true=>
  rw[c]at hk;rw[cond_true];have hL:=ZqJ s e l hl;generalize l++(s.Nk.filter<|λu=>Z3 u.Id e.Id).map (·.Gc)=D at*
  unfold owH at hL⊢;cases b<;>simp only[go_sem,s66p6,c66L1,owG,cond_true,cond_false,hk,hL,hbe,hS]
def ZqP(s:Sta)(e:Gt)(hl:e.Ids.l.length<=1000000):Zb rE s66p2 [(2,.iptr false [ldI s]),(3,evI e),(5,.ptr 1 0 0 1)] [.row 1 [I 0],.row 1 [.clo (.func 133) [] [evI e]]]=some (.normal,owG s e 0 true,owH e e.Ids.l):=by
 have hC:=ZqK e.Ids.l e.Ids.ex hl [.row 1 [I 0],.row 1 [.clo (.func 133) [] [evI e]]];have hbl:=Zot s;have hbe:=ZoU e;have hS:∀(D:List Str)n,Zd n (D.map encS)=true:=λD n=>ZN _<|Zw (λt=>rfl) _
 unfold owH owG;simp only[go_sem,s66p2,cond_true,hC,hbe]
def ZpX(s:Sta)(e:Gt)(h1:e.Ids.l.length<=1000)(h2:e.Lst.l.length<=1000)(h3:s.Nk.length<=1000):(ow1 e e.Ids.l).length<=1001/\(ow2 e<|ow1 e e.Ids.l).length<=1002/\(ow3 e<|ow2 e<|ow1 e e.Ids.l).length<=2002/\(Zor s e).length<=3002:=by
 have a1:(ow1 e e.Ids.l).length<=1001:=by
  unfold ow1;cases kOf [9,12] e<;>simp<;>omega
 have a2:(ow2 e<|ow1 e e.Ids.l).length<=1002:=by
  unfold ow2;cases kOf [7] e<;>simp<;>omega
 have a3:(ow3 e<|ow2 e<|ow1 e e.Ids.l).length<=2002:=by
  rw[ow3];cases kOf [8] e<;>simp<;>omega
 refine⟨a1,a2,a3,?_⟩;rw[ZpW,ow4];have:=ZXi (λu:bc=>Z3 u.Id e.Id) s.Nk
 cases kOf [12] e<;>simp<;>omega
def ZqQ(s:Sta)(e:Gt)(h1:e.Ids.l.length<=1000)(h2:e.Lst.l.length<=1000)(h3:s.Nk.length<=1000):fnV rE 66 [ldI s,evA e] [.row 1 [I 0]]=some (.clo (.func 135) [] [.iptr false [ldI s],.ptr 1 0 0 1,evI e,.ptr 3 0 0 1],owH e<|Zor s e):=by
 obtain⟨a1,a2,a3,a4⟩:=ZpX s e h1 h2 h3;have q2:=ZqP s e<|by omega
 have q3:=ZqL s e e.Ids.l true<|by omega
 have q4:=ZqM s e (ow1 e e.Ids.l) (kOf [9,12] e)<|by omega
 have q5:=ZqN s e (ow2 e<|ow1 e e.Ids.l) (kOf [7] e)<|by omega
 have q6:=ZqO s e (ow3 e<|ow2 e<|ow1 e e.Ids.l) (kOf [8] e)<|by omega
 rw[<-ZpW]at q6;have hbl:=Zot s;have hcl:=Zow s;have hbe:=ZoU e;have hS:∀(D:List Str)n,Zd n (D.map encS)=true:=λD n=>ZN _<|Zw (λt=>rfl) _
 have q0:Zb rE s66p0 [(0,ldI s),(1,evA e)] [.row 1 [I 0]]=some (.normal,[(2,.iptr false [ldI s]),(3,evI e)],[.row 1 [I 0]]):=by
  simp only[go_sem,s66p0,hcl,hbe]
 have q1:Zb rE s66p1 [(2,.iptr false [ldI s]),(3,evI e)] [.row 1 [I 0]]=some (.normal,[(2,.iptr false [ldI s]),(3,evI e),(5,.ptr 1 0 0 1)],[.row 1 [I 0],.row 1 [.clo (.func 133) [] [evI e]]]):=by
  simp only[go_sem,s66p1,hbe]
 generalize Zor s e=D at*;have q7:∀b,∃fr,Zb rE s66p7 (owG s e 49 b) (owH e D)=some (.normal,fr,owH e D)/\get fr 4=.clo (.func 135) [] [.iptr false [ldI s],.ptr 1 0 0 1,evI e,.ptr 3 0 0 1]:=by
  intro b;cases b
  .exact⟨_,by simp only[go_sem,s66p7,owG,owH,cond_true,cond_false]<;>rfl,rfl⟩
  .exact⟨_,by simp only[go_sem,s66p7,owG,owH,cond_true,cond_false]<;>rfl,rfl⟩
 obtain⟨fr,q7,g7⟩:=q7<|kOf [12] e;rw[Q6 (f:=66) rfl rfl,c66_eq];simp only[go_sem,q0,q1,q2,q3,q4,q5,q6,q7,g7]
def ClS.str{s:Sta}(h:ClS s){x:Ev}(hx:x∈s.Gr):0<=x.bg/\x.bg<=63:=by
 have:=h.prop.st x hx;unfold Vp at this;simp only[ZWe]at this;exact Zpa this.1
def ClS.bld{s:Sta}(h:ClS s){x:Fa}(hx:x∈s.By):0<=x.bg/\x.bg<=63:=by
 have:=h.prop.bu x hx;unfold Vq at this;simp only[ZWe]at this;exact Zpa this.1
def ClS.dor{s:Sta}(h:ClS s){x:Gc}(hx:x∈s.Bc):0<=x.bg/\x.bg<=63:=by
 obtain⟨i,hi⟩:=ZYG hx;have:=h.prop.dr i x hi;unfold Vr at this;simp only[ZWe]at this;exact Zpa this.1
def ZqR(s:Sta)(e:Gt)(a m:Int)(h:RqS s e m):
 rf rE (.clo (.func 135) [] [.iptr false [ldI s],.ptr 1 0 0 1,evI e,.ptr 3 0 0 1]) [13] c33R0a c33R0b (ZoA s e a m) (owH e<|Zor s e)=bif Zpb s e m
  then some (.normal,ZoA s e a m,thX s e a m 0 .exhausted .normal<|Zor s e)else some (.ret,ZoA s e a m,thX s e a m 18 .exhausted .ret<|Zor s e):=by
 have hz:=h.c.E.sizes;have hd:=(ZpX s e (by have:=h.ev.ids;omega) (by have:=h.ev.lst;omega) hz.units).2.2.2
 obtain⟨f1,h1,L1,A1,B1⟩:=ZqE s e a m h hz.regions<|λx hx=>(h.c.reg hx).1
 obtain⟨f2,h2,L2,A2,B2⟩:=ZqF s e a m h hz.streets<|λx hx=>(h.c.str hx).1
 obtain⟨f3,h3,L3,A3,B3⟩:=ZqG s e a m h hz.buildings<|λx hx=>(h.c.bld hx).1
 obtain⟨f4,h4,L4,A4,B4⟩:=ZqH s e a m h hz.doors (λx hx=>(h.c.dor hx).1)<|by omega
 have hbl:=Zot s;have hcl:=Zow s;obtain⟨hf4,hf5⟩:=ZoI s e a m;have hS:∀n,Zd n ((Zor s e).map encS)=true:=λn=>ZN _<|Zw (λt=>rfl) _
 unfold Zpb;rw[Z1k (c:=c135) rfl];cases c1:s.Ga.all (λx=>!ZoQ e x||Zou s m x.bg)with
 |false=>
  have e1:=B1 c1;subst e1;rw[c1]at L1;simp only[thX,ZWn,if_false]at L1;rw[ZWh,cond_false];simp only[go_sem,c135,c135L0,owH,thX,ZWK,ZWQ,L1,hf4,hS];rfl
 |true=>
 obtain⟨e1,e1'⟩:=A1 c1;subst e1;subst e1';rw[c1]at L1;simp only[thX,if_true]at L1;cases c2:s.Gr.all (λx=>!ZoR e x||Zou s m x.bg)with
 |false=>
  have e1:=B2 c2;subst e1;rw[c2]at L2;simp only[thX,ZWn,if_false]at L2;rw[ZWf,ZWh,cond_false];simp only[go_sem,c135,c135L0,c135L1,owH,thX,ZWK,ZWQ,L1,L2,hf4,hS];rfl
 |true=>
 obtain⟨e1,e1'⟩:=A2 c2;subst e1;subst e1';rw[c2]at L2;simp only[thX,if_true]at L2;cases c3:s.By.all (λx=>!ZoS e x||Zou s m x.bg)with
 |false=>
  have e1:=B3 c3;subst e1;rw[c3]at L3;simp only[thX,ZWn,if_false]at L3;rw[ZWf,ZWf,ZWh,cond_false];simp only[go_sem,c135,c135L0,c135L1,c135L2,owH,thX,ZWK,ZWQ,L1,L2,L3,hf4,hS];rfl
 |true=>
 obtain⟨e1,e1'⟩:=A3 c3;subst e1;subst e1';rw[c3]at L3;simp only[thX,if_true]at L3;cases c5004:s.Bc.all (λx=>!ZoT (Zor s e) x||Zou s m x.bg)with
 |false=>
  have e1:=B4 c5004;subst e1;rw[c5004]at L4;simp only[thX,ZWn,if_false]at L4;rw[ZWf,ZWf,ZWf,cond_false];simp only[go_sem,c135,c135L0,c135L1,c135L2,c135L3,owH,thX,ZWK,ZWQ,L1,L2,L3,L4,hf4,hS];rfl
 |true=>
 obtain⟨e1,e1'⟩:=A4 c5004;subst e1;subst e1';rw[c5004]at L4;simp only[thX,if_true]at L4;rw[ZWf,ZWf,ZWf,cond_true];simp only[go_sem,c135,c135L0,c135L1,c135L2,c135L3,owH,thX,ZWK,ZWQ,L1,L2,L3,L4,hf4,hS];rfl
def ZqS(s:Sta)(e:Gt)(a m:Int)(h:RqS s e m):pfn rE 33 [rqI s e a m]=some (I<|Zp6 s e m):=by
 have hrf:=ZqR s e a m h;have hO:=ZqQ s e (by have:=h.ev.ids;omega) (by have:=h.ev.lst;omega) h.c.E.sizes.units
 have hcl:=Zow s;have hbl:=Zot s;have hS:∀n,Zd n ((Zor s e).map encS)=true:=λn=>ZN _<|Zw (λt=>rfl) _
 obtain⟨hf4,hf5⟩:=ZoI s e a m;generalize Zor s e=D at*;unfold Zp6;rw[Z5 (f:=33) rfl rfl];unfold owH at hrf hO;cases c:Zpb s e m with
 |true=>
  rw[c,cond_true]at hrf;simp only[ZoA]at hrf;simp only[go_sem,c33,hO,Sr,hrf,hS,thX,ZoA]
 |false=>
  rw[c,cond_false]at hrf;simp only[ZoA]at hrf;simp only[go_sem,c33,hO,Sr,hrf,hS,thX,ZoA]
def Zpe(s:Sta)(a b:Int):Bool:=(Jx s&&(Zoz a&&Zoz b))&&ZoW s (Zoq s a) (Zoq s b)
def Zpf{a:Int}(h:Zoz a=true):0<=a/\a<=63:=by
 unfold Zoz at h;simpa using h
def ZqT(s:Sta)(hE:StE s)(a b:Int):pfn rE 11 [stA s,I a,I b]=some (.bool<|Zpe s a b):=by
 have hO:=Zp7 s hE;have hA:=Zp8 a;have hB:=Zp8 b;have hcl:=Zow s;unfold Zpe;rw[Z5 (f:=11) rfl rfl];cases c:Jx s with
 |false=>
  rw[c]at hO;simp only[go_sem,c11,hO,ZWh]
 |true=>
 rw[c]at hO;cases c1:Zoz a with
 |false=>
  rw[c1]at hA;simp only[go_sem,c11,hO,hA,ZWh,ZWm]
 |true=>
 rw[c1]at hA;cases c2:Zoz b with
 |false=>
  rw[c2]at hB;simp only[go_sem,c11,hO,hA,hB,ZWh,ZWm]
 |true=>
 rw[c2]at hB;have h:ClS s:=⟨hE,c⟩;have m1:=h.mst (Zpf c1).1;have m2:=h.mst (Zpf c2).1;have hP:=ZpL s (Zoq s a) (Zoq s b) hE.sizes.rulings<|ZpQ h;simp only[go_sem,c11,hO,hA,hB,m1,m2,hP,ZWf,ZWk]
def cvV:List (Nat×Int)->Int
 |[]=>0
 |x::l=>bif x.2==0 then cvV l else x.2
abbrev cvF(R:AV)(L:List<|Nat×Int)(i:Nat):Fr:=[(46,.isl false false 1<|L.map λx=>.clo (.func x.1) [R] []),(47,I L.length),(48,I i)]
def ZpY(R:AV)(hc:clean R=true)(L:List<|Nat×Int)(hl:L.length<=1000)(hp:∀x∈L,pfn rE x.1 [R]=some (I x.2)):∀(k i:Nat),i+k=L.length->
 ∃fr',Zg rE [46,47,48] c13L0b (cvF R L i) []=some (bif cvV (L.drop i)==0 then .exit 0 else .ret,fr',[])/\(cvV (L.drop i)≠0->get fr' 6=I (cvV<|L.drop i))
 |0,i,hk=>by
  have hi:i=L.length:=by omega
  subst hi;refine⟨_,Q7 rfl (e:=.exit 0) (by simp only[go_sem,c13L0b,ZG]<;>rfl) (by simp) |>.trans (by rw[ZYM];rfl),?_⟩
  rw[ZYM];exact λh=>absurd rfl h
 |k+1,i,hk=>by
  obtain⟨x,hx⟩:∃x,L[i]?=some x:=⟨_,ZWq<|by omega⟩
  have hg:=Z6 (f:=λx:Nat×Int=>AV.clo (.func x.1) [R] []) hx
  have hi':=Zh<|Z7 hx;have hwr:=Zx (n:=i) (by have:=Z7 hx;omega)
  have hy:=hp x<|ZWu hx;have hd:L.drop i=x::L.drop (i+1):=by
   have h1:=ZXo<|Z7 hx;rw[h1];congr 1;have:=ZWq<|Z7 hx;rw[this]at hx;exact Option.some.inj hx
  rw[hd,cvV];cases c:x.2==0 with
  |true=>
   have hn:(x.2 != 0)=false:=by rw[bne,c];rfl
   obtain⟨fr',h1,h2⟩:=ZpY R hc L hl hp k (i+1)<|by omega
   refine⟨fr',?_,h2⟩;rw[cond_true,Yt rfl (fr':=(6,.bot)::cvF R L (i+1)) (h':=[]) (by
    simp only[go_sem,c13L0b,hg,hi',hwr,hy,hn,hc])]
   exact h1
  |false=>
   have hn:(x.2 != 0)=true:=by rw[bne,c];rfl
   rw[cond_false,c,cond_false];refine⟨_,Q7 rfl (e:=.ret) (fr':=[(6,I x.2),(46,.isl false false 1<|L.map λx=>.clo (.func x.1) [R] []),(47,I L.length),(48,I i)]) (by
    simp only[go_sem,c13L0b,hg,hi',hy,hn,hc]) (by simp),λ_=>rfl⟩
def ZoN(s:Sta)(a:Int)(e:Gt):Int:=bif !Jx s||(!Zoz a||!Q9 e)then 1 else
 cvV [(32,Zp0 s e a<|Zoq s a),(33,Zp6 s e<|Zoq s a),(34,Zp5 s e<|Zoq s a),(35,Zp1 s e a<|Zoq s a)]
def Zpq(s:Sta)(hE:StE s)(a:Int)(e:Gt)(hv:EvS e):pfn rE 13 [stA s,I a,evA e]=some (I<|ZoN s a e):=by
 have hO:=Zp7 s hE;have hA:=Zp8 a;have hF:=NH e hv;have hcl:=Zow s;have hbl:=Zot s;unfold ZoN;rw[Z5 (f:=13) rfl rfl];cases c:Jx s with
 |false=>
  rw[c]at hO;simp only[go_sem,c13,hO,ZWi,ZWj]
 |true=>
 rw[c]at hO;cases c1:Zoz a with
 |false=>
  rw[c1]at hA;simp only[go_sem,c13,hO,hA,ZWi,ZWj,ZWg,ZWl]
 |true=>
 rw[c1]at hA;cases c2:Q9 e with
 |false=>
  rw[c2]at hF;simp only[go_sem,c13,hO,hA,hF,ZWi,ZWg,ZWl]
 |true=>
 rw[c2]at hF;have h:ClS s:=⟨hE,c⟩;have m1:=h.mst (Zpf c1).1;have hr:0<=Zoq s a/\Zoq s a<=63:=ZpH h.prop.pa<|Zpf c1;have hq:RqS s e (Zoq s a):=⟨h,hv,c2,hr⟩;generalize Zoq s a=m at*;have hR:clean (rqI s e a m)=true:=by simp only[go_sem]
 obtain⟨fr',L1,L2⟩:=ZpY (rqI s e a m) hR [(32,Zp0 s e a m),(33,Zp6 s e m),(34,Zp5 s e m),(35,Zp1 s e a m)] (by simp) (by
  intro x hx;simp only[ZWF,ZXt,or_false]at hx;rcases hx with rfl|rfl|rfl|rfl
  .exact Zqw s e a m hq
  .exact ZqS s e a m hq
  .exact Zqy s e a m hq
  .exact ZqD s e a m hq) 4 0 rfl
 rw[ZWA]at L1 L2;generalize cvV [(32,Zp0 s e a m),(33,Zp6 s e m),(34,Zp5 s e m),(35,Zp1 s e a m)]=v at*;have hbR:∀n,bel n (rqI s e a m)=true:=λn=>by
  have:=ZN (n:=n) [rqI s e a m]<|by simp only[Z4,hR,ZWk]
  simpa only[Zd,ZWk]using this
 replace L1:Zg rE [46,47,48] c13L0b [(46,.isl false false 1 [.clo (.func 32) [rqI s e a m] [],.clo (.func 33) [rqI s e a m] [],.clo (.func 34) [rqI s e a m] [],.clo (.func 35) [rqI s e a m] []]),(47,.int .i64 ((4:Nat):Int)),(48,.int .i64 0)] []=some (bif v==0 then .exit 0 else .ret,fr',[]):=L1
 cases c3:v==0 with
 |true=>
  have hv0:v=0:=by simpa using c3
  subst hv0;rw[c3,cond_true]at L1;simp only[go_sem,c13,c13L0,hO,hA,hF,m1,hcl,L1,ZWg,ZWl]
 |false=>
  have hv0:v≠0:=by simpa using c3
  have g:=L2 hv0;rw[c3,cond_false]at L1;simp only[go_sem,c13,c13L0,hO,hA,hF,m1,hcl,L1,g,ZWg,ZWl]
end Go.AM
