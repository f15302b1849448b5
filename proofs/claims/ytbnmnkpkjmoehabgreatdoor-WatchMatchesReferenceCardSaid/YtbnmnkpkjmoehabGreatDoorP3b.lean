/- What the functions of the program compute, part 2, for WatchMatchesReference. No condition. -/
import Derived.Test.YtbnmnkpkjmoehabGreatDoorP3a
import Derived.Test.YtbnmnkpkjmoehabGreatDoorQ5
set_option linter.unusedVariables false
set_option linter.defProp false
set_option linter.unusedSimpArgs false
set_option linter.unusedSectionVars false
namespace Go.AM
open Go
variable [REdz]
def kIn(e:Gt)(ks:List Int):Bool:=ks.any<|λx=>e.bq==x
def Zq(e:Gt):Gt:=
 {bq:=e.bq,Day:=e.Day,
  A:=bif kIn e [13,14]then(bif kIn e [1]then 0 else 0)else(bif kIn e [1]then 0 else e.A),
  B:=bif kIn e [13,14]then 0 else e.B,
  bv:=bif e.bq==15 then 0 else e.bv,
  Id:=bif kIn e [13,14]then e.Id else emp,
  br:=bif kIn e [4,6,7]then emp else e.br,
  Text:=bif kIn e [6,7,15]then emp else e.Text,
  Ids:=bif e.bq==10 then⟨false,[]⟩else e.Ids,
  bk:=bif e.bq==3 then⟨false,[]⟩else e.bk,
  An:=bif kIn e [6,10]then⟨0,emp,0,0⟩else e.An,
  bg:=bif kIn e [6,10]then⟨0,0⟩else e.bg,
  Path:=bif kIn e [1,2,5]then⟨false,[]⟩else e.Path,
  Lst:=bif kIn e [8,9]then⟨false,[]⟩else e.Lst}
def Zc(ks:List Int)(ex:Bool)(k:Int)(hk:ks.length<=100):pfn rE 187 [.isl false ex 1<|ks.map I,.iptr true [I k]]=some (.bool<|ks.any<|λx=>k==x):=by
 have h:=DR ks ex k<|by omega
 rw[Z5 (f:=187) rfl rfl];simp only[go_sem,c187,h]
def Z2t(e:Gt)(hk:e.bq=1):pfn rE 123 [evA e]=some (evA<|Zq e):=by
 have h0:pfn rE 187 [.isl false false 1 [I 13,I 14],.iptr true [I 1]]=some (.bool false):=Zc [13,14] false 1<|by decide
 have b0:kIn e [13,14]=false:=by unfold kIn;rw[hk];rfl
 have h1:pfn rE 187 [.isl false false 1 [I 1],.iptr true [I 1]]=some (.bool true):=Zc [1] false 1<|by decide
 have b1:kIn e [1]=true:=by unfold kIn;rw[hk];rfl
 have h2:pfn rE 187 [.isl false false 1 [I 1,I 2,I 5],.iptr true [I 1]]=some (.bool true):=Zc [1,2,5] false 1<|by decide
 have b2:kIn e [1,2,5]=true:=by unfold kIn;rw[hk];rfl
 have h3:pfn rE 187 [.isl false false 1 [I 4,I 6,I 7],.iptr true [I 1]]=some (.bool false):=Zc [4,6,7] false 1<|by decide
 have b3:kIn e [4,6,7]=false:=by unfold kIn;rw[hk];rfl
 have h4:pfn rE 187 [.isl false false 1 [I 6,I 7,I 15],.iptr true [I 1]]=some (.bool false):=Zc [6,7,15] false 1<|by decide
 have b4:kIn e [6,7,15]=false:=by unfold kIn;rw[hk];rfl
 have h5:pfn rE 187 [.isl false false 1 [I 6,I 10],.iptr true [I 1]]=some (.bool false):=Zc [6,10] false 1<|by decide
 have b5:kIn e [6,10]=false:=by unfold kIn;rw[hk];rfl
 have h6:pfn rE 187 [.isl false false 1 [I 8,I 9],.iptr true [I 1]]=some (.bool false):=Zc [8,9] false 1<|by decide
 have b6:kIn e [8,9]=false:=by unfold kIn;rw[hk];rfl
 have q0:((1:Int)==3)=false:=rfl;have q1:((1:Int)==10)=false:=rfl;have q2:((1:Int)==15)=false:=rfl;rw[Z5 (f:=123) rfl rfl];unfold Zq;simp only[go_sem,c123,hk,h0,h1,h2,h3,h4,h5,h6,b0,b1,b2,b3,b4,b5,b6,q0,q1,q2]
 try rfl
def Z2u(e:Gt)(hk:e.bq=2):pfn rE 123 [evA e]=some (evA<|Zq e):=by
 have h0:pfn rE 187 [.isl false false 1 [I 13,I 14],.iptr true [I 2]]=some (.bool false):=Zc [13,14] false 2<|by decide
 have b0:kIn e [13,14]=false:=by unfold kIn;rw[hk];rfl
 have h1:pfn rE 187 [.isl false false 1 [I 1],.iptr true [I 2]]=some (.bool false):=Zc [1] false 2<|by decide
 have b1:kIn e [1]=false:=by unfold kIn;rw[hk];rfl
 have h2:pfn rE 187 [.isl false false 1 [I 1,I 2,I 5],.iptr true [I 2]]=some (.bool true):=Zc [1,2,5] false 2<|by decide
 have b2:kIn e [1,2,5]=true:=by unfold kIn;rw[hk];rfl
 have h3:pfn rE 187 [.isl false false 1 [I 4,I 6,I 7],.iptr true [I 2]]=some (.bool false):=Zc [4,6,7] false 2<|by decide
 have b3:kIn e [4,6,7]=false:=by unfold kIn;rw[hk];rfl
 have h4:pfn rE 187 [.isl false false 1 [I 6,I 7,I 15],.iptr true [I 2]]=some (.bool false):=Zc [6,7,15] false 2<|by decide
 have b4:kIn e [6,7,15]=false:=by unfold kIn;rw[hk];rfl
 have h5:pfn rE 187 [.isl false false 1 [I 6,I 10],.iptr true [I 2]]=some (.bool false):=Zc [6,10] false 2<|by decide
 have b5:kIn e [6,10]=false:=by unfold kIn;rw[hk];rfl
 have h6:pfn rE 187 [.isl false false 1 [I 8,I 9],.iptr true [I 2]]=some (.bool false):=Zc [8,9] false 2<|by decide
 have b6:kIn e [8,9]=false:=by unfold kIn;rw[hk];rfl
 have q0:((2:Int)==3)=false:=rfl;have q1:((2:Int)==10)=false:=rfl;have q2:((2:Int)==15)=false:=rfl;rw[Z5 (f:=123) rfl rfl];unfold Zq;simp only[go_sem,c123,hk,h0,h1,h2,h3,h4,h5,h6,b0,b1,b2,b3,b4,b5,b6,q0,q1,q2]
 try rfl
def Z2v(e:Gt)(hk:e.bq=3):pfn rE 123 [evA e]=some (evA<|Zq e):=by
 have h0:pfn rE 187 [.isl false false 1 [I 13,I 14],.iptr true [I 3]]=some (.bool false):=Zc [13,14] false 3<|by decide
 have b0:kIn e [13,14]=false:=by unfold kIn;rw[hk];rfl
 have h1:pfn rE 187 [.isl false false 1 [I 1],.iptr true [I 3]]=some (.bool false):=Zc [1] false 3<|by decide
 have b1:kIn e [1]=false:=by unfold kIn;rw[hk];rfl
 have h2:pfn rE 187 [.isl false false 1 [I 1,I 2,I 5],.iptr true [I 3]]=some (.bool false):=Zc [1,2,5] false 3<|by decide
 have b2:kIn e [1,2,5]=false:=by unfold kIn;rw[hk];rfl
 have h3:pfn rE 187 [.isl false false 1 [I 4,I 6,I 7],.iptr true [I 3]]=some (.bool false):=Zc [4,6,7] false 3<|by decide
 have b3:kIn e [4,6,7]=false:=by unfold kIn;rw[hk];rfl
 have h4:pfn rE 187 [.isl false false 1 [I 6,I 7,I 15],.iptr true [I 3]]=some (.bool false):=Zc [6,7,15] false 3<|by decide
 have b4:kIn e [6,7,15]=false:=by unfold kIn;rw[hk];rfl
 have h5:pfn rE 187 [.isl false false 1 [I 6,I 10],.iptr true [I 3]]=some (.bool false):=Zc [6,10] false 3<|by decide
 have b5:kIn e [6,10]=false:=by unfold kIn;rw[hk];rfl
 have h6:pfn rE 187 [.isl false false 1 [I 8,I 9],.iptr true [I 3]]=some (.bool false):=Zc [8,9] false 3<|by decide
 have b6:kIn e [8,9]=false:=by unfold kIn;rw[hk];rfl
 have q0:((3:Int)==3)=true:=rfl;have q1:((3:Int)==10)=false:=rfl;have q2:((3:Int)==15)=false:=rfl;rw[Z5 (f:=123) rfl rfl];unfold Zq;simp only[go_sem,c123,hk,h0,h1,h2,h3,h4,h5,h6,b0,b1,b2,b3,b4,b5,b6,q0,q1,q2]
 try rfl
def Z2w(e:Gt)(hk:e.bq=4):pfn rE 123 [evA e]=some (evA<|Zq e):=by
 have h0:pfn rE 187 [.isl false false 1 [I 13,I 14],.iptr true [I 4]]=some (.bool false):=Zc [13,14] false 4<|by decide
 have b0:kIn e [13,14]=false:=by unfold kIn;rw[hk];rfl
 have h1:pfn rE 187 [.isl false false 1 [I 1],.iptr true [I 4]]=some (.bool false):=Zc [1] false 4<|by decide
 have b1:kIn e [1]=false:=by unfold kIn;rw[hk];rfl
 have h2:pfn rE 187 [.isl false false 1 [I 1,I 2,I 5],.iptr true [I 4]]=some (.bool false):=Zc [1,2,5] false 4<|by decide
 have b2:kIn e [1,2,5]=false:=by unfold kIn;rw[hk];rfl
 have h3:pfn rE 187 [.isl false false 1 [I 4,I 6,I 7],.iptr true [I 4]]=some (.bool true):=Zc [4,6,7] false 4<|by decide
 have b3:kIn e [4,6,7]=true:=by unfold kIn;rw[hk];rfl
 have h4:pfn rE 187 [.isl false false 1 [I 6,I 7,I 15],.iptr true [I 4]]=some (.bool false):=Zc [6,7,15] false 4<|by decide
 have b4:kIn e [6,7,15]=false:=by unfold kIn;rw[hk];rfl
 have h5:pfn rE 187 [.isl false false 1 [I 6,I 10],.iptr true [I 4]]=some (.bool false):=Zc [6,10] false 4<|by decide
 have b5:kIn e [6,10]=false:=by unfold kIn;rw[hk];rfl
 have h6:pfn rE 187 [.isl false false 1 [I 8,I 9],.iptr true [I 4]]=some (.bool false):=Zc [8,9] false 4<|by decide
 have b6:kIn e [8,9]=false:=by unfold kIn;rw[hk];rfl
 have q0:((4:Int)==3)=false:=rfl;have q1:((4:Int)==10)=false:=rfl;have q2:((4:Int)==15)=false:=rfl;rw[Z5 (f:=123) rfl rfl];unfold Zq;simp only[go_sem,c123,hk,h0,h1,h2,h3,h4,h5,h6,b0,b1,b2,b3,b4,b5,b6,q0,q1,q2]
 try rfl
def Z2x(e:Gt)(hk:e.bq=5):pfn rE 123 [evA e]=some (evA<|Zq e):=by
 have h0:pfn rE 187 [.isl false false 1 [I 13,I 14],.iptr true [I 5]]=some (.bool false):=Zc [13,14] false 5<|by decide
 have b0:kIn e [13,14]=false:=by unfold kIn;rw[hk];rfl
 have h1:pfn rE 187 [.isl false false 1 [I 1],.iptr true [I 5]]=some (.bool false):=Zc [1] false 5<|by decide
 have b1:kIn e [1]=false:=by unfold kIn;rw[hk];rfl
 have h2:pfn rE 187 [.isl false false 1 [I 1,I 2,I 5],.iptr true [I 5]]=some (.bool true):=Zc [1,2,5] false 5<|by decide
 have b2:kIn e [1,2,5]=true:=by unfold kIn;rw[hk];rfl
 have h3:pfn rE 187 [.isl false false 1 [I 4,I 6,I 7],.iptr true [I 5]]=some (.bool false):=Zc [4,6,7] false 5<|by decide
 have b3:kIn e [4,6,7]=false:=by unfold kIn;rw[hk];rfl
 have h4:pfn rE 187 [.isl false false 1 [I 6,I 7,I 15],.iptr true [I 5]]=some (.bool false):=Zc [6,7,15] false 5<|by decide
 have b4:kIn e [6,7,15]=false:=by unfold kIn;rw[hk];rfl
 have h5:pfn rE 187 [.isl false false 1 [I 6,I 10],.iptr true [I 5]]=some (.bool false):=Zc [6,10] false 5<|by decide
 have b5:kIn e [6,10]=false:=by unfold kIn;rw[hk];rfl
 have h6:pfn rE 187 [.isl false false 1 [I 8,I 9],.iptr true [I 5]]=some (.bool false):=Zc [8,9] false 5<|by decide
 have b6:kIn e [8,9]=false:=by unfold kIn;rw[hk];rfl
 have q0:((5:Int)==3)=false:=rfl;have q1:((5:Int)==10)=false:=rfl;have q2:((5:Int)==15)=false:=rfl;rw[Z5 (f:=123) rfl rfl];unfold Zq;simp only[go_sem,c123,hk,h0,h1,h2,h3,h4,h5,h6,b0,b1,b2,b3,b4,b5,b6,q0,q1,q2]
 try rfl
def Z2y(e:Gt)(hk:e.bq=6):pfn rE 123 [evA e]=some (evA<|Zq e):=by
 have h0:pfn rE 187 [.isl false false 1 [I 13,I 14],.iptr true [I 6]]=some (.bool false):=Zc [13,14] false 6<|by decide
 have b0:kIn e [13,14]=false:=by unfold kIn;rw[hk];rfl
 have h1:pfn rE 187 [.isl false false 1 [I 1],.iptr true [I 6]]=some (.bool false):=Zc [1] false 6<|by decide
 have b1:kIn e [1]=false:=by unfold kIn;rw[hk];rfl
 have h2:pfn rE 187 [.isl false false 1 [I 1,I 2,I 5],.iptr true [I 6]]=some (.bool false):=Zc [1,2,5] false 6<|by decide
 have b2:kIn e [1,2,5]=false:=by unfold kIn;rw[hk];rfl
 have h3:pfn rE 187 [.isl false false 1 [I 4,I 6,I 7],.iptr true [I 6]]=some (.bool true):=Zc [4,6,7] false 6<|by decide
 have b3:kIn e [4,6,7]=true:=by unfold kIn;rw[hk];rfl
 have h4:pfn rE 187 [.isl false false 1 [I 6,I 7,I 15],.iptr true [I 6]]=some (.bool true):=Zc [6,7,15] false 6<|by decide
 have b4:kIn e [6,7,15]=true:=by unfold kIn;rw[hk];rfl
 have h5:pfn rE 187 [.isl false false 1 [I 6,I 10],.iptr true [I 6]]=some (.bool true):=Zc [6,10] false 6<|by decide
 have b5:kIn e [6,10]=true:=by unfold kIn;rw[hk];rfl
 have h6:pfn rE 187 [.isl false false 1 [I 8,I 9],.iptr true [I 6]]=some (.bool false):=Zc [8,9] false 6<|by decide
 have b6:kIn e [8,9]=false:=by unfold kIn;rw[hk];rfl
 have q0:((6:Int)==3)=false:=rfl;have q1:((6:Int)==10)=false:=rfl;have q2:((6:Int)==15)=false:=rfl;rw[Z5 (f:=123) rfl rfl];unfold Zq;simp only[go_sem,c123,hk,h0,h1,h2,h3,h4,h5,h6,b0,b1,b2,b3,b4,b5,b6,q0,q1,q2]
 try rfl
def Z2z(e:Gt)(hk:e.bq=7):pfn rE 123 [evA e]=some (evA<|Zq e):=by
 have h0:pfn rE 187 [.isl false false 1 [I 13,I 14],.iptr true [I 7]]=some (.bool false):=Zc [13,14] false 7<|by decide
 have b0:kIn e [13,14]=false:=by unfold kIn;rw[hk];rfl
 have h1:pfn rE 187 [.isl false false 1 [I 1],.iptr true [I 7]]=some (.bool false):=Zc [1] false 7<|by decide
 have b1:kIn e [1]=false:=by unfold kIn;rw[hk];rfl
 have h2:pfn rE 187 [.isl false false 1 [I 1,I 2,I 5],.iptr true [I 7]]=some (.bool false):=Zc [1,2,5] false 7<|by decide
 have b2:kIn e [1,2,5]=false:=by unfold kIn;rw[hk];rfl
 have h3:pfn rE 187 [.isl false false 1 [I 4,I 6,I 7],.iptr true [I 7]]=some (.bool true):=Zc [4,6,7] false 7<|by decide
 have b3:kIn e [4,6,7]=true:=by unfold kIn;rw[hk];rfl
 have h4:pfn rE 187 [.isl false false 1 [I 6,I 7,I 15],.iptr true [I 7]]=some (.bool true):=Zc [6,7,15] false 7<|by decide
 have b4:kIn e [6,7,15]=true:=by unfold kIn;rw[hk];rfl
 have h5:pfn rE 187 [.isl false false 1 [I 6,I 10],.iptr true [I 7]]=some (.bool false):=Zc [6,10] false 7<|by decide
 have b5:kIn e [6,10]=false:=by unfold kIn;rw[hk];rfl
 have h6:pfn rE 187 [.isl false false 1 [I 8,I 9],.iptr true [I 7]]=some (.bool false):=Zc [8,9] false 7<|by decide
 have b6:kIn e [8,9]=false:=by unfold kIn;rw[hk];rfl
 have q0:((7:Int)==3)=false:=rfl;have q1:((7:Int)==10)=false:=rfl;have q2:((7:Int)==15)=false:=rfl;rw[Z5 (f:=123) rfl rfl];unfold Zq;simp only[go_sem,c123,hk,h0,h1,h2,h3,h4,h5,h6,b0,b1,b2,b3,b4,b5,b6,q0,q1,q2]
 try rfl
def Z2A(e:Gt)(hk:e.bq=8):pfn rE 123 [evA e]=some (evA<|Zq e):=by
 have h0:pfn rE 187 [.isl false false 1 [I 13,I 14],.iptr true [I 8]]=some (.bool false):=Zc [13,14] false 8<|by decide
 have b0:kIn e [13,14]=false:=by unfold kIn;rw[hk];rfl
 have h1:pfn rE 187 [.isl false false 1 [I 1],.iptr true [I 8]]=some (.bool false):=Zc [1] false 8<|by decide
 have b1:kIn e [1]=false:=by unfold kIn;rw[hk];rfl
 have h2:pfn rE 187 [.isl false false 1 [I 1,I 2,I 5],.iptr true [I 8]]=some (.bool false):=Zc [1,2,5] false 8<|by decide
 have b2:kIn e [1,2,5]=false:=by unfold kIn;rw[hk];rfl
 have h3:pfn rE 187 [.isl false false 1 [I 4,I 6,I 7],.iptr true [I 8]]=some (.bool false):=Zc [4,6,7] false 8<|by decide
 have b3:kIn e [4,6,7]=false:=by unfold kIn;rw[hk];rfl
 have h4:pfn rE 187 [.isl false false 1 [I 6,I 7,I 15],.iptr true [I 8]]=some (.bool false):=Zc [6,7,15] false 8<|by decide
 have b4:kIn e [6,7,15]=false:=by unfold kIn;rw[hk];rfl
 have h5:pfn rE 187 [.isl false false 1 [I 6,I 10],.iptr true [I 8]]=some (.bool false):=Zc [6,10] false 8<|by decide
 have b5:kIn e [6,10]=false:=by unfold kIn;rw[hk];rfl
 have h6:pfn rE 187 [.isl false false 1 [I 8,I 9],.iptr true [I 8]]=some (.bool true):=Zc [8,9] false 8<|by decide
 have b6:kIn e [8,9]=true:=by unfold kIn;rw[hk];rfl
 have q0:((8:Int)==3)=false:=rfl;have q1:((8:Int)==10)=false:=rfl;have q2:((8:Int)==15)=false:=rfl;rw[Z5 (f:=123) rfl rfl];unfold Zq;simp only[go_sem,c123,hk,h0,h1,h2,h3,h4,h5,h6,b0,b1,b2,b3,b4,b5,b6,q0,q1,q2]
 try rfl
def Z2B(e:Gt)(hk:e.bq=9):pfn rE 123 [evA e]=some (evA<|Zq e):=by
 have h0:pfn rE 187 [.isl false false 1 [I 13,I 14],.iptr true [I 9]]=some (.bool false):=Zc [13,14] false 9<|by decide
 have b0:kIn e [13,14]=false:=by unfold kIn;rw[hk];rfl
 have h1:pfn rE 187 [.isl false false 1 [I 1],.iptr true [I 9]]=some (.bool false):=Zc [1] false 9<|by decide
 have b1:kIn e [1]=false:=by unfold kIn;rw[hk];rfl
 have h2:pfn rE 187 [.isl false false 1 [I 1,I 2,I 5],.iptr true [I 9]]=some (.bool false):=Zc [1,2,5] false 9<|by decide
 have b2:kIn e [1,2,5]=false:=by unfold kIn;rw[hk];rfl
 have h3:pfn rE 187 [.isl false false 1 [I 4,I 6,I 7],.iptr true [I 9]]=some (.bool false):=Zc [4,6,7] false 9<|by decide
 have b3:kIn e [4,6,7]=false:=by unfold kIn;rw[hk];rfl
 have h4:pfn rE 187 [.isl false false 1 [I 6,I 7,I 15],.iptr true [I 9]]=some (.bool false):=Zc [6,7,15] false 9<|by decide
 have b4:kIn e [6,7,15]=false:=by unfold kIn;rw[hk];rfl
 have h5:pfn rE 187 [.isl false false 1 [I 6,I 10],.iptr true [I 9]]=some (.bool false):=Zc [6,10] false 9<|by decide
 have b5:kIn e [6,10]=false:=by unfold kIn;rw[hk];rfl
 have h6:pfn rE 187 [.isl false false 1 [I 8,I 9],.iptr true [I 9]]=some (.bool true):=Zc [8,9] false 9<|by decide
 have b6:kIn e [8,9]=true:=by unfold kIn;rw[hk];rfl
 have q0:((9:Int)==3)=false:=rfl;have q1:((9:Int)==10)=false:=rfl;have q2:((9:Int)==15)=false:=rfl;rw[Z5 (f:=123) rfl rfl];unfold Zq;simp only[go_sem,c123,hk,h0,h1,h2,h3,h4,h5,h6,b0,b1,b2,b3,b4,b5,b6,q0,q1,q2]
 try rfl
def Z2C(e:Gt)(hk:e.bq=10):pfn rE 123 [evA e]=some (evA<|Zq e):=by
 have h0:pfn rE 187 [.isl false false 1 [I 13,I 14],.iptr true [I 10]]=some (.bool false):=Zc [13,14] false 10<|by decide
 have b0:kIn e [13,14]=false:=by unfold kIn;rw[hk];rfl
 have h1:pfn rE 187 [.isl false false 1 [I 1],.iptr true [I 10]]=some (.bool false):=Zc [1] false 10<|by decide
 have b1:kIn e [1]=false:=by unfold kIn;rw[hk];rfl
 have h2:pfn rE 187 [.isl false false 1 [I 1,I 2,I 5],.iptr true [I 10]]=some (.bool false):=Zc [1,2,5] false 10<|by decide
 have b2:kIn e [1,2,5]=false:=by unfold kIn;rw[hk];rfl
 have h3:pfn rE 187 [.isl false false 1 [I 4,I 6,I 7],.iptr true [I 10]]=some (.bool false):=Zc [4,6,7] false 10<|by decide
 have b3:kIn e [4,6,7]=false:=by unfold kIn;rw[hk];rfl
 have h4:pfn rE 187 [.isl false false 1 [I 6,I 7,I 15],.iptr true [I 10]]=some (.bool false):=Zc [6,7,15] false 10<|by decide
 have b4:kIn e [6,7,15]=false:=by unfold kIn;rw[hk];rfl
 have h5:pfn rE 187 [.isl false false 1 [I 6,I 10],.iptr true [I 10]]=some (.bool true):=Zc [6,10] false 10<|by decide
 have b5:kIn e [6,10]=true:=by unfold kIn;rw[hk];rfl
 have h6:pfn rE 187 [.isl false false 1 [I 8,I 9],.iptr true [I 10]]=some (.bool false):=Zc [8,9] false 10<|by decide
 have b6:kIn e [8,9]=false:=by unfold kIn;rw[hk];rfl
 have q0:((10:Int)==3)=false:=rfl;have q1:((10:Int)==10)=true:=rfl;have q2:((10:Int)==15)=false:=rfl;rw[Z5 (f:=123) rfl rfl];unfold Zq;simp only[go_sem,c123,hk,h0,h1,h2,h3,h4,h5,h6,b0,b1,b2,b3,b4,b5,b6,q0,q1,q2]
 try rfl
def Z2D(e:Gt)(hk:e.bq=11):pfn rE 123 [evA e]=some (evA<|Zq e):=by
 have h0:pfn rE 187 [.isl false false 1 [I 13,I 14],.iptr true [I 11]]=some (.bool false):=Zc [13,14] false 11<|by decide
 have b0:kIn e [13,14]=false:=by unfold kIn;rw[hk];rfl
 have h1:pfn rE 187 [.isl false false 1 [I 1],.iptr true [I 11]]=some (.bool false):=Zc [1] false 11<|by decide
 have b1:kIn e [1]=false:=by unfold kIn;rw[hk];rfl
 have h2:pfn rE 187 [.isl false false 1 [I 1,I 2,I 5],.iptr true [I 11]]=some (.bool false):=Zc [1,2,5] false 11<|by decide
 have b2:kIn e [1,2,5]=false:=by unfold kIn;rw[hk];rfl
 have h3:pfn rE 187 [.isl false false 1 [I 4,I 6,I 7],.iptr true [I 11]]=some (.bool false):=Zc [4,6,7] false 11<|by decide
 have b3:kIn e [4,6,7]=false:=by unfold kIn;rw[hk];rfl
 have h4:pfn rE 187 [.isl false false 1 [I 6,I 7,I 15],.iptr true [I 11]]=some (.bool false):=Zc [6,7,15] false 11<|by decide
 have b4:kIn e [6,7,15]=false:=by unfold kIn;rw[hk];rfl
 have h5:pfn rE 187 [.isl false false 1 [I 6,I 10],.iptr true [I 11]]=some (.bool false):=Zc [6,10] false 11<|by decide
 have b5:kIn e [6,10]=false:=by unfold kIn;rw[hk];rfl
 have h6:pfn rE 187 [.isl false false 1 [I 8,I 9],.iptr true [I 11]]=some (.bool false):=Zc [8,9] false 11<|by decide
 have b6:kIn e [8,9]=false:=by unfold kIn;rw[hk];rfl
 have q0:((11:Int)==3)=false:=rfl;have q1:((11:Int)==10)=false:=rfl;have q2:((11:Int)==15)=false:=rfl;rw[Z5 (f:=123) rfl rfl];unfold Zq;simp only[go_sem,c123,hk,h0,h1,h2,h3,h4,h5,h6,b0,b1,b2,b3,b4,b5,b6,q0,q1,q2]
 try rfl
def Z2E(e:Gt)(hk:e.bq=12):pfn rE 123 [evA e]=some (evA<|Zq e):=by
 have h0:pfn rE 187 [.isl false false 1 [I 13,I 14],.iptr true [I 12]]=some (.bool false):=Zc [13,14] false 12<|by decide
 have b0:kIn e [13,14]=false:=by unfold kIn;rw[hk];rfl
 have h1:pfn rE 187 [.isl false false 1 [I 1],.iptr true [I 12]]=some (.bool false):=Zc [1] false 12<|by decide
 have b1:kIn e [1]=false:=by unfold kIn;rw[hk];rfl
 have h2:pfn rE 187 [.isl false false 1 [I 1,I 2,I 5],.iptr true [I 12]]=some (.bool false):=Zc [1,2,5] false 12<|by decide
 have b2:kIn e [1,2,5]=false:=by unfold kIn;rw[hk];rfl
 have h3:pfn rE 187 [.isl false false 1 [I 4,I 6,I 7],.iptr true [I 12]]=some (.bool false):=Zc [4,6,7] false 12<|by decide
 have b3:kIn e [4,6,7]=false:=by unfold kIn;rw[hk];rfl
 have h4:pfn rE 187 [.isl false false 1 [I 6,I 7,I 15],.iptr true [I 12]]=some (.bool false):=Zc [6,7,15] false 12<|by decide
 have b4:kIn e [6,7,15]=false:=by unfold kIn;rw[hk];rfl
 have h5:pfn rE 187 [.isl false false 1 [I 6,I 10],.iptr true [I 12]]=some (.bool false):=Zc [6,10] false 12<|by decide
 have b5:kIn e [6,10]=false:=by unfold kIn;rw[hk];rfl
 have h6:pfn rE 187 [.isl false false 1 [I 8,I 9],.iptr true [I 12]]=some (.bool false):=Zc [8,9] false 12<|by decide
 have b6:kIn e [8,9]=false:=by unfold kIn;rw[hk];rfl
 have q0:((12:Int)==3)=false:=rfl;have q1:((12:Int)==10)=false:=rfl;have q2:((12:Int)==15)=false:=rfl;rw[Z5 (f:=123) rfl rfl];unfold Zq;simp only[go_sem,c123,hk,h0,h1,h2,h3,h4,h5,h6,b0,b1,b2,b3,b4,b5,b6,q0,q1,q2]
 try rfl
def Z2F(e:Gt)(hk:e.bq=13):pfn rE 123 [evA e]=some (evA<|Zq e):=by
 have h0:pfn rE 187 [.isl false false 1 [I 13,I 14],.iptr true [I 13]]=some (.bool true):=Zc [13,14] false 13<|by decide
 have b0:kIn e [13,14]=true:=by unfold kIn;rw[hk];rfl
 have h1:pfn rE 187 [.isl false false 1 [I 1],.iptr true [I 13]]=some (.bool false):=Zc [1] false 13<|by decide
 have b1:kIn e [1]=false:=by unfold kIn;rw[hk];rfl
 have h2:pfn rE 187 [.isl false false 1 [I 1,I 2,I 5],.iptr true [I 13]]=some (.bool false):=Zc [1,2,5] false 13<|by decide
 have b2:kIn e [1,2,5]=false:=by unfold kIn;rw[hk];rfl
 have h3:pfn rE 187 [.isl false false 1 [I 4,I 6,I 7],.iptr true [I 13]]=some (.bool false):=Zc [4,6,7] false 13<|by decide
 have b3:kIn e [4,6,7]=false:=by unfold kIn;rw[hk];rfl
 have h4:pfn rE 187 [.isl false false 1 [I 6,I 7,I 15],.iptr true [I 13]]=some (.bool false):=Zc [6,7,15] false 13<|by decide
 have b4:kIn e [6,7,15]=false:=by unfold kIn;rw[hk];rfl
 have h5:pfn rE 187 [.isl false false 1 [I 6,I 10],.iptr true [I 13]]=some (.bool false):=Zc [6,10] false 13<|by decide
 have b5:kIn e [6,10]=false:=by unfold kIn;rw[hk];rfl
 have h6:pfn rE 187 [.isl false false 1 [I 8,I 9],.iptr true [I 13]]=some (.bool false):=Zc [8,9] false 13<|by decide
 have b6:kIn e [8,9]=false:=by unfold kIn;rw[hk];rfl
 have q0:((13:Int)==3)=false:=rfl;have q1:((13:Int)==10)=false:=rfl;have q2:((13:Int)==15)=false:=rfl;rw[Z5 (f:=123) rfl rfl];unfold Zq;simp only[go_sem,c123,hk,h0,h1,h2,h3,h4,h5,h6,b0,b1,b2,b3,b4,b5,b6,q0,q1,q2]
 try rfl
def Z2G(e:Gt)(hk:e.bq=14):pfn rE 123 [evA e]=some (evA<|Zq e):=by
 have h0:pfn rE 187 [.isl false false 1 [I 13,I 14],.iptr true [I 14]]=some (.bool true):=Zc [13,14] false 14<|by decide
 have b0:kIn e [13,14]=true:=by unfold kIn;rw[hk];rfl
 have h1:pfn rE 187 [.isl false false 1 [I 1],.iptr true [I 14]]=some (.bool false):=Zc [1] false 14<|by decide
 have b1:kIn e [1]=false:=by unfold kIn;rw[hk];rfl
 have h2:pfn rE 187 [.isl false false 1 [I 1,I 2,I 5],.iptr true [I 14]]=some (.bool false):=Zc [1,2,5] false 14<|by decide
 have b2:kIn e [1,2,5]=false:=by unfold kIn;rw[hk];rfl
 have h3:pfn rE 187 [.isl false false 1 [I 4,I 6,I 7],.iptr true [I 14]]=some (.bool false):=Zc [4,6,7] false 14<|by decide
 have b3:kIn e [4,6,7]=false:=by unfold kIn;rw[hk];rfl
 have h4:pfn rE 187 [.isl false false 1 [I 6,I 7,I 15],.iptr true [I 14]]=some (.bool false):=Zc [6,7,15] false 14<|by decide
 have b4:kIn e [6,7,15]=false:=by unfold kIn;rw[hk];rfl
 have h5:pfn rE 187 [.isl false false 1 [I 6,I 10],.iptr true [I 14]]=some (.bool false):=Zc [6,10] false 14<|by decide
 have b5:kIn e [6,10]=false:=by unfold kIn;rw[hk];rfl
 have h6:pfn rE 187 [.isl false false 1 [I 8,I 9],.iptr true [I 14]]=some (.bool false):=Zc [8,9] false 14<|by decide
 have b6:kIn e [8,9]=false:=by unfold kIn;rw[hk];rfl
 have q0:((14:Int)==3)=false:=rfl;have q1:((14:Int)==10)=false:=rfl;have q2:((14:Int)==15)=false:=rfl;rw[Z5 (f:=123) rfl rfl];unfold Zq;simp only[go_sem,c123,hk,h0,h1,h2,h3,h4,h5,h6,b0,b1,b2,b3,b4,b5,b6,q0,q1,q2]
 try rfl
def Z2H(e:Gt)(hk:e.bq=15):pfn rE 123 [evA e]=some (evA<|Zq e):=by
 have h0:pfn rE 187 [.isl false false 1 [I 13,I 14],.iptr true [I 15]]=some (.bool false):=Zc [13,14] false 15<|by decide
 have b0:kIn e [13,14]=false:=by unfold kIn;rw[hk];rfl
 have h1:pfn rE 187 [.isl false false 1 [I 1],.iptr true [I 15]]=some (.bool false):=Zc [1] false 15<|by decide
 have b1:kIn e [1]=false:=by unfold kIn;rw[hk];rfl
 have h2:pfn rE 187 [.isl false false 1 [I 1,I 2,I 5],.iptr true [I 15]]=some (.bool false):=Zc [1,2,5] false 15<|by decide
 have b2:kIn e [1,2,5]=false:=by unfold kIn;rw[hk];rfl
 have h3:pfn rE 187 [.isl false false 1 [I 4,I 6,I 7],.iptr true [I 15]]=some (.bool false):=Zc [4,6,7] false 15<|by decide
 have b3:kIn e [4,6,7]=false:=by unfold kIn;rw[hk];rfl
 have h4:pfn rE 187 [.isl false false 1 [I 6,I 7,I 15],.iptr true [I 15]]=some (.bool true):=Zc [6,7,15] false 15<|by decide
 have b4:kIn e [6,7,15]=true:=by unfold kIn;rw[hk];rfl
 have h5:pfn rE 187 [.isl false false 1 [I 6,I 10],.iptr true [I 15]]=some (.bool false):=Zc [6,10] false 15<|by decide
 have b5:kIn e [6,10]=false:=by unfold kIn;rw[hk];rfl
 have h6:pfn rE 187 [.isl false false 1 [I 8,I 9],.iptr true [I 15]]=some (.bool false):=Zc [8,9] false 15<|by decide
 have b6:kIn e [8,9]=false:=by unfold kIn;rw[hk];rfl
 have q0:((15:Int)==3)=false:=rfl;have q1:((15:Int)==10)=false:=rfl;have q2:((15:Int)==15)=true:=rfl;rw[Z5 (f:=123) rfl rfl];unfold Zq;simp only[go_sem,c123,hk,h0,h1,h2,h3,h4,h5,h6,b0,b1,b2,b3,b4,b5,b6,q0,q1,q2]
 try rfl
def Z2I(e:Gt)(h:ZD e.bq 1 15=true):pfn rE 123 [evA e]=some (evA<|Zq e):=by
 have hk:1<=e.bq/\e.bq<=15:=by simpa[ZD]using h
 have:e.bq=1\/e.bq=2\/e.bq=3\/e.bq=4\/e.bq=5\/e.bq=6\/e.bq=7\/e.bq=8\/e.bq=9\/e.bq=10\/e.bq=11\/e.bq=12\/e.bq=13\/e.bq=14\/e.bq=15:=by omega
 rcases this with h|h|h|h|h|h|h|h|h|h|h|h|h|h|h
 .exact Z2t e h
 .exact Z2u e h
 .exact Z2v e h
 .exact Z2w e h
 .exact Z2x e h
 .exact Z2y e h
 .exact Z2z e h
 .exact Z2A e h
 .exact Z2B e h
 .exact Z2C e h
 .exact Z2D e h
 .exact Z2E e h
 .exact Z2F e h
 .exact Z2G e h
 .exact Z2H e h
def F9(e:Gt):(Zq e).Id.size<=e.Id.size:=by
 unfold Zq;dsimp only;cases kIn e [13,14]with
 |true=>exact ZWs _
 |false=>exact ZWy _
def Jn:List AV:=[.nilfn,.clo (.func 192) [] [.iptr false [.clo (.func 188) [] []]],.clo (.func 194) [] [.iptr false [.clo (.func 188) [] []]],.clo (.func 196) [] [.iptr false [.clo (.func 188) [] []]],.clo (.func 198) [] [],.clo (.func 200) [] [.iptr false [.clo (.func 188) [] []]],.clo (.func 201) [] [],.clo (.func 204) [] [],.clo (.func 206) [] [.iptr false [.clo (.func 188) [] []]],.clo (.func 209) [] [],.clo (.func 210) [] [],.clo (.func 188) [] [],.clo (.func 188) [] [],.clo (.func 190) [] [],.clo (.func 190) [] [],.clo (.func 211) [] [.iptr false [.clo (.func 188) [] []]]]
def Z2K:clean .nilfn=true:=(rfl)
attribute [go_sem] Z2K
def Z2L(off n:Nat)(v:AV):stE off n v .nilfn=st1 off v.cells:=(rfl)
attribute [go_sem] Z2L
def Z2M(sz:Nat):fits sz .nilfn=(sz==1):=(rfl)
attribute [go_sem] Z2M
def Z2N:pfn rE 124 []=some (.agg Jn):=by
 rw[Z5 (f:=124) rfl rfl];unfold Jn;simp only[go_sem,c124]
def Q8(e:Gt):Bool:=
 bif e.bq==1 then ZZ e.Id&&(ZD e.A 1 3&&Vh e.Path.l)else
 bif e.bq==2 then ZZ e.Id&&Ul e.Path.l else
 bif e.bq==3 then ZZ e.Id&&Uz e.bk.l else
 bif e.bq==4 then Qv [e.Id,e.br]else
 bif e.bq==5 then ZZ e.Id&&Vh e.Path.l else
 bif e.bq==6 then Qv [e.Id,e.br,e.Text]&&(YO e.An&&gOn e.bg)else
 bif e.bq==7 then Qv [e.Id,e.br]&&Jm e.Text 24 else
 bif e.bq==8 then ZZ e.Id&&(ZD e.Lst.l.length 1 40&&(Xi e.Lst.l []&&Vk e.Lst.l true))else
 bif e.bq==9 then ZD e.Lst.l.length 2 8&&(Xi e.Lst.l [e.Id]&&Vk e.Lst.l false)else
 bif e.bq==10 then ZD e.Ids.l.length 2 8&&(Qv (e.Id::e.Ids.l)&&(YO e.An&&gOn e.bg))else
 bif e.bq==11 then ZZ e.Id else
 bif e.bq==12 then ZZ e.Id else
 bif e.bq==13 then K5 e.A e.B else
 bif e.bq==14 then K5 e.A e.B else
 ZZ e.Id&&(ZD e.bv 0 63&&Uu e.Text)
def NF(x:Gt):Str:=x.Id++x.br++x.Text
def Fb(x:Gt):Bool:=((((x.A != 0||x.B != 0)||x.bv != 0)||!Z3 (NF x) emp)||!QL x.An ⟨0,emp,0,0⟩)||!QK x.bg ⟨0,0⟩
def NG(x:Gt):Bool:=W (W (W ((x.Ids.l.length:Int)+(x.bk.l.length:Int))+(x.Path.l.length:Int))+(x.Lst.l.length:Int))==0
def Q9(e:Gt):Bool:=ZD e.bq 1 15&&(ZD e.Day 0 100000&&(!Fb (Zq e)&&(NG (Zq e)&&Q8 e)))
def Fc(e:Gt):(Zq e).br.size<=e.br.size:=by
 unfold Zq;dsimp only;cases kIn e [4,6,7]with
 |true=>exact ZWy _
 |false=>exact ZWs _
def Z2O(e:Gt):(Zq e).Text.size<=e.Text.size:=by
 unfold Zq;dsimp only;cases kIn e [6,7,15]with
 |true=>exact ZWy _
 |false=>exact ZWs _
def Yz(k:Nat)(v:AV)(h:(Jn[k]?)=some v)(hk:k<16):aiV none 1 16 (.agg Jn) (I k)=some v:=by
 rw[LQ];have hb:(0<=(k:Int)/\(k:Int)<((16:Nat):Int)):=by omega
 rw[if_pos hb];have:((k:Int)).toNat*1=k:=by simp
 rw[this];have hl:k<Jn.length:=hk;rw[ZXZ hl,N3];rw[ZWu hl]at h;exact h
def Z2P(e:Gt)(hs:EvS e)(h:ZD e.bq 1 15=true):∃g cap,aiV none 1 16 (.agg Jn) (I e.bq)=some (.clo (.func g) [] cap)/\(cap=[]\/cap=[.iptr false [.clo (.func 188) [] []]])/\pfn rE g (evA e::cap)=some (.bool<|Q8 e):=by
 have hk:1<=e.bq/\e.bq<=15:=by simpa[ZD]using h
 have:e.bq=1\/e.bq=2\/e.bq=3\/e.bq=4\/e.bq=5\/e.bq=6\/e.bq=7\/e.bq=8\/e.bq=9\/e.bq=10\/e.bq=11\/e.bq=12\/e.bq=13\/e.bq=14\/e.bq=15:=by omega
 rcases this with hk|hk|hk|hk|hk|hk|hk|hk|hk|hk|hk|hk|hk|hk|hk
 .refine⟨192,[.iptr false [.clo (.func 188) [] []]],?_,Or.inr rfl,?_⟩
  .rw[hk];exact Yz 1 _ rfl (by decide)
  .have hn:Q8 e=(ZZ e.Id&&(ZD e.A 1 3&&Vh e.Path.l)):=by unfold Q8;rw[hk];rfl
   rw[hn];exact Z2i e hs
 .refine⟨194,[.iptr false [.clo (.func 188) [] []]],?_,Or.inr rfl,?_⟩
  .rw[hk];exact Yz 2 _ rfl (by decide)
  .have hn:Q8 e=(ZZ e.Id&&Ul e.Path.l):=by unfold Q8;rw[hk];rfl
   rw[hn];exact Z2j e hs
 .refine⟨196,[.iptr false [.clo (.func 188) [] []]],?_,Or.inr rfl,?_⟩
  .rw[hk];exact Yz 3 _ rfl (by decide)
  .have hn:Q8 e=(ZZ e.Id&&Uz e.bk.l):=by unfold Q8;rw[hk];rfl
   rw[hn];exact Z2k e hs
 .refine⟨198,[],?_,Or.inl rfl,?_⟩
  .rw[hk];exact Yz 4 _ rfl (by decide)
  .have hn:Q8 e=(Qv [e.Id,e.br]):=by unfold Q8;rw[hk];rfl
   rw[hn];exact Z2h e
 .refine⟨200,[.iptr false [.clo (.func 188) [] []]],?_,Or.inr rfl,?_⟩
  .rw[hk];exact Yz 5 _ rfl (by decide)
  .have hn:Q8 e=(ZZ e.Id&&Vh e.Path.l):=by unfold Q8;rw[hk];rfl
   rw[hn];exact Z2l e hs
 .refine⟨201,[],?_,Or.inl rfl,?_⟩
  .rw[hk];exact Yz 6 _ rfl (by decide)
  .have hn:Q8 e=(Qv [e.Id,e.br,e.Text]&&(YO e.An&&gOn e.bg)):=by unfold Q8;rw[hk];rfl
   rw[hn];exact Z2m e
 .refine⟨204,[],?_,Or.inl rfl,?_⟩
  .rw[hk];exact Yz 7 _ rfl (by decide)
  .have hn:Q8 e=(Qv [e.Id,e.br]&&Jm e.Text 24):=by unfold Q8;rw[hk];rfl
   rw[hn];exact Z2n e
 .refine⟨206,[.iptr false [.clo (.func 188) [] []]],?_,Or.inr rfl,?_⟩
  .rw[hk];exact Yz 8 _ rfl (by decide)
  .have hn:Q8 e=(ZZ e.Id&&(ZD e.Lst.l.length 1 40&&(Xi e.Lst.l []&&Vk e.Lst.l true))):=by unfold Q8;rw[hk];rfl
   rw[hn];exact Z2o e hs
 .refine⟨209,[],?_,Or.inl rfl,?_⟩
  .rw[hk];exact Yz 9 _ rfl (by decide)
  .have hn:Q8 e=(ZD e.Lst.l.length 2 8&&(Xi e.Lst.l [e.Id]&&Vk e.Lst.l false)):=by unfold Q8;rw[hk];rfl
   rw[hn];exact Z2p e hs
 .refine⟨210,[],?_,Or.inl rfl,?_⟩
  .rw[hk];exact Yz 10 _ rfl (by decide)
  .have hn:Q8 e=(ZD e.Ids.l.length 2 8&&(Qv (e.Id::e.Ids.l)&&(YO e.An&&gOn e.bg))):=by unfold Q8;rw[hk];rfl
   rw[hn];exact Z2r e hs
 .refine⟨188,[],?_,Or.inl rfl,?_⟩
  .rw[hk];exact Yz 11 _ rfl (by decide)
  .have hn:Q8 e=(ZZ e.Id):=by unfold Q8;rw[hk];rfl
   rw[hn];exact Vl e
 .refine⟨188,[],?_,Or.inl rfl,?_⟩
  .rw[hk];exact Yz 12 _ rfl (by decide)
  .have hn:Q8 e=(ZZ e.Id):=by unfold Q8;rw[hk];rfl
   rw[hn];exact Vl e
 .refine⟨190,[],?_,Or.inl rfl,?_⟩
  .rw[hk];exact Yz 13 _ rfl (by decide)
  .have hn:Q8 e=(K5 e.A e.B):=by unfold Q8;rw[hk];rfl
   rw[hn];exact F8 e
 .refine⟨190,[],?_,Or.inl rfl,?_⟩
  .rw[hk];exact Yz 14 _ rfl (by decide)
  .have hn:Q8 e=(K5 e.A e.B):=by unfold Q8;rw[hk];rfl
   rw[hn];exact F8 e
 .refine⟨211,[.iptr false [.clo (.func 188) [] []]],?_,Or.inr rfl,?_⟩
  .rw[hk];exact Yz 15 _ rfl (by decide)
  .have hn:Q8 e=(ZZ e.Id&&(ZD e.bv 0 63&&Uu e.Text)):=by unfold Q8;rw[hk];rfl
   rw[hn];exact Z2s e
def NH(e:Gt)(hs:EvS e):pfn rE 62 [evA e]=some (.bool<|Q9 e):=by
 rw[Z5 (f:=62) rfl rfl];unfold Q9;cases c1:ZD e.bq 1 15 with
 |false=>simp only[go_sem,c62,QU,c1]
 |true=>
 cases c2:ZD e.Day 0 100000 with
 |false=>simp only[go_sem,c62,QU,c1,c2]
 |true=>
 have hb:=Z2I e c1;obtain⟨g,cap,ha,hcap,hn⟩:=Z2P e hs c1;have hz1:(Zq e).Id.size+(Zq e).br.size<=4611686018427387904:=by have:=F9 e;have:=Fc e;have:=hs.id;have:=hs.other;omega
 have hz2:(Zq e).Id.size+(Zq e).br.size+(Zq e).Text.size<=4611686018427387904:=by
  have:=F9 e;have:=Fc e;have:=Z2O e;have:=hs.id;have:=hs.other;have:=hs.text;omega
 have e3:((Zq e).Id++(Zq e).br)++(Zq e).Text=NF (Zq e):=rfl;have hn4:((Zq e).An.N==0&&(Z3 (Zq e).An.bm emp&&((Zq e).An.Num==0&&(Zq e).An.Den==0)))=QL (Zq e).An ⟨0,emp,0,0⟩:=rfl;have hn5:((Zq e).bg.X==0&&(Zq e).bg.Y==0)=QK (Zq e).bg ⟨0,0⟩:=rfl;have hl6:(W (W (W (((Zq e).Ids.l.length:Int)+((Zq e).bk.l.length:Int))+((Zq e).Path.l.length:Int))+((Zq e).Lst.l.length:Int))==0)=NG (Zq e):=rfl;unfold Fb;generalize Zq e=x at hb hz1 hz2 e3 hn4 hn5 hl6⊢;cases a1:x.A != 0 with
 |true=>simp only[go_sem,c62,QU,c1,c2,hb,a1]
 |false=>
 cases a2:x.B != 0 with
 |true=>simp only[go_sem,c62,QU,c1,c2,hb,a1,a2,ZX0,ZWC]
 |false=>
 cases a3:x.bv != 0 with
 |true=>simp only[go_sem,c62,QU,c1,c2,hb,a1,a2,a3,ZX0,ZWC,ZXf]
 |false=>
 cases a4:Z3 (NF x) emp with
 |false=>simp only[go_sem,c62,QU,c1,c2,hb,a1,a2,a3,hz1,hz2,ByteArray.size_append,if_true,e3,a4,ZX0,ZWC,ZXf]
 |true=>
 cases a5:QL x.An ⟨0,emp,0,0⟩with
 |false=>simp only[go_sem,c62,QU,c1,c2,hb,a1,a2,a3,hz1,hz2,ByteArray.size_append,if_true,e3,a4,hn4,a5,ZX0,ZWC,ZXf]
 |true=>
 cases a6:QK x.bg ⟨0,0⟩with
 |false=>simp only[go_sem,c62,QU,c1,c2,hb,a1,a2,a3,hz1,hz2,ByteArray.size_append,if_true,e3,a4,hn4,a5,hn5,a6,ZX0,ZXf]
 |true=>
 cases a7:NG x with
 |false=>simp only[go_sem,c62,QU,c1,c2,hb,a1,a2,a3,hz1,hz2,ByteArray.size_append,if_true,e3,a4,hn4,a5,hn5,a6,hl6,a7,ZXf]
 |true=>
  rcases hcap with rfl|rfl<;>simp only[go_sem,c62,QU,c1,c2,hb,a1,a2,a3,hz1,hz2,ByteArray.size_append,if_true,e3,a4,hn4,a5,hn5,a6,hl6,a7,ZXf,Z2N,ha,hn]
structure Sta where
 Ga:List Gm
 Gr:List Ev
 By:List Fa
 Bc:List Gc
 Nk:List be
 Gk:List bf
 Wk:List bf
abbrev stA(s:Sta):AV:=.agg [.isl false false 6<|s.Ga.map Gm.enc,.isl false false 5<|s.Gr.map Ev.enc,.isl false false 4<|s.By.map Fa.enc,.isl false false 16<|s.Bc.map Gc.enc,
 .isl false false 6 (s.Nk.map be.enc),.isl false false 2<|s.Gk.map bf.enc,.isl false false 2<|s.Wk.map bf.enc]
structure StS(s:Sta):Prop where
 regions:s.Ga.length<=1000
 streets:s.Gr.length<=1000
 buildings:s.By.length<=1000
 doors:s.Bc.length<=1000
 units:s.Nk.length<=1000
 merged:s.Gk.length<=1000
 rulings:s.Wk.length<=1000
def ZL(s:Sta)(id:Str):Int:=Zp (λx:Ev=>Z3 x.Id id) s.Gr 0
def Y1(s:Sta)(id:Str):Int:=Zp (λx:Fa=>Z3 x.Id id) s.By 0
def Zn(s:Sta)(id:Str):Int:=Zp (λx:Gc=>Z3 x.Id id) s.Bc 0
def K7(s:Sta)(hs:StS s)(id:Str):pfn rE 85 [stA s,.str id]=some (I<|ZL s id):=by
 have hp:∀x:Ev,pfn rE 161 [x.enc,.iptr false [.str id]]=some (.bool<|Z3 x.Id id):=λx=>by
  rw[Z5 (f:=161) rfl rfl];simp only[go_sem,c161,Ev.enc,NL.enc]
 have h1:=WF (E:=rE) (f:=233) (sz:=5) (n:=some 5) (enc:=Ev.enc) (p:=λx=>Z3 x.Id id) (g:=161) (cap:=[.iptr false [.str id]]) rfl rfl rfl s.Gr (by have:=hs.streets;omega) (λx _=>x.el) (λx _=>hp x) false false
 have h2:pfn rE 160 [.isl false false 5<|s.Gr.map Ev.enc,.clo (.func 161) [] [.iptr false [.str id]]]=some (I<|ZL s id):=by
  rw[Z5 (f:=160) rfl rfl];simp only[go_sem,c160,h1];rfl
 rw[Z5 (f:=85) rfl rfl];simp only[go_sem,c85,h2]
def Hb(s:Sta)(hs:StS s)(id:Str):pfn rE 84 [stA s,.str id]=some (I<|Y1 s id):=by
 have hp:∀x:Fa,pfn rE 159 [x.enc,.iptr false [.str id]]=some (.bool<|Z3 x.Id id):=λx=>by
  rw[Z5 (f:=159) rfl rfl];simp only[go_sem,c159,Fa.enc,NL.enc]
 have h1:=WF (E:=rE) (f:=232) (sz:=4) (n:=some 4) (enc:=Fa.enc) (p:=λx=>Z3 x.Id id) (g:=159) (cap:=[.iptr false [.str id]]) rfl rfl rfl s.By (by have:=hs.buildings;omega) (λx _=>x.el) (λx _=>hp x) false false
 have h2:pfn rE 158 [.isl false false 4<|s.By.map Fa.enc,.clo (.func 159) [] [.iptr false [.str id]]]=some (I<|Y1 s id):=by
  rw[Z5 (f:=158) rfl rfl];simp only[go_sem,c158,h1];rfl
 rw[Z5 (f:=84) rfl rfl];simp only[go_sem,c84,h2]
def find_ok(s:Sta)(hs:StS s)(id:Str):pfn rE 31 [stA s,.str id]=some (I<|Zn s id):=by
 have hp:∀x:Gc,pfn rE 79 [x.enc,.iptr false [.str id]]=some (.bool<|Z3 x.Id id):=λx=>by
  rw[Z5 (f:=79) rfl rfl];simp only[go_sem,c79,Gc.enc,NL.enc]
 have h1:=WF (E:=rE) (f:=156) (sz:=16) (n:=some 16) (enc:=Gc.enc) (p:=λx=>Z3 x.Id id) (g:=79) (cap:=[.iptr false [.str id]]) rfl rfl rfl s.Bc (by have:=hs.doors;omega) (λx _=>x.el) (λx _=>hp x) false false
 have h2:pfn rE 78 [.isl false false 16<|s.Bc.map Gc.enc,.clo (.func 79) [] [.iptr false [.str id]]]=some (I<|Zn s id):=by
  rw[Z5 (f:=78) rfl rfl];simp only[go_sem,c78,h1];rfl
 rw[Z5 (f:=31) rfl rfl];simp only[go_sem,c31,h2]
def XJ(s:Sta)(a:Int):Int:=match s.Gk.find? (λp=>p.b==a)with
 |some p=>p.a
 |none=>-1
def UA{α:Type}(P:α->Bool):∀(l:List α)(i:Int),(Zp P l i=-1/\l.find? P=none)\/∃(j:Nat)(x:α),Zp P l i=i+j/\l[j]?=some x/\l.find? P=some x
 |[],i=>Or.inl ⟨rfl,rfl⟩
 |y::r,i=>by
  cases h:P y with
  |true=>right;exact⟨0,y,by simp[Zp,h],by simp,by simp[h]⟩
  |false=>
   rcases UA P r (i+1)with⟨h1,h2⟩|⟨j,x,h1,h2,h3⟩
   .left;exact⟨by simp[Zp,h,h1],by simp[h,h2]⟩
   .right;refine⟨j+1,x,?_,by simpa using h2,by simp[h,h3]⟩
    simp only[Zp,h,cond_false,h1];omega
def NJ(s:Sta)(hs:StS s)(a:Int):pfn rE 89 [stA s,I a]=some (I<|XJ s a):=by
 have hp:∀x:bf,pfn rE 165 [x.enc,.iptr false [I a]]=some (.bool<|x.b==a):=λx=>by
  have hlt:(0<=(1:Int)/\(1:Int)<((2:Nat):Int))=True:=by simp
  have hn:((1:Int)).toNat=1:=rfl;rw[Z5 (f:=165) rfl rfl];simp only[go_sem,c165,bf.enc,hlt,hn,if_true,ZX1]
 have h1:=WF (E:=rE) (f:=245) (sz:=2) (n:=some 2) (enc:=bf.enc) (p:=λx=>x.b==a) (g:=165) (cap:=[.iptr false [I a]]) rfl rfl rfl s.Gk (by have:=hs.merged;omega) (λx _=>x.el) (λx _=>hp x) false false
 have h2:pfn rE 164 [.isl false false 2<|s.Gk.map bf.enc,.clo (.func 165) [] [.iptr false [I a]]]=some (I<|Zp (λx:bf=>x.b==a) s.Gk 0):=by
  rw[Z5 (f:=164) rfl rfl];simp only[go_sem,c164,h1]
 rw[Z5 (f:=89) rfl rfl];unfold XJ;rcases UA (λx:bf=>x.b==a) s.Gk 0 with⟨h3,h4⟩|⟨j,x,h3,h4,h5⟩
 .rw[h4];rw[h3]at h2;have hd:decide ((-1:Int)>=0)=false:=rfl;simp only[go_sem,c89,h2,hd]
 .rw[h5];have e:(0:Int)+(j:Int)=(j:Int):=by omega
  rw[h3,e]at h2;have hd:decide ((j:Int)>=0)=true:=decide_eq_true<|by omega
  have hg:=Z6 (f:=bf.enc) h4;have hlt:(0<=(0:Int)/\(0:Int)<((2:Nat):Int))=True:=by simp
  have hn:((0:Int)).toNat=0:=rfl;simp only[go_sem,c89,h2,hd,hg,bf.enc,hlt,hn,if_true,ZY7]
def Qp(s:Sta):List Str:=s.Ga.map (·.Id)++(s.Gr.map (·.Id)++(s.By.map (·.Id)++(s.Bc.map (·.Id)++s.Nk.map (·.Id))))
def Z2R(v:AV)(hv:∀n,bel n v=true)(K:List Str)(l:List Gm)(hl:l.length<=1000)(hK:K.length<=10000):∃fr',Zg rE [1,3,15,16,17] c40L0b [(1,v),(3,.sl 0 K.length 0 K.length false),(15,.isl false false 6<|l.map Gm.enc),(16,I l.length),(17,.int .i64 0)] [.row 1<|K.map encS] =
 some (.exit 0,fr',[.row 1 ((K++l.map (·.Id)).map encS)])/\get fr' 1=v/\get fr' 3=.sl 0 (K.length+l.length) 0 (K.length+l.length) false:=by
 have hbS:∀n(K:List Str),Zd n (K.map encS)=true:=λn K=>ZN _<|Zw (λt=>rfl) K
 have L:=Y8 (E:=rE) (live:=[1,3,15,16,17]) (b:=c40L0b) l.length (λi=>[(1,v),(3,.sl 0 (K.length+i) 0 (K.length+i) false),(15,.isl false false 6<|l.map Gm.enc),(16,I l.length),(17,I i)])
  (λi=>[.row 1 ((K++(l.take i).map (·.Id)).map encS)]) (λi=>rfl)
  (λi hi=>by
   obtain⟨x,hx⟩:∃x,l[i]?=some x:=⟨_,ZWu hi⟩;have hg:=Z6 (f:=Gm.enc) hx;have hi':=Zh hi;have hw:=Zx (n:=i)<|by omega
   have ht:=YW (λx:Gm=>x.Id) hx
   have hn:(K++(l.take i).map (·.Id)).length=K.length+i:=by rw[ZWz,ZWm,take_len hx]
   have e1:(K++(l.take<|i+1).map (·.Id)).map encS=(K++(l.take i).map (·.Id)).map encS++[.str x.Id]:=by
    rw[ht,<-ZWW,ZWM];rfl
   rw[e1];generalize K++(l.take i).map (·.Id)=KS at hn⊢;rw[<-hn,<-ZXk,<-hn];have ha:=λq=>XC (h:=[.row 1<|KS.map encS,q]) (fz:=false) (b:=0) (g:=KS.length) (sz:=1) (es:=KS.map encS) (bw:=false) (ex:=false) (ys:=[.str x.Id]) (bytes:=16) (by simp[rowAt]) rfl (by rfl) (by omega) (by omega) (by simp;omega)
   refine⟨_,by simp only[go_sem,c40L0b,hg,hi',hw,Gm.enc,NL.enc,ha,beq_self_eq_true,hbS,hv];rfl,?_⟩
   simp only[go_sem])
  (e:=.exit 0) (by simp only[go_sem,c40L0b,ZG,ZWR];rfl) (by simp)
 have e0:K++(l.take 0).map (λx:Gm=>x.Id)=K:=by simp
 rw[e0]at L;refine⟨_,L,?_,?_⟩<;>simp only[go_sem]
def Z2S(v:AV)(hv:∀n,bel n v=true)(K:List Str)(l:List Ev)(hl:l.length<=1000)(hK:K.length<=10000):∃fr',Zg rE [1,3,28,29,30] c40L1b [(1,v),(3,.sl 0 K.length 0 K.length false),(28,.isl false false 5<|l.map Ev.enc),(29,I l.length),(30,.int .i64 0)] [.row 1<|K.map encS] =
 some (.exit 2,fr',[.row 1 ((K++l.map (·.Id)).map encS)])/\get fr' 1=v/\get fr' 3=.sl 0 (K.length+l.length) 0 (K.length+l.length) false:=by
 have hbS:∀n(K:List Str),Zd n (K.map encS)=true:=λn K=>ZN _<|Zw (λt=>rfl) K
 have L:=Y8 (E:=rE) (live:=[1,3,28,29,30]) (b:=c40L1b) l.length (λi=>[(1,v),(3,.sl 0 (K.length+i) 0 (K.length+i) false),(28,.isl false false 5<|l.map Ev.enc),(29,I l.length),(30,I i)])
  (λi=>[.row 1 ((K++(l.take i).map (·.Id)).map encS)]) (λi=>rfl)
  (λi hi=>by
   obtain⟨x,hx⟩:∃x,l[i]?=some x:=⟨_,ZWu hi⟩;have hg:=Z6 (f:=Ev.enc) hx;have hi':=Zh hi;have hw:=Zx (n:=i)<|by omega
   have ht:=YW (λx:Ev=>x.Id) hx
   have hn:(K++(l.take i).map (·.Id)).length=K.length+i:=by rw[ZWz,ZWm,take_len hx]
   have e1:(K++(l.take<|i+1).map (·.Id)).map encS=(K++(l.take i).map (·.Id)).map encS++[.str x.Id]:=by
    rw[ht,<-ZWW,ZWM];rfl
   rw[e1];generalize K++(l.take i).map (·.Id)=KS at hn⊢;rw[<-hn,<-ZXk,<-hn];have ha:=λq=>XC (h:=[.row 1<|KS.map encS,q]) (fz:=false) (b:=0) (g:=KS.length) (sz:=1) (es:=KS.map encS) (bw:=false) (ex:=false) (ys:=[.str x.Id]) (bytes:=16) (by simp[rowAt]) rfl (by rfl) (by omega) (by omega) (by simp;omega)
   refine⟨_,by simp only[go_sem,c40L1b,hg,hi',hw,Ev.enc,NL.enc,ha,beq_self_eq_true,hbS,hv];rfl,?_⟩
   simp only[go_sem])
  (e:=.exit 2) (by simp only[go_sem,c40L1b,ZG,ZWR];rfl) (by simp)
 have e0:K++(l.take 0).map (λx:Ev=>x.Id)=K:=by simp
 rw[e0]at L;refine⟨_,L,?_,?_⟩<;>simp only[go_sem]
def Z2T(v:AV)(hv:∀n,bel n v=true)(K:List Str)(l:List Fa)(hl:l.length<=1000)(hK:K.length<=10000):∃fr',Zg rE [1,3,41,42,43] c40L2b [(1,v),(3,.sl 0 K.length 0 K.length false),(41,.isl false false 4<|l.map Fa.enc),(42,I l.length),(43,.int .i64 0)] [.row 1<|K.map encS] =
 some (.exit 4,fr',[.row 1 ((K++l.map (·.Id)).map encS)])/\get fr' 1=v/\get fr' 3=.sl 0 (K.length+l.length) 0 (K.length+l.length) false:=by
 have hbS:∀n(K:List Str),Zd n (K.map encS)=true:=λn K=>ZN _<|Zw (λt=>rfl) K
 have L:=Y8 (E:=rE) (live:=[1,3,41,42,43]) (b:=c40L2b) l.length (λi=>[(1,v),(3,.sl 0 (K.length+i) 0 (K.length+i) false),(41,.isl false false 4<|l.map Fa.enc),(42,I l.length),(43,I i)])
  (λi=>[.row 1 ((K++(l.take i).map (·.Id)).map encS)]) (λi=>rfl)
  (λi hi=>by
   obtain⟨x,hx⟩:∃x,l[i]?=some x:=⟨_,ZWu hi⟩;have hg:=Z6 (f:=Fa.enc) hx;have hi':=Zh hi;have hw:=Zx (n:=i)<|by omega
   have ht:=YW (λx:Fa=>x.Id) hx
   have hn:(K++(l.take i).map (·.Id)).length=K.length+i:=by rw[ZWz,ZWm,take_len hx]
   have e1:(K++(l.take<|i+1).map (·.Id)).map encS=(K++(l.take i).map (·.Id)).map encS++[.str x.Id]:=by
    rw[ht,<-ZWW,ZWM];rfl
   rw[e1];generalize K++(l.take i).map (·.Id)=KS at hn⊢;rw[<-hn,<-ZXk,<-hn];have ha:=λq=>XC (h:=[.row 1<|KS.map encS,q]) (fz:=false) (b:=0) (g:=KS.length) (sz:=1) (es:=KS.map encS) (bw:=false) (ex:=false) (ys:=[.str x.Id]) (bytes:=16) (by simp[rowAt]) rfl (by rfl) (by omega) (by omega) (by simp;omega)
   refine⟨_,by simp only[go_sem,c40L2b,hg,hi',hw,Fa.enc,NL.enc,ha,beq_self_eq_true,hbS,hv];rfl,?_⟩
   simp only[go_sem])
  (e:=.exit 4) (by simp only[go_sem,c40L2b,ZG,ZWR];rfl) (by simp)
 have e0:K++(l.take 0).map (λx:Fa=>x.Id)=K:=by simp
 rw[e0]at L;refine⟨_,L,?_,?_⟩<;>simp only[go_sem]
def Z2U(v:AV)(hv:∀n,bel n v=true)(K:List Str)(l:List Gc)(hl:l.length<=1000)(hK:K.length<=10000):∃fr',Zg rE [1,3,54,55,56] c40L3b [(1,v),(3,.sl 0 K.length 0 K.length false),(54,.isl false false 16<|l.map Gc.enc),(55,I l.length),(56,.int .i64 0)] [.row 1<|K.map encS] =
 some (.exit 6,fr',[.row 1 ((K++l.map (·.Id)).map encS)])/\get fr' 1=v/\get fr' 3=.sl 0 (K.length+l.length) 0 (K.length+l.length) false:=by
 have hbS:∀n(K:List Str),Zd n (K.map encS)=true:=λn K=>ZN _<|Zw (λt=>rfl) K
 have L:=Y8 (E:=rE) (live:=[1,3,54,55,56]) (b:=c40L3b) l.length (λi=>[(1,v),(3,.sl 0 (K.length+i) 0 (K.length+i) false),(54,.isl false false 16<|l.map Gc.enc),(55,I l.length),(56,I i)])
  (λi=>[.row 1 ((K++(l.take i).map (·.Id)).map encS)]) (λi=>rfl)
  (λi hi=>by
   obtain⟨x,hx⟩:∃x,l[i]?=some x:=⟨_,ZWu hi⟩;have hg:=Z6 (f:=Gc.enc) hx;have hi':=Zh hi;have hw:=Zx (n:=i)<|by omega
   have ht:=YW (λx:Gc=>x.Id) hx
   have hn:(K++(l.take i).map (·.Id)).length=K.length+i:=by rw[ZWz,ZWm,take_len hx]
   have e1:(K++(l.take<|i+1).map (·.Id)).map encS=(K++(l.take i).map (·.Id)).map encS++[.str x.Id]:=by
    rw[ht,<-ZWW,ZWM];rfl
   rw[e1];generalize K++(l.take i).map (·.Id)=KS at hn⊢;rw[<-hn,<-ZXk,<-hn];have ha:=λq=>XC (h:=[.row 1<|KS.map encS,q]) (fz:=false) (b:=0) (g:=KS.length) (sz:=1) (es:=KS.map encS) (bw:=false) (ex:=false) (ys:=[.str x.Id]) (bytes:=16) (by simp[rowAt]) rfl (by rfl) (by omega) (by omega) (by simp;omega)
   refine⟨_,by simp only[go_sem,c40L3b,hg,hi',hw,Gc.enc,NL.enc,ha,beq_self_eq_true,hbS,hv];rfl,?_⟩
   simp only[go_sem])
  (e:=.exit 6) (by simp only[go_sem,c40L3b,ZG,ZWR];rfl) (by simp)
 have e0:K++(l.take 0).map (λx:Gc=>x.Id)=K:=by simp
 rw[e0]at L;refine⟨_,L,?_,?_⟩<;>simp only[go_sem]
def Z2V(v:AV)(hv:∀n,bel n v=true)(K:List Str)(l:List be)(hl:l.length<=1000)(hK:K.length<=10000):∃fr',Zg rE [3,67,68,69] c40L4b [(3,.sl 0 K.length 0 K.length false),(67,.isl false false 6<|l.map be.enc),(68,I l.length),(69,.int .i64 0)] [.row 1<|K.map encS] =
 some (.exit 8,fr',[.row 1 ((K++l.map (·.Id)).map encS)])/\get fr' 3=.sl 0 (K.length+l.length) 0 (K.length+l.length) false:=by
 have hbS:∀n(K:List Str),Zd n (K.map encS)=true:=λn K=>ZN _<|Zw (λt=>rfl) K
 have L:=Y8 (E:=rE) (live:=[3,67,68,69]) (b:=c40L4b) l.length (λi=>[(3,.sl 0 (K.length+i) 0 (K.length+i) false),(67,.isl false false 6<|l.map be.enc),(68,I l.length),(69,I i)])
  (λi=>[.row 1 ((K++(l.take i).map (·.Id)).map encS)]) (λi=>rfl)
  (λi hi=>by
   obtain⟨x,hx⟩:∃x,l[i]?=some x:=⟨_,ZWu hi⟩;have hg:=Z6 (f:=be.enc) hx;have hi':=Zh hi;have hw:=Zx (n:=i)<|by omega
   have ht:=YW (λx:be=>x.Id) hx
   have hn:(K++(l.take i).map (·.Id)).length=K.length+i:=by rw[ZWz,ZWm,take_len hx]
   have e1:(K++(l.take<|i+1).map (·.Id)).map encS=(K++(l.take i).map (·.Id)).map encS++[.str x.Id]:=by
    rw[ht,<-ZWW,ZWM];rfl
   rw[e1];generalize K++(l.take i).map (·.Id)=KS at hn⊢;rw[<-hn,<-ZXk,<-hn];have ha:=λq=>XC (h:=[.row 1<|KS.map encS,q]) (fz:=false) (b:=0) (g:=KS.length) (sz:=1) (es:=KS.map encS) (bw:=false) (ex:=false) (ys:=[.str x.Id]) (bytes:=16) (by simp[rowAt]) rfl (by rfl) (by omega) (by omega) (by simp;omega)
   refine⟨_,by simp only[go_sem,c40L4b,hg,hi',hw,be.enc,ha,beq_self_eq_true,hbS];rfl,?_⟩
   simp only[go_sem])
  (e:=.exit 8) (by simp only[go_sem,c40L4b,ZG,ZWR];rfl) (by simp)
 have e0:K++(l.take 0).map (λx:be=>x.Id)=K:=by simp
 rw[e0]at L;refine⟨_,L,?_⟩<;>simp only[go_sem]
def Fd(s:Sta)(hs:StS s):pfn rE 40 [stA s]=some (.isl false false 1<|(Qp s).map encS):=by
 have hcS:∀K:List Str,Z4 (K.map encS)=true:=λK=>Zw (λt=>rfl) K
 have hbS:∀n(K:List Str),Zd n (K.map encS)=true:=λn K=>ZN _<|hcS K
 have z:=hs.regions;have z1:=hs.streets;have z2:=hs.buildings;have z3:=hs.doors;have z4:=hs.units;have hbs:∀n,bel n (.iptr false [.isl false false 6<|s.Ga.map Gm.enc,.isl false false 5<|s.Gr.map Ev.enc,.isl false false 4<|s.By.map Fa.enc,.isl false false 16<|s.Bc.map Gc.enc,.isl false false 6<|s.Nk.map be.enc,.isl false false 2<|s.Gk.map bf.enc,.isl false false 2<|s.Wk.map bf.enc])=true:=λn=>rfl
 obtain⟨f0,h0,a0,b0⟩:=Z2R _ hbs [] s.Ga z<|by simp
 obtain⟨f1,h1,a1,b1⟩:=Z2S _ hbs (s.Ga.map (·.Id)) s.Gr z1<|by simp;omega
 obtain⟨f2,h2,a2,b2⟩:=Z2T _ hbs (s.Ga.map (·.Id)++s.Gr.map (·.Id)) s.By z2<|by simp;omega
 obtain⟨f3,h3,a3,b3⟩:=Z2U _ hbs ((s.Ga.map (·.Id)++s.Gr.map (·.Id))++s.By.map (·.Id)) s.Bc z3<|by simp;omega
 obtain⟨f4,h4,b4⟩:=Z2V .bot (λn=>rfl) (((s.Ga.map (·.Id)++s.Gr.map (·.Id))++s.By.map (·.Id))++s.Bc.map (·.Id)) s.Nk z4<|by simp;omega
 have e:((((s.Ga.map (·.Id)++s.Gr.map (·.Id))++s.By.map (·.Id))++s.Bc.map (·.Id))++s.Nk.map (·.Id))=Qp s:=by simp[Qp,ZWW]
 rw[e]at h4;have hz:∀K:List Str,List.take K.length (K.map encS)=K.map encS:=λK=>ZWL<|by simp
 have l5:(((s.Ga.map (·.Id)++s.Gr.map (·.Id))++s.By.map (·.Id))++s.Bc.map (·.Id)).length+s.Nk.length=(Qp s).length:=by rw[<-e];simp;omega
 rw[l5]at b4;rw[Z5 (f:=40) rfl rfl];simp only[ZWm,ZWz,ZWZ,ZWQ,ZWD,ZX6]at h0 b0 h1 b1 h2 b2 h3 b3 h4 b4;simp only[go_sem,c40,c40L0,c40L1,c40L2,c40L3,c40L4,h0,a0,b0,h1,a1,b1,h2,a2,b2,h3,a3,b3,h4,b4,hbS,hcS,beq_self_eq_true,hz]
def QM(a b c:Int):Bool:=ZD a 0 63&&(ZD b (-1) 100000&&ZD c 0 100000)
def Qc(a b c:Int):pfn rE 35 [I a,I b,I c]=some (.bool<|QM a b c):=by
 rw[Z5 (f:=35) rfl rfl];unfold QM;cases h1:ZD a 0 63<;>cases h2:ZD b (-1) 100000<;>simp only[go_sem,c35,DY,h1,h2]
def Wg(k:Int)(e:Gt)(hs:EvS e):pfn rE 37 [I k,evA e]=some (.bool<|Q9 {e with bq:=k}):=by
 have h:=NH {e with bq:=k} ⟨hs.ids,hs.names,hs.path,hs.lst,hs.id,hs.other,hs.text⟩
 rw[Z5 (f:=37) rfl rfl];simp only[go_sem,c37,h]
def Jo(l:List Nm)(ex:Bool):Gt:=⟨3,0,0,0,0,B [120],emp,emp,⟨false,[]⟩,⟨ex,l⟩,⟨0,emp,0,0⟩,⟨0,0⟩,⟨false,[]⟩,⟨false,[]⟩⟩
def Jp(l:List Nm)(ex:Bool):Bool:=(l.length:Int)==0||Q9 (Jo l ex)
def Hc(l:List Nm)(ex:Bool)(hl:l.length<=100):pfn rE 36 [.isl false ex 3<|l.map Nm.enc]=some (.bool<|Jp l ex):=by
 have h:=NH (Jo l ex) ⟨by simp[Jo],hl,by simp[Jo],by simp[Jo],ZWP rfl,ZWP rfl,ZWP rfl⟩
 have h':pfn rE 62 [.agg [I 3,I 0,I 0,I 0,I 0,.str<|B [120],.str emp,.str emp,.isl false false 1 [],.isl false ex 3<|l.map Nm.enc,I 0,.str emp,I 0,I 0,I 0,I 0,.isl false false 2 [],.isl false false 7 []]]=some (.bool<|Q9<|Jo l ex):=h;rw[Z5 (f:=36) rfl rfl];unfold Jp;cases c:(l.length:Int)==0<;>simp only[go_sem,c36,c,h']
def Jq(l:List Str):Bool:=(((Ys<|Yk<|l.map encS).length:Nat):Int)==(l.length:Int)
def Fe(x:AV):∀l,(Vb x l).length=l.length+1
 |[]=>rfl
 |y::r=>by unfold Vb;cases GP x y<;>simp[Fe x r]
def Ff:∀l,(Yk l).length=l.length
 |[]=>rfl
 |x::r=>by unfold Yk;rw[Fe,Ff r,ZWH]
def Fg(p:AV->Bool)(x:AV):∀l,(Vb x l).all p=(p x&&l.all p)
 |[]=>rfl
 |y::r=>by
  unfold Vb;cases GP x y with
  |true=>rfl
  |false=>
   rw[cond_false,ZX8,Fg p x r,ZX8];cases p x<;>cases p y<;>rfl
def Fh(p:AV->Bool):∀l,(Yk l).all p=l.all p
 |[]=>rfl
 |x::r=>by unfold Yk;rw[Fg,Fh p r,ZX8]
def Fi:∀m:List AV,(Ys m).length<=m.length
 |[]=>by simp[Ys]
 |a::r=>by
  have ih:=Fi r;unfold Ys;cases h:Ys r with
  |nil=>simp
  |cons b t=>rw[h]at ih;simp at ih⊢;cases sameKey a b<;>simp<;>omega
def Fj(l:List Str)(ex:Bool)(hlen:l.length<=1000000):pfn rE 39 [.isl false ex 1<|l.map encS]=some (.bool<|Jq l):=by
 have hble:Nat.ble l.length 1000000=true:=ZXG hlen;have hfit:(l.map encS).all (fits 1)=true:=by rw[ZYw,ZWF];intro x _;rfl
 have hstr:(l.map encS).all WB=true:=by rw[ZYw,ZWF];intro x _;rfl
 have h1:fnV rE 86 [.isl false ex 1<|l.map encS] []=some (.sl 0 l.length 0 l.length false,[.row 1<|l.map encS]):=by
  rw[V8 (s:=J9) rfl];simp only[J9,Q2,Qq,hfit,ZWm,hble,beq_self_eq_true,ZWC,ZWv,cond_true,ZWZ,ZWQ]
 have h2:fnV rE 87 [.sl 0 l.length 0 l.length false] [.row 1<|l.map encS]=some (.tup [],[.row 1<|Yk<|l.map encS]):=by
  rw[V8 (s:=J7) rfl];simp only[J7,ZWX,ZWm,beq_self_eq_true,hstr,hble,ZWv,cond_true,GM]
 have h3:∃h',fnV rE 88 [.sl 0 l.length 0 l.length false] [.row 1<|Yk<|l.map encS]=some (.sl 0 l.length 0 (Ys<|Yk<|l.map encS).length false,[.row 1 h'])/\h'.length=l.length:=by
  rw[V8 (s:=J8) rfl];have hl:(Yk<|l.map encS).length=l.length:=by rw[Ff,ZWm]
  have ha:(Yk<|l.map encS).all WB=true:=by rw[Fh,hstr]
  have hc:=Fi<|Yk<|l.map encS;simp only[J8,ZWX,hl,beq_self_eq_true,ha,hble,ZWv,cond_true,GM];refine⟨_,rfl,?_⟩;simp;omega
 obtain⟨h',h3,h4⟩:=h3;rw[Z5 (f:=39) rfl rfl];unfold Jq;simp only[go_sem,c39,h1,h2,h3,h4,beq_self_eq_true]
structure Adr where
 street:Str
 n:HN
def Adr.enc(a:Adr):AV:=.agg [.str a.street,I a.n.N,.str a.n.bm,I a.n.Num,I a.n.Den]
def XK(a b:Adr):Bool:=Z3 a.street b.street&&(a.n.N==b.n.N&&(Z3 a.n.bm b.n.bm&&(a.n.Num==b.n.Num&&a.n.Den==b.n.Den)))
def NK(x y:Adr):Zz true [2,1,2,1,1] x.enc y.enc=some (XK x y):=by simp only[go_sem,Adr.enc,XK]
def WI(d:Gc):Adr:=⟨d.Ev,d.An⟩
def Jr(d:Gc):Bool:=d.Ld != -1||!Z3 d.Veil emp
def Hd(K:List Adr)(d:Gc):List Adr:=bif Jr d then K else Qi XK K<|WI d
def Y9(l:List Gc)(i:Nat):List Adr:=(l.take i).foldl Hd []
def Wh(l:List Gc):Bool:=Zu (λi d=>Jr d||!(Y9 l i).any (XK<|WI d)) 0 l
def Fk(s:Sta)(hs:StS s):pfn rE 41 [stA s]=some (.bool<|Wh s.Bc):=by
 have hcl:Z4 (s.Bc.map Gc.enc)=true:=Zw (λt=>rfl) _
 have hbA:∀n(K:List Adr),Zd n (K.map Adr.enc)=true:=λn K=>ZN _<|Zw (λt=>rfl) K
 have hbT:∀n k,Zd n (ZO k)=true:=λn k=>ZN _<|Ut k
 have L:=Jk (E:=rE) (live:=[3,9,10,11]) (b:=c41L0b) s.Bc (λi d=>Jr d||!(Y9 s.Bc i).any (XK<|WI d))
  (λi=>[(3,.mp 0),(9,.isl false false 16<|s.Bc.map Gc.enc),(10,I s.Bc.length),(11,I i)])
  (λi=>[.map ((Y9 s.Bc i).map Adr.enc)<|ZO (Y9 s.Bc i).length]) 0 (λfr h=>get fr 2=.bot) (λfr h=>get fr 2=.bool false) (λi=>rfl)
  (λi x hx hP=>by
   have hg:=Z6 (f:=Gc.enc) hx;have hi:=Zh<|Z7 hx;have hw:=Zx (n:=i) (by have:=Z7 hx;have:=hs.doors;omega)
   have hf:Y9 s.Bc (i+1)=Hd (Y9 s.Bc i) x:=Us Hd [] hx;have hp:=λhh=>Ur (ag:=true) (kk:=[2,1,2,1,1]) (enc:=Adr.enc) (eq:=XK) NK (Y9 s.Bc i) (WI x) (h:=.map ((Y9 s.Bc i).map Adr.enc) (ZO (Y9 s.Bc i).length)::hh) (b:=0) rfl
   have hq:=λhh=>H5 (ag:=true) (kk:=[2,1,2,1,1]) (enc:=Adr.enc) (eq:=XK) NK (Y9 s.Bc i) (WI x) (h:=.map ((Y9 s.Bc i).map Adr.enc) (ZO (Y9 s.Bc i).length)::hh) (b:=0) rfl
   rw[hf];generalize Y9 s.Bc i=K at hp hq hP⊢;have hp':∀a b,YK [.map (K.map Adr.enc)<|ZO K.length,a,b] true [2,1,2,1,1] (.mp 0) (.agg [.str x.Ev,I x.An.N,.str x.An.bm,I x.An.Num,I x.An.Den]) (.bool true)=_:=λa b=>hp [a,b]
   have hq':∀a b,W5 [.map (K.map Adr.enc)<|ZO K.length,a,b] true [2,1,2,1,1] false (.bool false) (.mp 0) (.agg [.str x.Ev,I x.An.N,.str x.An.bm,I x.An.Num,I x.An.Den])=_:=λa b=>hq [a,b]
   unfold Hd;unfold Jr at hP⊢;cases h1:x.Ld != -1 with
   |true=>
    refine⟨_,by simp only[go_sem,c41L0b,hg,hi,hw,Gc.enc,NL.enc,h1,hbA,hbT];rfl,?_⟩
    simp only[go_sem]
   |false=>
   cases h2:Z3 x.Veil emp with
   |false=>
    refine⟨_,by simp only[go_sem,c41L0b,hg,hi,hw,Gc.enc,NL.enc,h1,h2,hbA,hbT];rfl,?_⟩
    simp only[go_sem]
   |true=>
    have h3:K.any (XK<|WI x)=false:=by simpa[h1,h2]using hP
    refine⟨_,by simp only[go_sem,c41L0b,hg,hi,hw,Gc.enc,NL.enc,h1,h2,hq',hp',h3,hbA,hbT];rfl,?_⟩
    simp only[go_sem])
  (λi x hx hP=>by
   have hg:=Z6 (f:=Gc.enc) hx;have hi:=Zh<|Z7 hx;have hq:=λhh=>H5 (ag:=true) (kk:=[2,1,2,1,1]) (enc:=Adr.enc) (eq:=XK) NK (Y9 s.Bc i) (WI x) (h:=.map ((Y9 s.Bc i).map Adr.enc) (ZO (Y9 s.Bc i).length)::hh) (b:=0) rfl
   generalize Y9 s.Bc i=K at hq hP⊢;have hq':∀a b,W5 [.map (K.map Adr.enc)<|ZO K.length,a,b] true [2,1,2,1,1] false (.bool false) (.mp 0) (.agg [.str x.Ev,I x.An.N,.str x.An.bm,I x.An.Num,I x.An.Den])=_:=λa b=>hq [a,b]
   unfold Jr at hP;have h1:(x.Ld != -1)=false:=by cases h:x.Ld != -1<;>simp_all
   have h2:Z3 x.Veil emp=true:=by cases h:Z3 x.Veil emp<;>simp_all
   have h3:K.any (XK<|WI x)=true:=by simpa[h1,h2]using hP
   refine⟨_,_,by simp only[go_sem,c41L0b,hg,hi,Gc.enc,NL.enc,h1,h2,hq',h3,hbA,hbT];rfl,?_⟩
   simp only[go_sem])
  (⟨_,_,by simp only[go_sem,c41L0b,ZG];rfl,by simp only[go_sem]⟩)
 obtain⟨fr',h',h1,h2,h3⟩:=L;have h1':Zg rE [3,9,10,11] c41L0b [(3,.mp 0),(9,.isl false false 16<|s.Bc.map Gc.enc),(10,I s.Bc.length),(11,.int .i64 0)] [.map [] []]=_:=h1;rw[Z5 (f:=41) rfl rfl];have hdef:Zu (λi d=>Jr d||!(Y9 s.Bc i).any (XK<|WI d)) 0 s.Bc=Wh s.Bc:=rfl
 rw[hdef]at h1' h3;cases hc:Wh s.Bc with
 |true=>rw[hc]at h1';simp only[go_sem,c41,c41L0,h1']
 |false=>rw[hc]at h1';simp only[go_sem,c41,c41L0,h1',h3 hc,ZWt]
def Ye(V:List Bool):List AV:=V.map .bool
def Wi(x y:Int):Zz false [1] (I x) (I y)=some (x==y):=by simp only[go_sem]
def Z2W(K:List Int)(V:List Bool)(hl:V.length=K.length)(x:Int){h:Hp}{b:Nat}(hb:h[b]?=some (.map (K.map I)<|Ye V)):
 ∃c,W5 h false [1] false (.bool false) (.mp b) (I x)=some (.bool c):=by
 simp only[W5,hb,QW,Wi];rcases Uq (ag:=false) (kk:=[1]) (enc:=I) (eq:=λa b=>a==b) Wi x K 0 with⟨h1,h2⟩|⟨j,h1,h2,h3,h4⟩
 .rw[h1];exact⟨false,rfl⟩
 .have:(Ye V)[j]?=some (.bool<|V[j]'(by omega)):=by
   unfold Ye;rw[ZXg,ZWu<|by omega];rfl
  rw[h1];simp only[this];exact⟨_,rfl⟩
def Z2X(K:List Int)(V:List Bool)(hl:V.length=K.length)(x:Int)(c:Bool){h:Hp}{b:Nat}(hb:h[b]?=some (.map (K.map I)<|Ye V)):
 ∃(K':List Int)(V':List Bool),V'.length=K'.length/\K'.length<=K.length+1/\YK h false [1] (.mp b) (I x) (.bool c)=some (.bot,setH h b<|.map (K'.map I)<|Ye V'):=by
 simp only[YK,hb,Yo,Wi];rcases Uq (ag:=false) (kk:=[1]) (enc:=I) (eq:=λa b=>a==b) Wi x K 0 with⟨h1,h2⟩|⟨j,h1,h2,h3,h4⟩
 .rw[h1];refine⟨K++[x],V++[c],by simp[hl],by simp,?_⟩
  simp[Ye,ZM,ZH]
 .rw[h1];refine⟨K,V.set j c,by simp[hl],by omega,?_⟩
  simp[Ye,ZM,ZH,ZYF]
def Vm(a b:Int):Bool:=a==b
def Y2(p:bf):Bool:=QM p.a 0 0&&(QM p.b 0 0&&!(p.a==p.b))
def QV(l:List bf)(i:Nat):List Int:=(l.take i).foldl (λK p=>Qi Vm K p.b) []
def UB(l:List bf):Bool:=Zu (λi p=>Y2 p&&!(QV l i).any (Vm p.b)) 0 l
def WJ:(0<=(0:Int)/\(0:Int)<((2:Nat):Int))=True:=by simp
def XL:(0<=(1:Int)/\(1:Int)<((2:Nat):Int))=True:=by simp
def Z2Y(a17 a1:AV)(ha17:∀n,bel n a17=true)(ha1:∀n,bel n a1=true)(l:List bf)(hl:l.length<=1000):
 ∃fr' h',Zg rE [1,3,4,17,18,19,24,25,26] c42L0b [(1,a1),(3,.mp 0),(4,.int .i64 0),(17,a17),(18,.int .i64 2),(19,.int .i64 0),(24,.isl false false 2<|l.map bf.enc),(25,I l.length),(26,.int .i64 0)] [.map [] []] =
  some (if UB l=true then .exit 2 else .ret,fr',h')/\
  (UB l=true->(get fr' 1=a1/\get fr' 2=.bot/\get fr' 3=.mp 0/\get fr' 17=a17/\get fr' 18=.int .i64 2/\get fr' 19=.int .i64 0)/\∃(K:List Int)(V:List Bool),V.length=K.length/\h'=[.map (K.map I)<|Ye V])/\(UB l=false->get fr' 2=.bool false/\get fr' 1=a1/\get fr' 3=.mp 0/\get fr' 17=a17/\get fr' 18=.int .i64 2/\get fr' 19=.int .i64 0):=by
 have hbA:∀n(K:List Int),Zd n (K.map I)=true:=λn K=>ZN _<|Zw (λt=>rfl) K
 have hbT:∀n k,Zd n (ZO k)=true:=λn k=>ZN _<|Ut k
 have n0:((0:Int)).toNat=0:=rfl;have n1:((1:Int)).toNat=1:=rfl;have z0:((0:Int)==0)=true:=rfl;have L:=Jk (E:=rE) (live:=[1,3,4,17,18,19,24,25,26]) (b:=c42L0b) l (λi p=>Y2 p&&!(QV l i).any (Vm p.b))
  (λi=>[(1,a1),(3,.mp 0),(4,.int .i64 0),(17,a17),(18,.int .i64 2),(19,.int .i64 0),(24,.isl false false 2<|l.map bf.enc),(25,I l.length),(26,I i)])
  (λi=>[.map ((QV l i).map I)<|ZO (QV l i).length]) 2
  (λfr h=>(get fr 1=a1/\get fr 2=.bot/\get fr 3=.mp 0/\get fr 17=a17/\get fr 18=.int .i64 2/\get fr 19=.int .i64 0)/\h=[.map ((QV l l.length).map I)<|ZO (QV l l.length).length])
  (λfr h=>get fr 2=.bool false/\get fr 1=a1/\get fr 3=.mp 0/\get fr 17=a17/\get fr 18=.int .i64 2/\get fr 19=.int .i64 0) (λi=>rfl)
  (λi x hx hP=>by
   have hg:=Z6 (f:=bf.enc) hx;have hi:=Zh<|Z7 hx;have hw:=Zx (n:=i) (by have:=Z7 hx;omega)
   have hf:QV l (i+1)=Qi Vm (QV l i) x.b:=Us _ [] hx;have hp:=λhh=>Ur (ag:=false) (kk:=[1]) (enc:=I) (eq:=Vm) Wi (QV l i) x.b (h:=.map ((QV l i).map I) (ZO (QV l i).length)::hh) (b:=0) rfl
   have hq:=λhh=>H5 (ag:=false) (kk:=[1]) (enc:=I) (eq:=Vm) Wi (QV l i) x.b (h:=.map ((QV l i).map I) (ZO (QV l i).length)::hh) (b:=0) rfl
   rw[hf];generalize QV l i=K at hp hq hP⊢;simp only[Y2,ZWn,ZWG]at hP;obtain⟨⟨h1,h2,h3⟩,h4⟩:=hP;refine⟨_,by simp only[go_sem,c42L0b,hg,hi,hw,bf.enc,WJ,XL,n0,n1,ZX1,if_true,Qc,h1,h2,h3,z0,hq,hp,h4,hbA,hbT,ha17,ha1];rfl,?_⟩
   simp only[go_sem])
  (λi x hx hP=>by
   have hg:=Z6 (f:=bf.enc) hx;have hi:=Zh<|Z7 hx;have hq:=λhh=>H5 (ag:=false) (kk:=[1]) (enc:=I) (eq:=Vm) Wi (QV l i) x.b (h:=.map ((QV l i).map I) (ZO (QV l i).length)::hh) (b:=0) rfl
   generalize QV l i=K at hq hP⊢;unfold Y2 at hP;cases h1:QM x.a 0 0 with
   |false=>
    refine⟨_,_,by simp only[go_sem,c42L0b,hg,hi,bf.enc,WJ,n0,ZX1,if_true,Qc,h1,hbA,hbT,ha17,ha1];rfl,?_⟩
    refine⟨?_,?_,?_,?_,?_,?_⟩<;>simp only[go_sem]
   |true=>
   cases h2:QM x.b 0 0 with
   |false=>
    refine⟨_,_,by simp only[go_sem,c42L0b,hg,hi,bf.enc,WJ,XL,n0,n1,ZX1,if_true,Qc,h1,h2,hbA,hbT,ha17,ha1];rfl,?_⟩
    refine⟨?_,?_,?_,?_,?_,?_⟩<;>simp only[go_sem]
   |true=>
   cases h3:x.a==x.b with
   |true=>
    refine⟨_,_,by simp only[go_sem,c42L0b,hg,hi,bf.enc,WJ,XL,n0,n1,ZX1,if_true,Qc,h1,h2,h3,hbA,hbT,ha17,ha1];rfl,?_⟩
    refine⟨?_,?_,?_,?_,?_,?_⟩<;>simp only[go_sem]
   |false=>
    have h4:K.any (Vm x.b)=true:=by simpa[h1,h2,h3]using hP
    refine⟨_,_,by simp only[go_sem,c42L0b,hg,hi,bf.enc,WJ,XL,n0,n1,ZX1,if_true,Qc,h1,h2,h3,z0,hq,h4,hbA,hbT,ha17,ha1];rfl,?_⟩
    refine⟨?_,?_,?_,?_,?_,?_⟩<;>simp only[go_sem])
  (⟨_,_,by simp only[go_sem,c42L0b,ZG];rfl,by refine⟨⟨?_,?_,?_,?_,?_,?_⟩,?_⟩<;>simp only[go_sem]⟩)
 obtain⟨fr',h',h1,h2,h3⟩:=L;refine⟨fr',h',h1,λh=>?_,h3⟩
 obtain⟨h4,h5⟩:=h2 h;refine⟨h4,QV l l.length,List.replicate (QV l l.length).length true,by simp,?_⟩
 rw[h5];simp[Ye,ZO]
def Z2Z(a17 a1:AV)(ha17:∀n,bel n a17=true)(ha1:∀n,bel n a1=true)(l:List bf)(hl:l.length<=1000)(K0:List Int)(V0:List Bool)(hK0:V0.length=K0.length):
 ∃fr' h',Zg rE [1,3,4,17,18,19,24,25,26] c42L0b [(1,a1),(3,.mp 0),(4,.int .i64 1),(17,a17),(18,.int .i64 2),(19,.int .i64 1),(24,.isl false false 2<|l.map bf.enc),(25,I l.length),(26,.int .i64 0)] [.map (K0.map I)<|Ye V0] =
  some (if l.all Y2=true then .exit 2 else .ret,fr',h')/\
  (l.all Y2=true->(get fr' 1=a1/\get fr' 2=.bot/\get fr' 3=.mp 0/\get fr' 17=a17/\get fr' 18=.int .i64 2/\get fr' 19=.int .i64 1)/\∃o,h'=[o]/\∀n,Zj n o=true)/\(l.all Y2=false->get fr' 2=.bool false/\get fr' 1=a1/\get fr' 3=.mp 0/\get fr' 17=a17/\get fr' 18=.int .i64 2/\get fr' 19=.int .i64 1):=by
 have hbA:∀n(K:List Int),Zd n (K.map I)=true:=λn K=>ZN _<|Zw (λt=>rfl) K
 have hbT:∀n(V:List Bool),Zd n (Ye V)=true:=λn V=>ZN _<|Zw (λt=>rfl) V
 have n0:((0:Int)).toNat=0:=rfl;have n1:((1:Int)).toNat=1:=rfl;have z0:((1:Int)==0)=false:=rfl
 suffices G:∀(post pre:List bf)(K:List Int)(V:List Bool),l=pre++post->V.length=K.length->
  ∃fr' h',Zg rE [1,3,4,17,18,19,24,25,26] c42L0b [(1,a1),(3,.mp 0),(4,.int .i64 1),(17,a17),(18,.int .i64 2),(19,.int .i64 1),(24,.isl false false 2<|l.map bf.enc),(25,I l.length),(26,I pre.length)] [.map (K.map I)<|Ye V] =
  some (if post.all Y2=true then .exit 2 else .ret,fr',h')/\
  (post.all Y2=true->(get fr' 1=a1/\get fr' 2=.bot/\get fr' 3=.mp 0/\get fr' 17=a17/\get fr' 18=.int .i64 2/\get fr' 19=.int .i64 1)/\∃o,h'=[o]/\∀n,Zj n o=true)/\(post.all Y2=false->get fr' 2=.bool false/\get fr' 1=a1/\get fr' 3=.mp 0/\get fr' 17=a17/\get fr' 18=.int .i64 2/\get fr' 19=.int .i64 1)from G l [] K0 V0 rfl hK0
 intro post;induction post with
 |nil=>
  intro pre K V hp hKV;have hlen:l.length=pre.length:=by rw[hp];simp
  have hf:decide ((pre.length:Int)<(l.length:Int))=false:=by rw[hlen];exact ZG _
  refine⟨_,_,Q7 rfl (by simp only[go_sem,c42L0b,hf];rfl) (by simp),λ_=>⟨?_,_,rfl,λn=>by simp only[go_sem,hbA,hbT]⟩,λh=>by simp at h⟩
  refine⟨?_,?_,?_,?_,?_,?_⟩<;>simp only[go_sem]
 |cons x post ih=>
  intro pre K V hp hKV;have hx:l[pre.length]?=some x:=by rw[hp];simp
  have hg:=Z6 (f:=bf.enc) hx;have hi:=Zh<|Z7 hx;have hlx:=Z7 hx;have hw:=Zx (n:=pre.length)<|by omega
  rw[ZX8];cases h1:QM x.a 0 0 with
  |false=>
   have hP:Y2 x=false:=by simp[Y2,h1]
   rw[hP,ZWr];refine⟨_,_,Q7 rfl (by simp only[go_sem,c42L0b,hg,hi,bf.enc,WJ,n0,ZX1,if_true,Qc,h1,hbA,hbT,ha17,ha1];rfl) (by simp),λh=>(by cases h),λ_=>?_⟩
   refine⟨?_,?_,?_,?_,?_,?_⟩<;>simp only[go_sem]
  |true=>
  cases h2:QM x.b 0 0 with
  |false=>
   have hP:Y2 x=false:=by simp[Y2,h2]
   rw[hP,ZWr];refine⟨_,_,Q7 rfl (by simp only[go_sem,c42L0b,hg,hi,bf.enc,WJ,XL,n0,n1,ZX1,if_true,Qc,h1,h2,hbA,hbT,ha17,ha1];rfl) (by simp),λh=>(by cases h),λ_=>?_⟩
   refine⟨?_,?_,?_,?_,?_,?_⟩<;>simp only[go_sem]
  |true=>
  cases h3:x.a==x.b with
  |true=>
   have hP:Y2 x=false:=by simp only[Y2,h3,ZWo,ZWw]
   rw[hP,ZWr];refine⟨_,_,Q7 rfl (by simp only[go_sem,c42L0b,hg,hi,bf.enc,WJ,XL,n0,n1,ZX1,if_true,Qc,h1,h2,h3,hbA,hbT,ha17,ha1];rfl) (by simp),λh=>(by cases h),λ_=>?_⟩
   refine⟨?_,?_,?_,?_,?_,?_⟩<;>simp only[go_sem]
  |false=>
   have hP:Y2 x=true:=by simp only[Y2,h1,h2,h3,ZWq,ZX9]
   rw[hP,ZWp];obtain⟨c,hq⟩:=Z2W K V hKV x.b (h:=[.map (K.map I)<|Ye V,.row 2 [.agg [I x.a,I x.b]]]) (b:=0) rfl;obtain⟨K',V',hKV',_,hput⟩:=Z2X K V hKV x.b c (h:=[.map (K.map I)<|Ye V,.row 2 [.agg [I x.a,I x.b]]]) (b:=0) rfl;obtain⟨fr',h',h4,h5⟩:=ih (pre++[x]) K' V' (by simp[hp]) hKV'
   refine⟨fr',h',?_,h5⟩;rw[<-h4];have hl1:((pre++[x]).length:Int)=((pre.length+1:Nat):Int):=by simp
   rw[hl1];cases c<;>exact(Yt rfl (by simp only[go_sem,c42L0b,hg,hi,hw,bf.enc,WJ,XL,n0,n1,ZX1,if_true,Qc,h1,h2,h3,z0,hq,hput,hbA,hbT,ha17,ha1];rfl)).trans (by simp only[go_sem])
def chN(s:Sta):Nat->Int->Bool
 |0,at'=>!decide (at'>=0)
 |k+1,at'=>bif decide (at'>=0)then chN s k (XJ s at')else true
def Fl(s:Sta)(hs:StS s)(a71 a72 a73:AV)(h:Hp):∀k n at',n+k=s.Gk.length+1->
 ∃fr',Zg rE [1,10,11,71,72,73] c42L2b [(1,.iptr false [.isl false false 6<|s.Ga.map Gm.enc,.isl false false 5<|s.Gr.map Ev.enc,.isl false false 4<|s.By.map Fa.enc,.isl false false 16<|s.Bc.map Gc.enc,.isl false false 6<|s.Nk.map be.enc,.isl false false 2<|s.Gk.map bf.enc,.isl false false 2<|s.Wk.map bf.enc]),(10,I at'),(11,I (n:Nat)),(71,a71),(72,a72),(73,a73)] h =
  some (if chN s k at'=true then .exit 6 else .ret,fr',h)/\(chN s k at'=true->get fr' 2=.bot/\get fr' 1=.iptr false [.isl false false 6<|s.Ga.map Gm.enc,.isl false false 5<|s.Gr.map Ev.enc,.isl false false 4<|s.By.map Fa.enc,.isl false false 16<|s.Bc.map Gc.enc,.isl false false 6<|s.Nk.map be.enc,.isl false false 2<|s.Gk.map bf.enc,.isl false false 2<|s.Wk.map bf.enc]/\get fr' 71=a71/\get fr' 72=a72/\get fr' 73=a73)/\(chN s k at'=false->get fr' 2=.bool false/\get fr' 1=.iptr false [.isl false false 6<|s.Ga.map Gm.enc,.isl false false 5<|s.Gr.map Ev.enc,.isl false false 4<|s.By.map Fa.enc,.isl false false 16<|s.Bc.map Gc.enc,.isl false false 6<|s.Nk.map be.enc,.isl false false 2<|s.Gk.map bf.enc,.isl false false 2<|s.Wk.map bf.enc]/\get fr' 71=a71/\get fr' 72=a72/\get fr' 73=a73):=by
 intro k;induction k with
 |zero=>
  intro n at' hn;unfold chN;cases h1:decide (at'>=0)with
  |false=>
   refine⟨_,Q7 rfl (by simp only[go_sem,c42L2b,h1,GH];rfl) (by simp),λ_=>?_,λhh=>(by simp at hh)⟩
   refine⟨?_,?_,?_,?_,?_⟩<;>simp only[go_sem]
  |true=>
   have h2:decide ((n:Int)>(s.Gk.length:Int))=true:=decide_eq_true<|by omega
   refine⟨_,Q7 rfl (by simp only[go_sem,c42L2b,h1,h2,GH];rfl) (by simp),λhh=>(by simp at hh),λ_=>?_⟩
   refine⟨?_,?_,?_,?_,?_⟩<;>simp only[go_sem]
 |succ k ih=>
  intro n at' hn;unfold chN;cases h1:decide (at'>=0)with
  |false=>
   refine⟨_,Q7 rfl (by simp only[go_sem,c42L2b,h1,GH];rfl) (by simp),λ_=>?_,λhh=>(by simp at hh)⟩
   refine⟨?_,?_,?_,?_,?_⟩<;>simp only[go_sem]
  |true=>
   have h2:decide ((n:Int)>(s.Gk.length:Int))=false:=decide_eq_false<|by omega
   have hm:=hs.merged;have hw:=Zx (n:=n)<|by omega
   have ht:=NJ s hs at';obtain⟨fr',h3,h4⟩:=ih (n+1) (XJ s at')<|by omega
   rw[cond_true];refine⟨fr',?_,h4⟩;rw[<-h3];exact(Yt rfl (by simp only[go_sem,c42L2b,h1,h2,hw,ht,GH];rfl)).trans (by simp only[go_sem])
def WK(s:Sta):Bool:=UB s.Gk&&(s.Wk.all Y2&&s.Gk.all (λp=>chN s (s.Gk.length+1) p.b))
def Z30(s:Sta)(hs:StS s)(o:AObj)(ho:∀n,Zj n o=true):
 ∃fr',Zg rE [1,71,72,73] c42L3b [(1,.iptr false [.isl false false 6<|s.Ga.map Gm.enc,.isl false false 5<|s.Gr.map Ev.enc,.isl false false 4<|s.By.map Fa.enc,.isl false false 16<|s.Bc.map Gc.enc,.isl false false 6<|s.Nk.map be.enc,.isl false false 2<|s.Gk.map bf.enc,.isl false false 2<|s.Wk.map bf.enc]),(71,.isl false false 2<|s.Gk.map bf.enc),(72,I s.Gk.length),(73,.int .i64 0)] [o] =
  some (if s.Gk.all (λp=>chN s (s.Gk.length+1) p.b)=true then .exit 4 else .ret,fr',[o])/\(s.Gk.all (λp=>chN s (s.Gk.length+1) p.b)=false->get fr' 2=.bool false):=by
 have n1:((1:Int)).toNat=1:=rfl;generalize ha:AV.iptr false [.isl false false 6<|s.Ga.map Gm.enc,.isl false false 5<|s.Gr.map Ev.enc,.isl false false 4<|s.By.map Fa.enc,.isl false false 16<|s.Bc.map Gc.enc,.isl false false 6<|s.Nk.map be.enc,.isl false false 2<|s.Gk.map bf.enc,.isl false false 2<|s.Wk.map bf.enc]=a;have hba:∀n,bel n a=true:=λn=>by rw[<-ha];rfl
 have L:=Uf (E:=rE) (live:=[1,71,72,73]) (b:=c42L3b) (h:=[o]) s.Gk (λ_ p=>chN s (s.Gk.length+1) p.b) (λi=>[(1,a),(71,.isl false false 2<|s.Gk.map bf.enc),(72,I s.Gk.length),(73,I i)]) 4 (λfr=>get fr 2=.bool false) (λi=>rfl)
  (λi x hx hP=>by
   have hg:=Z6 (f:=bf.enc) hx;have hi:=Zh<|Z7 hx;have hw:=Zx (n:=i) (by have:=Z7 hx;have:=hs.merged;omega)
   obtain⟨fr',h1,h2,_⟩:=Fl s hs (.isl false false 2<|s.Gk.map bf.enc) (I s.Gk.length) (I i) [o,.row 2 [.agg [I x.a,I x.b]]] (s.Gk.length+1) 0 x.b<|by omega
   rw[hP,if_pos rfl,ha]at h1;obtain⟨q2,q1,q71,q72,q73⟩:=h2 hP;rw[ha]at q1;have h1':Zg rE [1,10,11,71,72,73] c42L2b [(1,a),(10,I x.b),(11,.int .i64 0),(71,.isl false false 2<|s.Gk.map bf.enc),(72,I s.Gk.length),(73,I i)] [o,.row 2 [.agg [I x.a,I x.b]]]=_:=h1;refine⟨_,by simp only[go_sem,c42L3b,c42L2,hg,hi,hw,bf.enc,XL,n1,ZX1,if_true,h1',q1,q2,q71,q72,q73,ho,hba];rfl,?_⟩
   simp only[go_sem])
  (λi x hx hP=>by
   have hg:=Z6 (f:=bf.enc) hx;have hi:=Zh<|Z7 hx;obtain⟨fr',h1,_,h2⟩:=Fl s hs (.isl false false 2<|s.Gk.map bf.enc) (I s.Gk.length) (I i) [o,.row 2 [.agg [I x.a,I x.b]]] (s.Gk.length+1) 0 x.b<|by omega
   rw[hP,ha]at h1;obtain⟨q2,q1,q71,q72,q73⟩:=h2 hP;rw[ha]at q1;have h1':Zg rE [1,10,11,71,72,73] c42L2b [(1,a),(10,I x.b),(11,.int .i64 0),(71,.isl false false 2<|s.Gk.map bf.enc),(72,I s.Gk.length),(73,I i)] [o,.row 2 [.agg [I x.a,I x.b]]]=_:=h1;refine⟨_,by simp only[go_sem,c42L3b,c42L2,hg,hi,bf.enc,XL,n1,ZX1,if_true,h1',q1,q2,q71,q72,q73,ho,hba,ZWt];rfl,?_⟩
   simp only[go_sem])
  (⟨_,by simp only[go_sem,c42L3b,ZG];rfl⟩)
 rw[QE]at L;exact L
def Z31(s:Sta)(hs:StS s):pfn rE 42 [stA s]=some (.bool<|WK s):=by
 have hbA:∀n(K:List Int),Zd n (K.map I)=true:=λn K=>ZN _<|Zw (λt=>rfl) K
 have hbT:∀n(V:List Bool),Zd n (Ye V)=true:=λn V=>ZN _<|Zw (λt=>rfl) V
 have e0:ixG [AV.isl false false 2<|s.Gk.map bf.enc,.isl false false 2<|s.Wk.map bf.enc] 0=some (.isl false false 2<|s.Gk.map bf.enc):=rfl;have e1:ixG [AV.isl false false 2<|s.Gk.map bf.enc,.isl false false 2<|s.Wk.map bf.enc] 1=some (.isl false false 2<|s.Wk.map bf.enc):=rfl;have d02:decide ((0:Int)<2)=true:=rfl;have d12:decide ((1:Int)<2)=true:=rfl;have d22:decide ((2:Int)<2)=false:=rfl;have w0:IntKind.i64.wrap ((0:Int)+1)=1:=rfl;have w1:IntKind.i64.wrap ((1:Int)+1)=2:=rfl;have c2:(((0+1+1:Nat):Nat):Int)=2:=rfl;have c2':((2:Nat):Int)=2:=rfl;obtain⟨f1,g1,hm1,hm2,hm3⟩:=Z2Y (.isl false false 1 [.isl false false 2<|s.Gk.map bf.enc,.isl false false 2<|s.Wk.map bf.enc]) (.iptr false [.isl false false 6<|s.Ga.map Gm.enc,.isl false false 5<|s.Gr.map Ev.enc,.isl false false 4<|s.By.map Fa.enc,.isl false false 16<|s.Bc.map Gc.enc,.isl false false 6<|s.Nk.map be.enc,.isl false false 2<|s.Gk.map bf.enc,.isl false false 2<|s.Wk.map bf.enc]) (λn=>rfl) (λn=>rfl) s.Gk hs.merged
 rw[Z5 (f:=42) rfl rfl];unfold WK;cases c1:UB s.Gk with
 |false=>
  rw[c1]at hm1;obtain⟨q2,q1,q3,q17,q18,q19⟩:=hm3 c1;have R:∃fr h,Zg rE [1,3,17,18,19] c42L1b [(1,.iptr false [.isl false false 6<|s.Ga.map Gm.enc,.isl false false 5<|s.Gr.map Ev.enc,.isl false false 4<|s.By.map Fa.enc,.isl false false 16<|s.Bc.map Gc.enc,.isl false false 6<|s.Nk.map be.enc,.isl false false 2<|s.Gk.map bf.enc,.isl false false 2<|s.Wk.map bf.enc]),(3,.mp 0),(17,.isl false false 1 [.isl false false 2<|s.Gk.map bf.enc,.isl false false 2<|s.Wk.map bf.enc]),(18,.int .i64 2),(19,.int .i64 0)] [.map [] []]=some (.ret,fr,h)/\get fr 2=.bool false:=by
   refine⟨_,_,Q7 rfl (by simp only[go_sem,c42L1b,c42L0,e0,d02,hm1,q1,q2,q3,q17,q18,q19,ZWt];rfl) (by simp),?_⟩
   simp only[go_sem]
  obtain⟨fr,h,hR,hq⟩:=R;simp only[go_sem,c42,c42L1,c2',hR,hq]
 |true=>
  rw[c1,if_pos rfl]at hm1;obtain⟨⟨q1,q2,q3,q17,q18,q19⟩,K,V,hKV,rfl⟩:=hm2 c1;obtain⟨f2,g2,hr1,hr2,hr3⟩:=Z2Z (.isl false false 1 [.isl false false 2<|s.Gk.map bf.enc,.isl false false 2<|s.Wk.map bf.enc]) (.iptr false [.isl false false 6<|s.Ga.map Gm.enc,.isl false false 5<|s.Gr.map Ev.enc,.isl false false 4<|s.By.map Fa.enc,.isl false false 16<|s.Bc.map Gc.enc,.isl false false 6<|s.Nk.map be.enc,.isl false false 2<|s.Gk.map bf.enc,.isl false false 2<|s.Wk.map bf.enc]) (λn=>rfl) (λn=>rfl) s.Wk hs.rulings K V hKV
  have R1:=Yt (E:=rE) (live:=[1,3,17,18,19]) (b:=c42L1b) (fr:=[(1,.iptr false [.isl false false 6<|s.Ga.map Gm.enc,.isl false false 5<|s.Gr.map Ev.enc,.isl false false 4<|s.By.map Fa.enc,.isl false false 16<|s.Bc.map Gc.enc,.isl false false 6<|s.Nk.map be.enc,.isl false false 2<|s.Gk.map bf.enc,.isl false false 2<|s.Wk.map bf.enc]),(3,.mp 0),(17,.isl false false 1 [.isl false false 2<|s.Gk.map bf.enc,.isl false false 2<|s.Wk.map bf.enc]),(18,.int .i64 2),(19,.int .i64 0)]) (h:=[.map [] []]) rfl (by simp only[go_sem,c42L1b,c42L0,e0,d02,w0,hm1,q1,q2,q3,q17,q18,q19];rfl)
  simp only[go_sem]at R1;cases c10003:s.Wk.all Y2 with
  |false=>
   rw[c10003]at hr1;obtain⟨p2,p1,p3,p17,p18,p19⟩:=hr3 c10003;have R:∃fr h,Zg rE [1,3,17,18,19] c42L1b [(1,.iptr false [.isl false false 6<|s.Ga.map Gm.enc,.isl false false 5<|s.Gr.map Ev.enc,.isl false false 4<|s.By.map Fa.enc,.isl false false 16<|s.Bc.map Gc.enc,.isl false false 6<|s.Nk.map be.enc,.isl false false 2<|s.Gk.map bf.enc,.isl false false 2<|s.Wk.map bf.enc]),(3,.mp 0),(17,.isl false false 1 [.isl false false 2<|s.Gk.map bf.enc,.isl false false 2<|s.Wk.map bf.enc]),(18,.int .i64 2),(19,.int .i64 1)] [.map (K.map I)<|Ye V]=some (.ret,fr,h)/\get fr 2=.bool false:=by
    refine⟨_,_,Q7 rfl (by simp only[go_sem,c42L1b,c42L0,e1,d12,hr1,p1,p2,p3,p17,p18,p19,ZWt];rfl) (by simp),?_⟩
    simp only[go_sem]
   obtain⟨fr,h,hR,hq⟩:=R;simp only[go_sem,c42,c42L1,c2',R1,hR,hq]
  |true=>
   rw[c10003,if_pos rfl]at hr1;obtain⟨⟨p1,p2,p3,p17,p18,p19⟩,o,rfl,ho⟩:=hr2 c10003;have R2:=Yt (E:=rE) (live:=[1,3,17,18,19]) (b:=c42L1b) (fr:=[(1,.iptr false [.isl false false 6<|s.Ga.map Gm.enc,.isl false false 5<|s.Gr.map Ev.enc,.isl false false 4<|s.By.map Fa.enc,.isl false false 16<|s.Bc.map Gc.enc,.isl false false 6<|s.Nk.map be.enc,.isl false false 2<|s.Gk.map bf.enc,.isl false false 2<|s.Wk.map bf.enc]),(3,.mp 0),(17,.isl false false 1 [.isl false false 2<|s.Gk.map bf.enc,.isl false false 2<|s.Wk.map bf.enc]),(18,.int .i64 2),(19,.int .i64 1)]) (h:=[.map (K.map I)<|Ye V]) rfl (by simp only[go_sem,c42L1b,c42L0,e1,d12,w1,hr1,p1,p2,p3,p17,p18,p19];rfl)
   simp only[go_sem]at R2;have R3:=Q7 (E:=rE) (live:=[1,3,17,18,19]) (b:=c42L1b) (fr:=[(1,.iptr false [.isl false false 6<|s.Ga.map Gm.enc,.isl false false 5<|s.Gr.map Ev.enc,.isl false false 4<|s.By.map Fa.enc,.isl false false 16<|s.Bc.map Gc.enc,.isl false false 6<|s.Nk.map be.enc,.isl false false 2<|s.Gk.map bf.enc,.isl false false 2<|s.Wk.map bf.enc]),(3,.mp 0),(17,.isl false false 1 [.isl false false 2<|s.Gk.map bf.enc,.isl false false 2<|s.Wk.map bf.enc]),(18,.int .i64 2),(19,.int .i64 2)]) (h:=[o]) rfl (by simp only[go_sem,c42L1b,d22];rfl) (by simp)
   obtain⟨f4,h4,h5⟩:=Z30 s hs o ho;cases c10004:s.Gk.all (λp=>chN s (s.Gk.length+1) p.b)with
   |true=>rw[c10004,if_pos rfl]at h4;simp only[go_sem,c42,c42L1,c42L3,c2',R1,R2,R3,h4]
   |false=>rw[c10004]at h4;simp only[go_sem,c42,c42L1,c42L3,c2',R1,R2,R3,h4,h5 c10004,ZWt]
def c38_eq:c38=.seq s38p0 (.seq s38p1<|.seq s38p2<|.seq s38p3<|.seq s38p4<|.seq s38p5<|.seq s38p6<|.seq s38p7<|.seq s38p8<|.seq s38p9<|.seq s38p10 .ret):=rfl
def Zo(d:Gc):AV:=.agg [.str d.Id,.str d.Fa,.str d.Ev,I d.bh,I d.An.N,.str d.An.bm,I d.An.Num,I d.An.Den,I d.bg.X,I d.bg.Y,I d.From,I d.Ld,.isl false d.After.ex 1<|d.After.l.map encS,I d.Why,I d.bv,.str d.Veil]
def exD(d:Gc):Bool:=d.Ld==-1
def K8(s:Sta)(i:Int)(d:Gc):Bool:=d.After.l.all λid=>!decide (Zn s id<=i)
def Yf(d:Gc):Int:=(d.After.l.length:Int)
def He(d:Gc):Bool:=
 bif d.Why==12 then Yf d==0 else bif d.Why==11 then Yf d==0&&Z3 d.Veil emp else bif d.Why==9 then ZD (Yf d) 2 8&&Z3 d.Veil emp else bif d.Why==10 then Yf d==1&&Z3 d.Veil emp else false
def UC(d:Gc):Bool:=(((!(exD d==(d.Why==0)))||(exD d&&decide (Yf d>0)))||(!exD d&&!He d))||!Jq d.After.l
def NM(d:Gc):Gt:=⟨0,0,0,0,d.bv,d.Id,emp,d.Veil,⟨false,[]⟩,⟨false,[]⟩,⟨0,emp,0,0⟩,⟨0,0⟩,⟨false,[]⟩,⟨false,[]⟩⟩
def Hf(d:Gc):Gt:=⟨0,0,0,0,0,d.Id,d.Fa,d.Ev,⟨false,[]⟩,⟨false,[]⟩,d.An,d.bg,⟨false,[]⟩,⟨false,[]⟩⟩
def NN(d:Gc):Bool:=Z3 d.Fa emp&&(Z3 d.Ev emp&&(QL d.An ⟨0,emp,0,0⟩&&(QK d.bg ⟨0,0⟩&&Q9 {NM d with bq:=15})))
def WL(s:Sta)(k:Int):Int:=match s.By[k.toNat]? with|some b=>b.Ld|none=>0
def QF(s:Sta)(k:Int):Int:=match s.Gr[k.toNat]? with|some b=>b.Ld|none=>0
def NO(s:Sta)(d:Gc):Bool:=((d.bv != 0||decide (Y1 s d.Fa<0))||decide (ZL s d.Ev<0))||(exD d&&(WL s (Y1 s d.Fa) != -1||QF s (ZL s d.Ev) != -1))
def Hg(s:Sta)(i:Int)(d:Gc):Bool:=
 K8 s i d&&(!UC d&&(bif Z3 d.Veil emp then !NO s d&&Q9 {Hf d with bq:=6}else NN d))
structure DoS(d:Gc):Prop where
 after:d.After.l.length<=100
 id:d.Id.size<=1000
 building:d.Fa.size<=1000
 street:d.Ev.size<=1000
 veil:d.Veil.size<=1000
abbrev stI(s:Sta):AV:=.iptr false [.isl false false 6<|s.Ga.map Gm.enc,.isl false false 5<|s.Gr.map Ev.enc,.isl false false 4<|s.By.map Fa.enc,.isl false false 16<|s.Bc.map Gc.enc,.isl false false 6<|s.Nk.map be.enc,.isl false false 2<|s.Gk.map bf.enc,.isl false false 2<|s.Wk.map bf.enc]
def Z32(s:Sta)(hs:StS s)(i:Int)(d:Gc)(hd:DoS d):∃fr',Zg rE [1,2,5,6,22,23,24] c38L0b [(1,I i),(2,stI s),(5,.ptr 0 0 0 1),(6,.bool<|exD d),(22,.isl false d.After.ex 1<|d.After.l.map encS),(23,I d.After.l.length),(24,.int .i64 0)] [.row 16 [Zo d]] =
 some (if K8 s i d=true then .exit 0 else .ret,fr',[.row 16 [Zo d]])/\(K8 s i d=true->get fr' 2=stI s/\get fr' 4=.bot/\get fr' 5=.ptr 0 0 0 1/\get fr' 6=.bool (exD d))/\(K8 s i d=false->get fr' 4=.bool false):=by
 have L:=QT (E:=rE) (live:=[1,2,5,6,22,23,24]) (b:=c38L0b) (h:=[.row 16 [Zo d]]) d.After.l (λ_ id=>!decide (Zn s id<=i))
  (λj=>[(1,I i),(2,stI s),(5,.ptr 0 0 0 1),(6,.bool<|exD d),(22,.isl false d.After.ex 1<|d.After.l.map encS),(23,I d.After.l.length),(24,I j)]) 0
  (λfr=>get fr 2=stI s/\get fr 4=.bot/\get fr 5=.ptr 0 0 0 1/\get fr 6=.bool (exD d)) (λfr=>get fr 4=.bool false) (λj=>rfl)
  (λj x hx hP=>by
   have hg:=Z6 (f:=encS) hx;have hi:=Zh<|Z7 hx;have hw:=Zx (n:=j) (by have:=Z7 hx;have:=hd.after;omega)
   have hf:=find_ok s hs x;have hP':decide (Zn s x<=i)=false:=by simpa using hP
   refine⟨_,by simp only[go_sem,c38L0b,hg,hi,hw,encS,hf,hP'];rfl,?_⟩
   simp only[go_sem])
  (λj x hx hP=>by
   have hg:=Z6 (f:=encS) hx;have hi:=Zh<|Z7 hx;have hf:=find_ok s hs x;have hP':decide (Zn s x<=i)=true:=by simpa using hP
   refine⟨_,by simp only[go_sem,c38L0b,hg,hi,encS,hf,hP'];rfl,?_⟩
   simp only[go_sem])
  (⟨_,by simp only[go_sem,c38L0b,ZG];rfl,by refine⟨?_,?_,?_,?_⟩<;>simp only[go_sem]⟩)
 rw[QE]at L;exact L
def Fm(s:Sta)(hs:StS s)(i:Nat)(d:Gc)(hd:DoS d)(hx:s.Bc[i]?=some d)(rest:ACode):
 (K8 s i d=true->Zb rE (.seq s38p0<|.seq s38p1<|.seq s38p2<|.seq s38p3 rest) [(0,stA s),(1,I i)] []=Zb rE rest [(2,stI s),(4,.bot),(5,.ptr 0 0 0 1),(6,.bool<|exD d)] [.row 16 [Zo d]])/\
 (K8 s i d=false->∃fr h,Zb rE (.seq s38p0<|.seq s38p1<|.seq s38p2<|.seq s38p3 rest) [(0,stA s),(1,I i)] []=some (.ret,fr,h)/\get fr 4=.bool false):=by
 obtain⟨fr',h1,h2,h3⟩:=Z32 s hs i d hd;have hg:=Z6 (f:=Gc.enc) hx;have hex:(d.Ld==-1)=exD d:=rfl;unfold Zo at h1⊢;constructor
 .intro ha;rw[if_pos ha]at h1;obtain⟨q2,q4,q5,q6⟩:=h2 ha;simp only[go_sem,s38p0,s38p1,s38p2,s38p3,c38L0,hg,Gc.enc,NL.enc,hex,h1,q2,q4,q5,q6]
 .intro ha;rw[ha]at h1;have q4:=h3 ha;simp only[ZWt,if_false]at h1;refine⟨_,_,by simp only[go_sem,s38p0,s38p1,s38p2,s38p3,c38L0,hg,Gc.enc,NL.enc,hex,h1,q4];rfl,?_⟩
  simp only[go_sem]
def XM(d:Gc):AObj:=.map [.int .i64 12,.int .i64 11,.int .i64 9,.int .i64 10] [.bool<|Yf d==0,.bool<|Yf d==0&&Z3 d.Veil emp,.bool<|ZD (Yf d) 2 8&&Z3 d.Veil emp,.bool<|Yf d==1&&Z3 d.Veil emp]
def Z33(a1 a2:Bool)(r1 r2:List Nat)(w1 w2:Option Nat)(k v j u:AV):Kp ⟨a1,r1,w1,some (k,v)⟩ ⟨a2,r2,w2,some (j,u)⟩=YF k j:=(rfl)
def Fo(a b:Int):YF (.int .i64 a) (.int .i64 b)=(a != b):=by simp[YF]
def Z34(x:AObj)(ks vs:List AV)(k:Int)(v:AV)(hk:ZW false [1] (I k) ks 0=some none):YK [x,.map ks vs] false [1] (.mp 1) (I k) v=some (.bot,[x,.map (ks++[I k])<|vs++[v]]):=by
 simp only[YK,ZXl,ZWX,Yo,Wi,hk,ZM,ZH,GN,GM]
def Js(b:Nat)(v:AV):Bool:=match v with| .mp c=>c==b|_=>false
def Z35(b:Nat):Js b (.mp b)=true:=by simp[Js]
def Z36{b:Nat}{v:AV}(h:Js b v=true):v=.mp b:=by
 cases v with
 |mp c=>have:c=b:=by simpa[Js]using h
        rw[this]
 |_=>simp[Js]at h
def Z37(fr:Fr)(x:AObj)(ks vs:List AV)(k:Int)(t:Nat)(h37':Js 1 (get fr 37)=true)(hk:ZW false [1] (I k) ks 0=some none)(htn:t≠37):
 Za rE (.ins false [1] (.t 37) (.c<|.int .i64 k)<|.t t) fr [x,.map ks vs]=⟨false,[],some 1,some (I k,get fr t)⟩:=by
 have h37:=Z36 h37';obtain⟨v,ht⟩:∃v,get fr t=v:=⟨_,rfl⟩;rw[ht];have e37:get (Z2 (AOp.ins false [1] (.t 37) (.c<|.int .i64 k)<|.t t).slots fr) 37=.mp 1:=by
  simp[AOp.slots,Arg.slots,Z2,get,h37]
 have et:get (Z2 (AOp.ins false [1] (.t 37) (.c<|.int .i64 k)<|.t t).slots fr) t=v:=by
  have:(37==t)=false:=by rw[beq_eq_false_iff_ne];exact λh=>htn h.symm
  simp[AOp.slots,Arg.slots,Z2,get,this,ht]
 have hne:YF (I k) (I k)=false:=by rw[Fo];simp
 have hd:Za rE (.ins false [1] (.t 37) (.c<|.int .i64 k)<|.t t) fr [x,.map ks vs]=QG rE (Z2 (AOp.ins false [1] (.t 37) (.c<|.int .i64 k)<|.t t).slots fr) [x,.map ks vs] (.ins false [1] (.t 37) (.c<|.int .i64 k)<|.t t) (match Z8 rE (Z2 (AOp.ins false [1] (.t 37) (.c<|.int .i64 k)<|.t t).slots fr) [x,.map ks vs] ([x,.map ks vs]:Hp).length (.ins false [1] (.t 37) (.c<|.int .i64 k)<|.t t)with|some r=>r.2.2|none=>none):=rfl
 rw[hd];generalize Z2 (AOp.ins false [1] (.t 37) (.c<|.int .i64 k)<|.t t).slots fr=f at e37 et;have ho:Z8 rE f [x,.map ks vs] ([x,.map ks vs]:Hp).length (.ins false [1] (.t 37) (.c<|.int .i64 k)<|.t t)=some (.bot,[1],some (1,.map (ks++[I k])<|vs++[v])):=by
  simp only[Z8,ev,e37,et,ZXl,ZWX,Yo,Wi,hk]
 have hi:Wm rE f [x,.map ks vs] (.ins false [1] (.t 37) (.c<|.int .i64 k)<|.t t)=some (I k,v):=by
  simp only[Wm,ev,e37,et,ZXl,ZWX,hk,hne,cond_false]
 rw[ho];simp only[QG,hi,ZWN]
def Z38(s:Sta)(d:Gc)(rest:ACode):
 Zb rE (.seq s38p4<|.seq s38p5 rest) [(2,stI s),(4,.bot),(5,.ptr 0 0 0 1),(6,.bool<|exD d)] [.row 16 [Zo d]] =
  Zb rE rest [(2,stI s),(5,.ptr 0 0 0 1),(6,.bool<|exD d),(9,I<|Yf d),(10,.mp 1)] [.row 16 [Zo d],XM d]:=by
 have hn:((d.After.l.length:Nat):Int)=Yf d:=rfl;have f1:ZW false [1] (.int .i64 12) [] 0=some none:=rfl;have f2:ZW false [1] (.int .i64 11) [.int .i64 12] 0=some none:=rfl;have f3:ZW false [1] (.int .i64 9) [.int .i64 12,.int .i64 11] 0=some none:=rfl;have f4:ZW false [1] (.int .i64 10) [.int .i64 12,.int .i64 11,.int .i64 9] 0=some none:=rfl;have n1:((11:Int) != 12)=true:=rfl;have n2:((9:Int) != 12)=true:=rfl;have n3:((9:Int) != 11)=true:=rfl;have n4:((10:Int) != 12)=true:=rfl;have n5:((10:Int) != 11)=true:=rfl;have n6:((10:Int) != 9)=true:=rfl;have b1:∀x:AV,Zd 1 [x]=bel 1 x:=λx=>by simp[Zd]
 unfold XM Zo;cases c1:Yf d==0<;>cases c2:Yf d==1<;>cases c10003:ZD (Yf d) 2 8<;>cases c10004:Z3 d.Veil emp<;>
  simp only[go_sem,s38p4,s38p5,hn,c1,c2,c10003,c10004,DY,Z37,Z35,Z34,f1,f2,f3,f4,Z33,Fo,n1,n2,n3,n4,n5,n6,ne_eq,Nat.reduceEqDiff,not_false_eq_true]
def Z39(d:Gc)(x:AObj):W5 [x,XM d] false [1] false (.bool false) (.mp 1) (I d.Why)=some (.bool<|He d):=by
 unfold XM He;simp only[W5,ZXl,ZWX,QW,Wi,ZW];cases c1:d.Why==12<;>cases c2:d.Why==11<;>cases c10003:d.Why==9<;>cases c10004:d.Why==10<;>rfl
set_option maxHeartbeats 4000000 in
def Fp(s:Sta)(d:Gc)(hd:DoS d)(rest:ACode):
 (UC d=false->Zb rE (.seq s38p6 rest) [(2,stI s),(5,.ptr 0 0 0 1),(6,.bool<|exD d),(9,I<|Yf d),(10,.mp 1)] [.row 16 [Zo d],XM d]=Zb rE rest [(2,stI s),(5,.ptr 0 0 0 1),(6,.bool<|exD d),(90,.bool false)] [.row 16 [Zo d],XM d])/\
 (UC d=true->∃fr h,Zb rE (.seq s38p6 rest) [(2,stI s),(5,.ptr 0 0 0 1),(6,.bool<|exD d),(9,I<|Yf d),(10,.mp 1)] [.row 16 [Zo d],XM d]=some (.ret,fr,h)/\get fr 4=.bool false):=by
 have hg:=Z39 d;have hso:=Fj d.After.l d.After.ex (by have:=hd.after;omega)
 have t1:(true==true)=true:=rfl;have t2:(true==false)=false:=rfl;have t3:(false==true)=false:=rfl;have t4:(false==false)=true:=rfl;generalize XM d=m at hg⊢;unfold UC Zo;cases c1:exD d<;>cases c2:d.Why==0<;>cases c10003:decide (Yf d>0)<;>cases c10004:He d<;>cases c10005:Jq d.After.l<;>rw[c10004]at hg<;>rw[c10005]at hso<;>
  (constructor<;>intro hb<;>first|(exact absurd hb<|by decide)|skip)
 all_goals first
  |(simp only[go_sem,s38p6,c2,c10003,hg,hso,t1,t2,t3,t4];done)
  |(refine⟨_,_,by simp only[go_sem,s38p6,c2,c10003,hg,hso,t1,t2,t3,t4];rfl,?_⟩;simp only[go_sem])
def Z3a(d:Gc)(hd:DoS d):EvS (NM d):=⟨ZWy _,ZWy _,ZWy _,ZWy _,hd.id,ZWy _,hd.veil⟩
def Z3b(d:Gc)(hd:DoS d):EvS (Hf d):=⟨ZWy _,ZWy _,ZWy _,ZWy _,hd.id,hd.building,hd.street⟩
def Fq(s:Sta)(d:Gc)(hd:DoS d)(m:AObj)(rest:ACode):
 (Z3 d.Veil emp=true->Zb rE (.seq s38p7 rest) [(2,stI s),(5,.ptr 0 0 0 1),(6,.bool<|exD d),(90,.bool false)] [.row 16 [Zo d],m]=Zb rE rest [(2,stI s),(5,.ptr 0 0 0 1),(6,.bool<|exD d),(93,.bool false)] [.row 16 [Zo d],m])/\
 (Z3 d.Veil emp=false->∃fr h,Zb rE (.seq s38p7 rest) [(2,stI s),(5,.ptr 0 0 0 1),(6,.bool<|exD d),(90,.bool false)] [.row 16 [Zo d],m]=some (.ret,fr,h)/\get fr 4=.bool (NN d)):=by
 have hm:=Wg 15 (NM d)<|Z3a d hd;have hm':pfn rE 37 [I 15,.agg [I 0,I 0,I 0,I 0,I d.bv,.str d.Id,.str emp,.str d.Veil,.isl false false 1 [],.isl false false 3 [],I 0,.str emp,I 0,I 0,I 0,I 0,.isl false false 2 [],.isl false false 7 []]]=_:=hm;have hn4:(d.An.N==0&&(Z3 d.An.bm emp&&(d.An.Num==0&&d.An.Den==0)))=QL d.An ⟨0,emp,0,0⟩:=rfl;have hn5:(d.bg.X==0&&d.bg.Y==0)=QK d.bg ⟨0,0⟩:=rfl;unfold NN Zo;constructor
 .intro hv;simp only[go_sem,s38p7,hv]
 .intro hv;cases c1:Z3 d.Fa emp with
  |false=>refine⟨_,_,by simp only[go_sem,s38p7,hv,c1];rfl,?_⟩;simp only[go_sem]
  |true=>
  cases c2:Z3 d.Ev emp with
  |false=>refine⟨_,_,by simp only[go_sem,s38p7,hv,c1,c2];rfl,?_⟩;simp only[go_sem]
  |true=>
  cases c10003:QL d.An ⟨0,emp,0,0⟩with
  |false=>refine⟨_,_,by simp only[go_sem,s38p7,hv,c1,c2,hn4,c10003];rfl,?_⟩;simp only[go_sem]
  |true=>
  cases c10004:QK d.bg ⟨0,0⟩with
  |false=>refine⟨_,_,by simp only[go_sem,s38p7,hv,c1,c2,hn4,c10003,hn5,c10004];rfl,?_⟩;simp only[go_sem]
  |true=>refine⟨_,_,by simp only[go_sem,s38p7,hv,c1,c2,hn4,c10003,hn5,c10004,hm'];rfl,?_⟩;simp only[go_sem]
def QC{α:Type}{P:α->Bool}{l:List α}(h:decide (Zp P l 0<0)=false):∃(j:Nat)(x:α),Zp P l 0=(j:Int)/\l[j]?=some x:=by
 rcases UA P l 0 with⟨h1,_⟩|⟨j,x,h1,h2,_⟩
 .rw[h1]at h;simp at h
 .exact⟨j,x,by rw[h1];omega,h2⟩
def Z3c(s:Sta)(hs:StS s)(d:Gc)(hd:DoS d)(m:AObj):
 ∃fr h,Zb rE (.seq s38p8<|.seq s38p9<|.seq s38p10 .ret) [(2,stI s),(5,.ptr 0 0 0 1),(6,.bool<|exD d),(93,.bool false)] [.row 16 [Zo d],m]=some (.ret,fr,h)/\get fr 4=.bool (!NO s d&&Q9 {Hf d with bq:=6}):=by
 have hm:=Wg 6 (Hf d)<|Z3b d hd;have hm':pfn rE 37 [I 6,.agg [I 0,I 0,I 0,I 0,I 0,.str d.Id,.str d.Fa,.str d.Ev,.isl false false 1 [],.isl false false 3 [],I d.An.N,.str d.An.bm,I d.An.Num,I d.An.Den,I d.bg.X,I d.bg.Y,.isl false false 2 [],.isl false false 7 []]]=_:=hm;have hb:=Hb s hs d.Fa;have ht:=K7 s hs d.Ev;unfold NO Zo;cases c1:d.bv != 0 with
 |true=>refine⟨_,_,by simp only[go_sem,s38p8,s38p9,s38p10,hb,ht,c1];rfl,?_⟩;simp only[go_sem]
 |false=>
 cases c2:decide (Y1 s d.Fa<0)with
 |true=>refine⟨_,_,by simp only[go_sem,s38p8,s38p9,s38p10,hb,ht,c1,c2];rfl,?_⟩;simp only[go_sem]
 |false=>
 cases c10003:decide (ZL s d.Ev<0)with
 |true=>refine⟨_,_,by simp only[go_sem,s38p8,s38p9,s38p10,hb,ht,c1,c2,c10003];rfl,?_⟩;simp only[go_sem]
 |false=>
 obtain⟨j,x,hj,hx⟩:=QC c2;obtain⟨k,y,hk,hy⟩:=QC c10003;have hj':Y1 s d.Fa=(j:Int):=hj;have hk':ZL s d.Ev=(k:Int):=hk;have hbE:WL s (Y1 s d.Fa)=x.Ld:=by rw[hj'];simp[WL,hx]
 have hsE:QF s (ZL s d.Ev)=y.Ld:=by rw[hk'];simp[QF,hy]
 have gx:=Z6 (f:=Fa.enc) hx;have gy:=Z6 (f:=Ev.enc) hy;rw[hbE,hsE];rw[hj']at hb c2;rw[hk']at ht c10003;cases c10004:exD d with
 |false=>refine⟨_,_,by simp only[go_sem,s38p8,s38p9,s38p10,hb,ht,c1,c2,c10003,hm'];rfl,?_⟩;simp only[go_sem]
 |true=>
 cases c10005:x.Ld != -1 with
 |true=>refine⟨_,_,by simp only[go_sem,s38p8,s38p9,s38p10,hb,ht,c1,c2,c10003,gx,Fa.enc,NL.enc,c10005];rfl,?_⟩;simp only[go_sem]
 |false=>
 cases c10006:y.Ld != -1 with
 |true=>refine⟨_,_,by simp only[go_sem,s38p8,s38p9,s38p10,hb,ht,c1,c2,c10003,gx,gy,Fa.enc,Ev.enc,NL.enc,c10005,c10006];rfl,?_⟩;simp only[go_sem]
 |false=>refine⟨_,_,by simp only[go_sem,s38p8,s38p9,s38p10,hb,ht,c1,c2,c10003,gx,gy,Fa.enc,Ev.enc,NL.enc,c10005,c10006,hm'];rfl,?_⟩;simp only[go_sem]
def Fs(s:Sta)(hs:StS s)(i:Nat)(d:Gc)(hd:DoS d)(hx:s.Bc[i]?=some d):pfn rE 38 [stA s,I i]=some (.bool<|Hg s i d):=by
 rw[Z5 (f:=38) (c:=c38) rfl rfl,c38_eq];have e0:QP 0 [stA s,I i]=[(0,stA s),(1,I i)]:=rfl;rw[e0];unfold Hg;have fin:∀(fr:Fr)(h:Hp)(b:Bool),get fr 4=.bool b->frz (fnd [ResVar.tmp 4]<|some (.ret,fr,h))=some (.bool b):=by
  intro fr h b hg;simp only[go_sem,hg]
 cases c1:K8 s i d with
 |false=>
  obtain⟨fr,h,h1,h2⟩:=(Fm s hs i d hd hx _).2 c1;rw[h1];exact fin fr h false h2
 |true=>
  rw[(Fm s hs i d hd hx _).1 c1,Z38];cases c2:UC d with
  |true=>
   obtain⟨fr,h,h1,h2⟩:=(Fp s d hd _).2 c2;rw[h1];exact fin fr h false h2
  |false=>
   rw[(Fp s d hd _).1 c2];cases c10003:Z3 d.Veil emp with
   |false=>
    obtain⟨fr,h,h1,h2⟩:=(Fq s d hd (XM d) _).2 c10003;rw[h1];exact fin fr h _ h2
   |true=>
    rw[(Fq s d hd (XM d) _).1 c10003];obtain⟨fr,h,h1,h2⟩:=Z3c s hs d hd<|XM d;rw[h1];exact fin fr h _ h2
structure StE(s:Sta):Prop where
 sizes:StS s
 regions:∀x∈s.Ga,x.bk.l.length<=100/\x.Ring.l.length<=100/\x.Id.size<=1000
 streets:∀x∈s.Gr,x.bk.l.length<=100/\x.Line.l.length<=100/\x.Id.size<=1000
 buildings:∀x∈s.By,x.Ring.l.length<=100/\x.Id.size<=1000
 doors:∀x∈s.Bc,DoS x
 units:∀x∈s.Nk,x.Id.size<=1000/\x.Gc.size<=1000/\x.Text.size<=1000
def Jt(x:Gm):Gt:=⟨0,0,x.bq,0,0,x.Id,emp,emp,⟨false,[]⟩,⟨false,[]⟩,⟨0,emp,0,0⟩,⟨0,0⟩,x.Ring,⟨false,[]⟩⟩
def Ju(x:Ev):Gt:=⟨0,0,0,0,0,x.Id,emp,emp,⟨false,[]⟩,⟨false,[]⟩,⟨0,emp,0,0⟩,⟨0,0⟩,x.Line,⟨false,[]⟩⟩
def Jv(x:Fa):Gt:=⟨0,0,0,0,0,x.Id,emp,emp,⟨false,[]⟩,⟨false,[]⟩,⟨0,emp,0,0⟩,⟨0,0⟩,x.Ring,⟨false,[]⟩⟩
def Vn(x:be):Gt:=⟨0,0,0,0,0,x.Id,x.Gc,x.Text,⟨false,[]⟩,⟨false,[]⟩,⟨0,emp,0,0⟩,⟨0,0⟩,⟨false,[]⟩,⟨false,[]⟩⟩
def Vo(x:Gm):Bool:=QM x.bh x.Ld 0&&(Jp x.bk.l x.bk.ex&&Q9 {Jt x with bq:=1})
def Vp(x:Ev):Bool:=QM x.bh x.Ld 0&&(Jp x.bk.l x.bk.ex&&Q9 {Ju x with bq:=2})
def Vq(x:Fa):Bool:=QM x.bh x.Ld 0&&Q9 {Jv x with bq:=5}
def Vr(s:Sta)(i:Nat)(x:Gc):Bool:=QM x.bh x.Ld x.From&&Hg s i x
def QN(s:Sta)(k:Int):Int:=match s.Bc[k.toNat]? with|some d=>d.Ld|none=>0
def Jw(s:Sta)(x:be):Bool:=(x.Ld==-1&&(x.Why != 0||QN s (Zn s x.Gc) != -1))||((x.Ld != -1&&x.Why != 12)&&x.Why != 11)
def Vs(s:Sta)(x:be):Bool:=!decide (Zn s x.Gc<0)&&(QM 0 x.Ld x.From&&(Q9 {Vn x with bq:=7}&&!Jw s x))
def Jx(s:Sta):Bool:=s.Ga.all Vo&&(s.Gr.all Vp&&(s.By.all Vq&&(Zu (Vr s) 0 s.Bc&&(s.Nk.all (Vs s)&&(Jq (Qp s)&&(Wh s.Bc&&WK s))))))
def Z3d(s:Sta)(hs:StE s):∃fr',Zg rE [1,15,16,17] c19L0b [(1,stI s),(15,.isl false false 6<|s.Ga.map Gm.enc),(16,I s.Ga.length),(17,.int .i64 0)] [] =
 some (if Zu (λ_ x=>Vo x) 0 s.Ga=true then .exit 0 else .ret,fr',[])/\(Zu (λ_ x=>Vo x) 0 s.Ga=true->get fr' 1=stI s/\get fr' 2=.bot)/\(Zu (λ_ x=>Vo x) 0 s.Ga=false->get fr' 2=.bool false):=by
 have L:=QT (E:=rE) (live:=[1,15,16,17]) (b:=c19L0b) (h:=[]) s.Ga (λ_ x=>Vo x)
  (λi=>[(1,stI s),(15,.isl false false 6<|s.Ga.map Gm.enc),(16,I s.Ga.length),(17,I i)]) 0
  (λfr=>get fr 1=stI s/\get fr 2=.bot) (λfr=>get fr 2=.bool false) (λi=>rfl)
  (λi x hx hP=>by
   have hg:=Z6 (f:=Gm.enc) hx;have hi:=Zh<|Z7 hx;have hw:=Zx (n:=i) (by have:=Z7 hx;have:=hs.sizes.regions;omega)
   have hm:=ZWA hx;obtain⟨z1,z2,z3⟩:=hs.regions x hm;have hnm:=Hc x.bk.l x.bk.ex z1;have hmd:pfn rE 37 [I 1,.agg [I 0,I 0,I x.bq,I 0,I 0,.str x.Id,.str emp,.str emp,.isl false false 1 [],.isl false false 3 [],I 0,.str emp,I 0,I 0,I 0,I 0,.isl false x.Ring.ex 2<|x.Ring.l.map Pt.enc,.isl false false 7 []]]=some (.bool<|Q9 {Jt x with bq:=1}):=Wg 1 (Jt x) ⟨ZWy _,ZWy _,z2,ZWy _,z3,ZWy _,ZWy _⟩
   simp only[Vo,ZWn]at hP;obtain⟨p1,p2,p3⟩:=hP;refine⟨_,by simp only[go_sem,c19L0b,hg,hi,hw,Gm.enc,NL.enc,Qc,hnm,hmd,p1,p2,p3];rfl,?_⟩
   simp only[go_sem])
  (λi x hx hP=>by
   have hg:=Z6 (f:=Gm.enc) hx;have hi:=Zh<|Z7 hx;have hm:=ZWA hx;obtain⟨z1,z2,z3⟩:=hs.regions x hm;have hnm:=Hc x.bk.l x.bk.ex z1;have hmd:pfn rE 37 [I 1,.agg [I 0,I 0,I x.bq,I 0,I 0,.str x.Id,.str emp,.str emp,.isl false false 1 [],.isl false false 3 [],I 0,.str emp,I 0,I 0,I 0,I 0,.isl false x.Ring.ex 2<|x.Ring.l.map Pt.enc,.isl false false 7 []]]=some (.bool<|Q9 {Jt x with bq:=1}):=Wg 1 (Jt x) ⟨ZWy _,ZWy _,z2,ZWy _,z3,ZWy _,ZWy _⟩
   unfold Vo at hP;cases p1:QM x.bh x.Ld 0 with
   |false=>
    refine⟨_,by simp only[go_sem,c19L0b,hg,hi,Gm.enc,NL.enc,Qc,p1];rfl,?_⟩
    simp only[go_sem]
   |true=>
   cases p2:Jp x.bk.l x.bk.ex with
   |false=>
    refine⟨_,by simp only[go_sem,c19L0b,hg,hi,Gm.enc,NL.enc,Qc,hnm,p1,p2];rfl,?_⟩
    simp only[go_sem]
   |true=>
    have p3:Q9 {Jt x with bq:=1}=false:=by simpa[p1,p2]using hP
    refine⟨_,by simp only[go_sem,c19L0b,hg,hi,Gm.enc,NL.enc,Qc,hnm,hmd,p1,p2,p3];rfl,?_⟩
    simp only[go_sem])
  (⟨_,by simp only[go_sem,c19L0b,ZG];rfl,by refine⟨?_,?_⟩<;>simp only[go_sem]⟩)
 exact L
def Z3e(s:Sta)(hs:StE s):∃fr',Zg rE [1,46,47,48] c19L1b [(1,stI s),(46,.isl false false 5<|s.Gr.map Ev.enc),(47,I s.Gr.length),(48,.int .i64 0)] [] =
 some (if Zu (λ_ x=>Vp x) 0 s.Gr=true then .exit 2 else .ret,fr',[])/\(Zu (λ_ x=>Vp x) 0 s.Gr=true->get fr' 1=stI s/\get fr' 2=.bot)/\(Zu (λ_ x=>Vp x) 0 s.Gr=false->get fr' 2=.bool false):=by
 have L:=QT (E:=rE) (live:=[1,46,47,48]) (b:=c19L1b) (h:=[]) s.Gr (λ_ x=>Vp x)
  (λi=>[(1,stI s),(46,.isl false false 5<|s.Gr.map Ev.enc),(47,I s.Gr.length),(48,I i)]) 2
  (λfr=>get fr 1=stI s/\get fr 2=.bot) (λfr=>get fr 2=.bool false) (λi=>rfl)
  (λi x hx hP=>by
   have hg:=Z6 (f:=Ev.enc) hx;have hi:=Zh<|Z7 hx;have hw:=Zx (n:=i) (by have:=Z7 hx;have:=hs.sizes.streets;omega)
   have hm:=ZWA hx;obtain⟨z1,z2,z3⟩:=hs.streets x hm;have hnm:=Hc x.bk.l x.bk.ex z1;have hmd:pfn rE 37 [I 2,.agg [I 0,I 0,I 0,I 0,I 0,.str x.Id,.str emp,.str emp,.isl false false 1 [],.isl false false 3 [],I 0,.str emp,I 0,I 0,I 0,I 0,.isl false x.Line.ex 2<|x.Line.l.map Pt.enc,.isl false false 7 []]]=some (.bool<|Q9 {Ju x with bq:=2}):=Wg 2 (Ju x) ⟨ZWy _,ZWy _,z2,ZWy _,z3,ZWy _,ZWy _⟩
   simp only[Vp,ZWn]at hP;obtain⟨p1,p2,p3⟩:=hP;refine⟨_,by simp only[go_sem,c19L1b,hg,hi,hw,Ev.enc,NL.enc,Qc,hnm,hmd,p1,p2,p3];rfl,?_⟩
   simp only[go_sem])
  (λi x hx hP=>by
   have hg:=Z6 (f:=Ev.enc) hx;have hi:=Zh<|Z7 hx;have hm:=ZWA hx;obtain⟨z1,z2,z3⟩:=hs.streets x hm;have hnm:=Hc x.bk.l x.bk.ex z1;have hmd:pfn rE 37 [I 2,.agg [I 0,I 0,I 0,I 0,I 0,.str x.Id,.str emp,.str emp,.isl false false 1 [],.isl false false 3 [],I 0,.str emp,I 0,I 0,I 0,I 0,.isl false x.Line.ex 2<|x.Line.l.map Pt.enc,.isl false false 7 []]]=some (.bool<|Q9 {Ju x with bq:=2}):=Wg 2 (Ju x) ⟨ZWy _,ZWy _,z2,ZWy _,z3,ZWy _,ZWy _⟩
   unfold Vp at hP;cases p1:QM x.bh x.Ld 0 with
   |false=>
    refine⟨_,by simp only[go_sem,c19L1b,hg,hi,Ev.enc,NL.enc,Qc,p1];rfl,?_⟩
    simp only[go_sem]
   |true=>
   cases p2:Jp x.bk.l x.bk.ex with
   |false=>
    refine⟨_,by simp only[go_sem,c19L1b,hg,hi,Ev.enc,NL.enc,Qc,hnm,p1,p2];rfl,?_⟩
    simp only[go_sem]
   |true=>
    have p3:Q9 {Ju x with bq:=2}=false:=by simpa[p1,p2]using hP
    refine⟨_,by simp only[go_sem,c19L1b,hg,hi,Ev.enc,NL.enc,Qc,hnm,hmd,p1,p2,p3];rfl,?_⟩
    simp only[go_sem])
  (⟨_,by simp only[go_sem,c19L1b,ZG];rfl,by refine⟨?_,?_⟩<;>simp only[go_sem]⟩)
 exact L
def Z3f(s:Sta)(hs:StE s):∃fr',Zg rE [1,75,76,77] c19L2b [(1,stI s),(75,.isl false false 4<|s.By.map Fa.enc),(76,I s.By.length),(77,.int .i64 0)] [] =
 some (if Zu (λ_ x=>Vq x) 0 s.By=true then .exit 4 else .ret,fr',[])/\(Zu (λ_ x=>Vq x) 0 s.By=true->get fr' 1=stI s/\get fr' 2=.bot)/\(Zu (λ_ x=>Vq x) 0 s.By=false->get fr' 2=.bool false):=by
 have L:=QT (E:=rE) (live:=[1,75,76,77]) (b:=c19L2b) (h:=[]) s.By (λ_ x=>Vq x)
  (λi=>[(1,stI s),(75,.isl false false 4<|s.By.map Fa.enc),(76,I s.By.length),(77,I i)]) 4
  (λfr=>get fr 1=stI s/\get fr 2=.bot) (λfr=>get fr 2=.bool false) (λi=>rfl)
  (λi x hx hP=>by
   have hg:=Z6 (f:=Fa.enc) hx;have hi:=Zh<|Z7 hx;have hw:=Zx (n:=i) (by have:=Z7 hx;have:=hs.sizes.buildings;omega)
   have hm:=ZWA hx;obtain⟨z2,z3⟩:=hs.buildings x hm;have hmd:pfn rE 37 [I 5,.agg [I 0,I 0,I 0,I 0,I 0,.str x.Id,.str emp,.str emp,.isl false false 1 [],.isl false false 3 [],I 0,.str emp,I 0,I 0,I 0,I 0,.isl false x.Ring.ex 2<|x.Ring.l.map Pt.enc,.isl false false 7 []]]=some (.bool<|Q9 {Jv x with bq:=5}):=Wg 5 (Jv x) ⟨ZWy _,ZWy _,z2,ZWy _,z3,ZWy _,ZWy _⟩
   simp only[Vq,ZWn]at hP;obtain⟨p1,p3⟩:=hP;refine⟨_,by simp only[go_sem,c19L2b,hg,hi,hw,Fa.enc,NL.enc,Qc,hmd,p1,p3];rfl,?_⟩
   simp only[go_sem])
  (λi x hx hP=>by
   have hg:=Z6 (f:=Fa.enc) hx;have hi:=Zh<|Z7 hx;have hm:=ZWA hx;obtain⟨z2,z3⟩:=hs.buildings x hm;have hmd:pfn rE 37 [I 5,.agg [I 0,I 0,I 0,I 0,I 0,.str x.Id,.str emp,.str emp,.isl false false 1 [],.isl false false 3 [],I 0,.str emp,I 0,I 0,I 0,I 0,.isl false x.Ring.ex 2<|x.Ring.l.map Pt.enc,.isl false false 7 []]]=some (.bool<|Q9 {Jv x with bq:=5}):=Wg 5 (Jv x) ⟨ZWy _,ZWy _,z2,ZWy _,z3,ZWy _,ZWy _⟩
   unfold Vq at hP;cases p1:QM x.bh x.Ld 0 with
   |false=>
    refine⟨_,by simp only[go_sem,c19L2b,hg,hi,Fa.enc,NL.enc,Qc,p1];rfl,?_⟩
    simp only[go_sem]
   |true=>
    have p3:Q9 {Jv x with bq:=5}=false:=by simpa[p1]using hP
    refine⟨_,by simp only[go_sem,c19L2b,hg,hi,Fa.enc,NL.enc,Qc,hmd,p1,p3];rfl,?_⟩
    simp only[go_sem])
  (⟨_,by simp only[go_sem,c19L2b,ZG];rfl,by refine⟨?_,?_⟩<;>simp only[go_sem]⟩)
 exact L
def Z3g(s:Sta)(hs:StE s):∃fr',Zg rE [1,98,99,100] c19L3b [(1,stI s),(98,.isl false false 16<|s.Bc.map Gc.enc),(99,I s.Bc.length),(100,.int .i64 0)] [] =
 some (if Zu (Vr s) 0 s.Bc=true then .exit 6 else .ret,fr',[])/\(Zu (Vr s) 0 s.Bc=true->get fr' 1=stI s/\get fr' 2=.bot)/\(Zu (Vr s) 0 s.Bc=false->get fr' 2=.bool false):=by
 have L:=QT (E:=rE) (live:=[1,98,99,100]) (b:=c19L3b) (h:=[]) s.Bc (Vr s)
  (λi=>[(1,stI s),(98,.isl false false 16<|s.Bc.map Gc.enc),(99,I s.Bc.length),(100,I i)]) 6
  (λfr=>get fr 1=stI s/\get fr 2=.bot) (λfr=>get fr 2=.bool false) (λi=>rfl)
  (λi x hx hP=>by
   have hg:=Z6 (f:=Gc.enc) hx;have hi:=Zh<|Z7 hx;have hw:=Zx (n:=i) (by have:=Z7 hx;have:=hs.sizes.doors;omega)
   have hm:=ZWA hx;have hst:=Fs s hs.sizes i x (hs.doors x hm) hx;simp only[Vr,ZWn]at hP;obtain⟨p1,p3⟩:=hP;refine⟨_,by simp only[go_sem,c19L3b,hg,hi,hw,Gc.enc,NL.enc,Qc,hst,p1,p3];rfl,?_⟩
   simp only[go_sem])
  (λi x hx hP=>by
   have hg:=Z6 (f:=Gc.enc) hx;have hi:=Zh<|Z7 hx;have hm:=ZWA hx;have hst:=Fs s hs.sizes i x (hs.doors x hm) hx;unfold Vr at hP;cases p1:QM x.bh x.Ld x.From with
   |false=>
    refine⟨_,by simp only[go_sem,c19L3b,hg,hi,Gc.enc,NL.enc,Qc,p1];rfl,?_⟩
    simp only[go_sem]
   |true=>
    have p3:Hg s i x=false:=by simpa[p1]using hP
    refine⟨_,by simp only[go_sem,c19L3b,hg,hi,Gc.enc,NL.enc,Qc,hst,p1,p3];rfl,?_⟩
    simp only[go_sem])
  (⟨_,by simp only[go_sem,c19L3b,ZG];rfl,by refine⟨?_,?_⟩<;>simp only[go_sem]⟩)
 exact L
def Z3h(s:Sta)(hs:StE s):∃fr',Zg rE [1,121,122,123] c19L4b [(1,stI s),(121,.isl false false 6<|s.Nk.map be.enc),(122,I s.Nk.length),(123,.int .i64 0)] [] =
 some (if Zu (λ_ x=>Vs s x) 0 s.Nk=true then .exit 8 else .ret,fr',[])/\(Zu (λ_ x=>Vs s x) 0 s.Nk=true->get fr' 1=stI s/\get fr' 2=.bot)/\(Zu (λ_ x=>Vs s x) 0 s.Nk=false->get fr' 2=.bool false):=by
 have L:=QT (E:=rE) (live:=[1,121,122,123]) (b:=c19L4b) (h:=[]) s.Nk (λ_ x=>Vs s x)
  (λi=>[(1,stI s),(121,.isl false false 6<|s.Nk.map be.enc),(122,I s.Nk.length),(123,I i)]) 8
  (λfr=>get fr 1=stI s/\get fr 2=.bot) (λfr=>get fr 2=.bool false) (λi=>rfl)
  (λi x hx hP=>by
   have hg:=Z6 (f:=be.enc) hx;have hi:=Zh<|Z7 hx;have hw:=Zx (n:=i) (by have:=Z7 hx;have:=hs.sizes.units;omega)
   have hm:=ZWA hx;obtain⟨z1,z2,z3⟩:=hs.units x hm;have hf:=find_ok s hs.sizes x.Gc;have hmd:pfn rE 37 [I 7,.agg [I 0,I 0,I 0,I 0,I 0,.str x.Id,.str x.Gc,.str x.Text,.isl false false 1 [],.isl false false 3 [],I 0,.str emp,I 0,I 0,I 0,I 0,.isl false false 2 [],.isl false false 7 []]]=some (.bool<|Q9 {Vn x with bq:=7}):=Wg 7 (Vn x) ⟨ZWy _,ZWy _,ZWy _,ZWy _,z1,z2,z3⟩
   unfold Vs at hP;have p0:decide (Zn s x.Gc<0)=false:=by cases h:decide (Zn s x.Gc<0)<;>simp_all
   have p1:QM 0 x.Ld x.From=true:=by cases h:QM 0 x.Ld x.From<;>simp_all
   have p2:Q9 {Vn x with bq:=7}=true:=by cases h:Q9 {Vn x with bq:=7}<;>simp_all
   have p3:Jw s x=false:=by cases h:Jw s x<;>simp_all
   obtain⟨j,y,hj,hy⟩:=QC p0;have hj':Zn s x.Gc=(j:Int):=hj;have gy:=Z6 (f:=Gc.enc) hy;have hdE:QN s (Zn s x.Gc)=y.Ld:=by rw[hj'];simp[QN,hy]
   unfold Jw at p3;rw[hdE]at p3;rw[hj']at hf p0;have ne:(x.Ld != -1) = !(x.Ld==-1):=rfl;rw[ne]at p3;cases q1:x.Ld==-1 with
   |true=>
    have ne':(x.Ld != -1)=false:=by rw[ne,q1];rfl
    have q2:(x.Why != 0)=false:=by cases h:x.Why != 0<;>simp_all
    have q3:(y.Ld != -1)=false:=by cases h:y.Ld != -1<;>simp_all
    refine⟨_,by simp only[go_sem,c19L4b,hg,hi,hw,gy,be.enc,Gc.enc,NL.enc,Qc,hf,hmd,p0,p1,p2,q1,q2,q3,ne'];rfl,?_⟩
    simp only[go_sem]
   |false=>
    have ne':(x.Ld != -1)=true:=by rw[ne,q1];rfl
    cases q4:x.Why != 12 with
    |false=>
     refine⟨_,by simp only[go_sem,c19L4b,hg,hi,hw,be.enc,Qc,hf,hmd,p0,p1,p2,q1,ne',q4];rfl,?_⟩
     simp only[go_sem]
    |true=>
     have q5:(x.Why != 11)=false:=by cases h:x.Why != 11<;>simp_all
     refine⟨_,by simp only[go_sem,c19L4b,hg,hi,hw,be.enc,Qc,hf,hmd,p0,p1,p2,q1,ne',q4,q5];rfl,?_⟩
     simp only[go_sem])
  (λi x hx hP=>by
   have hg:=Z6 (f:=be.enc) hx;have hi:=Zh<|Z7 hx;have hm:=ZWA hx;obtain⟨z1,z2,z3⟩:=hs.units x hm;have hf:=find_ok s hs.sizes x.Gc;have hmd:pfn rE 37 [I 7,.agg [I 0,I 0,I 0,I 0,I 0,.str x.Id,.str x.Gc,.str x.Text,.isl false false 1 [],.isl false false 3 [],I 0,.str emp,I 0,I 0,I 0,I 0,.isl false false 2 [],.isl false false 7 []]]=some (.bool<|Q9 {Vn x with bq:=7}):=Wg 7 (Vn x) ⟨ZWy _,ZWy _,ZWy _,ZWy _,z1,z2,z3⟩
   unfold Vs at hP;cases p0:decide (Zn s x.Gc<0)with
   |true=>
    refine⟨_,by simp only[go_sem,c19L4b,hg,hi,be.enc,hf,p0];rfl,?_⟩
    simp only[go_sem]
   |false=>
   cases p1:QM 0 x.Ld x.From with
   |false=>
    refine⟨_,by simp only[go_sem,c19L4b,hg,hi,be.enc,hf,p0,Qc,p1];rfl,?_⟩
    simp only[go_sem]
   |true=>
   cases p2:Q9 {Vn x with bq:=7}with
   |false=>
    refine⟨_,by simp only[go_sem,c19L4b,hg,hi,be.enc,hf,p0,Qc,p1,hmd,p2];rfl,?_⟩
    simp only[go_sem]
   |true=>
   have p3:Jw s x=true:=by simpa[p0,p1,p2]using hP
   obtain⟨j,y,hj,hy⟩:=QC p0;have hj':Zn s x.Gc=(j:Int):=hj;have gy:=Z6 (f:=Gc.enc) hy;have hdE:QN s (Zn s x.Gc)=y.Ld:=by rw[hj'];simp[QN,hy]
   unfold Jw at p3;rw[hdE]at p3;rw[hj']at hf p0;have ne:(x.Ld != -1) = !(x.Ld==-1):=rfl;rw[ne]at p3;cases q1:x.Ld==-1 with
   |true=>
    have ne':(x.Ld != -1)=false:=by rw[ne,q1];rfl
    cases q2:x.Why != 0 with
    |true=>
     refine⟨_,by simp only[go_sem,c19L4b,hg,hi,be.enc,Qc,hf,hmd,p0,p1,p2,q1,q2];rfl,?_⟩
     simp only[go_sem]
    |false=>
     have q3:(y.Ld != -1)=true:=by simpa[q1,q2]using p3
     refine⟨_,by simp only[go_sem,c19L4b,hg,hi,gy,be.enc,Gc.enc,NL.enc,Qc,hf,hmd,p0,p1,p2,q1,q2,q3];rfl,?_⟩
     simp only[go_sem]
   |false=>
    have ne':(x.Ld != -1)=true:=by rw[ne,q1];rfl
    have q4:(x.Why != 12)=true:=by cases h:x.Why != 12<;>simp_all
    have q5:(x.Why != 11)=true:=by cases h:x.Why != 11<;>simp_all
    refine⟨_,by simp only[go_sem,c19L4b,hg,hi,be.enc,Qc,hf,hmd,p0,p1,p2,q1,ne',q4,q5];rfl,?_⟩
    simp only[go_sem])
  (⟨_,by simp only[go_sem,c19L4b,ZG];rfl,by refine⟨?_,?_⟩<;>simp only[go_sem]⟩)
 exact L
def Z3i(s:Sta)(hs:StE s):pfn rE 19 [stA s]=some (.bool<|Jx s):=by
 obtain⟨f0,a0,b0,d0⟩:=Z3d s hs;obtain⟨f1,a1,b1,d1⟩:=Z3e s hs;obtain⟨f2,a2,b2,d2⟩:=Z3f s hs;obtain⟨f3,a3,b3,d3⟩:=Z3g s hs;obtain⟨f4,a4,b4,d4⟩:=Z3h s hs;rw[QE]at a0 b0 d0 a1 b1 d1 a2 b2 d2 a4 b4 d4;have hi:=Fd s hs.sizes;have hso:=Fj (Qp s) false (by have h1:=hs.sizes.regions;have h2:=hs.sizes.streets;have h3:=hs.sizes.buildings;have h4:=hs.sizes.doors;have h5:=hs.sizes.units;simp[Qp];omega)
 have hn:=Fk s hs.sizes;have hp:=Z31 s hs.sizes;rw[Z5 (f:=19) rfl rfl];unfold Jx;cases c0:s.Ga.all Vo with
 |false=>rw[c0]at a0;simp only[go_sem,c19,c19L0,a0,d0 c0,ZWt]
 |true=>
 rw[c0,if_pos rfl]at a0;obtain⟨p0,q0⟩:=b0 c0;cases c1:s.Gr.all Vp with
 |false=>rw[c1]at a1;simp only[go_sem,c19,c19L0,c19L1,a0,p0,q0,a1,d1 c1,ZWt]
 |true=>
 rw[c1,if_pos rfl]at a1;obtain⟨p1,q1⟩:=b1 c1;cases c2:s.By.all Vq with
 |false=>rw[c2]at a2;simp only[go_sem,c19,c19L0,c19L1,c19L2,a0,p0,q0,a1,p1,q1,a2,d2 c2,ZWt]
 |true=>
 rw[c2,if_pos rfl]at a2;obtain⟨p2,q2⟩:=b2 c2;cases c10003:Zu (Vr s) 0 s.Bc with
 |false=>rw[c10003]at a3;simp only[go_sem,c19,c19L0,c19L1,c19L2,c19L3,a0,p0,q0,a1,p1,q1,a2,p2,q2,a3,d3 c10003,ZWt]
 |true=>
 rw[c10003,if_pos rfl]at a3;obtain⟨p3,q3⟩:=b3 c10003;cases c10004:s.Nk.all (Vs s)with
 |false=>rw[c10004]at a4;simp only[go_sem,c19,c19L0,c19L1,c19L2,c19L3,c19L4,a0,p0,q0,a1,p1,q1,a2,p2,q2,a3,p3,q3,a4,d4 c10004,ZWt]
 |true=>
 rw[c10004,if_pos rfl]at a4;obtain⟨p4,q4⟩:=b4 c10004;cases c10005:Jq (Qp s)<;>cases c10006:Wh s.Bc<;>rw[c10005]at hso<;>rw[c10006]at hn<;>
  simp only[go_sem,c19,c19L0,c19L1,c19L2,c19L3,c19L4,a0,p0,q0,a1,p1,q1,a2,p2,q2,a3,p3,q3,a4,p4,q4,hi,hso,hn,hp]
def ZcX:List (List UInt8)->List (List UInt8)
 |[]=>[]
 |a::r=>match ZcX r with
  |[]=>[a]
  |b::s=>if a=b then b::s else a::b::s
def ZdC:∀l:List<|List UInt8,Ys (l.map Qd)=(ZcX l).map Qd
 |[]=>rfl
 |a::r=>by
  rw[ZWI];unfold Ys ZcX;rw[ZdC r];cases ZcX r with
  |nil=>rfl
  |cons b s=>
   have e:sameKey (Qd a) (Qd b)=decide (a=b):=by
    show Z3 _ _=_
    unfold Z3;have e1:(⟨a.toArray⟩:ByteArray).data.toList=a:=by simp
    have e2:(⟨b.toArray⟩:ByteArray).data.toList=b:=by simp
    rw[e1,e2];by_cases h:a=b
    .subst h;simp
    .rw[decide_eq_false h];simpa using h
   show(bif sameKey (Qd a) (Qd b)then _ else _)=_
   rw[e];by_cases h:a=b
   .simp[h]
   .simp[h]
def Ze5(a:List UInt8)(r:List<|List UInt8):∃t,ZcX (a::r)=a::t/\t.length<=r.length:=by
 induction r generalizing a with
 |nil=>exact⟨[],rfl,ZWs _⟩
 |cons b s ih=>
  obtain⟨t,h1,h2⟩:=ih b;unfold ZcX;rw[h1];by_cases h:a=b
  .subst h;exact⟨t,by simp,by simp;omega⟩
  .exact⟨b::t,by simp[h],by simp;omega⟩
def Adj:List (List UInt8)->Prop
 |[]=>True
 |[_]=>True
 |a::b::r=>a≠b/\Adj (b::r)
def ZdD:∀l:List<|List UInt8,(ZcX l).length=l.length↔Adj l
 |[]=>⟨λ_=>trivial,λ_=>rfl⟩
 |[a]=>⟨λ_=>trivial,λ_=>rfl⟩
 |a::b::r=>by
  have ih:=ZdD<|b::r;obtain⟨t,h1,h2⟩:=Ze5 b r;rw[h1]at ih;unfold Adj;rw[<-ih];unfold ZcX;rw[h1];by_cases h:a=b
  .subst h;simp;omega
  .simp[h]
def ZdE:∀l:List<|List UInt8,l.Pairwise (λa b=>leB a b=true)->Adj l->l.Nodup
 |[],_,_=>.nil
 |[a],_,_=>by simp
 |a::b::r,hs,h=>by
  unfold Adj at h;rw[ZXa]at hs;have ih:=ZdE (b::r) hs.2 h.2;rw[ZXD];refine⟨λhm=>?_,ih⟩
  rcases ZWJ.1 hm with e|hm
  .exact h.1 e
  .have hb:=(ZXa.1 hs.2).1 a hm;exact h.1<|ET _ _ (hs.1 b<|ZX4 ..) hb
def ZdF:∀l:List<|List UInt8,l.Nodup->Adj l
 |[],_=>trivial
 |[a],_=>trivial
 |a::b::r,h=>by
  rw[ZXD]at h;exact⟨λe=>h.1 (by rw[e];exact ZX4 ..),ZdF (b::r) h.2⟩
def bytes_inj{a b:Str}(h:a.data.toList=b.data.toList):a=b:=by
 obtain⟨⟨a⟩⟩:=a;obtain⟨⟨b⟩⟩:=b;have:a=b:=h;rw[this]
def ZdG{α β:Type}{f:α->β}(hf:∀a b,f a=f b->a=b):∀{l:List α},(l.map f).Nodup↔l.Nodup
 |[]=>by simp
 |a::r=>by
  rw[ZWI,ZXD,ZXD,ZdG hf];refine and_congr_left λ_=>not_congr ⟨λh=>?_,λh=>ZYx h⟩
  obtain⟨b,hb,e⟩:=ZX2.1 h;rw[<-hf _ _ e];exact hb
def Ze6(l:List Str):l.map encS=(l.map (λx:Str=>x.data.toList)).map Qd:=by
 rw[ZXN];apply ZYH;intro x _;obtain⟨⟨x⟩⟩:=x;rfl
def Zdk(l:List Str):Jq l=true↔l.Nodup:=by
 have e:(Ys<|Yk<|l.map encS).length=(ZcX<|WD<|l.map (λx:Str=>x.data.toList)).length:=by
  rw[Ze6,D4,ZdC,ZWm]
 have hl:(WD<|l.map (λx:Str=>x.data.toList)).length=l.length:=by
  rw[(RS _).length_eq,ZWm]
 unfold Jq;rw[beq_iff_eq,e];rw[show((ZcX<|WD<|l.map (λx:Str=>x.data.toList)).length:Int)=(l.length:Int)↔(ZcX<|WD<|l.map (λx:Str=>x.data.toList)).length=(WD<|l.map (λx:Str=>x.data.toList)).length from by rw[hl];omega]
 rw[ZdD];have h1:Adj (WD<|l.map (λx:Str=>x.data.toList))↔(WD<|l.map (λx:Str=>x.data.toList)).Nodup:=⟨ZdE _<|D8 _,ZdF _⟩
 rw[h1,(RS _).nodup_iff,ZdG<|λa b h=>bytes_inj h]
def Z3j(a0 a1 a2 a3:AObj)(b:Bool):trimB 4 [a0,a1,a2,a3] b=[a0,a1,a2,a3]:=by cases b<;>rfl
def Z3k(a0 a1 a2 a3 a4:AObj)(b:Bool):trimB 5 [a0,a1,a2,a3,a4] b=[a0,a1,a2,a3,a4]:=by cases b<;>rfl
def Z3l(a0 a1 a2 a3 a4 a5:AObj)(b:Bool):trimB 6 [a0,a1,a2,a3,a4,a5] b=[a0,a1,a2,a3,a4,a5]:=by cases b<;>rfl
attribute [go_sem] Z3j Z3k Z3l
def Z3o(b i off g:Nat):Zy (.ptr b i off g)=false:=(rfl)
attribute [go_sem] Z3o
structure Prop'(s:Sta):Prop where
 rg:∀x∈s.Ga,Vo x=true
 st:∀x∈s.Gr,Vp x=true
 bu:∀x∈s.By,Vq x=true
 dr:∀(i:Nat)d,s.Bc[i]?=some d->Vr s i d=true
 un:∀x∈s.Nk,Vs s x=true
 ids:(Qp s).Nodup
 pa:WK s=true
def Zda{α:Type}{P:Nat->α->Bool}:∀{l:List α}{i:Nat},Zu P i l=true↔∀(j:Nat)x,l[j]?=some x->P (i+j) x=true
 |[],i=>⟨λ_ j x h=>(by simp at h),λ_=>rfl⟩
 |y::r,i=>by
  unfold Zu;rw[ZWn,Zda (l:=r)];constructor
  .rintro⟨h1,h2⟩ j x hx;cases j with
   |zero=>cases hx;exact h1
   |succ j=>have:=h2 j x hx;rw[show i+(j+1)=i+1+j by omega];exact this
  .intro h;exact⟨h 0 y rfl,λj x hx=>by have:=h (j+1) x hx;rw[show i+1+j=i+(j+1)by omega];exact this⟩
def Zdb(s:Sta):Jx s=true↔Prop' s/\Wh s.Bc=true:=by
 unfold Jx;simp only[ZWn];constructor
 .rintro⟨h1,h2,h3,h4,h5,h6,h7,h8⟩;exact⟨⟨ZWF.1 h1,ZWF.1 h2,ZWF.1 h3,λi d hd=>by have:=Zda.1 h4 i d hd;rwa[ZWD]at this,ZWF.1 h5,(Zdk _).1 h6,h8⟩,h7⟩
 .rintro⟨⟨h1,h2,h3,h4,h5,h6,h8⟩,h7⟩;exact⟨ZWF.2 h1,ZWF.2 h2,ZWF.2 h3,Zda.2 (λi d hd=>by rw[ZWD];exact h4 i d hd),ZWF.2 h5,(Zdk _).2 h6,h7,h8⟩
def look{α:Type}(f:α->Str)(l:List α)(id:Str):Int:=Zp (λx=>Z3 (f x) id) l 0
def ZcU{α:Type}{f:α->Str}{l:List α}{id:Str}(h:decide (look f l id<0)=false):∃(j:Nat)(x:α),look f l id=(j:Int)/\l[j]?=some x/\f x=id:=by
 unfold look at h⊢;rcases UA (λx=>Z3 (f x) id) l 0 with⟨h1,_⟩|⟨j,x,h1,h2,h3⟩
 .rw[h1]at h;cases h
 .exact⟨j,x,by omega,h2,by have:=ZYI h3;exact(Ky _ _).1 this⟩
def Ze8{α:Type}{f:α->Str}{l:List α}{x:α}(h:x∈l):decide (look f l (f x)<0)=false:=by
 unfold look;rcases UA (λy=>Z3 (f y)<|f x) l 0 with⟨_,h2⟩|⟨j,y,h1,_,_⟩
 .exfalso;have:=List.find?_eq_none.1 h2 x h;exact this<|(Ky _ _).2 rfl
 .exact decide_eq_false<|by omega
def Zi1{α:Type}{f:α->Str}{l:List α}{j:Nat}{x:α}(hn:(l.map f).Nodup)(h:l[j]?=some x):look f l (f x)=(j:Int):=by
 obtain⟨k,y,h1,h2,h3⟩:=ZcU<|Ze8 (f:=f)<|ZWA h;have hk:(l.map f)[k]?=some (f x):=by rw[ZXg,h2,ZWN,h3]
 have hj:(l.map f)[j]?=some (f x):=by rw[ZXg,h,ZWN]
 have hkl:=(ZWx.1 hk).1;have:k=j:=(List.getElem?_inj hkl hn).1 (hk.trans hj.symm);rw[h1,this]
def ZEz(s:Sta)(id:Str):Zn s id=look (λx:Gc=>x.Id) s.Bc id:=rfl
def Zd0(s:Sta)(i:Nat)(d:Gc):Vr s i d=true↔QM d.bh d.Ld d.From=true/\(∀id∈d.After.l,decide (Zn s id<=i)=false)/\UC d=false/\(Z3 d.Veil emp=true->NO s d=false/\Q9 {Hf d with bq:=6}=true)/\(Z3 d.Veil emp=false->NN d=true):=by
 unfold Vr Hg K8;rw[ZWn,ZWn,ZWn,ZWF,ZWG];simp only[ZWG];cases Z3 d.Veil emp with
 |true=>rw[cond_true,ZWn,ZWG];simp
 |false=>rw[cond_false];simp
def hfX(q:Int)(p:Int):Int:=W<|W (2*q)-p
def ZoX(p a b:Pt):Int:=W<|W (hfX a.X p.X*hfX b.Y p.Y)-W (hfX a.Y p.Y*hfX b.X p.X)
def Zp9(p a b:Pt):Bool:=ZoX p a b==0&&decide (W (W (hfX a.X p.X*hfX b.X p.X)+W (hfX a.Y p.Y*hfX b.Y p.Y))<=0)
def Zp4(p a b:Pt)(w:Int):Int:=
 bif decide (hfX a.Y p.Y<=0)&&(decide (hfX b.Y p.Y>0)&&decide (ZoX p a b>0))then W<|w+1
 else bif decide (hfX a.Y p.Y>0)&&(decide (hfX b.Y p.Y<=0)&&decide (ZoX p a b<0))then W (w-1)else w
def ZoP(p:Pt)(l:List Pt)(st:Int×Bool)(i:Nat):Int×Bool:=
 (Zp4 p (pAt l i) (pAt l<|(i+1)%l.length) st.1,st.2||Zp9 p (pAt l i) (pAt l<|(i+1)%l.length))
def ZoC(l:List Pt)(p:Pt):Int×Bool:=(List.range l.length).foldl (ZoP p l) (0,false)
def ZoD(v:AV)(p:Pt):Fr:=[(14,.clo (.func 342) [] [.iptr false [v]]),(13,v),(0,v),(3,.iptr false [I p.X,I p.Y]),(4,.ptr 0 0 0 1),(5,.ptr 1 0 0 1)]
def hfH(v:AV)(p:Pt)(st:Int×Bool):Hp:=[.row 1 [I st.1],.row 1 [.bool st.2],.loop .ready .normal (ZoD v p) [15,16] c325R0a c325R0b]
def hfD:ACode:=
 .keep []<|.block 2<|
  .seq (.keep [4,9,11,12,63]<|.region [o 64<|.mv<|.t 9,
   o 65 (.bin .leq (.t 64)<|.c<|.int .i64 0),
   o 66 (.mv<|.t 65),
   og 67 (.mv<|.t 11) 66 true,
   og 68 (.bin .gtr (.t 67)<|.c<|.int .i64 0) 66 true,
   o 69 (.pick (.t 66) (.t 68)<|.c<|.bool false),
   o 70 (.mv<|.t 69),
   og 71 (.mv<|.t 12) 70 true,
   og 72 (.bin .gtr (.t 71)<|.c<|.int .i64 0) 70 true,
   o 73 (.pick (.t 70) (.t 72)<|.c<|.bool false),
   o 63 (.mv<|.t 73)])<|
  .cond (.t 63)
   (.keep []<|.region [o 74<|.load none<|.t 4,
    o 75 (.bin .add (.t 74)<|.c<|.int .i64 1),
    ⟨none,.store 1 (.t 4)<|.t 75,none⟩])
   (.seq (.keep [4,76]<|.region [o 77<|.mv<|.t 9,
     o 78 (.bin .gtr (.t 77)<|.c<|.int .i64 0),
     o 79 (.mv<|.t 78),
     og 80 (.mv<|.t 11) 79 true,
     og 81 (.bin .leq (.t 80)<|.c<|.int .i64 0) 79 true,
     o 82 (.pick (.t 79) (.t 81)<|.c<|.bool false),
     o 83 (.mv<|.t 82),
     og 84 (.mv<|.t 12) 83 true,
     og 85 (.bin .lss (.t 84)<|.c<|.int .i64 0) 83 true,
     o 86 (.pick (.t 83) (.t 85)<|.c<|.bool false),
     o 76 (.mv<|.t 86)])<|
    .cond (.t 76)
     (.keep []<|.region [o 87<|.load none<|.t 4,
      o 88 (.bin .sub (.t 87)<|.c<|.int .i64 1),
      ⟨none,.store 1 (.t 4)<|.t 88,none⟩])
     (.skip))
def hfB:ACode:=
 .keep []<|.block 1<|
  .seq (.keep [4,5,8,9,10,11]<|.draw [[],[],[],[],[],[],[],[],[],[],[],[],[],[],[],[],[],[],[],[],[],[],[],[],[],[],[]]
   [o 17<|.fadr 0<|.t 6,
   o 18 (.load none<|.t 17),
   o 19 (.bin .mul (.c<|.int .i64 2)<|.t 18),
   o 20 (.fadr 0<|.t 3),
   o 21 (.load none<|.t 20),
   o 22 (.bin .sub (.t 19)<|.t 21),
   o 23 (.fadr 1<|.t 6),
   o 24 (.load none<|.t 23),
   o 25 (.bin .mul (.c<|.int .i64 2)<|.t 24),
   o 26 (.fadr 1<|.t 3),
   o 27 (.load none<|.t 26),
   o 28 (.bin .sub (.t 25)<|.t 27),
   o 29 (.fadr 0<|.t 7),
   o 30 (.load none<|.t 29),
   o 31 (.bin .mul (.c<|.int .i64 2)<|.t 30),
   o 32 (.fadr 0<|.t 3),
   o 33 (.load none<|.t 32),
   o 34 (.bin .sub (.t 31)<|.t 33),
   o 35 (.fadr 1<|.t 7),
   o 36 (.load none<|.t 35),
   o 37 (.bin .mul (.c<|.int .i64 2)<|.t 36),
   o 38 (.fadr 1<|.t 3),
   o 39 (.load none<|.t 38),
   o 40 (.bin .sub (.t 37)<|.t 39),
   o 8 (.mv<|.t 22),
   o 9 (.mv<|.t 28),
   o 10 (.mv<|.t 34)]
   [o 11<|.mv<|.t 40])<|
  .seq (.keep [4,5,8,9,10,11,12]<|.region [o 41<|.mv<|.t 8,
   o 42 (.mv<|.t 11),
   o 43 (.bin .mul (.t 41)<|.t 42),
   o 44 (.mv<|.t 9),
   o 45 (.mv<|.t 10),
   o 46 (.bin .mul (.t 44)<|.t 45),
   o 47 (.bin .sub (.t 43)<|.t 46),
   o 12 (.mv<|.t 47)])<|
  .seq (.keep [4,9,11,12]<|.region [o 48<|.load none<|.t 5,
   o 49 (.mv<|.t 48),
   og 50 (.mv<|.t 12) 49 false,
   og 51 (.bin .eql (.t 50)<|.c<|.int .i64 0) 49 false,
   og 52 (.mv<|.t 51) 49 false,
   og 53 (.mv<|.t 8) 52 true,
   og 54 (.mv<|.t 10) 52 true,
   og 55 (.bin .mul (.t 53)<|.t 54) 52 true,
   og 56 (.mv<|.t 9) 52 true,
   og 57 (.mv<|.t 11) 52 true,
   og 58 (.bin .mul (.t 56)<|.t 57) 52 true,
   og 59 (.bin .add (.t 55)<|.t 58) 52 true,
   og 60 (.bin .leq (.t 59)<|.c<|.int .i64 0) 52 true,
   og 61 (.pick (.t 52) (.t 60)<|.c<|.bool false) 49 false,
   o 62 (.pick (.t 49) (.c<|.bool true)<|.t 61),
   ⟨none,.store 1 (.t 5)<|.t 62,none⟩])<|
  hfD
def Zqk(p a b:Pt)(w:Int)(F:Fr)(hb6:Zd 6 (frV F)=true)(x:Bool)(r3 r4 r5:AObj)(h3:∀n,2<=n->Zj n r3=true)(h4:∀n,2<=n->Zj n r4=true)(h5:∀n,2<=n->Zj n r5=true):
 Zb rE hfD [(4,.ptr 0 0 0 1),(9,I<|hfX a.Y p.Y),(11,I<|hfX b.Y p.Y),(12,I<|ZoX p a b)] [.row 1 [I w],.row 1 [.bool x],.loop .busy .normal F [15,16] c325R0a c325R0b,r3,r4,r5] =
  some (.normal,[],[.row 1 [I<|Zp4 p a b w],.row 1 [.bool x],.loop .busy .normal F [15,16] c325R0a c325R0b,r3,r4,r5]):=by
 have t6:decide (hfX a.Y p.Y>0) = !decide (hfX a.Y p.Y<=0):=by by_cases c:hfX a.Y p.Y<=0<;>simp[c]<;>omega
 have t7:decide (hfX b.Y p.Y<=0) = !decide (hfX b.Y p.Y>0):=by by_cases c:hfX b.Y p.Y>0<;>simp[c]<;>omega
 have q3:=h3 6<|by decide
 have q4:=h4 6<|by decide
 have q5:=h5 6<|by decide
 unfold Zp4;rw[t6,t7];generalize hfX a.Y p.Y=ay at*;generalize hfX b.Y p.Y=by' at*
 generalize ZoX p a b=tn at*;cases d3:decide (ay<=0)with
 |true=>
  cases d4:decide (by'>0)with
  |true=>
   rw[d3]at t6;cases d5:decide (tn>0)with
   |true=>simp only[go_sem,hfD,d3,d4,d5,hb6,q3,q4,q5]
   |false=>simp only[go_sem,hfD,d3,d4,d5,t6,hb6,q3,q4,q5,ZWo,ZWw,ZWr,cond_false]
  |false=>
   rw[d3]at t6;simp only[go_sem,hfD,d3,d4,t6,hb6,q3,q4,q5,ZWo,ZWw,ZWr,cond_false]
 |false=>
  rw[d3]at t6;cases d4:decide (by'>0)with
  |true=>
   rw[d4]at t7;simp only[go_sem,hfD,d3,t6,t7,hb6,q3,q4,q5,ZWo,ZWq,ZWw,ZWr,cond_false]
  |false=>
   rw[d4]at t7;cases d8:decide (tn<0)with
   |true=>simp only[go_sem,hfD,d3,t6,t7,d8,hb6,q3,q4,q5,ZWq,ZWr,cond_false,ZWv,cond_true]
   |false=>simp only[go_sem,hfD,d3,t6,t7,d8,hb6,q3,q4,q5,ZWq,ZWr,cond_false,ZWw]
def Zql(v:AV)(hv:∀n,bel n v=true)(p:Pt)(st:Int×Bool)(q a b:Pt):
 U4 rE 2 [.agg [I a.X,I a.Y],.agg [I b.X,I b.Y]] (hfH v p st++[.row 2 [.agg [I q.X,I q.Y]]]) =
  some (.bool true,hfH v p (Zp4 p a b st.1,st.2||Zp9 p a b)++[.row 2 [.agg [I q.X,I q.Y]],.row 2 [.agg [I a.X,I a.Y]],.row 2 [.agg [I b.X,I b.Y]]]):=by
 have h:=Ss (E:=rE) (b:=2) (args:=[.agg [I a.X,I a.Y],.agg [I b.X,I b.Y]]) (h:=hfH v p st++[.row 2 [.agg [I q.X,I q.Y]]]) (fr:=ZoD v p) (ps:=[15,16]) (assign:=c325R0a) (body:=c325R0b)
  (fr0:=(16,.agg [I b.X,I b.Y])::(15,.agg [I a.X,I a.Y])::ZoD v p) rfl rfl (by simp only[go_sem,c325R0a,hfH,ZoD]<;>rfl) (by rfl)
  (e:=.normal) (fr2:=[]) (h2:=[.row 1 [I<|Zp4 p a b st.1],.row 1 [.bool<|st.2||Zp9 p a b],.loop .busy .normal (ZoD v p) [15,16] c325R0a c325R0b,.row 2 [.agg [I q.X,I q.Y]],.row 2 [.agg [I a.X,I a.Y]],.row 2 [.agg [I b.X,I b.Y]]])
  (by
   show Zb rE hfB [(7,.ptr 5 0 0 1),(6,.ptr 4 0 0 1),(16,.agg [I b.X,I b.Y]),(15,.agg [I a.X,I a.Y]),(14,.clo (.func 342) [] [.iptr false [v]]),(13,v),(0,v),(3,.iptr false [I p.X,I p.Y]),(4,.ptr 0 0 0 1),(5,.ptr 1 0 0 1)]
    [.row 1 [I st.1],.row 1 [.bool st.2],.loop .busy .normal (ZoD v p) [15,16] c325R0a c325R0b,.row 2 [.agg [I q.X,I q.Y]],.row 2 [.agg [I a.X,I a.Y]],.row 2 [.agg [I b.X,I b.Y]]]=_
   have hb6:Zd 6 (frV<|ZoD v p)=true:=by simp only[go_sem,ZoD,hv]
   have hr:∀(z:Pt)n,2<=n->Zj n (.row 2 [.agg [I z.X,I z.Y]])=true:=λz n _=>rfl
   have hL:=λx=>Zqk p a b st.1 (ZoD v p) hb6 x (.row 2 [.agg [I q.X,I q.Y]]) (.row 2 [.agg [I a.X,I a.Y]]) (.row 2 [.agg [I b.X,I b.Y]]) (hr q) (hr a)<|hr b
   simp only[hfX,ZoX]at hL;unfold Zp9 ZoX hfX;cases c1:st.2 with
   |true=>
    rw[ZWC];simp only[go_sem,hfB,hb6,hL]
   |false=>
    rw[ZWB];cases d1:W (W (W (W (2*a.X)-p.X)*W (W (2*b.Y)-p.Y))-W (W (W (2*a.Y)-p.Y)*W (W (2*b.X)-p.X)))==0 with
    |true=>simp only[go_sem,hfB,hb6,hL,d1,ZWp]
    |false=>simp only[go_sem,hfB,hb6,hL,d1,ZWr]) (by rfl)
 exact h
def Zqm(l:List Pt)(ex:Bool)(hl:l.length<=1000000)(p:Pt):pfn rE 325 [.isl false ex 2<|l.map Pt.enc,.agg [I p.X,I p.Y]]=some (.tup [I (ZoC l p).1,.bool (ZoC l p).2]):=by
 have hv:∀n,bel n (.isl false ex 2<|l.map Pt.enc)=true:=λn=>by
  have:=ZN (n:=n) [.isl false ex 2<|l.map Pt.enc] (by have:=Zw (f:=Pt.enc) (λt=>rfl) l;simp only[go_sem])
  unfold Zd at this;rw[ZWn]at this;exact this.1
 have hb3:Zd 3 (frV<|ZoD (.isl false ex 2<|l.map Pt.enc) p)=true:=by simp only[go_sem,ZoD,hv]
 have L:=Y8 (E:=rE) (live:=[0,1,5,6,7]) (b:=c342L0b) l.length (λi=>[(0,.yld 2),(1,.iptr false [.isl false ex 2<|l.map Pt.enc]),(5,.isl false ex 2<|l.map Pt.enc),(6,I l.length),(7,I i)])
  (λi=>hfH (.isl false ex 2<|l.map Pt.enc) p<|(List.range i).foldl (ZoP p l) (0,false)) (λi=>rfl)
  (λi hi=>by
   have h0:0<l.length:=by omega
   have hg:=YN hi;have hg2:=YN (l:=l)<|ZXn (i+1) h0;have hi':=Zh hi;have hw:=Zx (n:=i)<|by omega
   have hn:=nat_ne h0;have hy:=Zql (.isl false ex 2<|l.map Pt.enc) hv p ((List.range i).foldl (ZoP p l) (0,false)) (pAt l i) (pAt l i)<|pAt l<|(i+1)%l.length;have hs:(List.range<|i+1).foldl (ZoP p l) (0,false)=ZoP p l ((List.range i).foldl (ZoP p l) (0,false)) i:=by
    rw[ZY3,ZXV];rfl
   rw[hs];generalize(List.range i).foldl (ZoP p l) (0,false)=n at*;unfold ZoP;simp only[hfH,ZWO,ZWZ]at hy⊢;refine⟨_,by simp only[go_sem,c342L0b,S3,hg,hg2,hi',hw,hn,Jc,hy,Pt.enc,hb3];rfl,?_⟩
   simp only[go_sem])
  (e:=.exit 0) (by simp only[go_sem,hfH,c342L0b,ZG];rfl) (by simp)
 have L':Zg rE [0,1,5,6,7] c342L0b [(0,.yld 2),(1,.iptr false [.isl false ex 2<|l.map Pt.enc]),(5,.isl false ex 2<|l.map Pt.enc),(6,I l.length),(7,.int .i64 0)] [.row 1 [.int .i64 0],.row 1 [.bool false],.loop .ready .normal (ZoD (.isl false ex 2<|l.map Pt.enc) p) [15,16] c325R0a c325R0b]=_:=L;rw[Z5 (f:=325) rfl rfl];have hrf:rf rE (.clo (.func 342) [] [.iptr false [.isl false ex 2<|l.map Pt.enc]]) [15,16] c325R0a c325R0b (ZoD (.isl false ex 2<|l.map Pt.enc) p) [.row 1 [.int .i64 0],.row 1 [.bool false]] =
  some (.normal,ZoD (.isl false ex 2<|l.map Pt.enc) p,[.row 1 [I (ZoC l p).1],.row 1 [.bool (ZoC l p).2],.loop .exhausted .normal (ZoD (.isl false ex 2<|l.map Pt.enc) p) [15,16] c325R0a c325R0b]):=by
  rw[Z1k (c:=c342) rfl];simp only[go_sem,c342,c342L0,L',hb3];rfl
 simp only[ZoD]at hrf;simp only[go_sem,c325,Z1l,Sr,hrf,hv]
def ZoY(l:List Pt)(p:Pt):Int:=
 bif (!Vh l||Jf p)||((ZoC l ⟨W<|2*p.X,W<|2*p.Y⟩).1==0&&!(ZoC l ⟨W<|2*p.X,W<|2*p.Y⟩).2)then -1
 else bif (ZoC l ⟨W<|2*p.X,W<|2*p.Y⟩).1 != 0&&!(ZoC l ⟨W<|2*p.X,W<|2*p.Y⟩).2 then 1 else 0
def Zqn(l:List Pt)(ex:Bool)(hl:l.length<=1000000)(p:Pt):pfn rE 231 [.isl false ex 2<|l.map Pt.enc,.agg [I p.X,I p.Y]]=some (I<|ZoY l p):=by
 have hV:=Dz l ex hl;have hO:=Z1h p;have hH:=Zqm l ex hl ⟨W<|2*p.X,W<|2*p.Y⟩;have hO2:pfn rE 283 [.isl false ex 2<|l.map Pt.enc,.agg [I<|W<|2*p.X,I<|W<|2*p.Y]]=some (.bool<|(ZoC l ⟨W<|2*p.X,W<|2*p.Y⟩).1==0&&!(ZoC l ⟨W<|2*p.X,W<|2*p.Y⟩).2):=by
  rw[Z5 (f:=283) rfl rfl];cases c:(ZoC l ⟨W<|2*p.X,W<|2*p.Y⟩).1==0<;>simp only[go_sem,c283,hH,c,ZWp,ZWr]
 have hI:pfn rE 284 [.isl false ex 2<|l.map Pt.enc,.agg [I<|W<|2*p.X,I<|W<|2*p.Y]]=some (.bool<|(ZoC l ⟨W<|2*p.X,W<|2*p.Y⟩).1 != 0&&!(ZoC l ⟨W<|2*p.X,W<|2*p.Y⟩).2):=by
  rw[Z5 (f:=284) rfl rfl];cases c:(ZoC l ⟨W<|2*p.X,W<|2*p.Y⟩).1 != 0<;>simp only[go_sem,c284,hH,c,ZWp,ZWr]
 rw[Z5 (f:=231) rfl rfl];unfold ZoY;generalize((ZoC l ⟨W<|2*p.X,W<|2*p.Y⟩).1==0&&!(ZoC l ⟨W<|2*p.X,W<|2*p.Y⟩).2)=b1 at*;generalize((ZoC l ⟨W<|2*p.X,W<|2*p.Y⟩).1 != 0&&!(ZoC l ⟨W<|2*p.X,W<|2*p.Y⟩).2)=b2 at*;cases c1:Vh l with
 |false=>simp only[go_sem,c231,hV,c1,ZWq,ZWC,cond_true]
 |true=>
 cases c2:Jf p with
 |true=>simp only[go_sem,c231,hV,hO,c1,c2,ZWo,ZWB,ZWC,cond_true]
 |false=>
 cases b1 with
 |true=>simp only[go_sem,c231,hV,hO,hO2,c1,c2,ZWo,ZWB,cond_true]
 |false=>
 cases b2<;>simp only[go_sem,c231,hV,hO,hO2,hI,c1,c2,ZWo,ZWB,cond_true,cond_false]
def wOn(P a b:Pt):Bool:=ZO3 P a b==0&&decide ((2*a.X-P.X)*(2*b.X-P.X)+(2*a.Y-P.Y)*(2*b.Y-P.Y)<=0)
def ZPd(P a b:Pt):Bool:=ZO3 P a b==0&&(decide (P.X>=min (2*a.X) (2*b.X))&&(decide (P.X<=max (2*a.X) (2*b.X))&&(decide (P.Y>=min (2*a.Y) (2*b.Y))&&decide (P.Y<=max (2*a.Y) (2*b.Y)))))
def ZTm{ux uy vx vy:Int}(hc:ux*vy=uy*vx)(hd:ux*vx+uy*vy=0):(ux=0/\uy=0)\/(vx=0/\vy=0):=by
 have h1:vx*(ux*ux+uy*uy)=0:=by grind
 have h2:vy*(ux*ux+uy*uy)=0:=by grind
 rcases ZOq h1 with a|a
 .rcases ZOq h2 with b|b
  .exact .inr ⟨a,b⟩
  .have:=ZPo (a:=ux);have:=ZPo (a:=uy);have e1:ux*ux=0:=by omega
   have e2:uy*uy=0:=by omega
   refine .inl ⟨?_,?_⟩
   .rcases ZOq e1 with k|k<;>exact k
   .rcases ZOq e2 with k|k<;>exact k
 .have:=ZPo (a:=ux);have:=ZPo (a:=uy);have e1:ux*ux=0:=by omega
  have e2:uy*uy=0:=by omega
  refine .inl ⟨?_,?_⟩
  .rcases ZOq e1 with k|k<;>exact k
  .rcases ZOq e2 with k|k<;>exact k
def ZRz(P a b:Pt):ZPd P a b=wOn P a b:=by
 unfold ZPd wOn;cases ht:ZO3 P a b==0 with
 |false=>rfl
 |true=>
  have hc:(2*a.X-P.X)*(2*b.Y-P.Y)=(2*a.Y-P.Y)*(2*b.X-P.X):=by
   have:=eq_of_beq ht;unfold ZO3 at this;omega
  have hb:=ZRo hc;have hz:=ZTm hc;have hz0:∀z:Int,(0:Int)*z=0:=ZY4;have hz1:∀z:Int,z*(0:Int)=0:=Int.mul_zero;rw[ZWp,ZWp,ZWK];simp only[ZWn,decide_eq_true_iff];generalize 2*a.X=ax at*;generalize 2*a.Y=ay at*;generalize 2*b.X=bx at*;generalize 2*b.Y=by' at*
  constructor
  .intro h;rcases hb.2 (by omega)with k|k|k
   .rw[k.1,k.2,hz0,hz0];decide
   .rw[k.1,k.2,hz1,hz1];decide
   .omega
  .intro h;have:=hb.1 (by
    rcases Int.lt_or_eq_of_le h with k|k
    .exact .inr<|.inr k
    .rcases hz k with q|q
     .exact .inl q
     .exact .inr<|.inl q)
   omega
def wC(P:Pt)(l:List Pt)(k:Nat):Bool:=wUp P (uP l k) (uP l<|k+1)||wDn P (uP l k) (uP l<|k+1)
def ZPe(l:List Pt)(P:Pt):Bool:=(List.range l.length).any (λk=>wOn P (uP l k)<|uP l<|k+1)
def ZPO(l:List Pt)(P:Pt):Int:=bif ZPe l P then 0 else bif xs (wC P l) l.length then 1 else -1
def dbl(p:Pt):Pt:=⟨W<|2*p.X,W<|2*p.Y⟩
def ZPq(p:Pt):pfn rE 315 [.agg [I p.X,I p.Y]]=some (.agg [I (dbl p).X,I (dbl p).Y]):=by
 rw[Z5 (f:=315) rfl rfl];unfold dbl;simp only[go_sem,c315]
def ZQh{p:Pt}(h:gOn p=true):dbl p=⟨2*p.X,2*p.Y⟩:=by
 have:=ZO8 h;unfold dbl;rw[ZO5 (by omega) (by omega),ZO5 (by omega)<|by omega]
def ZRA{a b P:Pt}(ha:gOn a=true)(hb:gOn b=true)(hP:(0<=P.X/\P.X<=65534)/\(0<=P.Y/\P.Y<=65534)):ZO7 ⟨2*a.X,2*a.Y⟩ ⟨2*b.X,2*b.Y⟩ P=ZO3 P a b:=by
 have h1:=ZO8 ha;have h2:=ZO8 hb;unfold ZO7 Uh Yv;dsimp only;rw[ZO5 (n:=2*b.X-2*a.X) (by omega) (by omega),ZO5 (n:=2*b.Y-2*a.Y) (by omega) (by omega),ZO5 (n:=P.X-2*a.X) (by omega) (by omega),ZO5 (n:=P.Y-2*a.Y) (by omega)<|by omega]
 have k1:=ZOz (a:=2*b.X-2*a.X) (b:=P.Y-2*a.Y) (by omega) (by omega) (by omega)<|by omega
 have k2:=ZOz (a:=2*b.Y-2*a.Y) (b:=P.X-2*a.X) (by omega) (by omega) (by omega)<|by omega
 rw[ZO5 (n:=(2*b.X-2*a.X)*(P.Y-2*a.Y)) (by omega) (by omega),ZO5 (n:=(2*b.Y-2*a.Y)*(P.X-2*a.X)) (by omega) (by omega),ZO5 (by omega)<|by omega]
 unfold ZO3
 grind
def flp(P a b:Pt)(tn:Int):Bool:=(decide (2*a.Y<=P.Y)&&(!decide (2*b.Y<=P.Y)&&decide (tn>0)))||(!decide (2*a.Y<=P.Y)&&(decide (2*b.Y<=P.Y)&&decide (tn<0)))
def bx4(P a b:Pt):Bool:=decide (P.X>=min (2*a.X) (2*b.X))&&(decide (P.X<=max (2*a.X) (2*b.X))&&(decide (P.Y>=min (2*a.Y) (2*b.Y))&&decide (P.Y<=max (2*a.Y) (2*b.Y))))
section
variable {l:List Pt} {ex:Bool} {k:Nat} {a b P:Pt} {tn:Int} {q:Bool}
def ZTn(hg:(l.map Pt.enc)[k]?=some a.enc)(hx:pfn rE 181 [.isl false ex 2<|l.map Pt.enc,I k]=some (.agg [I b.X,I b.Y]))(hlt:decide ((k:Int)<(l.length:Int))=true)(hw:IntKind.i64.wrap ((k:Int)+1)=((k+1:Nat):Int))
 (d1:pfn rE 315 [.agg [I a.X,I a.Y]]=some (.agg [I<|2*a.X,I<|2*a.Y])) (d2:pfn rE 315 [.agg [I b.X,I b.Y]]=some (.agg [I<|2*b.X,I<|2*b.Y])) (hA:pfn rE 257 [.agg [I<|2*a.X,I<|2*a.Y],.agg [I<|2*b.X,I<|2*b.Y],.agg [I P.X,I P.Y]]=some (I tn))
 (e1:(tn==0)=false):∃fr',Zb rE c314L0b [(0,.isl false ex 2<|l.map Pt.enc),(3,.iptr false [I P.X,I P.Y]),(5,.bool q),(6,I k)] []=some (.normal,fr',[])/\Z2 [0,3,5,6] fr'=[(0,.isl false ex 2<|l.map Pt.enc),(3,.iptr false [I P.X,I P.Y]),(5,.bool<|q ^^ flp P a b tn),(6,I (k+1:Nat))]:=by
 have s5:decide (2*a.Y>P.Y) = !decide (2*a.Y<=P.Y):=by by_cases h:2*a.Y<=P.Y<;>simp[h]<;>omega
 have s6:decide (2*b.Y>P.Y) = !decide (2*b.Y<=P.Y):=by by_cases h:2*b.Y<=P.Y<;>simp[h]<;>omega
 unfold flp;cases e2:decide (2*a.Y<=P.Y)<;>cases e3:decide (2*b.Y<=P.Y)<;>cases e4:decide (tn>0)<;>cases e5:decide (tn<0)<;>rw[e2]at s5<;>rw[e3]at s6<;>
  (refine⟨_,by simp only[go_sem,c314L0b,hg,hx,hlt,hw,Pt.enc,d1,d2,hA,e1,e2,e3,e4,e5,s5,s6,ZWm,ZWo,ZWq];rfl,?_⟩;cases q<;>rfl)
def ZTo(hg:(l.map Pt.enc)[k]?=some a.enc)(hx:pfn rE 181 [.isl false ex 2<|l.map Pt.enc,I k]=some (.agg [I b.X,I b.Y]))(hlt:decide ((k:Int)<(l.length:Int))=true)(hw:IntKind.i64.wrap ((k:Int)+1)=((k+1:Nat):Int))
 (d1:pfn rE 315 [.agg [I a.X,I a.Y]]=some (.agg [I<|2*a.X,I<|2*a.Y])) (d2:pfn rE 315 [.agg [I b.X,I b.Y]]=some (.agg [I<|2*b.X,I<|2*b.Y])) (hA:pfn rE 257 [.agg [I<|2*a.X,I<|2*a.Y],.agg [I<|2*b.X,I<|2*b.Y],.agg [I P.X,I P.Y]]=some (I tn))
 (e1:(tn==0)=true) (hB:bx4 P a b=false):∃fr',Zb rE c314L0b [(0,.isl false ex 2<|l.map Pt.enc),(3,.iptr false [I P.X,I P.Y]),(5,.bool q),(6,I k)] []=some (.normal,fr',[])/\Z2 [0,3,5,6] fr'=[(0,.isl false ex 2<|l.map Pt.enc),(3,.iptr false [I P.X,I P.Y]),(5,.bool<|q ^^ flp P a b tn),(6,I (k+1:Nat))]:=by
 have s5:decide (2*a.Y>P.Y) = !decide (2*a.Y<=P.Y):=by by_cases h:2*a.Y<=P.Y<;>simp[h]<;>omega
 have s6:decide (2*b.Y>P.Y) = !decide (2*b.Y<=P.Y):=by by_cases h:2*b.Y<=P.Y<;>simp[h]<;>omega
 have z1:decide (tn>0)=false:=by rw[eq_of_beq e1];rfl
 have z2:decide (tn<0)=false:=by rw[eq_of_beq e1];rfl
 have ef:flp P a b tn=false:=by unfold flp;rw[z1,z2];simp
 rw[ef];unfold bx4 at hB;cases e2:decide (2*a.Y<=P.Y)<;>cases e3:decide (2*b.Y<=P.Y)<;>rw[e2]at s5<;>rw[e3]at s6<;>
  (cases e6:decide (P.X>=min (2*a.X) (2*b.X))with
  |false=>(refine⟨_,by simp only[go_sem,c314L0b,hg,hx,hlt,hw,Pt.enc,d1,d2,hA,e1,e2,e3,s5,s6,z1,z2,e6,ZWm,ZWo,ZWq];rfl,?_⟩;cases q<;>rfl)
  |true=>
  cases e7:decide (P.X<=max (2*a.X) (2*b.X))with
  |false=>(refine⟨_,by simp only[go_sem,c314L0b,hg,hx,hlt,hw,Pt.enc,d1,d2,hA,e1,e2,e3,s5,s6,z1,z2,e6,e7,ZWm,ZWo,ZWq];rfl,?_⟩;cases q<;>rfl)
  |true=>
  cases e8:decide (P.Y>=min (2*a.Y) (2*b.Y))with
  |false=>(refine⟨_,by simp only[go_sem,c314L0b,hg,hx,hlt,hw,Pt.enc,d1,d2,hA,e1,e2,e3,s5,s6,z1,z2,e6,e7,e8,ZWm,ZWo,ZWq];rfl,?_⟩;cases q<;>rfl)
  |true=>
  have e9:decide (P.Y<=max (2*a.Y) (2*b.Y))=false:=by rw[e6,e7,e8]at hB;exact hB
  (refine⟨_,by simp only[go_sem,c314L0b,hg,hx,hlt,hw,Pt.enc,d1,d2,hA,e1,e2,e3,s5,s6,z1,z2,e6,e7,e8,e9,ZWm,ZWo,ZWq];rfl,?_⟩;cases q<;>rfl))
end
def ZTp(l:List Pt)(ex:Bool)(h3:3<=l.length)(h40:l.length<=40)(hon:∀k,gOn (uP l k)=true)(P:Pt)(hP:(0<=P.X/\P.X<=65534)/\(0<=P.Y/\P.Y<=65534)):pfn rE 314 [.isl false ex 2<|l.map Pt.enc,.agg [I P.X,I P.Y]]=some (I<|ZPO l P):=by
 have L:=QT (E:=rE) (live:=[0,3,5,6]) (b:=c314L0b) (h:=[]) (List.range l.length) (λ_ k=>!wOn P (uP l k) (uP l<|k+1)) (λi=>[(0,.isl false ex 2<|l.map Pt.enc),(3,.iptr false [I P.X,I P.Y]),(5,.bool<|xs (wC P l) i),(6,I i)]) 0
  (λfr=>get fr 5=.bool (xs (wC P l) l.length)) (λfr=>get fr 4=.int .i64 0) (λi=>rfl)
  (λi k hk hO=>by
   obtain⟨rfl,hi⟩:=Ds hk;have eu:pAt l k=uP l k:=by unfold uP;rw[ZY1 hi]
   have eu2:pAt l ((k+1)%l.length)=uP l (k+1):=rfl;have hg:=YN hi;have hx:=ZPa false ex l (by omega) k hi
   have hlt:=Zh hi;have hw:=Zx (n:=k)<|by omega
   rw[eu]at hg;rw[eu2]at hx;have d1:=ZPq<|uP l k;have d2:=ZPq<|uP l<|k+1;rw[ZQh<|hon _]at d1 d2;have hA:=ZOY ⟨2*(uP l k).X,2*(uP l k).Y⟩ ⟨2*(uP l<|k+1).X,2*(uP l<|k+1).Y⟩ P;rw[ZRA (hon _) (hon _) hP]at hA;have hs:xs (wC P l) (k+1)=(xs (wC P l) k ^^ wC P l k):=rfl;have hO':ZPd P (uP l k) (uP l<|k+1)=false:=by rw[ZRz];simpa using hO
   rw[hs];generalize xs (wC P l) k=q;unfold ZPd at hO';have s1:decide (2*(uP l k).Y-P.Y<=0)=decide (2*(uP l k).Y<=P.Y):=by rw[decide_eq_decide];omega
   have s2:decide (2*(uP l<|k+1).Y-P.Y>0)=decide (2*(uP l<|k+1).Y>P.Y):=by rw[decide_eq_decide];omega
   have s3:decide (2*(uP l k).Y-P.Y>0)=decide (2*(uP l k).Y>P.Y):=by rw[decide_eq_decide];omega
   have s4:decide (2*(uP l<|k+1).Y-P.Y<=0)=decide (2*(uP l<|k+1).Y<=P.Y):=by rw[decide_eq_decide];omega
   have s5:decide (2*(uP l k).Y>P.Y) = !decide (2*(uP l k).Y<=P.Y):=by by_cases h:2*(uP l k).Y<=P.Y<;>simp[h]<;>omega
   have s6:decide (2*(uP l<|k+1).Y>P.Y) = !decide (2*(uP l<|k+1).Y<=P.Y):=by by_cases h:2*(uP l<|k+1).Y<=P.Y<;>simp[h]<;>omega
   have ef:(wUp P (uP l k) (uP l<|k+1)||wDn P (uP l k) (uP l<|k+1))=flp P (uP l k) (uP l<|k+1) (ZO3 P (uP l k)<|uP l<|k+1):=by
    unfold wUp wDn flp;rw[s1,s2,s3,s4,s5,s6]
   have hw4:wC P l k=flp P (uP l k) (uP l<|k+1) (ZO3 P (uP l k)<|uP l<|k+1):=ef;rw[hw4];cases e1:ZO3 P (uP l k) (uP l<|k+1)==0 with
   |false=>exact ZTn hg hx hlt hw d1 d2 hA e1
   |true=>
    rw[e1,ZWp]at hO';exact ZTo hg hx hlt hw d1 d2 hA e1 hO')
  (λi k hk hO=>by
   obtain⟨rfl,hi⟩:=Ds hk;have eu:pAt l k=uP l k:=by unfold uP;rw[ZY1 hi]
   have eu2:pAt l ((k+1)%l.length)=uP l (k+1):=rfl;have hg:=YN hi;have hx:=ZPa false ex l (by omega) k hi
   have hlt:=Zh hi;rw[eu]at hg;rw[eu2]at hx;have d1:=ZPq<|uP l k;have d2:=ZPq<|uP l<|k+1;rw[ZQh<|hon _]at d1 d2;have hA:=ZOY ⟨2*(uP l k).X,2*(uP l k).Y⟩ ⟨2*(uP l<|k+1).X,2*(uP l<|k+1).Y⟩ P;rw[ZRA (hon _) (hon _) hP]at hA;have hO':ZPd P (uP l k) (uP l<|k+1)=true:=by rw[ZRz];simpa using hO
   unfold ZPd at hO';simp only[ZWn]at hO';obtain⟨e1,e6,e7,e8,e9⟩:=hO';refine⟨_,by simp only[go_sem,c314L0b,hg,hx,hlt,Pt.enc,d1,d2,hA,e1,e6,e7,e8,e9,ZWm];rfl,?_⟩
   simp only[go_sem])
  (⟨_,by simp only[go_sem,c314L0b,ZYg,ZWm,ZG];rfl,by simp only[go_sem,ZYg]⟩)
 rw[QE]at L;obtain⟨fr',h1,h2,h4⟩:=L;have h1':Zg rE [0,3,5,6] c314L0b [(0,.isl false ex 2<|l.map Pt.enc),(3,.iptr false [I P.X,I P.Y]),(5,.bool false),(6,.int .i64 0)] []=_:=h1;have ep:ZPe l P = !(List.range l.length).all (λk=>!wOn P (uP l k) (uP l<|k+1)):=by
  unfold ZPe;rw[List.not_all_eq_any_not];simp
 rw[Z5 (f:=314) rfl rfl];unfold ZPO;rw[ep];cases hc:(List.range l.length).all (λk=>!wOn P (uP l k) (uP l<|k+1))with
 |true=>
  rw[hc]at h1';have g:=h2 hc;cases hx:xs (wC P l) l.length with
  |true=>rw[hx]at g;simp only[go_sem,c314,c314L0,h1',g,ZWo,if_true]
  |false=>rw[hx]at g;simp only[go_sem,c314,c314L0,h1',g,ZWo,if_true]
 |false=>
  rw[hc]at h1';have g:=h4 hc;simp only[go_sem,c314,c314L0,h1',g,ZWq,ZWt,if_false]
end Go.AM
namespace Go.AM
open Go
variable [REdz]
def ZOA{q p:Int}(hq:0<=q/\q<=32767)(hp:0<=p/\p<=65534):hfX q p=2*q-p:=by
 unfold hfX;rw[ZO5 (n:=2*q) (by omega) (by omega),ZO5 (by omega)<|by omega]
def ZRB{P a b:Pt}(ha:gOn a=true)(hb:gOn b=true)(hP:(0<=P.X/\P.X<=65534)/\(0<=P.Y/\P.Y<=65534)):ZoX P a b=ZO3 P a b:=by
 have h1:=ZO8 ha;have h2:=ZO8 hb;unfold ZoX ZO3;rw[ZOA ⟨h1.1,h1.2.1⟩ hP.1,ZOA ⟨h1.2.2.1,h1.2.2.2⟩ hP.2,ZOA ⟨h2.1,h2.2.1⟩ hP.1,ZOA ⟨h2.2.2.1,h2.2.2.2⟩ hP.2];have k1:=ZOz (a:=2*a.X-P.X) (b:=2*b.Y-P.Y) (by omega) (by omega) (by omega)<|by omega
 have k2:=ZOz (a:=2*a.Y-P.Y) (b:=2*b.X-P.X) (by omega) (by omega) (by omega)<|by omega
 rw[ZO5 (n:=(2*a.X-P.X)*(2*b.Y-P.Y)) (by omega) (by omega),ZO5 (n:=(2*a.Y-P.Y)*(2*b.X-P.X)) (by omega) (by omega),ZO5 (by omega)<|by omega]
def ZTq{P a b:Pt}(ha:gOn a=true)(hb:gOn b=true)(hP:(0<=P.X/\P.X<=65534)/\(0<=P.Y/\P.Y<=65534)):Zp9 P a b=wOn P a b:=by
 have h1:=ZO8 ha;have h2:=ZO8 hb;unfold Zp9 wOn;rw[ZRB ha hb hP,ZOA ⟨h1.1,h1.2.1⟩ hP.1,ZOA ⟨h1.2.2.1,h1.2.2.2⟩ hP.2,ZOA ⟨h2.1,h2.2.1⟩ hP.1,ZOA ⟨h2.2.2.1,h2.2.2.2⟩ hP.2];have k1:=ZOz (a:=2*a.X-P.X) (b:=2*b.X-P.X) (by omega) (by omega) (by omega)<|by omega
 have k2:=ZOz (a:=2*a.Y-P.Y) (b:=2*b.Y-P.Y) (by omega) (by omega) (by omega)<|by omega
 rw[ZO5 (n:=(2*a.X-P.X)*(2*b.X-P.X)) (by omega) (by omega),ZO5 (n:=(2*a.Y-P.Y)*(2*b.Y-P.Y)) (by omega) (by omega),ZO5 (by omega)<|by omega]
def ZTr{P a b:Pt}{w:Int}(ha:gOn a=true)(hb:gOn b=true)(hP:(0<=P.X/\P.X<=65534)/\(0<=P.Y/\P.Y<=65534))(hw:-100<=w/\w<=100):Zp4 P a b w=w+wS P a b:=by
 have h1:=ZO8 ha;have h2:=ZO8 hb;unfold Zp4 wS wUp wDn;rw[ZRB ha hb hP,ZOA ⟨h1.2.2.1,h1.2.2.2⟩ hP.2,ZOA ⟨h2.2.2.1,h2.2.2.2⟩ hP.2,ZO5 (n:=w+1) (by omega) (by omega),ZO5 (n:=w-1) (by omega)<|by omega]
 cases(decide (2*a.Y-P.Y<=0)&&(decide (2*b.Y-P.Y>0)&&decide (ZO3 P a b>0)))<;>cases(decide (2*a.Y-P.Y>0)&&(decide (2*b.Y-P.Y<=0)&&decide (ZO3 P a b<0)))<;>simp<;>omega
def ZTs(P a b:Pt):-1<=wS P a b/\wS P a b<=1:=by unfold wS;cases wUp P a b<;>cases wDn P a b<;>decide
def ZRC{l:List Pt}(h40:l.length<=40)(hon:∀k,gOn (uP l k)=true){P:Pt}(hP:(0<=P.X/\P.X<=65534)/\(0<=P.Y/\P.Y<=65534)):∀n,n<=l.length->
 (List.range n).foldl (ZoP P l) (0,false)=(sm (λk=>wS P (uP l k)<|uP l<|k+1) n,(List.range n).any (λk=>wOn P (uP l k)<|uP l<|k+1))/\(-(n:Int)<=sm (λk=>wS P (uP l k)<|uP l<|k+1) n/\sm (λk=>wS P (uP l k)<|uP l<|k+1) n<=n)
 |0,_=>⟨rfl,ZYK 0,ZYK 0⟩
 |n+1,hn=>by
  obtain⟨ih,b1,b2⟩:=ZRC h40 hon hP n<|by omega
  have hb:=ZTs P (uP l n)<|uP l<|n+1;have e1:pAt l n=uP l n:=by unfold uP;rw[ZY1<|by omega]
  have e2:pAt l ((n+1)%l.length)=uP l (n+1):=rfl;have e3:sm (λk=>wS P (uP l k)<|uP l<|k+1) (n+1)=sm (λk=>wS P (uP l k)<|uP l<|k+1) n+wS P (uP l n) (uP l<|n+1):=rfl
  rw[ZY3,ZXV,List.any_append,ih,e3];refine⟨?_,by omega,by omega⟩
  simp only[ZXd,List.foldl_nil,ZXq,ZXH,ZWS,ZoP];rw[e1,e2,ZTr (hon _) (hon _) hP (by omega),ZTq (hon _) (hon _) hP]
def ZTt{l:List Pt}(hV:Vh l=true){p:Pt}(hp:gOn p=true):ZPO l ⟨2*p.X,2*p.Y⟩=ZoY l p:=by
 have g:=ZQf hV;have h1:=ZO8 hp;have hP:(0<=(⟨2*p.X,2*p.Y⟩:Pt).X/\(⟨2*p.X,2*p.Y⟩:Pt).X<=65534)/\(0<=(⟨2*p.X,2*p.Y⟩:Pt).Y/\(⟨2*p.X,2*p.Y⟩:Pt).Y<=65534):=by dsimp only;omega
 have hf:=(ZRC g.n40 g.on hP l.length<|ZWs _).1;have e:(⟨W<|2*p.X,W<|2*p.Y⟩:Pt)=⟨2*p.X,2*p.Y⟩:=by rw[ZO5 (by omega) (by omega),ZO5 (by omega)<|by omega]
 unfold ZoY;rw[e];generalize hPP:(⟨2*p.X,2*p.Y⟩:Pt)=P at*;have hh:ZoC l P=(sm (λk=>wS P (uP l k)<|uP l<|k+1) l.length,ZPe l P):=hf
 have ho:Jf p=false:=by unfold Jf;rw[hp];rfl
 rw[hh,hV,ho];unfold ZPO;cases hO:ZPe l P with
 |true=>simp
 |false=>
  have hw:=ZTl hV (P:=P) hP.1 (λk hk hc=>by
   unfold ZPe at hO;rw[ZZ2]at hO;apply hO k<|ZXQ.2 hk;unfold wOn ZO3;rw[hc.1,hc.2,Int.sub_self,Int.sub_self,ZY4,ZY4];decide)
  cases hx:xs (wC P l) l.length with
  |false=>
   have:=hw.2 hx;rw[this];rfl
  |true=>
   have hne:sm (λk=>wS P (uP l k)<|uP l<|k+1) l.length≠0:=λh=>by
    have h':xs (wC P l) l.length=false:=hw.1 h;rw[hx]at h';cases h'
   have e0:(sm (λk=>wS P (uP l k)<|uP l<|k+1) l.length==0)=false:=by simpa using hne
   have e1:(sm (λk=>wS P (uP l k)<|uP l<|k+1) l.length != 0)=true:=by simpa using hne
   rw[e0,e1];rfl
def ZTu(l:List Pt)(ex:Bool)(hl:l.length<=1000000)(p:Pt):pfn rE 261 [.isl false ex 2<|l.map Pt.enc,.agg [I p.X,I p.Y]]=some (I<|ZoY l p):=by
 have hV:=ZPK l ex hl;have hO:=ZO4 p;rw[Z5 (f:=261) rfl rfl];cases h1:Vh l with
 |false=>
  have e:ZoY l p=-1:=by unfold ZoY;rw[h1];rfl
  rw[e];simp only[go_sem,c261,hV,h1,ZWq]
 |true=>
 cases h2:gOn p with
 |false=>
  have e:ZoY l p=-1:=by unfold ZoY Jf;rw[h1,h2];rfl
  rw[e];simp only[go_sem,c261,hV,hO,h1,h2,ZWq,ZWo]
 |true=>
  have g:=ZQf h1;have hr:=ZO8 h2;have hD:=ZPq p;rw[ZQh h2]at hD;have hc:=ZTp l ex g.n3 g.n40 g.on ⟨2*p.X,2*p.Y⟩<|by dsimp only;omega
  rw[ZTt h1 h2]at hc;simp only[go_sem,c261,hV,hO,h1,h2,hD,hc,ZWo]
def ZU(s:Str):Bool:=!decide ((s.size:Int)>100)
def Vv(bw ex:Bool)(l:List Str)(hl:l.length<9223372036854775807):pfn rE 33 [.isl bw ex 1<|l.map encS]=some (.bool<|l.all ZU):=by
 have L:=Uf (E:=rE) (live:=[0,3]) (b:=c33L0b) (h:=[]) l (λ_ x=>ZU x) (λi=>[(0,.isl bw ex 1<|l.map encS),(3,I i)]) 0 (λfr=>get fr 2=.bool false) (λi=>rfl)
  (λi x hx hP=>by
   have hg:=Z6 (f:=encS) hx;have hi:=Zh<|Z7 hx;have hw:=Zx (n:=i) (by have:=Z7 hx;omega)
   have hP':decide ((x.size:Int)>100)=false:=by simpa[ZU]using hP
   refine⟨_,by simp only[go_sem,c33L0b,hg,hi,hw,hP',encS];rfl,?_⟩
   simp only[go_sem])
  (λi x hx hP=>by
   have hg:=Z6 (f:=encS) hx;have hi:=Zh<|Z7 hx;have hP':decide ((x.size:Int)>100)=true:=by simpa[ZU]using hP
   refine⟨_,by simp only[go_sem,c33L0b,hg,hi,hP',encS];rfl,?_⟩
   simp only[go_sem])
  (⟨_,by simp only[go_sem,c33L0b,ZG];rfl⟩)
 rw[Z5 (f:=33) rfl rfl];rw[QE]at L;obtain⟨fr',h1,h2⟩:=L;have h1':Zg rE [0,3] c33L0b [(0,.isl bw ex 1<|l.map encS),(3,.int .i64 0)] []=_:=h1;cases hc:l.all ZU with
 |true=>rw[hc]at h1';simp only[go_sem,c33,c33L0,h1']
 |false=>
  rw[hc]at h1';have h2':=h2 hc;simp only[go_sem,c33,c33L0,h1',h2',ZWt]
def JK(a:Str):pfn rE 33 [.isl false false 1 [.str a]]=some (.bool<|[a].all ZU):=Vv false false [a]<|by simp
def HG(a b:Str):pfn rE 33 [.isl false false 1 [.str a,.str b]]=some (.bool<|[a,b].all ZU):=Vv false false [a,b]<|by simp
def FP(a b c:Str):pfn rE 33 [.isl false false 1 [.str a,.str b,.str c]]=some (.bool<|[a,b,c].all ZU):=Vv false false [a,b,c]<|by simp
def FQ(a b c d e:Str):pfn rE 33 [.isl false false 1 [.str a,.str b,.str c,.str d,.str e]]=some (.bool<|[a,b,c,d,e].all ZU):=Vv false false [a,b,c,d,e]<|by simp
def HH{α:Type}{l:List α}{n i:Nat}{x:α}(h:(l.take n)[i]?=some x):l[i]?=some x/\i<n:=by
 have hi:=Z7 h;rw[ZWT]at hi;rw[ZY8<|by omega]at h
 exact⟨h,by omega⟩
def FR{α:Type}(l:List α):(decide ((((l.take 10).length:Nat):Int)<(l.length:Int))=true->decide ((((l.take 10).length:Nat):Int)<10)=false):=by
 intro h;have:=of_decide_eq_true h;rw[ZWT]at*;exact decide_eq_false<|by omega
def M1(x:Nm):Bool:=[x.Lang,x.Text].all ZU
def XQ(l:List Nm):Bool:=(l.take 10).all M1&&decide ((l.length:Int)<=10)
def UQ(ex:Bool)(l:List Nm):pfn rE 34 [.isl false ex 3<|l.map Nm.enc]=some (.bool<|XQ l):=by
 have L:=QT (E:=rE) (live:=[0,3]) (b:=c34L0b) (h:=[]) (l.take 10) (λ_ x=>M1 x) (λi=>[(0,.isl false ex 3<|l.map Nm.enc),(3,I i)]) 0 (λfr=>get fr 0=.isl false ex 3 (l.map Nm.enc)/\get fr 2=.bot) (λfr=>get fr 2=.bool false) (λi=>rfl)
  (λi x hx hP=>by
   obtain⟨hx',hi10⟩:=HH hx;have hg:=Z6 (f:=Nm.enc) hx';have hi:=Zh<|Z7 hx';have hw:=Zx (n:=i)<|by omega
   have h10:decide ((i:Int)<10)=true:=decide_eq_true<|by omega
   have hS:=HG x.Lang x.Text;have hP':[x.Lang,x.Text].all ZU=true:=hP;rw[hP']at hS;refine⟨_,by simp only[go_sem,c34L0b,hg,hi,hw,h10,Nm.enc,hS];rfl,?_⟩
   simp only[go_sem])
  (λi x hx hP=>by
   obtain⟨hx',hi10⟩:=HH hx;have hg:=Z6 (f:=Nm.enc) hx';have hi:=Zh<|Z7 hx';have h10:decide ((i:Int)<10)=true:=decide_eq_true<|by omega
   have hS:=HG x.Lang x.Text;have hP':[x.Lang,x.Text].all ZU=false:=hP;rw[hP']at hS;refine⟨_,by simp only[go_sem,c34L0b,hg,hi,h10,Nm.enc,hS];rfl,?_⟩
   simp only[go_sem])
  (by
   cases c:decide ((((l.take 10).length:Nat):Int)<(l.length:Int))with
   |true=>
    have h10:=FR l c;exact⟨_,by simp only[go_sem,c34L0b,c,h10];rfl,by simp only[go_sem],by simp only[go_sem]⟩
   |false=>exact⟨_,by simp only[go_sem,c34L0b,c];rfl,by simp only[go_sem],by simp only[go_sem]⟩)
 rw[Z5 (f:=34) rfl rfl];rw[QE]at L;obtain⟨fr',h1,h3,h2⟩:=L;have h1':Zg rE [0,3] c34L0b [(0,.isl false ex 3<|l.map Nm.enc),(3,.int .i64 0)] []=_:=h1;unfold XQ;cases hc:(l.take 10).all M1 with
 |true=>
  rw[hc]at h1';obtain⟨q0,q2⟩:=h3 hc;simp only[go_sem,c34,c34L0,h1',q0,q2]
 |false=>
  rw[hc]at h1';have h2':=h2 hc;simp only[go_sem,c34,c34L0,h1',h2',ZWt]
abbrev evI(e:Gt):AV:=.iptr false [I e.bq,I e.Day,I e.A,I e.B,I e.bv,.str e.Id,.str e.br,.str e.Text,.isl false e.Ids.ex 1<|e.Ids.l.map encS,.isl false e.bk.ex 3<|e.bk.l.map Nm.enc,
 I e.An.N,.str e.An.bm,I e.An.Num,I e.An.Den,I e.bg.X,I e.bg.Y,.isl false e.Path.ex 2<|e.Path.l.map Pt.enc,.isl false e.Lst.ex 7<|e.Lst.l.map Ent.enc]
def WQ(x:Gm):Bool:=[x.Id].all ZU&&(XQ x.bk.l&&(!decide ((x.Ring.l.length:Int)>12)))
def WR(x:Ev):Bool:=[x.Id].all ZU&&(XQ x.bk.l&&(!decide ((x.Line.l.length:Int)>12)))
def WS(x:Fa):Bool:=[x.Id].all ZU&&(!decide ((x.Ring.l.length:Int)>12))
def WT(x:Gc):Bool:=[x.Id,x.Fa,x.Ev,x.An.bm,x.Veil].all ZU&&(!decide ((x.After.l.length:Int)>10)&&(x.After.l.all ZU))
def WU(x:be):Bool:=[x.Id,x.Gc,x.Text].all ZU
def Z4A(s:Sta)(hl:s.Ga.length<=1000):∃fr',Zg rE [1,3] c17L0b [(1,stI s),(3,.int .i64 0)] []=some (if s.Ga.all WQ=true then .exit 0 else .ret,fr',[])/\(s.Ga.all WQ=true->get fr' 1=stI s/\get fr' 2=.bot)/\(s.Ga.all WQ=false->get fr' 2=.bool false):=by
 have L:=QT (E:=rE) (live:=[1,3]) (b:=c17L0b) (h:=[]) s.Ga (λ_ x=>WQ x) (λi=>[(1,stI s),(3,I i)]) 0 (λfr=>get fr 1=stI s/\get fr 2=.bot) (λfr=>get fr 2=.bool false) (λi=>rfl)
  (λi x hx hP=>by
   have hg:=Z6 (f:=Gm.enc) hx;have hi:=Zh<|Z7 hx;have hw:=Zx (n:=i) (by have:=Z7 hx;omega)
   have hS:=JK x.Id;have hN:=UQ x.bk.ex x.bk.l;simp only[WQ,ZWn,ZWG]at hP;obtain⟨p0,p1,p2⟩:=hP;rw[p0]at hS;rw[p1]at hN;refine⟨_,by simp only[go_sem,c17L0b,hg,hi,hw,Gm.enc,NL.enc,hS,hN,p2];rfl,?_⟩
   simp only[go_sem])
  (λi x hx hP=>by
   have hg:=Z6 (f:=Gm.enc) hx;have hi:=Zh<|Z7 hx;have hS:=JK x.Id;have hN:=UQ x.bk.ex x.bk.l;unfold WQ at hP;cases c0:[x.Id].all ZU with
   |false=>
    rw[c0]at hS;refine⟨_,by simp only[go_sem,c17L0b,hg,hi,Gm.enc,NL.enc,hS];rfl,?_⟩
    simp only[go_sem]
   |true=>
   rw[c0]at hS hP;cases c1:XQ x.bk.l with
   |false=>
    rw[c1]at hN;refine⟨_,by simp only[go_sem,c17L0b,hg,hi,Gm.enc,NL.enc,hS,hN];rfl,?_⟩
    simp only[go_sem]
   |true=>
   rw[c1]at hN hP;cases c2:decide ((x.Ring.l.length:Int)>12)with
   |true=>
    refine⟨_,by simp only[go_sem,c17L0b,hg,hi,Gm.enc,NL.enc,hS,hN,c2];rfl,?_⟩
    simp only[go_sem]
   |false=>
   rw[c2]at hP;cases hP)
  (⟨_,by simp only[go_sem,c17L0b,ZG];rfl,by simp only[go_sem],by simp only[go_sem]⟩)
 rw[QE]at L;exact L
def Z4B(s:Sta)(hl:s.Gr.length<=1000):∃fr',Zg rE [1,4] c17L1b [(1,stI s),(4,.int .i64 0)] []=some (if s.Gr.all WR=true then .exit 2 else .ret,fr',[])/\(s.Gr.all WR=true->get fr' 1=stI s/\get fr' 2=.bot)/\(s.Gr.all WR=false->get fr' 2=.bool false):=by
 have L:=QT (E:=rE) (live:=[1,4]) (b:=c17L1b) (h:=[]) s.Gr (λ_ x=>WR x) (λi=>[(1,stI s),(4,I i)]) 2 (λfr=>get fr 1=stI s/\get fr 2=.bot) (λfr=>get fr 2=.bool false) (λi=>rfl)
  (λi x hx hP=>by
   have hg:=Z6 (f:=Ev.enc) hx;have hi:=Zh<|Z7 hx;have hw:=Zx (n:=i) (by have:=Z7 hx;omega)
   have hS:=JK x.Id;have hN:=UQ x.bk.ex x.bk.l;simp only[WR,ZWn,ZWG]at hP;obtain⟨p0,p1,p2⟩:=hP;rw[p0]at hS;rw[p1]at hN;refine⟨_,by simp only[go_sem,c17L1b,hg,hi,hw,Ev.enc,NL.enc,hS,hN,p2];rfl,?_⟩
   simp only[go_sem])
  (λi x hx hP=>by
   have hg:=Z6 (f:=Ev.enc) hx;have hi:=Zh<|Z7 hx;have hS:=JK x.Id;have hN:=UQ x.bk.ex x.bk.l;unfold WR at hP;cases c0:[x.Id].all ZU with
   |false=>
    rw[c0]at hS;refine⟨_,by simp only[go_sem,c17L1b,hg,hi,Ev.enc,NL.enc,hS];rfl,?_⟩
    simp only[go_sem]
   |true=>
   rw[c0]at hS hP;cases c1:XQ x.bk.l with
   |false=>
    rw[c1]at hN;refine⟨_,by simp only[go_sem,c17L1b,hg,hi,Ev.enc,NL.enc,hS,hN];rfl,?_⟩
    simp only[go_sem]
   |true=>
   rw[c1]at hN hP;cases c2:decide ((x.Line.l.length:Int)>12)with
   |true=>
    refine⟨_,by simp only[go_sem,c17L1b,hg,hi,Ev.enc,NL.enc,hS,hN,c2];rfl,?_⟩
    simp only[go_sem]
   |false=>
   rw[c2]at hP;cases hP)
  (⟨_,by simp only[go_sem,c17L1b,ZG];rfl,by simp only[go_sem],by simp only[go_sem]⟩)
 rw[QE]at L;exact L
def Z4C(s:Sta)(hl:s.By.length<=1000):∃fr',Zg rE [1,5] c17L2b [(1,stI s),(5,.int .i64 0)] []=some (if s.By.all WS=true then .exit 4 else .ret,fr',[])/\(s.By.all WS=true->get fr' 1=stI s/\get fr' 2=.bot)/\(s.By.all WS=false->get fr' 2=.bool false):=by
 have L:=QT (E:=rE) (live:=[1,5]) (b:=c17L2b) (h:=[]) s.By (λ_ x=>WS x) (λi=>[(1,stI s),(5,I i)]) 4 (λfr=>get fr 1=stI s/\get fr 2=.bot) (λfr=>get fr 2=.bool false) (λi=>rfl)
  (λi x hx hP=>by
   have hg:=Z6 (f:=Fa.enc) hx;have hi:=Zh<|Z7 hx;have hw:=Zx (n:=i) (by have:=Z7 hx;omega)
   have hS:=JK x.Id;simp only[WS,ZWn,ZWG]at hP;obtain⟨p0,p1⟩:=hP;rw[p0]at hS;refine⟨_,by simp only[go_sem,c17L2b,hg,hi,hw,Fa.enc,NL.enc,hS,p1];rfl,?_⟩
   simp only[go_sem])
  (λi x hx hP=>by
   have hg:=Z6 (f:=Fa.enc) hx;have hi:=Zh<|Z7 hx;have hS:=JK x.Id;unfold WS at hP;cases c0:[x.Id].all ZU with
   |false=>
    rw[c0]at hS;refine⟨_,by simp only[go_sem,c17L2b,hg,hi,Fa.enc,NL.enc,hS];rfl,?_⟩
    simp only[go_sem]
   |true=>
   rw[c0]at hS hP;cases c2:decide ((x.Ring.l.length:Int)>12)with
   |true=>
    refine⟨_,by simp only[go_sem,c17L2b,hg,hi,Fa.enc,NL.enc,hS,c2];rfl,?_⟩
    simp only[go_sem]
   |false=>
   rw[c2]at hP;cases hP)
  (⟨_,by simp only[go_sem,c17L2b,ZG];rfl,by simp only[go_sem],by simp only[go_sem]⟩)
 rw[QE]at L;exact L
def Z4D(s:Sta)(hl:s.Bc.length<=1000):∃fr',Zg rE [1,6] c17L3b [(1,stI s),(6,.int .i64 0)] []=some (if s.Bc.all WT=true then .exit 6 else .ret,fr',[])/\(s.Bc.all WT=true->get fr' 1=stI s/\get fr' 2=.bot)/\(s.Bc.all WT=false->get fr' 2=.bool false):=by
 have L:=QT (E:=rE) (live:=[1,6]) (b:=c17L3b) (h:=[]) s.Bc (λ_ x=>WT x) (λi=>[(1,stI s),(6,I i)]) 6 (λfr=>get fr 1=stI s/\get fr 2=.bot) (λfr=>get fr 2=.bool false) (λi=>rfl)
  (λi x hx hP=>by
   have hg:=Z6 (f:=Gc.enc) hx;have hi:=Zh<|Z7 hx;have hw:=Zx (n:=i) (by have:=Z7 hx;omega)
   have hS:=FQ x.Id x.Fa x.Ev x.An.bm x.Veil;simp only[WT,ZWn,ZWG]at hP;obtain⟨p0,p1,p2⟩:=hP;rw[p0]at hS;have hA:=Vv false x.After.ex x.After.l (by have:=of_decide_eq_false p1;omega)
   rw[p2]at hA;refine⟨_,by simp only[go_sem,c17L3b,hg,hi,hw,Gc.enc,NL.enc,hS,p1,hA];rfl,?_⟩
   simp only[go_sem])
  (λi x hx hP=>by
   have hg:=Z6 (f:=Gc.enc) hx;have hi:=Zh<|Z7 hx;have hS:=FQ x.Id x.Fa x.Ev x.An.bm x.Veil;unfold WT at hP;cases c0:[x.Id,x.Fa,x.Ev,x.An.bm,x.Veil].all ZU with
   |false=>
    rw[c0]at hS;refine⟨_,by simp only[go_sem,c17L3b,hg,hi,Gc.enc,NL.enc,hS];rfl,?_⟩
    simp only[go_sem]
   |true=>
   rw[c0]at hS hP;cases c2:decide ((x.After.l.length:Int)>10)with
   |true=>
    refine⟨_,by simp only[go_sem,c17L3b,hg,hi,Gc.enc,NL.enc,hS,c2];rfl,?_⟩
    simp only[go_sem]
   |false=>
   rw[c2]at hP;have hA:=Vv false x.After.ex x.After.l (by have:=of_decide_eq_false c2;omega)
   cases c10003:x.After.l.all ZU with
   |false=>
    rw[c10003]at hA;refine⟨_,by simp only[go_sem,c17L3b,hg,hi,Gc.enc,NL.enc,hS,c2,hA];rfl,?_⟩
    simp only[go_sem]
   |true=>rw[c10003]at hP;cases hP)
  (⟨_,by simp only[go_sem,c17L3b,ZG];rfl,by simp only[go_sem],by simp only[go_sem]⟩)
 rw[QE]at L;exact L
def Z4E(s:Sta)(hl:s.Nk.length<=1000):∃fr',Zg rE [1,8] c17L4b [(1,stI s),(8,.int .i64 0)] []=some (if s.Nk.all WU=true then .exit 8 else .ret,fr',[])/\(s.Nk.all WU=true->get fr' 1=stI s/\get fr' 2=.bot)/\(s.Nk.all WU=false->get fr' 2=.bool false):=by
 have L:=QT (E:=rE) (live:=[1,8]) (b:=c17L4b) (h:=[]) s.Nk (λ_ x=>WU x) (λi=>[(1,stI s),(8,I i)]) 8 (λfr=>get fr 1=stI s/\get fr 2=.bot) (λfr=>get fr 2=.bool false) (λi=>rfl)
  (λi x hx hP=>by
   have hg:=Z6 (f:=be.enc) hx;have hi:=Zh<|Z7 hx;have hw:=Zx (n:=i) (by have:=Z7 hx;omega)
   have hS:=FP x.Id x.Gc x.Text;simp only[WU]at hP;have p0:=hP;rw[p0]at hS;refine⟨_,by simp only[go_sem,c17L4b,hg,hi,hw,be.enc,hS];rfl,?_⟩
   simp only[go_sem])
  (λi x hx hP=>by
   have hg:=Z6 (f:=be.enc) hx;have hi:=Zh<|Z7 hx;have hS:=FP x.Id x.Gc x.Text;unfold WU at hP;cases c0:[x.Id,x.Gc,x.Text].all ZU with
   |false=>
    rw[c0]at hS;refine⟨_,by simp only[go_sem,c17L4b,hg,hi,be.enc,hS];rfl,?_⟩
    simp only[go_sem]
   |true=>
   rw[c0]at hS hP;cases hP)
  (⟨_,by simp only[go_sem,c17L4b,ZG];rfl,by simp only[go_sem],by simp only[go_sem]⟩)
 rw[QE]at L;exact L
def M3(s:Sta):Bool:=!decide ((s.Ga.length:Int)>8)&&(!decide ((s.Gr.length:Int)>8)&&(!decide ((s.By.length:Int)>8)&&(!decide ((s.Bc.length:Int)>16)&&(!decide ((s.Nk.length:Int)>10)&&(!decide ((s.Gk.length:Int)>10)&&!decide ((s.Wk.length:Int)>10))))))
def YQ(s:Sta):Bool:=M3 s&&(s.Ga.all WQ&&(s.Gr.all WR&&(s.By.all WS&&(s.Bc.all WT&&s.Nk.all WU))))
def Z4F(s:Sta):pfn rE 17 [stA s]=some (.bool<|YQ s):=by
 rw[Z5 (f:=17) rfl rfl];unfold YQ M3;cases d0:decide ((s.Ga.length:Int)>8)with
 |true=>simp only[go_sem,c17,d0]
 |false=>
 cases d1:decide ((s.Gr.length:Int)>8)with
 |true=>simp only[go_sem,c17,d0,d1]
 |false=>
 cases d2:decide ((s.By.length:Int)>8)with
 |true=>simp only[go_sem,c17,d0,d1,d2]
 |false=>
 cases d3:decide ((s.Bc.length:Int)>16)with
 |true=>simp only[go_sem,c17,d0,d1,d2,d3]
 |false=>
 cases d4:decide ((s.Nk.length:Int)>10)with
 |true=>simp only[go_sem,c17,d0,d1,d2,d3,d4]
 |false=>
 cases d5:decide ((s.Gk.length:Int)>10)with
 |true=>simp only[go_sem,c17,d0,d1,d2,d3,d4,d5]
 |false=>
 cases d6:decide ((s.Wk.length:Int)>10)with
 |true=>simp only[go_sem,c17,d0,d1,d2,d3,d4,d5,d6]
 |false=>
 obtain⟨f0,l0,a0,b0⟩:=Z4A s (by have:=of_decide_eq_false d0;omega)
 simp only[stI]at l0 a0;cases e0:s.Ga.all WQ with
 |false=>
  rw[e0]at l0;simp only[go_sem,c17,d0,d1,d2,d3,d4,d5,d6,c17L0,l0,b0 e0,ZWt]
 |true=>
 rw[e0]at l0;obtain⟨q0,r0⟩:=a0 e0;obtain⟨f1,l1,a1,b1⟩:=Z4B s (by have:=of_decide_eq_false d1;omega)
 simp only[stI]at l1 a1;cases e1:s.Gr.all WR with
 |false=>
  rw[e1]at l1;simp only[go_sem,c17,d0,d1,d2,d3,d4,d5,d6,c17L0,l0,q0,r0,c17L1,l1,b1 e1,ZWt]
 |true=>
 rw[e1]at l1;obtain⟨q1,r1⟩:=a1 e1;obtain⟨f2,l2,a2,b2⟩:=Z4C s (by have:=of_decide_eq_false d2;omega)
 simp only[stI]at l2 a2;cases e2:s.By.all WS with
 |false=>
  rw[e2]at l2;simp only[go_sem,c17,d0,d1,d2,d3,d4,d5,d6,c17L0,l0,q0,r0,c17L1,l1,q1,r1,c17L2,l2,b2 e2,ZWt]
 |true=>
 rw[e2]at l2;obtain⟨q2,r2⟩:=a2 e2;obtain⟨f3,l3,a3,b3⟩:=Z4D s (by have:=of_decide_eq_false d3;omega)
 simp only[stI]at l3 a3;cases e3:s.Bc.all WT with
 |false=>
  rw[e3]at l3;simp only[go_sem,c17,d0,d1,d2,d3,d4,d5,d6,c17L0,l0,q0,r0,c17L1,l1,q1,r1,c17L2,l2,q2,r2,c17L3,l3,b3 e3,ZWt]
 |true=>
 rw[e3]at l3;obtain⟨q3,r3⟩:=a3 e3;obtain⟨f4,l4,a4,b4⟩:=Z4E s (by have:=of_decide_eq_false d4;omega)
 simp only[stI]at l4 a4;cases e4:s.Nk.all WU with
 |false=>
  rw[e4]at l4;simp only[go_sem,c17,d0,d1,d2,d3,d4,d5,d6,c17L0,l0,q0,r0,c17L1,l1,q1,r1,c17L2,l2,q2,r2,c17L3,l3,q3,r3,c17L4,l4,b4 e4,ZWt]
 |true=>
 rw[e4]at l4;obtain⟨q4,r4⟩:=a4 e4;simp only[go_sem,c17,d0,d1,d2,d3,d4,d5,d6,c17L0,l0,q0,r0,c17L1,l1,q1,r1,c17L2,l2,q2,r2,c17L3,l3,q3,r3,c17L4,l4,r4,if_true]
structure StF(s:Sta):Prop where
 e:StE s
 regions:s.Ga.length<=500
 streets:s.Gr.length<=500
 buildings:s.By.length<=500
 doors:s.Bc.length<=500
 units:s.Nk.length<=500
 merged:s.Gk.length<=500
 rulings:s.Wk.length<=500
def Kl(s:Sta)(h:YQ s=true):StF s:=by
 simp only[YQ,M3,ZWn,ZWG]at h;obtain⟨⟨d0,d1,d2,d3,d4,d5,d6⟩,e0,e1,e2,e3,e4⟩:=h;have k0:=of_decide_eq_false d0;have k1:=of_decide_eq_false d1;have k2:=of_decide_eq_false d2;have k3:=of_decide_eq_false d3;have k4:=of_decide_eq_false d4;have k5:=of_decide_eq_false d5;have k6:=of_decide_eq_false d6;have hN:∀l:List Nm,XQ l=true->l.length<=100:=λl hl=>by
  simp only[XQ,ZWn]at hl;have:=of_decide_eq_true hl.2;omega
 rw[ZWF]at e0 e1 e2 e3 e4;refine⟨⟨⟨by omega,by omega,by omega,by omega,by omega,by omega,by omega⟩,λx hx=>?_,λx hx=>?_,λx hx=>?_,λx hx=>?_,λx hx=>?_⟩,by omega,by omega,by omega,by omega,by omega,by omega,by omega⟩
 .have:=e0 x hx;simp only[WQ,ZWn,ZWG]at this;obtain⟨p0,p1,p2⟩:=this;have p2':=of_decide_eq_false p2;simp[ZU]at p0;exact⟨hN _ p1,by omega,by omega⟩
 .have:=e1 x hx;simp only[WR,ZWn,ZWG]at this;obtain⟨p0,p1,p2⟩:=this;have p2':=of_decide_eq_false p2;simp[ZU]at p0;exact⟨hN _ p1,by omega,by omega⟩
 .have:=e2 x hx;simp only[WS,ZWn,ZWG]at this;obtain⟨p0,p2⟩:=this;have p2':=of_decide_eq_false p2;simp[ZU]at p0;exact⟨by omega,by omega⟩
 .have:=e3 x hx;simp only[WT,ZWn,ZWG]at this;obtain⟨p0,p1,p2⟩:=this;have p1':=of_decide_eq_false p1;simp[ZU]at p0;exact⟨by omega,by omega,by omega,by omega,by omega⟩
 .have:=e4 x hx;simp only[WU]at this;simp[ZU]at this;exact⟨by omega,by omega,by omega⟩
def Zi8(s:Str):pfn rE 281 [.str s]=some (.bool<|ZZ s):=by
 have h:=Jl s;rw[Z5 (f:=189) rfl rfl]at h;rw[Z5 (f:=281) rfl rfl];exact h
def Zi9(k:Int):pfn rE 229 [I k]=some (.bool<|ZD k 1 3):=by
 rw[Z5 (f:=229) rfl rfl];unfold ZD;cases h:decide (k>=1)<;>simp only[go_sem,c229,h]
def lvR(l:List Gm):List Gm:=l.filter<|λx=>x.Ld==-1
def arA(x:Gm):AV:=.agg [.str x.Id,I x.bq,.isl false x.Ring.ex 2<|x.Ring.l.map Pt.enc]
def Zi0(l:List Gm):(lvR l).length<=l.length:=ZXU ..
def Zi2{l:List Gm}{i:Nat}{x:Gm}(hx:l[i]?=some x):lvR (l.take<|i+1)=lvR (l.take i)++(bif x.Ld==-1 then [x]else []):=by
 unfold lvR;rw[ZY9,hx,ZYh];cases h:x.Ld==-1 with
 |true=>simp[h]
 |false=>simp[h]
def Zi3(s:Sta)(hs:StS s):pfn rE 80 [stA s]=some (.isl false false 3<|(lvR s.Ga).map arA):=by
 have hbS:∀n(K:List Gm),Zd n (K.map arA)=true:=λn K=>ZN _<|Zw (λt=>rfl) K
 have hl:=hs.regions;have L:=Y8 (E:=rE) (live:=[3,7,8,9]) (b:=c80L0b) s.Ga.length
  (λi=>[(3,.sl 0 (lvR<|s.Ga.take i).length 0 (lvR<|s.Ga.take i).length false),(7,.isl false false 6<|s.Ga.map Gm.enc),(8,I s.Ga.length),(9,I i)])
  (λi=>[.row 3<|(lvR<|s.Ga.take i).map arA]) (λi=>rfl)
  (λi hi=>by
   obtain⟨x,hx⟩:∃x,s.Ga[i]?=some x:=⟨_,ZWu hi⟩;have hg:=Z6 (f:=Gm.enc) hx;have hi':=Zh hi;have hw:=Zx (n:=i)<|by omega
   have hn:(lvR<|s.Ga.take i).length<=1000:=ZXh (Zi0 _)<|by rw[ZWT];omega
   rw[Zi2 hx];generalize lvR (s.Ga.take i)=KS at hn⊢;cases c:x.Ld==-1 with
   |false=>
    rw[cond_false,ZXe];refine⟨_,by simp only[go_sem,c80L0b,hg,hi',hw,Gm.enc,NL.enc,c,hbS];rfl,?_⟩
    simp only[go_sem]
   |true=>
    have ha:=λq=>XC (h:=[.row 3<|KS.map arA,q]) (fz:=false) (b:=0) (g:=KS.length) (sz:=3) (es:=KS.map arA) (bw:=false) (ex:=false) (ys:=[.agg [.str x.Id,I x.bq,.isl false x.Ring.ex 2<|x.Ring.l.map Pt.enc]]) (bytes:=48) (by simp[rowAt]) rfl (by rfl) (by omega) (by omega) (by simp;omega)
    have e1:(KS++[x]).map arA=KS.map arA++[.agg [.str x.Id,I x.bq,.isl false x.Ring.ex 2<|x.Ring.l.map Pt.enc]]:=by rw[ZWM];rfl
    rw[cond_true,e1,ZWz,ZXs];refine⟨_,by simp only[go_sem,c80L0b,hg,hi',hw,Gm.enc,NL.enc,c,ha,beq_self_eq_true,hbS];rfl,?_⟩
    simp only[go_sem])
  (e:=.exit 0) (by simp only[go_sem,c80L0b,ZG,ZWR];rfl) (by simp)
 have e0:lvR (s.Ga.take 0)=[]:=rfl;simp only[e0,ZWQ,ZX6]at L;have L':Zg rE [3,7,8,9] c80L0b [(3,.sl 0 0 0 0 false),(7,.isl false false 6<|s.Ga.map Gm.enc),(8,I s.Ga.length),(9,.int .i64 0)] [.row 3 []]=_:=L;rw[Z5 (f:=80) rfl rfl];have hcl:Z4 ((lvR s.Ga).map arA)=true:=Zw (λt=>rfl) _
 have htk:((lvR s.Ga).map arA).take (lvR s.Ga).length=(lvR s.Ga).map arA:=ZWL<|by rw[ZWm];omega
 simp only[go_sem,c80,c80L0,L',hbS,beq_self_eq_true,ZXu,htk,hcl]
def ZdP{K:List Str}{x:Str}:K.any (Z3 x)=true↔x∈K:=by
 rw[List.any_eq_true];exact⟨λ⟨y,h1,h2⟩=>by rw[(Ky _ _).1 h2];exact h1,λh=>⟨x,h,(Ky _ _).2 rfl⟩⟩
def Zia{K:List Str}{x:Str}(h:x ∉ K):Qi Z3 K x=K++[x]:=by
 unfold Qi;cases hx:K.any (Z3 x)with
 |true=>exact absurd (ZdP.1 hx) h
 |false=>rfl
def Zib(L:List Gm)(hl:L.length<=400)(hn:(L.map (·.Id)).Nodup)(hv:∀x∈L,ZZ x.Id=true/\ZD x.bq 1 3=true/\Vh x.Ring.l=true/\x.Ring.l.length<=1000000):
 pfn rE 228 [.isl false false 3<|L.map arA]=some (.bool true):=by
 have hb2:∀n(K:List Str),Zd n (K.map encS)=true:=λn K=>ZN _<|Zw (λt=>rfl) K
 have hb3:∀n k,Zd n (ZO k)=true:=λn k=>ZN _<|Ut k
 have H:=Y8 (E:=rE) (live:=[0,3,7,8,9]) (b:=c228L0b) L.length (λi=>[(0,.isl false false 3<|L.map arA),(3,.mp 0),(7,.isl false false 3<|L.map arA),(8,I L.length),(9,I i)])
  (λi=>[.map (((L.take i).map (·.Id)).map encS) (ZO ((L.take i).map (·.Id)).length)]) (λi=>rfl)
  (λi hi=>by
   obtain⟨x,hx⟩:∃x,L[i]?=some x:=⟨_,ZWu hi⟩;have hg:=Z6 (f:=arA) hx;have hi':=Zh hi;have hw:=Zx (n:=i)<|by omega
   obtain⟨v1,v2,v3,v4⟩:=hv x<|ZWA hx;have k1:=Zi8 x.Id;have k2:=Zi9 x.bq;have k3:=Dz x.Ring.l x.Ring.ex v4;rw[v1]at k1;rw[v2]at k2;rw[v3]at k3;have ht:=YW (λx:Gm=>x.Id) hx
   have hnew:x.Id ∉ (L.take i).map (·.Id):=by
    intro hm;have h1:(((L.take<|i+1).map (·.Id))).Nodup:=by
     rw[List.map_take];exact hn.sublist<|List.take_sublist _ _
    rw[ht,ZXS]at h1;exact h1.2.2 _ hm _ (ZWY.2 rfl) rfl
   have hf:=Zia hnew;have hany:((L.take i).map (·.Id)).any (Z3 x.Id)=false:=by
    cases hc:((L.take i).map (·.Id)).any (Z3 x.Id)with
    |false=>rfl
    |true=>exact absurd (ZdP.1 hc) hnew
   rw[ht];generalize(L.take i).map (·.Id)=K at hf hany⊢;have hp:=λhh=>Ur (ag:=false) (kk:=[2]) (enc:=encS) (eq:=Z3) Z1Y K x.Id (h:=.map (K.map encS) (ZO K.length)::hh) (b:=0) rfl
   have hq:=λhh=>H5 (ag:=false) (kk:=[2]) (enc:=encS) (eq:=Z3) Z1Y K x.Id (h:=.map (K.map encS) (ZO K.length)::hh) (b:=0) rfl
   rw[hf]at hp;rw[hany]at hq;simp only[encS]at hp hq;simp only[arA]at hg;refine⟨_,by simp only[go_sem,c228L0b,hg,hi',hw,k1,k2,k3,hp,hq,hb2,hb3];rfl,?_⟩
   simp only[go_sem])
  (e:=.exit 0) (by simp only[go_sem,c228L0b,ZG];rfl) (by simp)
 have H':Zg rE [0,3,7,8,9] c228L0b [(0,.isl false false 3<|L.map arA),(3,.mp 0),(7,.isl false false 3<|L.map arA),(8,I L.length),(9,.int .i64 0)] [.map [] []]=_:=H;have h400:decide ((L.length:Int)<=400)=true:=decide_eq_true<|by omega
 rw[Z5 (f:=228) rfl rfl];simp only[go_sem,c228,c228L0,H',h400]
end Go.AM
namespace Go.AM
open Go
def Z4M(E:Env)(hf:E.fn 95=some a95)(hs:E.sum 95=none)(v:Str):pfn E 95 [.str v]=some (.str v):=by
 rw[Z5 (f:=95) hs hf];simp only[go_sem,c95]
def ZGM(E:Env)(hf:E.fn 97=some a97)(hs:E.sum 97=none)(v:Str)(a b:Int):pfn E 97 [.agg [.str v,I a,I b]]=some (.str v):=by
 rw[Z5 (f:=97) hs hf];simp only[go_sem,c97]
def ZFO(v:Str):pfn e0 254 [.str v]=some (.bool false):=by
 have hn:Z3 v v=true:=by unfold Z3;simp
 rw[Z5 (f:=254) rfl rfl];simp only[go_sem,c254,hn,ZWo]
def ZEA(a b:Str):WW a b=decide (a.data.toList<b.data.toList):=by
 unfold WW;rw[Go.Proofs.bytesLess_eq]
def ZFP(a b:Str):pfn e0 172 [.str a,.str b]=some (I<|ZEg a.data.toList b.data.toList):=by
 have h1:=ZFO a;have h2:=ZFO b;unfold ZEg;rw[<-ZEA,<-ZEA];rw[Z5 (f:=172) rfl rfl];cases c:WW a b with
 |true=>simp only[go_sem,c172,h1,h2,c]
 |false=>
  cases c2:WW b a with
  |true=>
   have c10003:Z3 a b=false:=by
    cases h:Z3 a b with
    |false=>rfl
    |true=>
     exfalso;have he:a.data.toList=b.data.toList:=by unfold Z3 at h;simpa using h
     rw[ZEA,he,decide_eq_true_iff]at c2;exact List.lt_irrefl _ c2
   simp only[go_sem,c172,h1,h2,c,c2,c10003,ZWq,ZWS]
  |false=>
   have c10003:Z3 a b=true:=by
    rw[ZEA,decide_eq_false_iff_not]at c c2;unfold Z3;simp only[beq_iff_eq];exact ZYZ c2 c
   simp only[go_sem,c172,h1,h2,c,c2,c10003,ZWo,ZX0]
def ZEa(k:Nat):AV:=.clo (.func k) [] []
def ZFQ{k:Nat}{caps:List AV}(h:ckS k caps=true):caps=[.iptr false [ZEa k]]:=by
 unfold ckS at h;split at h
 .rw[ZYt h];rfl
 .cases h
def ZTv(caps:List AV)(x y:List UInt8)(h:ckS 95 caps=true):∃h',fnV e0 171 ([Qd x,Qd y]++caps) []=some (.int .i64<|ZEg x y,h'):=by
 obtain rfl:=ZFQ h;have h1:=Z4M e0 rfl rfl;have h2:=ZFP ⟨x.toArray⟩ ⟨y.toArray⟩;simp only[List.toList_toArray]at h2;unfold Qd ZEa;rw[Q6 (f:=171) rfl rfl];simp only[ZWO,ZWZ];exact⟨_,by simp only[go_sem,c171,h1,h2];rfl⟩
def ZE4(s:Str):List Int:=s.data.toList.map λb=>(b.toNat:Int)
def ZEM:∀x y:List UInt8,lexB (x.map λb=>(b.toNat:Int)) (y.map λb=>(b.toNat:Int))=decide (x<y)
 |[],[]=>by simp[lexB]
 |[],_::_=>by simp[lexB]
 |_::_,[]=>by simp[lexB]
 |a::r,b::s=>by
  simp only[ZWI,lexB,ZEM r s];rw[ZWK];simp only[ZXt,ZWn,decide_eq_true_eq,beq_iff_eq,List.cons_lt_cons_iff,UInt8.lt_iff_toNat_lt,<-UInt8.toNat_inj,Int.ofNat_lt,Int.natCast_inj]
def ZGO(x y:List UInt8):cmpL (x.map λb=>(b.toNat:Int)) (y.map λb=>(b.toNat:Int))=ZEg x y:=by
 unfold cmpL ZEg;rw[ZEM,ZEM]
def ZFR{caps:List AV}{x:AV}{k:List Int}(h:ZEm caps x=some k):caps=[.iptr false [ZEa 97]]/\∃(s:Str)(a b:Int),x=.agg [.str s,I a,I b]/\k=ZE4 s:=by
 unfold ZEm at h;cases hc:ckS 97 caps with
 |false=>rw[hc]at h;cases h
 |true=>
  rw[hc,cond_true]at h;refine⟨ZFQ hc,?_⟩;unfold ZEf at h;split at h
  .cases h;exact⟨_,_,_,rfl,rfl⟩
  .cases h
def ZTw(caps:List AV)(x y:AV)(kx ky:List Int)(hx:ZEm caps x=some kx)(hy:ZEm caps y=some ky):∃h',fnV e0 174 ([x,y]++caps) []=some (.int .i64<|cmpL kx ky,h'):=by
 obtain⟨rfl,s,a,b,rfl,rfl⟩:=ZFR hx;obtain⟨_,t,a',b',rfl,rfl⟩:=ZFR hy;have h1:=ZGM e0 rfl rfl;have h2:=ZFP s t;unfold ZE4 ZEa;rw[ZGO,Q6 (f:=174) rfl rfl];simp only[ZWO,ZWZ];exact⟨_,by simp only[go_sem,c174,h1,h2];rfl⟩
def ZFS{h:Hp}{b:Nat}{o o2:AObj}(hb:h[b]?=some o2):(setH h b o).length=h.length:=by
 have hl:b<h.length:=(ZWx.1 hb).1;unfold setH;rw[show Nat.blt b h.length=true by simpa using hl,cond_true,ZXJ]
def ZE5{n:Nat}{fr:Fr}{h:Hp}(hl:h.length=n):Xq n fr h=h:=by
 unfold Xq;rw[ZWL<|by omega]
 cases Zd n (fr.map (·.2))&&X4 n h<;>rfl
def ZTx(args:List AV)(h:Hp)(v:AV)(wr:Option<|Nat×AObj)(he:ZE8 (ZE7 95) h args=some (v,wr)):fnV e1 94 args h=some (v,ZH h wr):=by
 unfold ZE8 at he;split at he
 .rename_i b g off len ex r;split at he
  .rename_i sz es hb;cases hc:es.length==g&&(off==0&&(len==g&&noP r))with
   |false=>rw[hc]at he;cases he
   |true=>
    rw[hc,cond_true]at he;simp only[ZWE]at he;obtain⟨es',h1,h2⟩:=he;cases h2;unfold ZE7 at h1;split at h1
    .rename_i k;cases hc2:Nat.beq k 95&&(sz==1&&(es.all WB&&Nat.ble es.length 1000000))with
     |false=>rw[hc2]at h1;cases h1
     |true=>
      rw[hc2]at h1;cases h1;simp only[ZWn,beq_iff_eq]at hc hc2;obtain⟨c1,rfl,c10003,c10004⟩:=hc2;obtain rfl:=ZYt c1;obtain⟨rfl,rfl,rfl,_⟩:=hc;have hs:fnV e1 170 [.sl b es.length 0 es.length ex,.clo (.func 171) [] [.iptr false [.clo (.func 95) [] []]]] h=some (.tup [],setH h b<|.row 1<|Yk es):=by
       rw[V8 (s:=ZEt 171<|ckS 95) rfl];unfold ZEt;simp only[hb,c10003,c10004,beq_self_eq_true,ZWp,ZWv,cond_true];rfl
      rw[Q6 (f:=94) rfl rfl];simp only[go_sem,c94,hs,ZH,ZE5<|ZFS hb]
    .cases h1
  .cases he
 .rename_i bw ex sz r;cases hn:noP r with
  |false=>rw[hn]at he;cases he
  |true=>
   rw[hn,cond_true]at he;split at he
   .rename_i h1;cases he;unfold ZE7 at h1;split at h1
    .rename_i k;have hs:∀sz,fnV e1 170 [.isl bw ex sz [],.clo (.func 171) [] [.iptr false [.clo (.func k) [] []]]] h=some (.tup [],h):=λsz=>by
      rw[V8 (s:=ZEt 171<|ckS 95) rfl];rfl
     rw[Q6 (f:=94) rfl rfl];simp only[go_sem,c94,hs,ZH,ZE5 (h:=h) rfl]
    .cases h1
   .cases he
 .rename_i b r;split at he
  .rename_i sz e sz2 es ks vs _ _ _;cases hk:Z4 ks&&Z4 vs with
   |false=>rw[hk]at he;cases he
   |true=>
    rw[hk,cond_true]at he;have hnone:∀{k:Nat}{x y:List AV}{z:Nat},ZE7 95 (.ptr k 0 0 z::r) sz x=some y->False:=λh=>by
     cases r<;>simp[ZE7]at h
    split at he
    .rename_i hh;exact(hnone hh).elim
    .cases he
  .cases he
 .cases he
def ZTy(args:List AV)(h:Hp)(v:AV)(wr:Option<|Nat×AObj)(he:ZE8 (ZEe 97 3 ZEf) h args=some (v,wr)):fnV e1 96 args h=some (v,ZH h wr):=by
 unfold ZE8 at he;split at he
 .rename_i b g off len ex r;split at he
  .rename_i sz es hb;cases hc:es.length==g&&(off==0&&(len==g&&noP r))with
   |false=>rw[hc]at he;cases he
   |true=>
    rw[hc,cond_true]at he;simp only[ZWE]at he;obtain⟨es',h1,h2⟩:=he;cases h2;unfold ZEe at h1;split at h1
    .rename_i k;split at h1
     .rename_i l hl;cases hc2:Nat.beq k 97&&(sz==3&&(Z4 es&&(es.all Zwl&&(es.all (fits 3)&&(ZvJ l&&Nat.ble es.length 1000000)))))with
      |false=>rw[hc2]at h1;cases h1
      |true=>
       rw[hc2]at h1;cases h1;simp only[ZWn,beq_iff_eq]at hc hc2;obtain⟨c1,rfl,c10003,c10004,c10005,c10006,c10007⟩:=hc2;obtain rfl:=ZYt c1;obtain⟨rfl,rfl,rfl,_⟩:=hc;have hs:fnV e1 173 [.sl b es.length 0 es.length ex,.clo (.func 174) [] [.iptr false [.clo (.func 97) [] []]]] h=some (.tup [],setH h b (.row 3 ((ZvN l).map (·.2)))):=by
        rw[V8 (s:=ZvW 174 3 ZEm) rfl];unfold ZvW;have hk:keysOf (ZEm [.iptr false [.clo (.func 97) [] []]]) es=some l:=hl;cases es with
        |nil=>
         cases hl;simp only[hb];have e1:setH h b (.row 3 [])=h:=RT hb;exact congrArg some<|Prod.ext rfl e1.symm
        |cons a r=>
         simp only[hb,hk,c10003,c10004,c10005,c10006,c10007,beq_self_eq_true,ZWp,ZWv,cond_true,ZYf,cond_false,ZWq];rfl
       rw[Q6 (f:=96) rfl rfl];simp only[go_sem,c96,hs,ZH,ZE5<|ZFS hb]
     .cases h1
    .cases h1
  .cases he
 .rename_i bw ex sz r;cases hn:noP r with
  |false=>rw[hn]at he;cases he
  |true=>
   rw[hn,cond_true]at he;split at he
   .rename_i h1;cases he;unfold ZEe at h1;split at h1
    .rename_i k;have hs:∀sz,fnV e1 173 [.isl bw ex sz [],.clo (.func 174) [] [.iptr false [.clo (.func k) [] []]]] h=some (.tup [],h):=λsz=>by
      rw[V8 (s:=ZvW 174 3 ZEm) rfl];rfl
     rw[Q6 (f:=96) rfl rfl];simp only[go_sem,c96,hs,ZH,ZE5 (h:=h) rfl]
    .cases h1
   .cases he
 .rename_i b r;split at he
  .rename_i sz e sz2 es ks vs _ _ _;cases hk:Z4 ks&&Z4 vs with
   |false=>rw[hk]at he;cases he
   |true=>
    rw[hk,cond_true]at he;have hnone:∀{k:Nat}{x y:List AV}{z:Nat},ZEe 97 3 ZEf (.ptr k 0 0 z::r) sz x=some y->False:=λh=>by
     cases r<;>simp[ZEe]at h
    split at he
    .rename_i hh;exact(hnone hh).elim
    .cases he
  .cases he
 .cases he
variable [REdz]
def ffr(t:AV):Fr:=[(4,.ptr 0 0 0 1),(5,I 0),(7,.ptr 3 0 0 1),(19,t)]
def fP(lp:AObj)(D E:List AV)(tl:List AObj):List AObj:=
 .row 2 [.agg [.isl false false 1 [],.isl false false 3 []]]::.row 1 D::.row 3 E::.row 2 [.agg [.sl 1 D.length 0 D.length false,.sl 2 E.length 0 E.length false]]::lp::tl
def feL(st:LoopState)(t:AV):AObj:=.loop st .normal (ffr t) [20] c44R0a c44R0b
def ZEp(h:Hp)(x y:AObj):setH (h++[x]) h.length y=h++[y]:=by
 unfold setH;rw[show Nat.blt h.length (h++[x]).length=true by simp,cond_true,ZYP _ _<|ZWs _]
 simp
def ZGS(t:AV)(d:Gc)(lp:AObj)(D E:List AV)(tl:List AObj):Zb rE c44R0a ((20,d.enc)::ffr t) (fP lp D E tl)=some (.normal,(8,.ptr (tl.length+5) 0 0 1)::(20,d.enc)::ffr t,fP lp D E<|tl++[.row 16 [d.enc]]):=by
 simp only[go_sem,c44R0a,fP,ffr,Gc.enc,NL.enc,ZWO,ZWH,ZEp]
def ZEx{n:Nat}{h:Hp}{b:Bool}(hl:h.length=n):trimB n h b=h:=by
 unfold trimB;cases b with
 |true=>rw[cond_true,ZWL<|by omega]
 |false=>rfl
def ZF2(r0 r1 r2 r3 r4 x:AObj)(tl:List AObj)(b:Bool):trimB (tl.length+1+1+1+1+1+1) (r0::r1::r2::r3::r4::(tl++[x])) b=r0::r1::r2::r3::r4::(tl++[x]):=ZEx<|by simp
def faD(d:Gc)(D:List AV):List AV:=bif decide (d.Ld<0)then D++[.str d.Id]else D
def ZEB(d:Gc):AV:=.agg [.str d.Id,I d.Why,I d.Ld]
def faE(d:Gc)(E:List AV):List AV:=bif !decide (d.Ld<0)&&d.After.l.isEmpty then E++[ZEB d]else E
def ZGT(t:AV)(d:Gc)(lp:AObj)(D E:List AV)(tl:List AObj)(h1:D.length<=1000)(h2:E.length<=1000):Zb rE c44R0b ((8,.ptr (tl.length+5) 0 0 1)::(20,d.enc)::ffr t) (fP lp D E<|tl++[.row 16 [d.enc]]) =
 some (.normal,[],fP lp (faD d D) (faE d E)<|tl++[.row 16 [d.enc]]):=by
 have a1:=λ(r0 r2 r3 r4:AObj)(tl:List AObj)=>XC (h:=r0::.row 1 D::r2::r3::r4::tl) (fz:=false) (b:=1) (g:=D.length) (sz:=1) (es:=D) (bw:=false) (ex:=false) (ys:=[.str d.Id]) (bytes:=16) (by simp[rowAt]) rfl (by rfl) (by omega) (by omega) (by simp;omega)
 have a2:=λ(r0 r1 r3 r4:AObj)(tl:List AObj)=>XC (h:=r0::r1::.row 3 E::r3::r4::tl) (fz:=false) (b:=2) (g:=E.length) (sz:=3) (es:=E) (bw:=false) (ex:=false) (ys:=[ZEB d]) (bytes:=32) (by simp[rowAt]) rfl (by rfl) (by omega) (by omega) (by simp;omega)
 unfold ZEB at a2;unfold faD faE;cases c:decide (d.Ld<0)with
 |true=>simp only[go_sem,c44R0b,fP,ffr,Gc.enc,NL.enc,ZWO,ZWH,ZEp,ZF2,c,a1,ZWz,ZWQ,ZWo,ZWr]
 |false=>
  cases c2:d.After.l with
  |nil=>
   have z0:(((0:Nat):Int)==0)=true:=rfl;simp only[go_sem,z0,c44R0b,fP,ffr,Gc.enc,NL.enc,ZWO,ZWH,ZEp,ZF2,c,c2,a2,ZEB,ZWz,ZWQ,ZWq,ZWp,ZZ4,ZX6]
  |cons a r=>
   have hz:(((r.length+1:Nat):Int)==0)=false:=by
    rw[beq_eq_false_iff_ne];omega
   simp only[go_sem,c44R0b,fP,ffr,Gc.enc,NL.enc,ZWO,ZWH,ZEp,ZF2,c,c2,hz,ZWz,ZWQ,ZWq,ZWp,ZYf,ZWI,ZWm]
def ZGU(t:AV)(d:Gc)(D E:List AV)(tl:List AObj)(h1:D.length<=1000)(h2:E.length<=1000):
 U4 rE 4 [d.enc] (fP (feL .ready t) D E tl)=some (.bool true,fP (feL .ready t) (faD d D) (faE d E)<|tl++[.row 16 [d.enc]]):=by
 have h:=Ss (E:=rE) (b:=4) (args:=[d.enc]) (h:=fP (feL .ready t) D E tl) (fr:=ffr t) (ps:=[20]) (assign:=c44R0a) (body:=c44R0b)
  (fr0:=(20,d.enc)::ffr t) rfl rfl (ZGS t d (feL .ready t) D E tl) (h1:=fP (feL .ready t) D E<|tl++[.row 16 [d.enc]]) rfl
  (e:=.normal) (fr2:=[]) (h2:=fP (feL .busy t) (faD d D) (faE d E)<|tl++[.row 16 [d.enc]]) (ZGT t d (feL .busy t) D E tl h1 h2) rfl
 exact h
def TC'(tl:List AObj):Prop:=∀n,X4 n tl=true
def ZEu:∀(n:Nat)(a b:List AObj),X4 n (a++b)=(X4 n a&&X4 n b)
 |_,[],b=>by simp[X4]
 |n,x::a,b=>by simp[X4,ZEu n a b,ZXO]
def ZEN{n:Nat}:∀{a:List AObj}{i:Nat}{x:AObj},X4 n a=true->Zj n x=true->X4 n (a.set i x)=true
 |[],_,_,h,_=>h
 |y::a,0,x,h,hx=>by
  simp only[List.set_cons_zero,X4,ZWn]at h⊢;exact⟨hx,h.2⟩
 |y::a,i+1,x,h,hx=>by
  simp only[List.set_cons_succ,X4,ZWn]at h⊢;exact⟨h.1,ZEN h.2 hx⟩
def ZEv(n:Nat):∀L:List Str,Zd n (L.map encS)=true
 |[]=>rfl
 |x::r=>by simp only[ZWI,Zd,ZEv n r,ZWv];rfl
def ZEC{h:Hp}{b:Nat}{o:AObj}(hb:b<h.length):setH h b o=h.set b o:=by
 unfold setH;rw[show Nat.blt b h.length=true by simpa using hb,cond_true]
def ZF3(h:Hp)(x:AObj):(h++[x])[h.length]?=some x:=by simp
def wkS(s:List Str×List Str)(x:Str):List Str×List Str:=bif s.1.any (Z3 x)then s else(s.1++[x],s.2++[x])
def ZGW(s:List Str×List Str)(x:Str):(wkS s x).2.length<=s.2.length+1:=by
 unfold wkS;cases s.1.any (Z3 x)<;>simp
def ZF4:∀(l:List Str)(s:List Str×List Str),(l.foldl wkS s).2.length<=s.2.length+l.length
 |[],s=>by simp
 |x::r,s=>by
  have h1:=ZF4 r<|wkS s x;have h2:=ZGW s x;simp only[ZXd,ZWH];omega
def kM(K:List Str):AObj:=.map (K.map encS)<|ZO K.length
def ZGY(d:Gc)(h:Hp):fnV rE 92 [d.enc] h=some (d.After.enc 1 encS,h):=by
 rw[Q6 (f:=92) rfl rfl];simp only[go_sem,c92,Gc.enc,NL.enc,ZE5 (h:=h) rfl]
def grA(s:Sta):AV:=.iptr false<|(stA s).cells++[.clo (.func 92) [] []]
def ZFT(n:Nat):decide (((n+1:Nat):Int)>0)=true:=decide_eq_true<|by omega
def ZEO:∀{n k:Nat}{l:List AObj},X4 n l=true->X4 n (l.take k)=true
 |_,0,_,_=>rfl
 |_,_+1,[],h=>h
 |n,k+1,x::r,h=>by
  simp only[X4,ZWn,ZYA]at h⊢;exact⟨h.1,ZEO h.2⟩
def c71L1m:ACode:=match c169L1b with| .keep _ (.seq _<|.seq (.keep _<|.block _ m) _)=>m|_=>.skip
def c71D:ACode:=match c71L1m with| .seq d _=>d|_=>.skip
def c71Y:ACode:=match c71L1m with| .seq _ (.seq y _)=>y|_=>.skip
def c71Z:ACode:=match c71L1m with| .seq _ (.seq _ z)=>z|_=>.skip
def ZEP(tl L:List AObj)(x:AV)(sz:Nat):rowAt (tl++.row sz [x]::L) tl.length 1=some (sz,[x]):=by
 unfold rowAt;rw[ZXm<|ZWs _,ZYr];rfl
def c71R:ACode:=match c71Z with| .seq r _=>r|_=>.skip
def c71A:ACode:=match c169L1b with| .keep _ (.seq a _)=>a|_=>.skip
def c71C:ACode:=match c169L1b with| .keep _ (.seq _<|.seq _<|.keep _ c)=>c|_=>.skip
def ZFU(n:Nat):bounds (some<|.int .i64 1) none none (n+1)=some (1,n+1,none):=by
 have e:bounds (some<|.int .i64 1) none none (n+1)=bif Nat.ble 1 (n+1)&&Nat.ble (n+1) (n+1)&&VB (n+1) (n+1) none then some (1,n+1,none)else none:=rfl;rw[e,ZXG (show 1<=n+1 by omega),ZXG<|ZWs<|n+1]
 rfl
def ZFV{h:Hp}{b g off n:Nat}{ex:Bool}{es:List AV}(hr:rowAt h b g=some (1,es)):slF h 1 (.sl b g off (n+1) ex) (some (1,n+1,none))=some (.sl b g (off+1) n ex):=by
 simp only[slF,hr,beq_self_eq_true,cond_true,ZWv,Nat.add_sub_cancel]
def ZEQ:∀(l:List Str)(K L:List Str)(id:Str)(r:List Str),L=id::r->∃r',(l.foldl wkS (K,L)).2=id::r'
 |[],_,_,id,r,h=>⟨r,h⟩
 |x::l,K,L,id,r,h=>by
  rw[ZXd];unfold wkS;cases(K,L).1.any (Z3 x)with
  |true=>exact ZEQ l K L id r h
  |false=>exact ZEQ l (K++[x]) (L++[x]) id (r++[x])<|by rw[h];rfl
inductive Runs(s:Sta):List Str->List Str->List AV->List AV->List AV->List AV->Prop
 |stop (K:List Str) (D E:List AV):Runs s K [] D E D E
 |step (K:List Str) (id:Str) (r:List Str) (D E D' E':List AV) (k:Nat) (d:Gc) (hd:s.Bc[k]?=some d) (hf:pfn rE 31 [stA s,.str id]=some (I k)) (h1:D.length<=1000) (h2:E.length<=1000)
  (h3:(id::r).length+d.After.l.length<=1000) (h:Runs s (d.After.l.foldl wkS (K,id::r)).1 (d.After.l.foldl wkS (K,id::r)).2.tail (faD d D) (faE d E) D' E'):Runs s K (id::r) D E D' E'
def h5(t:AV)(D E:List AV):List AObj:=[.row 2 [.agg [.isl false false 1 [],.isl false false 3 []]],.row 1 D,.row 3 E,.row 2 [.agg [.sl 1 D.length 0 D.length false,.sl 2 E.length 0 E.length false]],feL .ready t]
def ZEw(hd tl:List AObj)(x:AObj)(bl g:Nat):rowAt (hd++x::tl) (hd.length+(bl+1)) g=rowAt tl bl g:=by
 unfold rowAt;rw[ZXm (by omega),show hd.length+(bl+1)-hd.length=bl+1 by omega,ZXl]
def ZHA(hd tl:List AObj)(x:AObj)(bl:Nat):(hd++x::tl)[hd.length+(bl+1)]?=tl[bl]?:=by
 rw[ZXm (by omega),show hd.length+(bl+1)-hd.length=bl+1 by omega,ZXl]
def ZEG(hd tl:List AObj)(x:AObj):(hd++x::tl)[hd.length]?=some x:=by
 rw[ZXm<|ZWs _,ZYr];rfl
def ZEV(hd tl:List AObj)(x o:AObj):setH (hd++x::tl) hd.length o=hd++o::tl:=by
 unfold setH;rw[show Nat.blt hd.length (hd++x::tl).length=true by simp,cond_true,ZYP _ _<|ZWs _,ZYr]
 rfl
def ZFd(hd tl:List AObj)(x o:AObj)(bl:Nat):setH (hd++x::tl) (hd.length+(bl+1)) o=hd++x::setH tl bl o:=by
 unfold setH;have e:Nat.blt (hd.length+(bl+1)) (hd++x::tl).length=Nat.blt bl tl.length:=by
  rw[ZWK];simp only[ZXo,ZWz,ZWH];omega
 rw[e];cases Nat.blt bl tl.length with
 |true=>
  rw[cond_true,cond_true,ZYP _ _ (by omega),show hd.length+(bl+1)-hd.length=bl+1 by omega]
  rfl
 |false=>simp
def ZEH(hd tl:List AObj)(x:AObj):(hd++x::tl).length=hd.length+(tl.length+1):=by simp
def LVm(m:Nat)(Lv:AV)(L:List Str)(tl:List AObj):Prop:=
 ∃bl g off ex es,Lv=.sl (m+(bl+1)) g off L.length ex/\tl[bl]?=some (.row 1 es)/\es.length=g/\off+L.length=g/\es.drop off=L.map encS
def ZHB{m:Nat}{Lv:AV}{L:List Str}{tl:List AObj}(h:LVm m Lv L tl)(l:List AObj):LVm m Lv L (tl++l):=by
 obtain⟨bl,g,off,ex,es,rfl,h2,h3⟩:=h;refine⟨bl,g,off,ex,es,rfl,?_,h3⟩;rw[ZXj (ZWx.1 h2).1];exact h2
def ZHC{m:Nat}{Lv:AV}{L:List Str}{tl:List AObj}{n:Nat}(h:LVm m Lv L tl)(hb:bel (m+(n+1)) Lv=true):LVm m Lv L (tl.take n):=by
 obtain⟨bl,g,off,ex,es,rfl,h2,h3⟩:=h;refine⟨bl,g,off,ex,es,rfl,?_,h3⟩;have:m+(bl+1)<m+(n+1):=by simpa[bel]using hb
 rw[List.getElem?_take,if_pos<|by omega]
 exact h2
def ZHD(hd:List AObj)(p5:AObj){Lv:AV}{L:List Str}{tl:List AObj}(x:Str)(hL:LVm hd.length Lv L tl)(hc:TC' tl)(hn:L.length<=1000000):
 ∃tl',tl'.length=tl.length/\TC' tl'/\ZE9 (hd++p5::tl) 1 16 Lv (.isl false false 1 [.str x]) =
  some (.sl (hd.length+(tl.length+1)) (L.length+1) 0 (L.length+1) false,hd++p5::(tl'++[.row 1<|(L++[x]).map encS])):=by
 obtain⟨bl,g,off,ex,es,rfl,hb,hg,hoff,hes⟩:=hL;have hlt:bl<tl.length:=(ZWx.1 hb).1;have hbb:(hd++p5::tl)[hd.length+(bl+1)]?=some (.row 1 es):=by rw[ZHA];exact hb
 have hmap:(L++[x]).map encS=es.drop off++[.str x]:=by rw[ZWM,hes];rfl
 have hlen:(hd++p5::tl).length=hd.length+(tl.length+1):=ZEH _ _ _;cases ex with
 |true=>
  refine⟨tl,rfl,hc,?_⟩;have hel:Q2 (hd++p5::tl) (.sl (hd.length+(bl+1)) g off L.length true)=some (es.drop off):=by
   simp only[Q2,hbb,hg,beq_self_eq_true,cond_true];rw[ZWL<|by simp;omega]
  have hz:Qq (hd++p5::tl) 1 (.sl (hd.length+(bl+1)) g off L.length true)=true:=by simp only[Qq,hbb];rfl
  have hl2:(es.drop off++[AV.str x]).length=L.length+1:=by simp;omega
  have hbd:((es.drop off).length+1)*16<=140737488355328:=by simp;omega
  have he:Qt (hd++p5::tl) (hd++p5::tl).length false 1 16 (.sl (hd.length+(bl+1)) g off L.length true) (.isl false false 1 [.str x]) =
   some (.sl (hd++p5::tl).length (es.drop off++[AV.str x]).length 0 (es.drop off++[AV.str x]).length false,[hd.length+(bl+1)],some ((hd++p5::tl).length,.row 1<|es.drop off++[.str x])):=by
   unfold Qt;rw[hel];dsimp only[Q2];rw[if_pos ⟨hz,rfl,Nat.zero_lt_one,by decide,hbd⟩]
   rfl
  unfold ZE9;dsimp only;rw[he,hmap,hl2,hlen];have e:setH (hd++p5::tl) (hd.length+(tl.length+1)) (.row 1<|es.drop off++[.str x])=hd++p5::(tl++[.row 1<|es.drop off++[.str x]]):=by
   rw[<-hlen,J1,ZWW];rfl
  exact congrArg some<|Prod.ext rfl e
 |false=>
  refine⟨tl.set bl .gone,by simp,λn=>ZEN (hc n) rfl,?_⟩
  have hz:Qq (hd++p5::tl) 1 (.isl false false 1 [.str x])=true:=rfl;have hcond:((es.length==g&&(1==1))&&((off+L.length==g)&&(Qq (hd++p5::tl) 1 (.isl false false 1 [.str x])&&(([AV.str x]:List AV).all (fits 1)&&(Nat.blt 0 ([AV.str x]:List AV).length&&(Nat.blt 0 1&&(Nat.blt 0 16&&Nat.ble ((L.length+([AV.str x]:List AV).length)*16) 140737488355328)))))))=true:=by
   simp only[hg,hoff,hz,beq_self_eq_true,ZWp,ZWv];have:(L.length+([AV.str x]:List AV).length)*16<=140737488355328:=by simp;omega
   have e2:Nat.ble ((L.length+([AV.str x]:List AV).length)*16) 140737488355328=true:=ZXG this;rw[e2];rfl
  unfold ZE9;simp only[hbb,Q2,hcond,cond_true];rw[ZFd,ZEC hlt,hmap,hlen,ZWW];rfl
def ZEI(hd:List AObj)(x:AObj)(tl:List AObj)(b:Bool):trimB (hd.length+(tl.length+1)) (hd++x::tl) b=hd++x::tl:=ZEx<|by simp
def ZEJ(hd:List AObj)(x:AObj)(tl:List AObj)(fr:Fr):Xq (hd.length+(tl.length+1)) fr (hd++x::tl)=hd++x::tl:=ZE5<|by simp
def ZFe(n g o k:Nat)(ex:Bool)(a b c v q r:AV)(h:Hp):Xq n [(0,a),(2,b),(4,c),(5,.sl n g o k ex),(37,v),(38,q),(39,r)] h=h:=by
 have e:Zd n ([(0,a),(2,b),(4,c),(5,AV.sl n g o k ex),(37,v),(38,q),(39,r)].map (λ(p:Nat×AV)=>p.2))=false:=by
  simp[Zd,bel]
 unfold Xq;rw[e];rfl
def ZEl(hd:List AObj)(v:AV)(A:List Str):Prop:=
 (∀x tl,lnV (hd++x::tl) 1 v=some (I A.length))/\∀(i:Nat)(a:Str),A[i]?=some a->∃p,(∀x tl,iaV (hd++x::tl) 1 v (I i)=some p)/\∀x tl,ldV (hd++x::tl) none p=some (.str a)
def ZHE(hd:List AObj)(ex:Bool)(A:List Str):ZEl hd (.isl false ex 1<|A.map encS) A:=by
 refine⟨λx tl=>by rw[AX,ZWm],λi a h=>⟨.iptr false [.str a],λx tl=>?_,λx tl=>rfl⟩⟩
 have hg:=Z6 (f:=encS) h;rw[AK];simp only[go_sem,hg,encS]
def ZHG(hd:List AObj)(Y G v:AV)(l:List Str)(hv:ZEl hd v l)(s0:List Str×List Str)(Lv0:AV)(tl0:List AObj)(hL0:LVm hd.length Lv0 s0.2 tl0)(hc0:TC' tl0)(hn:s0.2.length+l.length<=1000000):
 ∃fr' Lv tl,Zg rE [0,2,4,5,37,38,39] c169L0b [(0,Y),(2,G),(4,.mp hd.length),(5,Lv0),(37,v),(38,I l.length),(39,I 0)] (hd++kM s0.1::tl0) =
  some (.exit 2,fr',hd++kM (l.foldl wkS s0).1::tl)/\LVm hd.length Lv (l.foldl wkS s0).2 tl/\TC' tl/\get fr' 0=Y/\get fr' 2=G/\get fr' 4=.mp hd.length/\get fr' 5=Lv:=by
 obtain⟨e,fr',h',L,hQ⟩:=Z9Y (E:=rE) (live:=[0,2,4,5,37,38,39]) (b:=c169L0b) l.length
  (λi fr h=>∃Lv tl,fr=[(0,Y),(2,G),(4,.mp hd.length),(5,Lv),(37,v),(38,I l.length),(39,I i)]/\h=hd++kM ((l.take i).foldl wkS s0).1::tl/\LVm hd.length Lv ((l.take i).foldl wkS s0).2 tl/\TC' tl)
  (λe fr h=>e=.exit 2/\∃Lv tl,h=hd++kM (l.foldl wkS s0).1::tl/\LVm hd.length Lv (l.foldl wkS s0).2 tl/\TC' tl/\get fr 0=Y/\get fr 2=G/\get fr 4=.mp hd.length/\get fr 5=Lv)
  (λi fr h m=>by obtain⟨Lv,tl,rfl,_⟩:=m;rfl)
  (λi fr h hi m=>by
   obtain⟨Lv,tl,rfl,rfl,hL,hc⟩:=m;refine .inl ?_;obtain⟨x,hx⟩:∃x,l[i]?=some x:=⟨_,ZWu hi⟩;obtain⟨p,hg1,hg2⟩:=hv.2 i x hx;have hi':=Zh hi;have hwr:=Zx (n:=i)<|by omega
   have hf:(l.take<|i+1).foldl wkS s0=wkS ((l.take i).foldl wkS s0) x:=Us wkS s0 hx;have hlen:=ZF4 (l.take i) s0;have hle:(l.take i).length<=l.length:=by simp;omega
   rw[hf];generalize(l.take i).foldl wkS s0=s at hL hlen⊢;obtain⟨K,L⟩:=s;have hq:=λ(tl:List AObj)=>H5 (enc:=encS) (eq:=Z3) Z1Y K x (h:=hd++.map (K.map encS) (ZO K.length)::tl) (b:=hd.length)<|ZEG _ _ _
   have hp:=λ(tl:List AObj)=>Ur (enc:=encS) (eq:=Z3) Z1Y K x (h:=hd++.map (K.map encS) (ZO K.length)::tl) (b:=hd.length)<|ZEG _ _ _
   have hlen':L.length<=s0.2.length+(l.take i).length:=hlen;have hL:LVm hd.length Lv L tl:=hL;unfold encS at hq hp;cases c:K.any (Z3 x)with
   |true=>
    have hw:wkS (K,L) x=(K,L):=by unfold wkS;rw[c];rfl
    rw[hw];unfold kM encS;refine⟨_,_,by simp only[go_sem,c169L0b,hg1,hg2,hi',hwr,hq,c,ZEI,ZEJ,ZFe,ZWo,ZWH,ZWz]<;>rfl,Lv,tl,?_,rfl,hL,hc⟩
    simp only[go_sem]
   |false=>
    obtain⟨tl',hl',hc',ha⟩:=ZHD hd (.map ((Qi Z3 K x).map encS)<|ZO (Qi Z3 K x).length) x hL hc<|by omega
    unfold encS at ha;have hak:Qi Z3 K x=K++[x]:=by unfold Qi;rw[c];rfl
    have hirr:decide (hd.length+(tl.length+1)<hd.length+(tl.length+1))=false:=by simp
    have e1:(K++[x]).length=K.length+1:=by simp
    rw[hak,e1]at ha;have hw:wkS (K,L) x=(K++[x],L++[x]):=by unfold wkS;rw[c];rfl
    rw[hw];unfold kM encS;rw[e1];refine⟨_,_,by simp only[go_sem,c169L0b,hg1,hg2,hi',hwr,hq,hp,c,hak,ha,ZEV,ZEI,ZEJ,ZFe,Z04,hirr,ZWq,ZWw,ZWr,ZWH,ZWz]<;>rfl,.sl (hd.length+(tl.length+1)) (L.length+1) 0 (L.length+1) false,_,?_,rfl,?_,?_⟩
    .simp only[go_sem]
    .refine⟨tl.length,L.length+1,0,false,(L++[x]).map encS,by simp,by rw[<-hl'];exact ZF3 _ _,by simp,by simp,by simp⟩
    .intro n;rw[ZEu,hc' n];show(true&&(Zj n (.row 1<|(L++[x]).map encS)&&true))=true
     simp only[Zj,ZEv,ZWv])
  (λfr h m=>by
   obtain⟨Lv,tl,rfl,rfl,hL,hc⟩:=m;rw[ZWR]at hL⊢;refine⟨.exit 2,_,_,by simp only[go_sem,c169L0b,ZG,ZEI,ZEJ,ZFe,kM,ZWH,ZWz]<;>rfl,by simp,rfl,Lv,tl,rfl,hL,hc,?_⟩
   refine⟨?_,?_,?_,?_⟩<;>simp only[go_sem])
  l.length 0 [(0,Y),(2,G),(4,.mp hd.length),(5,Lv0),(37,v),(38,I l.length),(39,I 0)] (hd++kM s0.1::tl0) (by omega) ⟨Lv0,tl0,rfl,rfl,hL0,hc0⟩
 obtain⟨rfl,Lv,tl,rfl,h1,h2,h3,h4,h5,h6⟩:=hQ;exact⟨fr',Lv,tl,L,h1,h2,h3,h4,h5,h6⟩
structure GRdz(hd:List AObj)(G:AV)(s:Sta)(FC p0 p3 p7:AV):Prop where
 f0:∀x tl,faV (hd++x::tl) 0 G=some p0
 f3:∀x tl,faV (hd++x::tl) 3 p0=some p3
 l3:∀x tl,ldV (hd++x::tl) none p3=some (.isl false false 16<|s.Bc.map Gc.enc)
 l0:∀x tl,ldV (hd++x::tl) (some 7) p0=some (stA s)
 f7:∀x tl,faV (hd++x::tl) 7 G=some p7
 l7:∀x tl,ldV (hd++x::tl) none p7=some FC
 t:∀n,hd.length<=n->(Zs G).contains n=false/\(Zs p0).contains n=false/\(Zs p3).contains n=false
inductive RunsG{σ:Type}(s:Sta)(aft:Gc->List Str)(f:Gc->σ->σ)(ok:σ->Prop):List Str->List Str->σ->σ->Prop
 |stop (K:List Str) (x:σ):RunsG s aft f ok K [] x x
 |step (K:List Str) (id:Str) (r:List Str) (x x':σ) (k:Nat) (d:Gc) (hd:s.Bc[k]?=some d) (hf:pfn rE 31 [stA s,.str id]=some (I k)) (hx:ok x)
  (h3:(id::r).length+(aft d).length<=1000000) (h:RunsG s aft f ok ((aft d).foldl wkS (K,id::r)).1 ((aft d).foldl wkS (K,id::r)).2.tail (f d x) x'):RunsG s aft f ok K (id::r) x x'
def wfp(y m:Nat)(G Lv:AV):Fr:=[(0,.yld y),(2,G),(4,.mp m),(5,Lv)]
def ZG7{fr:Fr}{Y G Lv:AV}{L:List Str}(hd:List AObj)(p5:AObj){tl:List AObj}(n:Nat)(e:AExit)(h0:get fr 0=Y)(h2:get fr 2=G)(h4:get fr 4=.mp hd.length)(h5:get fr 5=Lv)(hL:LVm hd.length Lv L tl)(hc:TC' tl):
 ∃tl',kp [0,2,4,5] (hd.length+(n+1)) (some (e,fr,hd++p5::tl))=some (e,[(0,Y),(2,G),(4,.mp hd.length),(5,Lv)],hd++p5::tl')/\LVm hd.length Lv L tl'/\TC' tl':=by
 have hr:Z2 [0,2,4,5] fr=[(0,Y),(2,G),(4,.mp hd.length),(5,Lv)]:=by
  show [(0,get fr 0),(2,get fr 2),(4,get fr 4),(5,get fr 5)]=_
  rw[h0,h2,h4,h5]
 have ht:(hd++p5::tl).take (hd.length+(n+1))=hd++p5::tl.take n:=by
  rw[ZZ5,ZWL (by omega),show hd.length+(n+1)-hd.length=n+1 by omega]
  rfl
 rw[Sd,hr];unfold Xq;cases c:Zd (hd.length+(n+1)) (List.map (·.2) [(0,Y),(2,G),(4,AV.mp hd.length),(5,Lv)])&&X4 (hd.length+(n+1)) ((hd++p5::tl).take (hd.length+(n+1)))with
 |false=>exact⟨tl,rfl,hL,hc⟩
 |true=>
  refine⟨tl.take n,by rw[cond_true,ht],ZHC hL ?_,λm=>ZEO<|hc m⟩
  simp only[List.map,Zd,ZWn,ZWv]at c;exact c.1.2.2.2
def ZHH(n i o g:Nat)(a b c e:AV)(h:Hp):Xq n [(0,a),(2,b),(4,c),(5,e),(6,.ptr n i o g)] h=h:=by
 have e:Zd n ([(0,a),(2,b),(4,c),(5,e),(6,AV.ptr n i o g)].map (λ(p:Nat×AV)=>p.2))=false:=by
  have hn:Nat.blt n n=false:=by rw[ZXw];simp[ZXo]
  simp[Zd,bel,hn]
 unfold Xq;rw[e];rfl
section
variable (y:Nat) (s:Sta) (FC G p0 p3 p7:AV) (hd hd':List AObj) (K:List Str) (Lv:AV) (id:Str) (r:List Str) (tl L:List AObj) (d:Gc)
def pd(hG:GRdz hd G s FC p0 p3 p7)(hL:LVm hd.length Lv (id::r) tl)(k:Nat)(hk':s.Bc[k]?=some d)(hf:pfn rE 31 [stA s,.str id]=some (I k)):
 Zb rE c71D (wfp y hd.length G Lv++[(16,.bool true)]) (hd++kM K::tl)=some (.normal,[(0,.yld y),(2,G),(4,.mp hd.length),(5,Lv),(6,.ptr (hd.length+(tl.length+1)) 0 0 1)],hd++kM K::(tl++[.row 16 [d.enc]])):=by
 obtain⟨bl,g,off,ex,es,rfl,hb,hg1,hg2,hes⟩:=hL;have hlt:bl<tl.length:=(ZWx.1 hb).1;have hr:rowAt tl bl g=some (1,es):=by unfold rowAt;rw[hb];simp only[hg1,beq_self_eq_true,cond_true]
 have hes0:es[off]?=some (.str id):=by
  have:=congrArg List.head? hes;rw[List.head?_drop]at this;exact this
 have hg:=Z6 (f:=Gc.enc) hk';have hk:(0<=(k:Int))=True:=by simp
 have hk2:((k:Int)).toNat=k:=ZXR k;have z0:((0:Int)).toNat=0:=rfl;have hlen:(id::r).length=r.length+1:=rfl;have hi0:iaP (hd.length+(bl+1)) g off 1 0 (r.length+1) (some (1,es))=some (.ptr (hd.length+(bl+1)) off 0 g):=VT _ _ _ _ _ _ _ ⟨ZYK _,by omega⟩
 have hne:(hd.length+(tl.length+1)==hd.length+(bl+1))=false:=by rw[beq_eq_false_iff_ne];omega
 have hirr:decide (hd.length+(tl.length+1)<hd.length+(tl.length+1))=false:=by simp
 have l0:=hG.l0;obtain⟨tG1,tG2,tG3⟩:=hG.t (hd.length+(tl.length+1))<|by omega
 simp only[Zs]at tG1 tG2 tG3;simp only[stA]at hf l0;simp only[Gc.enc,NL.enc]at hg;simp only[go_sem,c71D,c71L1m,c169L1b,wfp,kM,hG.f0,hG.f3,hG.l3,l0,tG1,tG2,tG3,ZWq,ZX9,hne,hirr,Gc.enc,NL.enc,ZEw,hr,ZWH,ZWz,ZHH,Z04,ZWw,ZWr,hf,hg,hk,hk2,z0,hi0,hes0,ZWV,if_true,ZFd,ZEp,ZWO,ZWW]
def ZHI(hd:List AObj)(p5 x y:AObj)(tl:List AObj)(b:Bool):trimB (hd.length+(tl.length+1+1)) (hd++p5::(tl++[x,y])) b=hd++p5::(tl++x::bif b then []else [y]):=by
 unfold trimB;cases b with
 |false=>rfl
 |true=>
  simp only[cond_true];rw[ZZ5,ZWL (by omega),show hd.length+(tl.length+1+1)-hd.length=tl.length+1+1 by omega,ZYA,ZZ5,ZWL<|by omega]
  simp
def ZHJ(hd:List AObj)(p5 x y:AObj)(tl:List AObj)(fr:Fr):∃b:Bool,Xq (hd.length+(tl.length+1+1)) fr (hd++p5::(tl++[x,y]))=hd++p5::(tl++x::bif b then []else [y]):=by
 refine⟨Zd (hd.length+(tl.length+1+1)) (fr.map (·.2))&&X4 (hd.length+(tl.length+1+1)) ((hd++p5::(tl++[x,y])).take (hd.length+(tl.length+1+1))),?_⟩;have:=ZHI hd p5 x y tl (Zd (hd.length+(tl.length+1+1)) (fr.map (·.2))&&X4 (hd.length+(tl.length+1+1)) ((hd++p5::(tl++[x,y])).take (hd.length+(tl.length+1+1))));exact this
def ZG8(hd tl L:List AObj)(p5:AObj)(x:AV)(sz:Nat):rowAt (hd++p5::(tl++.row sz [x]::L)) (hd.length+(tl.length+1)) 1=some (sz,[x]):=by rw[ZEw,ZEP]
def py(hl:hd'.length=hd.length)(hy:U4 rE y [d.enc] (hd++kM K::(tl++[.row 16 [d.enc]]))=some (.bool true,hd'++kM K::(tl++[.row 16 [d.enc],.row 16 [d.enc]]))):
 ∃b:Bool,Zb rE c71Y [(0,.yld y),(2,G),(4,.mp hd.length),(5,Lv),(6,.ptr (hd.length+(tl.length+1)) 0 0 1)] (hd++kM K::(tl++[.row 16 [d.enc]])) =
  some (.normal,[(0,.yld y),(2,G),(4,.mp hd.length),(5,Lv),(6,.ptr (hd.length+(tl.length+1)) 0 0 1),(33,.bool false)],hd'++kM K::(tl++.row 16 [d.enc]::bif b then []else [.row 16 [d.enc]])):=by
 obtain⟨b,ht⟩:=ZHJ hd' (kM K) (.row 16 [d.enc]) (.row 16 [d.enc]) tl [(0,.yld y),(2,G),(4,.mp hd.length),(5,Lv),(6,.ptr (hd.length+(tl.length+1)) 0 0 1),(33,.bool false)];rw[hl]at ht;simp only[Gc.enc,NL.enc,kM]at hy ht;refine⟨b,?_⟩;simp only[go_sem,S3,c71Y,c71L1m,c169L1b,kM,Gc.enc,NL.enc,ZWH,ZWz,ZWQ,ZG8,hy,ZWo,ht]
def ZHK(hd:List AObj)(p5 x:AObj)(tl L:List AObj)(b:Bool):trimB (hd.length+(tl.length+(L.length+1)+1)) (hd++p5::(tl++x::L)) b=hd++p5::(tl++x::L):=ZEx<|by simp
def ZHL(hd:List AObj)(p5 x:AObj)(tl L:List AObj)(fr:Fr):Xq (hd.length+(tl.length+(L.length+1)+1)) fr (hd++p5::(tl++x::L))=hd++p5::(tl++x::L):=ZE5<|by simp
def pr(hG:GRdz hd G s FC p0 p3 p7)(v:AV)(A:List Str)(hv:ZEl hd v A)(hA:Xy rE false FC [d.enc] (hd++kM K::(tl++.row 16 [d.enc]::L))=some (v,hd++kM K::(tl++.row 16 [d.enc]::L))):
 Zb rE c71R [(0,.yld y),(2,G),(4,.mp hd.length),(5,Lv),(6,.ptr (hd.length+(tl.length+1)) 0 0 1),(33,.bool false)] (hd++kM K::(tl++.row 16 [d.enc]::L)) =
  some (.normal,[(0,.yld y),(2,G),(4,.mp hd.length),(5,Lv),(37,v),(38,I A.length),(39,I 0)],hd++kM K::(tl++.row 16 [d.enc]::L)):=by
 have hln:=hv.1;simp only[Gc.enc,NL.enc,kM]at hA;simp only[go_sem,c71R,c71Z,c71L1m,c169L1b,kM,hG.f7,hG.l7,Gc.enc,NL.enc,ZWO,ZWZ,ZWH,ZWz,ZG8,hA,hln,ZHK,ZHL,ZWm]
def pA(hL:LVm hd.length Lv (id::r) tl):
 Zb rE c71A (wfp y hd.length G Lv) (hd++kM K::tl)=some (.normal,wfp y hd.length G Lv++[(16,.bool true)],hd++kM K::tl):=by
 obtain⟨bl,g,off,ex,es,rfl,hb,hg1,hg2,hes⟩:=hL;have hr:rowAt tl bl g=some (1,es):=by unfold rowAt;rw[hb];simp only[hg1,beq_self_eq_true,cond_true]
 have hlen:(id::r).length=r.length+1:=rfl;simp only[go_sem,c71A,c169L1b,wfp,kM,hlen,ZEw,hr,ZWH,ZWz,ZFT,ZEI,ZEJ,ZWO,ZWZ]
def pE(hL:LVm hd.length Lv [] tl):
 Zb rE c71A (wfp y hd.length G Lv) (hd++kM K::tl)=some (.exit 0,wfp y hd.length G Lv++[(16,.bool false)],hd++kM K::tl):=by
 obtain⟨bl,g,off,ex,es,rfl,hb,hg1,hg2,hes⟩:=hL;have hr:rowAt tl bl g=some (1,es):=by unfold rowAt;rw[hb];simp only[hg1,beq_self_eq_true,cond_true]
 have hlen:([]:List Str).length=0:=rfl;have h0:decide (((0:Nat):Int)>0)=false:=rfl;simp only[go_sem,c71A,c169L1b,wfp,kM,hlen,ZEw,hr,ZWH,ZWz,h0,ZEI,ZEJ,ZWO,ZWZ]
def pC(hL:LVm hd.length Lv (id::r) tl):
 ∃fr Lv',Zb rE c71C (wfp y hd.length G Lv) (hd++kM K::tl)=some (.normal,fr,hd++kM K::tl)/\get fr 0=.yld y/\get fr 2=G/\get fr 4=.mp hd.length/\get fr 5=Lv'/\LVm hd.length Lv' r tl:=by
 obtain⟨bl,g,off,ex,es,rfl,hb,hg1,hg2,hes⟩:=hL;have hlen:(id::r).length=r.length+1:=rfl;have hr:rowAt tl bl g=some (1,es):=by unfold rowAt;rw[hb];simp only[hg1,beq_self_eq_true,cond_true]
 refine⟨[(5,.sl (hd.length+(bl+1)) g (off+1) r.length ex),(18,.sl (hd.length+(bl+1)) g (off+1) r.length ex),(17,.sl (hd.length+(bl+1)) g off (r.length+1) ex)]++wfp y hd.length G (.sl (hd.length+(bl+1)) g off (r.length+1) ex),.sl (hd.length+(bl+1)) g (off+1) r.length ex,?_,rfl,rfl,rfl,rfl,?_⟩
 .have hs:=ZFV (h:=hd++.map (K.map encS) (ZO K.length)::tl) (b:=hd.length+(bl+1)) (off:=off) (n:=r.length) (ex:=ex) (by rw[ZEw];exact hr)
  simp only[go_sem,c71C,c169L1b,wfp,kM,hlen,ZFU,hs,ZWO,ZWZ]
 .refine⟨bl,g,off+1,ex,es,rfl,hb,hg1,by simp at hg2;omega,?_⟩
  have:=congrArg List.tail hes
  rwa[List.tail_drop]at this
def ZHM(hG:GRdz hd G s FC p0 p3 p7)(hG':GRdz hd' G s FC p0 p3 p7)(hl:hd'.length=hd.length)(hL:LVm hd.length Lv (id::r) tl)(hc:TC' tl)(k:Nat)(hk:s.Bc[k]?=some d)(hf:pfn rE 31 [stA s,.str id]=some (I k))(A:List Str)(h3:(id::r).length+A.length<=1000000)
 (hy:U4 rE y [d.enc] (hd++kM K::(tl++[.row 16 [d.enc]]))=some (.bool true,hd'++kM K::(tl++[.row 16 [d.enc],.row 16 [d.enc]])))
 (hA:∀L,∃v,Xy rE false FC [d.enc] (hd'++kM K::(tl++.row 16 [d.enc]::L))=some (v,hd'++kM K::(tl++.row 16 [d.enc]::L))/\ZEl hd' v A):
 ∃Lv' tl',Zb rE c169L1b (wfp y hd.length G Lv) (hd++kM K::tl)=some (.normal,wfp y hd.length G Lv',hd'++kM (A.foldl wkS (K,id::r)).1::tl')/\
  LVm hd.length Lv' (A.foldl wkS (K,id::r)).2.tail tl'/\TC' tl':=by
 obtain⟨b,hy'⟩:=py y G hd hd' K Lv tl d hl hy;have hT:TC' (tl++.row 16 [d.enc]::bif b then []else [.row 16 [d.enc]]):=λn=>by
  have e:Zj n (.row 16 [d.enc])=true:=by simp only[Zj,Zd,Gc.enc,NL.enc,bel,ZEv,ZWv,ZWp,ZX9]
  rw[ZEu,hc n];cases b<;>simp only[cond_true,cond_false,X4,e,ZWv,ZWp,ZX9]
 generalize(bif b then []else [AObj.row 16 [d.enc]])=X at hy' hT;obtain⟨v,hA,hv⟩:=hA X;have hin:=ZHG hd' (.yld y) (G) v A hv (K,id::r) Lv (tl++.row 16 [d.enc]::X) (by rw[hl];exact ZHB hL _) hT h3
 have hr:=pr y s FC G p0 p3 p7 hd' K Lv tl X d hG' v A hv hA;have kq:=λ{fr:Fr}{Y G Lv:AV}{L:List Str}=>@ZG7 fr Y G Lv L hd'
 have cq:=λ(K:List Str)(Lv:AV)(id:Str)(r:List Str)(tl:List AObj)=>pC y G hd' K Lv id r tl
 rw[hl]at hin hr;simp only[hl]at kq cq;obtain⟨fr',Lv0,tl0,hin,z1,z2,z3,z4,z5,z6⟩:=hin;obtain⟨tl1,hk1,l1,c1⟩:=kq (kM (A.foldl wkS (K,id::r)).1) (tl++.row 16 [d.enc]::X).length .normal z3 z4 z5 z6 z1 z2;have hlen1:(hd'++kM K::(tl++.row 16 [d.enc]::X)).length=hd.length+((tl++.row 16 [d.enc]::X).length+1):=by rw[ZEH,hl]
 have e1:Zb rE c71L1m (wfp y hd.length G Lv++[(16,.bool true)]) (hd++kM K::tl)=some (.normal,wfp y hd.length G Lv0,hd'++kM (A.foldl wkS (K,id::r)).1::tl1):=by
  show Zb rE (.seq c71D<|.seq c71Y<|.seq c71R<|.keep [0,2,4,5]<|.block 2 c169L0) _ _=_
  rw[SK,pd y s FC G p0 p3 p7 hd K Lv id r tl d hG hL k hk hf,SH,SK,hy',SH,SK,hr,SH,Sm,Sl];show kp _ _ (blk 2<|Zg rE [0,2,4,5,37,38,39] c169L0b _ _)=_
  rw[hin,hlen1];exact hk1
 obtain⟨r',hne⟩:=ZEQ A K (id::r) id r rfl;generalize A.foldl wkS (K,id::r)=q at hne e1 l1⊢;obtain⟨K',L'⟩:=q;have hne:L'=id::r':=hne;subst hne;have l1:LVm hd.length Lv0 (id::r') tl1:=l1;obtain⟨tl2,e2,l2,c2⟩:=kq (Y:=.yld y) (G:=G) (Lv:=Lv0) (fr:=wfp y hd.length G Lv0) (kM K') tl.length .normal rfl rfl rfl rfl l1 c1;obtain⟨fr3,Lv3,e3,g0,g2,g4,g5,l3⟩:=cq K' Lv0 id r' tl2 l2;obtain⟨tl4,e4,l4,c10004⟩:=kq (Y:=.yld y) (G:=G) (Lv:=Lv3) (fr:=fr3) (kM K') tl2.length .normal g0 g2 g4 g5 l3 c2;obtain⟨tl5,e5,l5,c10005⟩:=kq (Y:=.yld y) (G:=G) (Lv:=Lv3) (fr:=wfp y hd.length G Lv3) (kM K') tl.length .normal rfl rfl rfl rfl l4 c10004;refine⟨Lv3,tl5,?_,l5,c10005⟩;show Zb rE (.keep [0,2,4,5]<|.seq c71A<|.seq (.keep [0,2,4,5]<|.block 1 c71L1m)<|.keep [0,2,4,5] c71C) _ _=_
 rw[Sm,SK,pA y G hd K Lv id r tl hL,SH,SK,Sm,Sl,e1];show kp _ _ (sq rE _<|kp _ _<|some (.normal,wfp y hd.length G Lv0,_))=_
 rw[ZEH,e2,SH,Sm];rw[show Zb rE c71C [(0,.yld y),(2,G),(4,.mp hd.length),(5,Lv0)] (hd'++kM K'::tl2)=_ from e3,ZEH,hl,e4]
 exact e5
end
def ZHN{σ:Type}{s:Sta}{aft:Gc->List Str}{f:Gc->σ->σ}{ok:σ->Prop}(FC G p0 p3 p7:AV)(y m:Nat)(H:σ->List AObj)(hG:∀x,GRdz (H x) G s FC p0 p3 p7)(hH:∀x,(H x).length=m)
 (hy:∀(d:Gc)(x:σ)(K:List Str)(tl:List AObj),d∈s.Bc->ok x->U4 rE y [d.enc] (H x++kM K::(tl++[.row 16 [d.enc]]))=some (.bool true,H (f d x)++kM K::(tl++[.row 16 [d.enc],.row 16 [d.enc]])))
 (hA:∀(d:Gc)(x:σ)(K:List Str)(tl:List AObj),d∈s.Bc->∃v,Xy rE false FC [d.enc] (H x++kM K::tl)=some (v,H x++kM K::tl)/\ZEl (H x) v (aft d))
 {K L:List Str} {x x':σ} (R:RunsG s aft f ok K L x x'):∀(Lv:AV)(tl:List AObj),LVm m Lv L tl->TC' tl->
 ∃K' Lv' tl',Zg rE [0,2,4,5] c169L1b (wfp y m G Lv) (H x++kM K::tl)=some (.exit 0,wfp y m G Lv',H x'++kM K'::tl'):=by
 induction R with
 |stop K x=>
  intro Lv tl hL hc;have hm:=hH x;subst hm;obtain⟨tl2,e2,l2,c2⟩:=ZG7 (Y:=.yld y) (G:=G) (Lv:=Lv) (fr:=wfp y (H x).length G Lv++[(16,.bool false)]) (H x) (kM K) tl.length (.exit 0) rfl rfl rfl rfl hL hc;refine⟨K,Lv,tl2,Q7 rfl ?_ (λh=>by cases h)⟩
  show Zb rE (.keep [0,2,4,5]<|.seq c71A<|.seq (.keep [0,2,4,5]<|.block 1 c71L1m)<|.keep [0,2,4,5] c71C) _ _=_
  rw[Sm,SK,pE y G (H x) K Lv tl hL,SI,ZEH];exact e2
 |step K id r x x' k d hd hf hx h3 h ih=>
  intro Lv tl hL hc;have hm:=ZWA hd;have hl:(H<|f d x).length=(H x).length:=by rw[hH,hH]
  have hm':=hH x;obtain⟨Lv1,tl1,e1,l1,c1⟩:=ZHM y s FC G p0 p3 p7 (H x) (H<|f d x) K Lv id r tl d (hG x) (hG<|f d x) hl (by rw[hm'];exact hL) hc k hd hf (aft d) h3 (hy d x K tl hm hx)<|λL=>hA d (f d x) K _ hm
  rw[hm']at e1 l1;obtain⟨K',Lv',tl',e⟩:=ih Lv1 tl1 l1 c1;refine⟨K',Lv',tl',?_⟩;rw[Yt rfl e1];exact e
end Go.AM
namespace Go.AM
open Go
variable [REdz]
def ZGf(hd Z:List AObj)(n:Nat)(fr:Fr)(hn:hd.length<=n):∃tl,Xq n fr (hd++Z)=hd++tl:=by
 unfold Xq;cases Zd n (fr.map (·.2))&&X4 n ((hd++Z).take n)with
 |false=>exact⟨Z,rfl⟩
 |true=>exact⟨Z.take<|n-hd.length,by rw[cond_true,ZZ5,ZWL hn]⟩
def ZI8{σ:Type}{s:Sta}{aft:Gc->List Str}{f:Gc->σ->σ}{ok:σ->Prop}(FC G p0 p3 p7:AV)(y m:Nat)(H:σ->List AObj)(hG:∀x,GRdz (H x) G s FC p0 p3 p7)(hH:∀x,(H x).length=m)
 (hy:∀(d:Gc)(x:σ)(K:List Str)(tl:List AObj),d∈s.Bc->ok x->U4 rE y [d.enc] (H x++kM K::(tl++[.row 16 [d.enc]]))=some (.bool true,H (f d x)++kM K::(tl++[.row 16 [d.enc],.row 16 [d.enc]])))
 (hA:∀(d:Gc)(x:σ)(K:List Str)(tl:List AObj),d∈s.Bc->∃v,Xy rE false FC [d.enc] (H x++kM K::tl)=some (v,H x++kM K::tl)/\ZEl (H x) v (aft d))
 (id:Str) {x x':σ} (R:RunsG s aft f ok [id] [id] x x'):
 ∃fr tl,Zb rE c169 (QP 0<|[]++[.yld y]++[.iptr false [.str id],G]) (H x)=some (.normal,fr,H x'++tl):=by
 obtain⟨K',Lv',tl',hl⟩:=ZHN FC G p0 p3 p7 y m H hG hH hy hA R (.sl (m+(0+1)) 1 0 1 true) [.row 1 [.str id]] ⟨0,1,0,true,[.str id],rfl,rfl,rfl,rfl,rfl⟩<|λn=>rfl
 have hm:=hH x;have hm':=hH x';have hp:=Ur (enc:=encS) (eq:=Z3) Z1Y [] id (h:=H x++[.map [] []]) (b:=(H x).length)<|ZEG _ _ _;have hk:Qi Z3 [] id=[id]:=rfl;rw[hk]at hp;have hrep:List.replicate 1 (AV.bool true)=[.bool true]:=rfl;have hrep0:List.replicate 0 (AV.bool true)=[]:=rfl;rw[ZEV]at hp;simp only[encS,List.map,ZO,ZWH,ZWQ,ZWD,hrep,hrep0]at hp;simp only[wfp,kM,encS,List.map,ZO,ZWH,ZWQ,ZWD,hrep]at hl;subst hm;have f1:∀a b c h,Xq (H x).length [(0,a),(1,b),(2,c),(4,.mp (H x).length)] h=h:=λa b c h=>by
  have hn:Nat.blt (H x).length (H x).length=false:=by rw[ZXw];simp[ZXo]
  have e:Zd (H x).length ([(0,a),(1,b),(2,c),(4,AV.mp (H x).length)].map (λ(p:Nat×AV)=>p.2))=false:=by simp[Zd,bel,hn]
  unfold Xq;rw[e];rfl
 have f2:∀n a b c g o k ex h,Xq n [(0,a),(2,b),(4,c),(5,.sl n g o k ex)] h=h:=λn a b c g o k ex h=>by
  have hn:Nat.blt n n=false:=by rw[ZXw];simp[ZXo]
  have e:Zd n ([(0,a),(2,b),(4,c),(5,AV.sl n g o k ex)].map (λ(p:Nat×AV)=>p.2))=false:=by simp[Zd,bel,hn]
  unfold Xq;rw[e];rfl
 have l1:∀o:AObj,(H x++[o]).length=(H x).length+1:=λo=>by simp
 have l2:∀o p:AObj,(H x++[o]++[p]).length=(H x).length+2:=λo p=>by simp
 have l3:H x++[AObj.map [.str id] [.bool true]]++[.row 1 [.str id]]=H x++[AObj.map [.str id] [.bool true],.row 1 [.str id]]:=by simp
 have hl:Zg rE [0,2,4,5] c169L1b _ (H x++[AObj.map [.str id] [.bool true],.row 1 [.str id]])=_:=hl;simp only[go_sem,c169,c169L1,hp,f1,f2,l1,l2,l3,hl];obtain⟨tl,ht⟩:=ZGf (H x') (AObj.map (K'.map encS) (List.replicate K'.length<|.bool true)::tl') ((H x).length+2) []<|by omega
 exact⟨[],tl,by rw[ht]⟩
def ZL5{s:Sta}{K L:List Str}{D E D' E':List AV}(H:Runs s K L D E D' E'):RunsG s (λd=>d.After.l) (λd(q:List AV×List AV)=>(faD d q.1,faE d q.2)) (λq=>q.1.length<=1000/\q.2.length<=1000) K L (D,E) (D',E'):=by
 induction H with
 |stop K D E=>exact RunsG.stop _ _
 |step K id r D E D' E' k d hd hf h1 h2 h3 h ih=>exact RunsG.step K id r _ _ k d hd hf ⟨h1,h2⟩ (by omega) ih
def ZHd(s:Sta)(t:AV)(id:Str)(D' E':List AV)(H:Runs s [id] [id] [] [] D' E'):
 ∃fr tl,Zb rE c169 (QP 0<|[]++[.yld 4]++[.iptr false [.str id],grA s]) (h5 t [] [])=some (.normal,fr,h5 t D' E'++tl):=
 ZI8 (AV.clo (.func 92) [] []) (grA s) (.iptr false<|(stA s).cells++[AV.clo (.func 92) [] []]) (.iptr false<|((stA s).cells++[AV.clo (.func 92) [] []]).drop 3) (.iptr false [AV.clo (.func 92) [] []]) 4 5 (λq:List AV×List AV=>h5 t q.1 q.2)
  (λq=>⟨λ_ _=>rfl,λ_ _=>rfl,λ_ _=>rfl,λ_ _=>rfl,λ_ _=>rfl,λ_ _=>rfl,λ_ _=>⟨rfl,rfl,rfl⟩⟩) (λq=>rfl)
  (λd q K tl _ hq=>by
   have h:=ZGU t d q.1 q.2 (kM K::(tl++[.row 16 [d.enc]])) hq.1 hq.2;rw[ZWO,ZWW]at h;exact h)
  (λd q K tl _=>⟨d.After.enc 1 encS,by
   have h:=ZGY d<|h5 t q.1 q.2++kM K::tl;rw[RL];exact h,ZHE _ _ _⟩) id (ZL5 H)
def wkT(s:Sta)(id:Str):AV:=.clo (.func 169) [] [.iptr false [.str id],grA s]
def h4(D E:List AV):List AObj:=[.row 2 [.agg [.isl false false 1 [],.isl false false 3 []]],.row 1 D,.row 3 E,.row 2 [.agg [.sl 1 D.length 0 D.length false,.sl 2 E.length 0 E.length false]]]
def ZHe(s:Sta)(id:Str)(D E:List AV)(H:Runs s [id] [id] [] [] D E):
 ∃tl,rf rE (wkT s id) [20] c44R0a c44R0b (ffr<|wkT s id) (h4 [] [])=some (.normal,ffr<|wkT s id,h4 D E++tl):=by
 obtain⟨fr,tl,h⟩:=ZHd s (wkT s id) id D E H;refine⟨.loop .exhausted .normal (ffr<|wkT s id) [20] c44R0a c44R0b::tl,?_⟩;unfold wkT;rw[Z1k (c:=c169) (rs:=[]) rfl];have h':Zb rE c169 (QP 0<|[]++[.yld (h4 [] []).length]++[.iptr false [.str id],grA s]) (h4 [] []++[.loop .ready .normal (ffr<|wkT s id) [20] c44R0a c44R0b])=_:=h;unfold wkT at h';rw[h'];rfl
def grC(s:Sta):List AV:=[.isl false false 6<|s.Ga.map Gm.enc,.isl false false 5<|s.Gr.map Ev.enc,.isl false false 4<|s.By.map Fa.enc,.isl false false 16<|s.Bc.map Gc.enc,.isl false false 6<|s.Nk.map be.enc,.isl false false 2<|s.Gk.map bf.enc,.isl false false 2<|s.Wk.map bf.enc]
def ZHf(s:Sta)(id:Str)(h:Hp):fnV rE 93 [.agg<|grC s++[.clo (.func 92) [] []],.str id] h=some (.clo (.func 169) [] [.iptr false [.str id],.iptr false<|grC s++[.clo (.func 92) [] []]],h):=by
 rw[Q6 (f:=93) rfl rfl];unfold grC;simp only[go_sem,c93,ZWO,ZWZ,ZE5 (h:=h) rfl]
def ZHg(p0 p1 p2 p3:AObj)(tl:List AObj)(b:Bool):trimB 4 (p0::p1::p2::p3::tl) b=p0::p1::p2::p3::bif b then []else tl:=by cases b<;>rfl
def ZHh{D D2:List AV}(hD:ZE7 95 [ZEa 95] 1 D=some D2)(p0 p2 p3:AObj)(tl:List AObj):
 rsD (rE.rs 94) (p0::.row 1 D::p2::p3::tl) [.sl 1 D.length 0 D.length false,.clo (.func 95) [] []]=some (.sl 1 D.length 0 D.length false,⟨false,[1],some 1,none⟩,some (1,.row 1 D2)):=by
 show ZEn (ZE7 95) _ _=_
 unfold ZEn ZE8;simp only[ZXl,ZWX,beq_self_eq_true,ZX9,cond_true];have hD':ZE7 95 [.clo (.func 95) [] []] 1 D=some D2:=hD;rw[hD'];rfl
def ZHi{E E2:List AV}(hE:ZEe 97 3 ZEf [ZEa 97] 3 E=some E2)(p0 p1 p3:AObj)(tl:List AObj):
 fnV rE 96 [.sl 2 E.length 0 E.length false,.clo (.func 97) [] []] (p0::p1::.row 3 E::p3::tl)=some (.sl 2 E.length 0 E.length false,p0::p1::.row 3 E2::p3::tl):=by
 rw[V8 (s:=ZEo<|ZEe 97 3 ZEf) rfl];unfold ZEo ZE8;simp only[ZXl,ZWX,beq_self_eq_true,ZX9,cond_true];have hE':ZEe 97 3 ZEf [.clo (.func 97) [] []] 3 E=some E2:=hE;rw[hE'];rfl
def ZHk{α:Type}{recs:List DRec}{p0 p1 o:AObj}{tl:List AObj}{d:DRec}{k:Option α}:okd recs [] (p0::p1::tl) d (some (1,o)) k=k:=Z9E rfl (ZXG (show 1<=(p0::p1::tl).length by simp))
def ZHl(p0 p1 p2 p3:AObj)(tl:List AObj)(b:Bool):trimB (tl.length+1+1+1+1) (p0::p1::p2::p3::tl) b=p0::p1::p2::p3::tl:=ZEx<|by simp
def ZFW(s:Sta)(id:Str)(D E D2 E2:List AV)(hc:pfn rE 91 [stA s,.str id]=some (I 0))(H:Runs s [id] [id] [] [] D E)(hD:ZE7 95 [ZEa 95] 1 D=some D2)(hE:ZEe 97 3 ZEf [ZEa 97] 3 E=some E2)(hDl:D2.length=D.length)(hEl:E2.length=E.length)(hDc:Z4 D2=true)(hEc:Z4 E2=true):
 pfn rE 44 [stA s,.str id]=some (.tup [.agg [.isl false false 1 D2,.isl false false 3 E2],I 0]):=by
 obtain⟨tl,hr⟩:=ZHe s id D E H;simp only[stA]at hc;simp only[wkT,grA,ffr,stA,h4,AV.cells,ZWO,ZWZ,ZWQ]at hr;have hw:=ZHf s id;simp only[grC,ZWO,ZWZ]at hw;have b1:(D2.length==D.length)=true:=by rw[hDl];exact beq_self_eq_true _
 have b2:(E2.length==E.length)=true:=by rw[hEl];exact beq_self_eq_true _
 have t1:D2.take D.length=D2:=by rw[<-hDl];exact ZWR
 have t2:E2.take E.length=E2:=by rw[<-hEl];exact ZWR
 have f1:∀h n,ZC false h (n+1) D2=some D2:=λh n=>by simp only[ZC,hDc,cond_true]
 have f2:∀h n,ZC false h (n+1) E2=some E2:=λh n=>by simp only[ZC,hEc,cond_true]
 have f1:=λh=>f1 h 34
 have f2:=λh=>f2 h 33
 simp only[Nat.reduceAdd]at f1 f2;have h00:((0:Int) != 0)=false:=rfl;rw[Z5 (f:=44) rfl rfl];simp only[go_sem,c44,stA,hc,h00,hw,put,Sr,hr,ZHg,ZL4,ZHj,ZHk,ZHl,ZH,ZHh hD,ZHi hE,b1,b2,t1,t2,f1,f2]
def HK(a b:List Str):Bool:=a.length==b.length&&Zu (λi x=>match b[i]? with|some y=>Z3 x y|none=>false) 0 a
def ZTz(ea eb:Bool)(a b:List Str)(ha:a.length<=1152921504606846976):pfn rE 29 [.isl false ea 1<|a.map encS,.isl false eb 1<|b.map encS]=some (.bool<|HK a b):=by
 rw[Z5 (f:=29) rfl rfl];unfold HK;have hne:((a.length:Int) != (b.length:Int)) = !(a.length==b.length):=by
  cases h:a.length==b.length with
  |true=>have:a.length=b.length:=by simpa using h
         rw[this];simp
  |false=>have:a.length≠b.length:=by simpa using h
          simp;omega
 cases c:a.length==b.length with
 |false=>
  rw[c]at hne;simp only[go_sem,c29,hne]
 |true=>
 rw[c]at hne;have hlen:a.length=b.length:=by simpa using c
 have L:=QT (E:=rE) (live:=[0,1,5]) (b:=c29L0b) (h:=[]) a (λi x=>match b[i]? with|some y=>Z3 x y|none=>false) (λi=>[(0,.isl false ea 1<|a.map encS),(1,.isl false eb 1<|b.map encS),(5,I i)]) 0 (λfr=>get fr 4=.bot) (λfr=>get fr 4=.bool false) (λi=>rfl)
  (λi x hx hP=>by
   have hg:=Z6 (f:=encS) hx;have hi:=Zh<|Z7 hx;have hw:=Zx (n:=i) (by have:=Z7 hx;omega)
   obtain⟨y,hy⟩:∃y,b[i]?=some y:=⟨_,ZWu<|by rw[<-hlen];exact Z7 hx⟩
   have hgy:=Z6 (f:=encS) hy;rw[hy]at hP;dsimp only at hP;refine⟨_,by simp only[go_sem,c29L0b,hg,hgy,hi,hw,encS,hP];rfl,?_⟩
   simp only[go_sem])
  (λi x hx hP=>by
   have hg:=Z6 (f:=encS) hx;have hi:=Zh<|Z7 hx;obtain⟨y,hy⟩:∃y,b[i]?=some y:=⟨_,ZWu<|by rw[<-hlen];exact Z7 hx⟩
   have hgy:=Z6 (f:=encS) hy;rw[hy]at hP;dsimp only at hP;refine⟨_,by simp only[go_sem,c29L0b,hg,hgy,hi,encS,hP];rfl,?_⟩
   simp only[go_sem])
  (⟨_,by simp only[go_sem,c29L0b,ZG];rfl,by simp only[go_sem]⟩)
 obtain⟨fr',h1,h2,h3⟩:=L;have h1':Zg rE [0,1,5] c29L0b [(0,.isl false ea 1<|a.map encS),(1,.isl false eb 1<|b.map encS),(5,.int .i64 0)] []=_:=h1;cases e:Zu (λi x=>match b[i]? with|some y=>Z3 x y|none=>false) 0 a with
 |true=>
  rw[e]at h1';simp only[go_sem,c29,c29L0,hne,h1',h2 e,if_true]
 |false=>
  rw[e]at h1';simp only[go_sem,c29,c29L0,hne,h1',h3 e,ZWt]
structure Endz where
 Id:Str
 bq:Int
 Day:Int
def Endz.enc(e:Endz):AV:=.agg [.str e.Id,I e.bq,I e.Day]
def ZEq(a b:Endz):Bool:=Z3 a.Id b.Id&&(a.bq==b.bq&&a.Day==b.Day)
def ZEb(s:Sta)(id:Str):Int:=bif Jx s then(bif decide (Zn s id<0)then 10 else 0)else 1
def Zpq(s:Sta)(hs:StE s)(id:Str):pfn rE 91 [stA s,.str id]=some (I<|ZEb s id):=by
 have h1:=Z3i s hs;have h2:=find_ok s hs.sizes id;rw[Z5 (f:=91) rfl rfl];unfold ZEb;cases c:Jx s with
 |false=>rw[c]at h1;simp only[go_sem,c91,h1,ZWq]
 |true=>
  rw[c]at h1;cases c2:decide (Zn s id<0)with
  |true=>simp only[go_sem,c91,h1,h2,c2,ZWo]
  |false=>simp only[go_sem,c91,h1,h2,c2,ZWo]
def ftA(ea eb:Bool)(D:List Str)(E:List Endz):AV:=.agg [.isl false ea 1<|D.map encS,.isl false eb 3<|E.map Endz.enc]
def HL(D D2:List Str)(E E2:List Endz):Bool:=(E.length==E2.length&&HK D D2)&&Zu (λi x=>match E2[i]? with|some y=>ZEq x y|none=>false) 0 E
def ZF5(ea eb ec ed:Bool)(D D2:List Str)(E E2:List Endz)(hD:D.length<=1152921504606846976)(hE:E.length<=1152921504606846976):pfn rE 12 [ftA ea eb D E,ftA ec ed D2 E2]=some (.bool<|HL D D2 E E2):=by
 have ht:=ZTz ea ec D D2 hD;rw[Z5 (f:=12) rfl rfl];unfold HL ftA;have hne:((E.length:Int) != (E2.length:Int)) = !(E.length==E2.length):=by
  cases h:E.length==E2.length with
  |true=>have:E.length=E2.length:=by simpa using h
         rw[this];simp
  |false=>have:E.length≠E2.length:=by simpa using h
          simp;omega
 cases c:E.length==E2.length with
 |false=>
  rw[c]at hne;simp only[go_sem,c12,hne,ZWq,ZWr]
 |true=>
 rw[c]at hne;cases ct:HK D D2 with
 |false=>
  rw[ct]at ht;simp only[go_sem,c12,hne,ht,ZWq,ZWo,ZWr,ZWw]
 |true=>
 rw[ct]at ht;have hlen:E.length=E2.length:=by simpa using c
 have L:=QT (E:=rE) (live:=[2,3,5]) (b:=c12L0b) (h:=[]) E (λi x=>match E2[i]? with|some y=>ZEq x y|none=>false) (λi=>[(2,.iptr false [.isl false ea 1<|D.map encS,.isl false eb 3<|E.map Endz.enc]),(3,.iptr false [.isl false ec 1<|D2.map encS,.isl false ed 3<|E2.map Endz.enc]),(5,I i)]) 0 (λfr=>get fr 4=.bot) (λfr=>get fr 4=.bool false) (λi=>rfl)
  (λi x hx hP=>by
   have hg:=Z6 (f:=Endz.enc) hx;have hi:=Zh<|Z7 hx;have hw:=Zx (n:=i) (by have:=Z7 hx;omega)
   obtain⟨y,hy⟩:∃y,E2[i]?=some y:=⟨_,ZWu<|by rw[<-hlen];exact Z7 hx⟩
   have hgy:=Z6 (f:=Endz.enc) hy;rw[hy]at hP;dsimp only at hP;unfold ZEq at hP;refine⟨_,by simp only[go_sem,c12L0b,hg,hgy,hi,hw,Endz.enc,hP,ZWo];rfl,?_⟩
   simp only[go_sem])
  (λi x hx hP=>by
   have hg:=Z6 (f:=Endz.enc) hx;have hi:=Zh<|Z7 hx;obtain⟨y,hy⟩:∃y,E2[i]?=some y:=⟨_,ZWu<|by rw[<-hlen];exact Z7 hx⟩
   have hgy:=Z6 (f:=Endz.enc) hy;rw[hy]at hP;dsimp only at hP;unfold ZEq at hP;refine⟨_,by simp only[go_sem,c12L0b,hg,hgy,hi,Endz.enc,hP,ZWq];rfl,?_⟩
   simp only[go_sem])
  (⟨_,by simp only[go_sem,c12L0b,ZG];rfl,by simp only[go_sem]⟩)
 obtain⟨fr',h1,h2,h3⟩:=L;have h1':Zg rE [2,3,5] c12L0b [(2,.iptr false [.isl false ea 1<|D.map encS,.isl false eb 3<|E.map Endz.enc]),(3,.iptr false [.isl false ec 1<|D2.map encS,.isl false ed 3<|E2.map Endz.enc]),(5,.int .i64 0)] []=_:=h1;cases e:Zu (λi x=>match E2[i]? with|some y=>ZEq x y|none=>false) 0 E with
 |true=>
  rw[e]at h1';simp only[go_sem,c12,c12L0,hne,ht,h1',h2 e,if_true,ZWo,ZWp]
 |false=>
  rw[e]at h1';simp only[go_sem,c12,c12L0,hne,ht,h1',h3 e,ZWt,ZWo,ZWp]
def ZF6:∀(l m:List Str),l.Nodup->(∀x∈l,x∈m)->l.length<=m.length
 |[],m,_,_=>ZWy _
 |a::r,m,h,hs=>by
  rw[ZXD]at h;obtain⟨p,q,rfl⟩:=List.append_of_mem<|hs a ZX4;have:=ZF6 r (p++q) h.2 (λx hx=>by
   have h2:=hs x<|ZXp _ hx;have hne:x≠a:=λe=>h.1<|e▸hx
   simp only[ZX5,ZWJ,hne,false_or]at h2⊢;exact h2)
  simp only[ZWz,ZWH]at this⊢;omega
def ZFX{s:Sta}(hn:(s.Bc.map (·.Id)).Nodup){d e:Gc}(hd:d∈s.Bc)(he:e∈s.Bc)(h:d.Id=e.Id):d=e:=by
 obtain⟨i,hi⟩:=ZXF hd;obtain⟨j,hj⟩:=ZXF he;have h1:=Zi1 (f:=λx:Gc=>x.Id) hn hi
 have h2:=Zi1 (f:=λx:Gc=>x.Id) hn hj
 rw[h]at h1;have:i=j:=by rw[h1]at h2;omega
 rw[this,hj]at hi;exact(Option.some.inj hi).symm
inductive Reach(s:Sta):Str->Str->Prop
 |refl (x:Str):Reach s x x
 |step (x y z:Str) (d:Gc) (h:Reach s x y) (hd:d∈s.Bc) (hi:d.Id=y) (hz:z∈d.After.l):Reach s x z
def ZF7:∀(l K L:List Str),∃new,l.foldl wkS (K,L)=(K++new,L++new)/\(∀x∈new,x∈l)/\(∀x∈l,x∈K++new)/\(K.Nodup->(K++new).Nodup)
 |[],K,L=>⟨[],by simp⟩
 |a::l,K,L=>by
  rw[ZXd];cases c:K.any (Z3 a)with
  |true=>
   obtain⟨new,h1,h2,h3,h4⟩:=ZF7 l K L;refine⟨new,?_,λx hx=>ZXp _<|h2 x hx,λx hx=>?_,h4⟩
   .rw[show wkS (K,L) a=(K,L)by unfold wkS;simp only[c,cond_true],h1]
   .rcases ZWJ.1 hx with rfl|hx
    .exact ZXP _<|ZdP.1 c
    .exact h3 x hx
  |false=>
   obtain⟨new,h1,h2,h3,h4⟩:=ZF7 l (K++[a])<|L++[a];have ha:a ∉ K:=λh=>by rw[ZdP.2 h]at c;cases c
   refine⟨a::new,?_,λx hx=>?_,λx hx=>?_,λhn=>?_⟩
   .have e:∀M:List Str,M++a::new=M++[a]++new:=λM=>by simp
    rw[e,e,show wkS (K,L) a=(K++[a],L++[a])by unfold wkS;simp only[c,cond_false],h1]
   .rcases ZWJ.1 hx with rfl|hx
    .exact ZX4
    .exact ZXp _<|h2 x hx
   .rcases ZWJ.1 hx with rfl|hx
    .simp
    .have:=h3 x hx;simpa using this
   .have e:K++a::new=K++[a]++new:=by simp
    rw[e];refine h4 ?_;rw[ZXS];exact⟨hn,by simp,λx hx y hy=>by simp only[ZWY]at hy;rw[hy];exact λh=>ha<|h▸hx⟩
def ZEc(Q:List Gc):List AV:=(Q.filter λd=>decide (d.Ld<0)).map λd=>.str d.Id
def ZEd(Q:List Gc):List AV:=(Q.filter λd=>!decide (d.Ld<0)&&d.After.l.isEmpty).map ZEB
def ZFY(d:Gc)(Q:List Gc):faD d (ZEc Q)=ZEc (Q++[d]):=by
 unfold faD ZEc;rw[ZYh,ZWM];cases c:decide (d.Ld<0)<;>simp[List.filter,c]
def ZFZ(d:Gc)(Q:List Gc):faE d (ZEd Q)=ZEd (Q++[d]):=by
 unfold faE ZEd;rw[ZYh,ZWM];cases c:(!decide (d.Ld<0)&&d.After.l.isEmpty)<;>simp only[List.filter,c,cond_true,cond_false,List.map,ZXe]
def ZHn{s:Sta}(hp:Prop' s){d:Gc}(hd:d∈s.Bc){x:Str}(hx:x∈d.After.l):∃e∈s.Bc,e.Id=x:=by
 obtain⟨i,hi⟩:=ZXF hd;have h1:=((Zd0 s i d).1 (hp.dr i d hi)).2.1 x hx;have h2:decide (Zn s x<0)=false:=decide_eq_false (by have:=of_decide_eq_false h1;omega)
 rw[ZEz]at h2;obtain⟨j,e,_,h4,h5⟩:=ZcU h2;exact⟨e,ZWA h4,h5⟩
def ZEF{s:Sta}(hp:Prop' s):(s.Bc.map (·.Id)).Nodup:=by
 have h:=hp.ids;unfold Qp at h;have h1:=(ZXS.1 h).2.1;have h2:=(ZXS.1 h1).2.1;have h3:=(ZXS.1 h2).2.1;exact(ZXS.1 h3).1
def ZG0(s:Sta)(hp:Prop' s)(hs:StE s)(hN:s.Bc.length<=500)(id0:Str):∀(n:Nat)(P:List Gc)(L:List Str),s.Bc.length<=P.length+n->(∀d∈P,d∈s.Bc)->(P.map (·.Id)++L).Nodup->(∀x∈L,∃d∈s.Bc,d.Id=x)->
 (∀x∈P.map (·.Id)++L,Reach s id0 x)->(∀d∈P,∀y∈d.After.l,y∈P.map (·.Id)++L)->
 ∃Q,Runs s (P.map (·.Id)++L) L (ZEc P) (ZEd P) (ZEc Q) (ZEd Q)/\(Q.map (·.Id)).Nodup/\(∀d∈Q,d∈s.Bc)/\(∀d∈Q,Reach s id0 d.Id)/\(∀d∈Q,∀y∈d.After.l,y∈Q.map (·.Id))/\(∀x∈P.map (·.Id)++L,x∈Q.map (·.Id))
 |n,P,[],_,hP,hn,_,hR,hA=>by
  rw[ZXe]at hn hR hA⊢;exact⟨P,Runs.stop _ _ _,hn,hP,λd hd=>hR _<|ZYx hd,hA,λx hx=>hx⟩
 |n,P,x::r,hle,hP,hn,hL,hR,hA=>by
  have hsub:∀y∈P.map (·.Id)++x::r,y∈s.Bc.map (·.Id):=λy hy=>by
   rcases ZX5.1 hy with h|h
   .obtain⟨d,hd,rfl⟩:=ZX2.1 h;exact ZYx<|hP d hd
   .obtain⟨d,hd,rfl⟩:=hL y h;exact ZYx hd
  have hlen:=ZF6 _ _ hn hsub;simp only[ZWz,ZWm,ZWH]at hlen;obtain⟨d,hd,hid⟩:=hL x ZX4;obtain⟨k,hk⟩:=ZXF hd;have hf:pfn rE 31 [stA s,.str x]=some (I k):=by
   rw[find_ok s hs.sizes x,ZEz,<-hid,Zi1 (ZEF hp) hk]
  cases n with
  |zero=>omega
  |succ n=>
   obtain⟨new,w1,w2,w3,w4⟩:=ZF7 d.After.l (P.map (·.Id)++x::r)<|x::r;have eK:(P++[d]).map (·.Id)++(r++new)=P.map (·.Id)++x::r++new:=by simp[hid]
   obtain⟨Q,q1,q2,q3,q4,q5,q6⟩:=ZG0 s hp hs hN id0 n (P++[d]) (r++new) (by simp;omega)
    (λe he=>by
     rcases ZX5.1 he with h|h
     .exact hP e h
     .rw[ZWY.1 h];exact hd)
    (by rw[eK];exact w4 hn)
    (λy hy=>by
     rcases ZX5.1 hy with h|h
     .exact hL y<|ZXp _ h
     .exact ZHn hp hd<|w2 y h)
    (λy hy=>by
     rw[eK]at hy;rcases ZX5.1 hy with h|h
     .exact hR y h
     .exact Reach.step id0 x y d (hR x<|by simp) hd hid<|w2 y h)
    (λe he y hy=>by
     rw[eK];rcases ZX5.1 he with h|h
     .exact ZXP _<|hA e h y hy
     .rw[ZWY.1 h]at hy;exact w3 y hy)
   refine⟨Q,?_,q2,q3,q4,q5,λy hy=>q6 y<|by rw[eK];exact ZXP _ hy⟩
   refine Runs.step _ x r _ _ _ _ k d hk hf ?_ ?_ ?_ ?_
   .unfold ZEc;rw[ZWm];have:=ZXU (λd:Gc=>decide (d.Ld<0)) P;omega
   .unfold ZEd;rw[ZWm];have:=ZXU (λd:Gc=>!decide (d.Ld<0)&&d.After.l.isEmpty) P;omega
   .have:=(hs.doors d hd).after;simp only[ZWH];omega
   .rw[w1,ZFY,ZFZ,<-eK];exact q1
def ZHo(s:Sta)(hp:Prop' s)(hs:StE s)(hN:s.Bc.length<=500)(id:Str)(hid:decide (Zn s id<0)=false):
 ∃Q,Runs s [id] [id] [] [] (ZEc Q) (ZEd Q)/\(Q.map (·.Id)).Nodup/\(∀d∈Q,d∈s.Bc)/\(∀d∈Q,Reach s id d.Id)/\(∀x,Reach s id x->x∈Q.map (·.Id)):=by
 rw[ZEz]at hid;obtain⟨j,e,_,h4,h5⟩:=ZcU hid;obtain⟨Q,q1,q2,q3,q4,q5,q6⟩:=ZG0 s hp hs hN id s.Bc.length [] [id] (by simp) (λd hd=>by cases hd) (by simp) (λx hx=>⟨e,ZWA h4,by rw[ZWY.1 hx];exact h5⟩)
  (λx hx=>by rw[ZWY.1 hx];exact Reach.refl id) (λd hd=>by cases hd)
 refine⟨Q,q1,q2,q3,q4,λx hx=>?_⟩
 clear hid;induction hx with
 |refl=>exact q6 id<|by simp
 |step y z d h hd hi hz ih=>
  obtain⟨d',hd',he⟩:=ZX2.1 ih;rw[<-ZFX (ZEF hp) (q3 d' hd') hd (he.trans hi.symm)]at hz;exact q5 d' hd' z hz
def toL(x:Str):List UInt8:=x.data.toList
def ofL(l:List UInt8):Str:=⟨l.toArray⟩
def ZER(x:Str):ofL (toL x)=x:=by unfold ofL toL;simp
def ZG1(l:List UInt8):toL (ofL l)=l:=by unfold ofL toL;simp
def ZHp{x y:Str}(h:toL x=toL y):x=y:=by rw[<-ZER x,h,ZER]
def ZEi(l:List Str):List Str:=(WD<|l.map toL).map ofL
def ZHq(l:List Str):Yk (l.map encS)=(ZEi l).map encS:=by
 have e:l.map encS=(l.map toL).map Qd:=by
  rw[ZXN];exact ZYH λx _=>congrArg AV.str (ZER x).symm
 rw[e,D4];unfold ZEi;rw[ZXN];rfl
def ZES(l:List Str):(ZEi l).Perm l:=by
 have h:=(RS<|l.map toL).map ofL;rw[ZXN]at h;have e:l.map (ofL ∘ toL)=l:=by
  conv=>rhs;rw[<-List.map_id l]
  exact ZYH λx _=>ZER x
 rwa[e]at h
def ltS(a b:Str):Prop:=toL a<toL b
def ZHr(l:List Str)(hn:l.Nodup):(ZEi l).Pairwise ltS:=by
 have h1:=D8<|l.map toL;have h2:(ZEi l).Nodup:=(ZES l).nodup_iff.2 hn;unfold ZEi at h2⊢;rw[ZZ6];rw[ZZ7,ZZ6]at h2;refine(h1.and h2).imp ?_;intro a b hab;unfold ltS;rw[ZG1,ZG1];refine Decidable.byContradiction λh=>hab.2 ?_
 rw[ZYZ (of_decide_eq_true hab.1)<|List.not_lt.1 h]
def ZHs(a b:Str):lexB (ZE4 a) (ZE4 b)=true↔ltS a b:=by
 unfold ZE4 ltS toL;rw[ZEM,decide_eq_true_iff]
def ZHt{a b:Str}(h:ZE4 a=ZE4 b):a=b:=by
 unfold ZE4 at h;apply ZHp;unfold toL;have:∀x y:List UInt8,(x.map λb=>(b.toNat:Int))=(y.map λb=>(b.toNat:Int))->x=y:=by
  intro x;induction x with
  |nil=>intro y h;cases y with
   |nil=>rfl
   |cons=>simp at h
  |cons a r ih=>intro y h;cases y with
   |nil=>simp at h
   |cons c t=>
    simp only[ZWI,List.cons.injEq]at h;have hc:a=c:=UInt8.toNat_inj.1<|by omega
    rw[ih t h.2,hc]
 exact this _ _ h
def gK(e:Endz):List Int×AV:=(ZE4 e.Id,e.enc)
def ZEy(x:Endz):List Endz->List Endz
 |[]=>[x]
 |y::r=>bif lexB (ZE4 x.Id) (ZE4 y.Id)then x::y::r else y::ZEy x r
def ZEj:List Endz->List Endz
 |[]=>[]
 |x::r=>ZEy x<|ZEj r
def ZG2(x:Endz):∀l:List Endz,ZvI (gK x) (l.map gK)=(ZEy x l).map gK
 |[]=>rfl
 |y::r=>by
  rw[ZWI];unfold ZvI ZEy;rw[show lexB (gK x).1 (gK y).1=lexB (ZE4 x.Id) (ZE4 y.Id)from rfl]
  cases lexB (ZE4 x.Id) (ZE4 y.Id)with
  |true=>rfl
  |false=>simp only[cond_false,ZG2 x r,ZWI]
def ZF8:∀l:List Endz,ZvN (l.map gK)=(ZEj l).map gK
 |[]=>rfl
 |x::r=>by
  rw[ZWI];unfold ZvN ZEj;rw[ZF8 r,ZG2]
def ZG3(x:Endz):∀l,(ZEy x l).Perm (x::l)
 |[]=>.refl _
 |y::r=>by
  unfold ZEy;cases lexB (ZE4 x.Id) (ZE4 y.Id)with
  |true=>exact .refl _
  |false=>exact((ZG3 x r).cons y).trans (.swap x y r)
def ZF9:∀l,(ZEj l).Perm l
 |[]=>.refl _
 |x::r=>(ZG3 x<|ZEj r).trans ((ZF9 r).cons x)
def ZG4:∀l:List Endz,keysOf ZEf (l.map Endz.enc)=some (l.map gK)
 |[]=>rfl
 |x::r=>by
  rw[ZWI,ZWI];unfold keysOf;rw[ZG4 r];rfl
def ZFa:∀l:List Endz,(l.map (·.Id)).Nodup->ZvJ (l.map gK)=true
 |[],_=>rfl
 |x::r,h=>by
  rw[ZWI,ZXD]at h;rw[ZWI];unfold ZvJ;rw[ZFa r h.2,ZWv,ZWF];intro y hy;obtain⟨z,hz,rfl⟩:=ZX2.1 hy;have:((gK x).1==(gK z).1)=false:=by
   rw[beq_eq_false_iff_ne];intro e;exact h.1<|ZX2.2 ⟨z,hz,(ZHt e).symm⟩
  rw[this];rfl
def ZHu(l:List Endz)(h:(l.map (·.Id)).Nodup):(ZEj l).Pairwise λa b=>ltS a.Id b.Id:=by
 have h1:=ZwI (l.map gK)<|ZFa l h;rw[ZF8,ZZ6]at h1;exact h1.imp λ{a b}hab=>(ZHs a.Id b.Id).1 hab
def ZET:∀l:List Str,Z4 (l.map encS)=true
 |[]=>rfl
 |x::r=>by rw[ZWI];unfold Z4;rw[ZET r];rfl
def ZEU:∀l:List Endz,Z4 (l.map Endz.enc)=true
 |[]=>rfl
 |x::r=>by rw[ZWI];unfold Z4;rw[ZEU r];rfl
def ZFb(l:List Str)(hl:l.length<=1000):ZE7 95 [ZEa 95] 1 (l.map encS)=some ((ZEi l).map encS):=by
 unfold ZE7 ZEa;have h1:(l.map encS).all WB=true:=by rw[ZWF];intro x hx;obtain⟨y,_,rfl⟩:=ZX2.1 hx;rfl
 have h2:Nat.ble (l.map encS).length 1000000=true:=ZXG<|by rw[ZWm];omega
 simp only[h1,h2,ZHq];rfl
def ZG5(l:List Endz)(hl:l.length<=1000)(hn:(l.map (·.Id)).Nodup):ZEe 97 3 ZEf [ZEa 97] 3 (l.map Endz.enc)=some ((ZEj l).map Endz.enc):=by
 unfold ZEe ZEa;have h1:(l.map Endz.enc).all Zwl=true:=by rw[ZWF];intro x hx;obtain⟨y,_,rfl⟩:=ZX2.1 hx;rfl
 have h2:Nat.ble (l.map Endz.enc).length 1000000=true:=ZXG<|by rw[ZWm];omega
 have h3:(l.map Endz.enc).all (fits 3)=true:=by rw[ZWF];intro x hx;obtain⟨y,_,rfl⟩:=ZX2.1 hx;rfl
 simp only[ZG4,h1,h2,h3,ZEU,ZFa l hn,ZF8,ZXN];rfl
def ZEk(d:Gc):Endz:=⟨d.Id,d.Why,d.Ld⟩
structure IsFate(s:Sta)(id:Str)(D:List Str)(E:List Endz):Prop where
 dn:D.Nodup
 ds:D.Pairwise ltS
 es:E.Pairwise λa b=>ltS a.Id b.Id
 dm:∀x,x∈D↔∃d∈s.Bc,d.Id=x/\d.Ld<0/\Reach s id d.Id
 em:∀e,e∈E↔∃d∈s.Bc,e=ZEk d/\¬d.Ld<0/\d.After.l=[]/\Reach s id d.Id
 dl:D.length<=500
 el:E.length<=500
def ZHv(s:Sta)(hp:Jx s=true)(hs:StE s)(hN:s.Bc.length<=500)(id:Str)(hid:decide (Zn s id<0)=false):∃D E,pfn rE 44 [stA s,.str id]=some (.tup [ftA false false D E,I 0])/\IsFate s id D E:=by
 have hp':=((Zdb s).1 hp).1;obtain⟨Q,q1,q2,q3,q4,q5⟩:=ZHo s hp' hs hN id hid;have hQ:Q.length<=500:=by
  have:=ZF6 (Q.map (·.Id)) (s.Bc.map (·.Id)) q2 (λx hx=>by obtain⟨d,hd,rfl⟩:=ZX2.1 hx;exact ZYx<|q3 d hd)
  simp only[ZWm]at this;omega
 have hin:∀d,d∈Q↔d∈s.Bc/\Reach s id d.Id:=λd=>⟨λh=>⟨q3 d h,q4 d h⟩,λ⟨h1,h2⟩=>by
  obtain⟨d',h3,h4⟩:=ZX2.1<|q5 _ h2
  rwa[<-ZFX (ZEF hp') (q3 d' h3) h1 h4]⟩
 have eD:ZEc Q=((Q.filter λd=>decide (d.Ld<0)).map (·.Id)).map encS:=by unfold ZEc;rw[ZXN];rfl
 have eE:ZEd Q=((Q.filter λd=>!decide (d.Ld<0)&&d.After.l.isEmpty).map ZEk).map Endz.enc:=by unfold ZEd;rw[ZXN];rfl
 have nD:((Q.filter λd=>decide (d.Ld<0)).map (·.Id)).Nodup:=q2.sublist<|(ZYN).map _
 have nE:(((Q.filter λd=>!decide (d.Ld<0)&&d.After.l.isEmpty).map ZEk).map (·.Id)).Nodup:=by
  rw[ZXN];exact q2.sublist<|(ZYN).map _
 have lD:((Q.filter λd=>decide (d.Ld<0)).map (·.Id)).length<=500:=by rw[ZWm];have:=ZXU (λd:Gc=>decide (d.Ld<0)) Q;omega
 have lE:((Q.filter λd=>!decide (d.Ld<0)&&d.After.l.isEmpty).map ZEk).length<=500:=by rw[ZWm];have:=ZXU (λd:Gc=>!decide (d.Ld<0)&&d.After.l.isEmpty) Q;omega
 have mD:∀x,x∈((Q.filter λd=>decide (d.Ld<0)).map (·.Id))↔∃d∈s.Bc,d.Id=x/\d.Ld<0/\Reach s id d.Id:=λx=>by
  rw[ZX2];constructor
  .rintro⟨d,hd,rfl⟩;rw[ZXv]at hd;exact⟨d,q3 d hd.1,rfl,of_decide_eq_true hd.2,q4 d hd.1⟩
  .rintro⟨d,h1,h2,h3,h4⟩;exact⟨d,ZXv.2 ⟨(hin d).2 ⟨h1,h4⟩,decide_eq_true h3⟩,h2⟩
 have mE:∀e,e∈((Q.filter λd=>!decide (d.Ld<0)&&d.After.l.isEmpty).map ZEk)↔∃d∈s.Bc,e=ZEk d/\¬d.Ld<0/\d.After.l=[]/\Reach s id d.Id:=λe=>by
  rw[ZX2];constructor
  .rintro⟨d,hd,rfl⟩;simp only[ZXv,ZWn,ZWG,decide_eq_false_iff_not,ZYD]at hd;exact⟨d,q3 d hd.1,rfl,hd.2.1,hd.2.2,q4 d hd.1⟩
  .rintro⟨d,h1,h2,h3,h4,h5⟩;refine⟨d,?_,h2.symm⟩;simp only[ZXv,ZWn,ZWG,decide_eq_false_iff_not,ZYD];exact⟨(hin d).2 ⟨h1,h5⟩,h3,h4⟩
 rw[eD,eE]at q1;generalize(Q.filter λd=>decide (d.Ld<0)).map (·.Id)=D0 at*
 generalize(Q.filter λd=>!decide (d.Ld<0)&&d.After.l.isEmpty).map ZEk=E0 at*
 have hc:pfn rE 91 [stA s,.str id]=some (I 0):=by
  rw[Zpq s hs id];unfold ZEb;rw[hp,hid];rfl
 have pD:=ZES D0;have pE:=ZF9 E0;refine⟨ZEi D0,ZEj E0,?_,pD.nodup_iff.2 nD,ZHr D0 nD,ZHu E0 nE,λx=>by rw[pD.mem_iff,mD],λe=>by rw[pE.mem_iff,mE],by rw[pD.length_eq];exact lD,by rw[pE.length_eq];exact lE⟩
 exact ZFW s id _ _ _ _ hc q1 (ZFb D0<|by omega) (ZG5 E0 (by omega) nE) (by simp[pD.length_eq]) (by simp[pE.length_eq]) (ZET _)<|ZEU _
def lkV(p:Pt):AV:=.iptr false [I p.X,I p.Y]
def ZLc(p:Pt)(t:AV):Fr:=[(5,lkV p),(6,.isl false false 1 []),(7,.bool false),(8,I 0),(9,.ptr 1 0 0 1),(10,.ptr 2 0 0 1),(28,t)]
def lkH(st:LoopState)(p:Pt)(t:AV)(q:List Str×Bool):Hp:=[.row 1<|q.1.map encS,.row 1 [.sl 0 q.1.length 0 q.1.length false],.row 1 [.bool q.2],.loop st .normal (ZLc p t) [29] c157R0a c157R0b]
def lkS(p:Pt)(q:List Str×Bool)(x:Gm):List Str×Bool:=(bif decide (ZoY x.Ring.l p>=0)then q.1++[x.Id]else q.1,q.2||decide (ZoY x.Ring.l p>0))
def ZMe(p:Pt)(t:AV)(ht:∀n,bel n t=true)(q:List Str×Bool)(hq:q.1.length<=1000000)(x:Gm)(hr:x.Ring.l.length<=1000000)(o:AObj)(ho:∀n,Zj n o=true):
 U4 rE 3 [arA x] (lkH .ready p t q++[o])=some (.bool true,lkH .ready p t (lkS p q x)++[o,.row 3 [arA x]]):=by
 have hW:=Zqn x.Ring.l x.Ring.ex hr p;have hbS:∀n(K:List Str),Zd n (K.map encS)=true:=λn K=>ZN _<|Zw (λt=>rfl) K
 have ha:=λ(r1 r2 r3 r4 r5:AObj)=>XC (h:=[.row 1<|q.1.map encS,r1,r2,r3,r4,r5]) (fz:=false) (b:=0) (g:=q.1.length) (sz:=1) (es:=q.1.map encS) (bw:=false) (ex:=false) (ys:=[.str x.Id]) (bytes:=16) (by unfold rowAt;simp) rfl (by rfl) (by omega) (by omega) (by simp;omega)
 have h:=Ss (E:=rE) (b:=3) (args:=[arA x]) (h:=lkH .ready p t q++[o]) (fr:=ZLc p t) (ps:=[29]) (assign:=c157R0a) (body:=c157R0b)
  (fr0:=(29,arA x)::ZLc p t) rfl rfl (by simp only[go_sem,c157R0a,lkH,ZLc,lkV,arA]<;>rfl) (h1:=lkH .ready p t q++[o,.row 3 [arA x]]) (by rfl)
  (e:=.normal) (fr2:=[]) (h2:=lkH .busy p t (lkS p q x)++[o,.row 3 [arA x]])
  (by
   show Zb rE c157R0b [(11,.ptr 5 0 0 1),(29,arA x),(5,lkV p),(6,.isl false false 1 []),(7,.bool false),(8,I 0),(9,.ptr 1 0 0 1),(10,.ptr 2 0 0 1),(28,t)]
    [.row 1<|q.1.map encS,.row 1 [.sl 0 q.1.length 0 q.1.length false],.row 1 [.bool q.2],.loop .busy .normal (ZLc p t) [29] c157R0a c157R0b,o,.row 3 [arA x]]=_
   have hlp:∀n,3<=n->Zj n (.loop .busy .normal (ZLc p t) [29] c157R0a c157R0b)=true:=λn hn=>by
    have d1:decide (1<n)=true:=decide_eq_true<|by omega
    have d2:decide (2<n)=true:=decide_eq_true<|by omega
    simp only[go_sem,ZLc,lkV,ht,d1,d2]
   have hl6:=hlp 6<|by omega
   unfold lkS lkH;generalize AObj.loop .busy .normal (ZLc p t) [29] c157R0a c157R0b=lo at hl6⊢;cases c:decide (ZoY x.Ring.l p>=0)with
   |true=>
    have hap:=ha (.row 1 [.sl 0 q.1.length 0 q.1.length false]) (.row 1 [.bool q.2]) lo o<|.row 3 [arA x];simp only[arA]at hap;cases c2:q.2 with
    |true=>
     rw[c2]at hap;simp only[go_sem,c157R0b,lkV,arA,hW,c,hap,hbS,ho,hl6,ZWz,ZXs,ZWM,ZWC,cond_true,encS]
    |false=>
     rw[c2]at hap;simp only[go_sem,c157R0b,lkV,arA,hW,c,hap,hbS,ho,hl6,ZWz,ZXs,ZWM,ZWB,cond_true,encS]
   |false=>
    cases c2:q.2 with
    |true=>simp only[go_sem,c157R0b,lkV,arA,hW,c,hbS,ho,hl6,ZWC,cond_false]
    |false=>simp only[go_sem,c157R0b,lkV,arA,hW,c,hbS,ho,hl6,ZWB,cond_false]) (by rfl)
 exact h
def lkT(k:Int)(p:Pt)(L:List Gm):List Str×Bool:=(L.filter λx=>x.bq==k).foldl (lkS p) ([],false)
def ZMf{k:Int}{p:Pt}{L:List Gm}{i:Nat}{x:Gm}(h:L[i]?=some x):lkT k p (L.take<|i+1)=bif x.bq==k then lkS p (lkT k p<|L.take i) x else lkT k p (L.take i):=by
 have hi:=ZWx.1 h;unfold lkT;rw[ZYu hi.1,ZYh,ZXV,hi.2];cases c:x.bq==k<;>simp[List.filter,c]
def ZLX(p:Pt):∀(l:List Gm)(q:List Str×Bool),(l.foldl (lkS p) q).1.length<=q.1.length+l.length
 |[],q=>ZWs _
 |x::l,q=>by
  have:=ZLX p l<|lkS p q x;have h2:(lkS p q x).1.length<=q.1.length+1:=by
   unfold lkS;dsimp only;cases decide (ZoY x.Ring.l p>=0)with
   |true=>rw[cond_true,ZWz];exact ZWs _
   |false=>rw[cond_false];omega
  rw[ZXd,ZWH];omega
def ZLY(k:Int)(p:Pt)(L:List Gm):(lkT k p L).1.length<=L.length:=by
 unfold lkT;have:=ZLX p (L.filter λx=>x.bq==k) ([],false)
 have h2:=ZXU (λx:Gm=>x.bq==k) L
 simp only[ZWQ]at this;omega
def lkC(k:Int)(L:List Gm):AV:=.clo (.func 282) [] [.iptr false [.isl false false 3<|L.map arA],.iptr false [I k]]
def ZMg(k:Int)(p:Pt)(L:List Gm)(hl:L.length<=1000)(hr:∀x∈L,x.Ring.l.length<=1000000):
 ∃fr',Zg rE [0,2,6,7,8] c282L0b [(0,.yld 3),(2,.iptr false [I k]),(6,.isl false false 3<|L.map arA),(7,I L.length),(8,.int .i64 0)] (lkH .ready p (lkC k L) ([],false))=some (.exit 0,fr',lkH .ready p (lkC k L)<|lkT k p L):=by
 have ht:∀n,bel n (lkC k L)=true:=λn=>rfl
 have hb4:Zd 4 (frV<|ZLc p<|lkC k L)=true:=rfl;have hbS:∀n(K:List Str),Zd n (K.map encS)=true:=λn K=>ZN _<|Zw (λt=>rfl) K
 have Q:=Y8 (E:=rE) (live:=[0,2,6,7,8]) (b:=c282L0b) L.length (λi=>[(0,.yld 3),(2,.iptr false [I k]),(6,.isl false false 3<|L.map arA),(7,I L.length),(8,I i)])
  (λi=>lkH .ready p (lkC k L)<|lkT k p<|L.take i) (λi=>rfl)
  (λi hi=>by
   obtain⟨x,hx⟩:∃x,L[i]?=some x:=⟨_,ZWu hi⟩;have hg:=Z6 (f:=arA) hx;have hi':=Zh hi;have hw:=Zx (n:=i)<|by omega
   have hs:=ZMf (k:=k) (p:=p) hx;have hq:(lkT k p<|L.take i).1.length<=1000000:=by
    have:=ZLY k p<|L.take i;rw[ZWT]at this;omega
   have hy:=ZMe p (lkC k L) ht (lkT k p<|L.take i) hq x (hr x<|ZWA hx) (.row 3 [arA x])<|λn=>rfl
   rw[hs];generalize lkT k p (L.take i)=q at*;cases c:x.bq==k with
   |true=>
    rw[cond_true];generalize lkS p q x=q2 at*;unfold lkH at hy⊢;have hlo:Zj 4 (.loop .ready .normal (ZLc p<|lkC k L) [29] c157R0a c157R0b)=true:=hb4;have hlo5:Zj 5 (.loop .ready .normal (ZLc p<|lkC k L) [29] c157R0a c157R0b)=true:=rfl;generalize AObj.loop .ready .normal (ZLc p<|lkC k L) [29] c157R0a c157R0b=lo at*;simp only[arA,ZWO,ZWZ]at hy hg;refine⟨_,by simp only[go_sem,c282L0b,S3,hg,arA,hi',hw,c,hy,hbS,hlo,hlo5];rfl,?_⟩
    simp only[go_sem]
   |false=>
    rw[cond_false];unfold lkH;have hlo:Zj 4 (.loop .ready .normal (ZLc p<|lkC k L) [29] c157R0a c157R0b)=true:=hb4;generalize AObj.loop .ready .normal (ZLc p<|lkC k L) [29] c157R0a c157R0b=lo at*;simp only[arA]at hg;refine⟨_,by simp only[go_sem,c282L0b,hg,arA,hi',hw,c,hbS,hlo];rfl,?_⟩
    simp only[go_sem])
  (e:=.exit 0) (by simp only[go_sem,lkH,c282L0b,ZG];rfl) (by simp)
 rw[ZWR]at Q;exact⟨_,Q⟩
def ZMh(k:Int)(p:Pt)(L:List Gm)(hl:L.length<=1000)(hr:∀x∈L,x.Ring.l.length<=1000000):
 rf rE (lkC k L) [29] c157R0a c157R0b (ZLc p<|lkC k L) [.row 1 [],.row 1 [.sl 0 0 0 0 false],.row 1 [.bool false]] =
  some (.normal,ZLc p<|lkC k L,[.row 1<|(lkT k p L).1.map encS,.row 1 [.sl 0 (lkT k p L).1.length 0 (lkT k p L).1.length false],.row 1 [.bool (lkT k p L).2],.loop .exhausted .normal (ZLc p<|lkC k L) [29] c157R0a c157R0b]):=by
 have hb4:Zd 4 (frV<|ZLc p<|lkC k L)=true:=rfl;have hbS:∀n(K:List Str),Zd n (K.map encS)=true:=λn K=>ZN _<|Zw (λt=>rfl) K
 obtain⟨fr',h1⟩:=ZMg k p L hl hr;have hlo:Zj 4 (.loop .ready .normal (ZLc p<|lkC k L) [29] c157R0a c157R0b)=true:=hb4;unfold lkH at h1;simp only[ZX6,ZWQ]at h1;generalize lkT k p L=q at*;unfold lkC at h1⊢;rw[Z1k (c:=c282) rfl];unfold lkC at hlo;simp only[go_sem,c282,c282L0,ZWm,h1,hbS,hlo];rfl
def look_ok(L:List Gm)(hl:L.length<=400)(hn:(L.map (·.Id)).Nodup)(hv:∀x∈L,ZZ x.Id=true/\ZD x.bq 1 3=true/\Vh x.Ring.l=true/\x.Ring.l.length<=1000000)(k:Int)(hk:ZD k 1 3=true)(p:Pt):
 pfn rE 157 [.isl false false 3<|L.map arA,I k,.agg [I p.X,I p.Y]]=some (.tup<|bif gOn p then [.isl false false 1<|(ZEi (lkT k p L).1).map encS,.bool (lkT k p L).2,I 0]else [.isl false false 1 [],.bool false,I 1]):=by
 have h1:=Zib L hl hn hv;have h2:=Zi9 k;have h3:=W8 p;rw[hk]at h2;rw[Z5 (f:=157) rfl rfl];cases c:gOn p with
 |false=>
  rw[c]at h3;simp only[go_sem,c157,h1,h2,h3,ZWo,ZWq,cond_false]
 |true=>
  rw[c]at h3;have hr:=ZMh k p L (by omega)<|λx hx=>(hv x hx).2.2.2
  have hlen:=ZLY k p L;generalize lkT k p L=q at*;have hbS:∀n(K:List Str),Zd n (K.map encS)=true:=λn K=>ZN _<|Zw (λt=>rfl) K
  have hcS:∀(K:List Str),Z4 (K.map encS)=true:=λK=>Zw (λt=>rfl) K
  have hof:∀h,fnV rE 230 [.isl false false 3<|L.map arA,I k] h=some (lkC k L,h):=λh=>by
   have hcl:Z4 (L.map arA)=true:=Zw (λ_=>rfl) _
   rw[Q6 (f:=230) rfl rfl];simp only[go_sem,c230,lkC,GH]
  have hso:∀r1 r2,fnV rE 87 [.sl 0 q.1.length 0 q.1.length false] [.row 1<|q.1.map encS,r1,r2]=some (.tup [],[.row 1<|(ZEi q.1).map encS,r1,r2]):=λr1 r2=>by
   have hstr:(q.1.map encS).all WB=true:=by rw[ZYw,ZWF];intro x _;rfl
   have hble:Nat.ble q.1.length 1000000=true:=ZXG<|by omega
   rw[V8 (s:=J7) rfl];simp only[J7,ZWX,ZWm,beq_self_eq_true,hstr,hble,ZWv,cond_true,GM,ZHq]
  have hsl:(ZEi q.1).length=q.1.length:=(ZES q.1).length_eq;simp only[ZLc,lkV,lkC]at hr;have htk:((ZEi q.1).map encS).take q.1.length=(ZEi q.1).map encS:=ZWL<|by rw[ZWm,hsl];exact ZWs _
  simp only[go_sem,put,c157,h1,h2,h3,hof,Sr,hr,hso,hsl,hbS,hcS,htk,lkC,beq_self_eq_true,ZXu,ZWo,cond_true]
def ZLf(k:Int)(p:Pt)(L:List Gm):Str×Int:=
 bif gOn p then
  match ZEi (lkT k p L).1 with
  |[]=>(emp,10)
  |x::r=>bif !r.isEmpty&&(lkT k p L).2 then(emp,8)else(x,0)
 else(emp,1)
structure RgOk(L:List Gm):Prop where
 len:L.length<=400
 ids:(L.map (·.Id)).Nodup
 ok:∀x∈L,ZZ x.Id=true/\ZD x.bq 1 3=true/\Vh x.Ring.l=true/\x.Ring.l.length<=1000000
def ZMi(L:List Gm)(hL:RgOk L)(k:Int)(hk:ZD k 1 3=true)(p:Pt):pfn rE 82 [.isl false false 3<|L.map arA,I k,.agg [I p.X,I p.Y]]=some (.tup [.str (ZLf k p L).1,I (ZLf k p L).2]):=by
 have h:=look_ok L hL.len hL.ids hL.ok k hk p;unfold ZLf;rw[Z5 (f:=82) rfl rfl];cases c:gOn p with
 |false=>
  rw[c,cond_false]at h;have z1:((1:Int) != 0)=true:=rfl;simp only[go_sem,c82,h,z1,cond_false]
 |true=>
  rw[c,cond_true]at h;have z0:((0:Int) != 0)=false:=rfl;rw[cond_true];cases hs:ZEi (lkT k p L).1 with
  |nil=>
   rw[hs]at h;have z2:(((0:Nat):Int)==0)=true:=rfl;simp only[ZX6]at h;simp only[go_sem,c82,h,z0,z2,ZWQ]
  |cons x r=>
   rw[hs]at h;have z3:(((r.length+1:Nat):Int)==0)=false:=by rw[beq_eq_false_iff_ne];omega
   have hix:ixG (.str x::r.map encS) 0=some (.str x):=rfl;simp only[ZWI,encS]at h;cases r with
   |nil=>
    have z4:decide (((0+1:Nat):Int)>1)=false:=rfl;simp only[ZWQ]at z3;simp only[ZX6]at h hix;simp only[go_sem,c82,h,z0,z3,z4,hix,ZWH,ZWQ,ZZ4,ZWo,ZWr,cond_false]
   |cons y r=>
    have z4:decide (((r.length+1+1:Nat):Int)>1)=true:=decide_eq_true<|by omega
    simp only[ZWH]at z3;simp only[ZWI,encS]at h hix;cases c2:(lkT k p L).2 with
    |true=>
     rw[c2]at h;simp only[go_sem,c82,h,z0,z3,z4,ZWH,ZWm,ZYf,ZWq,ZWv,cond_true]
    |false=>
     rw[c2]at h;simp only[go_sem,c82,h,z0,z3,z4,hix,ZWH,ZWm,ZYf,ZWq,ZWw,cond_false]
structure Plc where
 Gc:Str
 Ev:Str
 Code:Str
 District:Str
 City:Str
 An:HN
 bg:Pt
def Plc.enc(a:Plc):AV:=.agg [.str a.Gc,.str a.Ev,.str a.Code,.str a.District,.str a.City,I a.An.N,.str a.An.bm,I a.An.Num,I a.An.Den,I a.bg.X,I a.bg.Y]
def zP:Plc:=⟨emp,emp,emp,emp,emp,⟨0,emp,0,0⟩,⟨0,0⟩⟩
def ZLs(s:Sta)(d:Gc):Plc:=⟨d.Id,d.Ev,(ZLf 3 d.bg<|lvR s.Ga).1,(ZLf 2 d.bg<|lvR s.Ga).1,(ZLf 1 d.bg<|lvR s.Ga).1,d.An,d.bg⟩
def dI(d:Gc):AV:=match d.enc with| .agg cs=>.iptr false cs|v=>v
def ZLt(L:List Gm)(hL:RgOk L)(k:Int)(hk:ZD k 1 3=true)(d:Gc):pfn rE 81 [I k,.iptr true [.isl false false 3<|L.map arA],dI d]=some (.str (ZLf k d.bg L).1):=by
 have h:=ZMi L hL k hk d.bg;have hc:Z4 (L.map arA)=true:=Zw (λ_=>rfl) _
 rw[Z5 (f:=81) rfl rfl];simp only[go_sem,c81,dI,Gc.enc,NL.enc,h]
def ZMj(s:Sta)(hs:StS s)(hL:RgOk<|lvR s.Ga)(d:Gc):pfn rE 32 [stA s,d.enc]=some (ZLs s d).enc:=by
 have h0:=Zi3 s hs;have h3:=ZLt (lvR s.Ga) hL 3 rfl d;have h2:=ZLt (lvR s.Ga) hL 2 rfl d;have h1:=ZLt (lvR s.Ga) hL 1 rfl d;simp only[stA]at h0;unfold ZLs Plc.enc;generalize(ZLf 3 d.bg<|lvR s.Ga).1=x3 at*;generalize(ZLf 2 d.bg<|lvR s.Ga).1=x2 at*;generalize(ZLf 1 d.bg<|lvR s.Ga).1=x1 at*;have hc:Z4 ((lvR s.Ga).map arA)=true:=Zw (λ_=>rfl) _
 generalize hM:(lvR s.Ga).map arA=M at*;simp only[dI,Gc.enc,NL.enc]at h3 h2 h1;rw[Z5 (f:=32) rfl rfl];simp only[go_sem,c32,stA,Gc.enc,NL.enc,h0,h1,h2,h3,hc]
def Zd3{e:Gt}(h1:(ZD e.bq 1 15&&(ZD e.Day 0 100000&&(!Fb (Zq e)&&NG (Zq e))))=true):Q9 e=Q8 e:=by
 unfold Q9;simp only[ZWn]at h1;rw[h1.1,h1.2.1,h1.2.2.1,h1.2.2.2];rfl
def Zdu(x:Gm):Q9 {Jt x with bq:=1}=(ZZ x.Id&&(ZD x.bq 1 3&&Vh x.Ring.l)):=(Zd3<|by rfl).trans (by kernel_rfl)
def ZMk{s:Sta}(hp:Prop' s)(hs:StE s)(hl:s.Ga.length<=400):RgOk (lvR s.Ga):=
 ⟨ZXh (Zi0 _) hl,by
  have h1:=hp.ids;unfold Qp at h1;exact(ZXS.1 h1).1.sublist (ZYN.map _),λx hx=>by
  have hm:x∈s.Ga:=(ZXv.1 hx).1;have h1:=hp.rg x hm;unfold Vo at h1;rw[Zdu]at h1;simp only[ZWn]at h1;exact⟨h1.2.2.1,h1.2.2.2.1,h1.2.2.2.2,by have:=(hs.regions x hm).2.1;omega⟩⟩
def ZLa(s:Sta)(id:Str):Plc×Int:=
 bif !Jx s then(zP,1)else
 match(bif decide (Zn s id<0)then none else s.Bc[(Zn s id).toNat]?)with
 |none=>(zP,10)
 |some d=>bif d.Ld != -1 then(zP,11)else bif !Z3 d.Veil emp then(zP,24)else(ZLs s d,0)
def ZLu(s:Sta)(hs:StE s)(hl:s.Ga.length<=400)(id:Str):pfn rE 16 [stA s,.str id]=some (.tup [(ZLa s id).1.enc,I (ZLa s id).2]):=by
 have hp:=Z3i s hs;have hf:=find_ok s hs.sizes id;unfold ZLa;cases c1:Jx s with
 |false=>
  rw[c1]at hp;rw[Z5 (f:=16) rfl rfl];simp only[stA]at hp;simp only[go_sem,c16,stA,hp,zP,Plc.enc,ZWq,cond_true]
 |true=>
 rw[c1]at hp;cases c2:decide (Zn s id<0)with
 |true=>
  rw[Z5 (f:=16) rfl rfl];simp only[stA]at hp hf;simp only[go_sem,c16,stA,hp,hf,c2,zP,Plc.enc,ZWo,cond_true,cond_false]
 |false=>
 have c2':=c2;rw[ZEz]at c2';obtain⟨k,d,h1,h2,h3⟩:=ZcU c2';have h1':Zn s id=(k:Int):=h1;have hg:=Z6 (f:=Gc.enc) h2;have ha:=ZMj s hs.sizes (ZMk ((Zdb s).1 c1).1 hs hl) d;rw[h1']at hf c2⊢;rw[ZXR,h2];simp only[stA]at hp hf ha;simp only[ZWo,cond_false];unfold Plc.enc at ha⊢;cases c5003:d.Ld != -1 with
 |true=>
  rw[Z5 (f:=16) rfl rfl];simp only[go_sem,c16,stA,hp,hf,c2,hg,Gc.enc,c5003,zP,ZWo,cond_true]
 |false=>
 cases c5004:Z3 d.Veil emp with
 |false=>
  rw[Z5 (f:=16) rfl rfl];simp only[go_sem,c16,stA,hp,hf,c2,hg,Gc.enc,c5003,c5004,zP,ZWo,ZWq,cond_true,cond_false]
 |true=>
  rw[Z5 (f:=16) rfl rfl];simp only[Gc.enc]at ha;simp only[go_sem,c16,stA,hp,hf,c2,hg,Gc.enc,c5003,c5004,ha,ZWo,cond_false]
end Go.AM
