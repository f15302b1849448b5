/- From the abstract machine to the tied card of the statement RouteEnds. No condition. -/
import Derived.Test.YtaeppjlndecijabGreatDoorQ4
import Derived.Test.YtaeppjlndecijabGreatDoorCards
import Derived.Test.YtaeppjlndecijabGreatDoorTie
import Derived.JoinedOf
import Derived.JoinedCond
import Derived.Lay
import Derived.LaidMore
import Derived.SevenTiedAt
import Derived.Stop.Joined
set_option linter.unusedVariables false
set_option linter.defProp false
set_option linter.unusedSimpArgs false
set_option linter.unusedSectionVars false
namespace Go.Proofs.YtaeppjlndecijabGreatDoor
open Go
def Z5J{P:Program}(h1:(behindMainWord<|wordsSigns P.initOrder.toList).head?=some "cut".toList)(h2:P.laysLater=false)(h3:P.bearsReflect=false)(h4:P.doorFits []=true):P.mayEnter=true:=by
 unfold Program.mayEnter;cases h:behindMainWord (wordsSigns P.initOrder.toList)with
 |nil=>rw[h]at h1;cases h1
 |cons c rest=>
  rw[h]at h1;obtain rfl:c = "cut".toList:=Option.some.inj h1;have hs:stripLifts liftWords ("cut".toList::rest)=([], "cut".toList::rest):=by
   rfl
  simp only[hs,h2,h3,h4,List.head?_cons];simp
def me1:(behindMainWord<|wordsSigns Tryz.prog.initOrder.toList).head?=some "cut".toList:=by kernel_rfl
def me2:Tryz.prog.laysLater=false:=by kernel_rfl
def me3:Tryz.prog.bearsReflect=false:=by kernel_rfl
def me4:Tryz.prog.doorFits []=true:=by kernel_rfl
def Z5K:Tryz.prog.mayEnter=true:=Z5J me1 me2 me3 me4
def Z5L{P:Program}{f:FuncId}{fn:Func}{s:ChangeSpec}{c:OpenClaim}
 (k1:c.wf (OpenSpec.ofChange s)=true) (k2:laidOutB P=true) (k3:mapsRowed P=true) (k4:fn.params.all (P.readableRec ·)=true) (k5:namedTie P c.named s.vars=true)
 (k6:(c.stops==[])=true) (k7:(P.stops==[])=true) (k8:(c.knobs==[])=true) (k9:(P.stopKnobs==[])=true)
 (k10:(c.inPlace==P.inPlace f)=true) (k11:(c.unfollowed==P.unfollowed f)=true) (k12:(c.recurses==P.recurses f)=true) (k13:(c.named==P.varsNamed f)=true)
 (k14:(c.maps==(fn.params.toList++s.plain.varTypes P).any (P.mapsRec ·))=true) (k15:(c.ifaces==(fn.params.toList++s.plain.varTypes P).any (P.ifacesRec ·))=true) (k16:(c.mapsOut==P.mapsAmong fn.resultTypes.toList)=true)
 (k17:(c.loops==(fn.params.toList++s.plain.varTypes P).any (P.loopsFrom ·))=true) (k17b:(c.wideKeys==(fn.params.toList++s.plain.varTypes P++fn.resultTypes.toList).any (P.wideKeysFrom ·))=true)
 (k18:s.vars.all (P.varReadable ·)=true) (k19:fn.resultTypes.all (λt=>P.readableRec t&&decide (t<P.types.size))=true) (k20:(c.ifacesOut==fn.resultTypes.toList.any (P.ifacesRec ·))=true) (k21:(c.loopsOut==fn.resultTypes.toList.any (P.loopsFrom ·))=true)
 (k22:(c.plainKeys==P.plainKeys)=true) (k23:c.shortTexts.isNone=true) (k23b:P.stopsHeard=true) (k24:P.mayEnter=true) (k24b:(c.lifted==P.liftsFinal)=true) (k24c:(P.make==some c.make)=true)
 (k25:(c.kinds==(if c.domain.isEmpty then []else fn.params.toList.map λt=>match P.underlying t with|some (.int k)=>some k|_=>none))=true) (k26:(c.pinned==c.pinnedBy)=true)
 (k27:(c.veiled==(fn.params.toList++s.plain.varTypes P++fn.resultTypes.toList).any (P.veiledRec ·))=true) (k28:c.veiledFits P fn.params.toList (fn.params.toList++s.plain.varTypes P++fn.resultTypes.toList)=true):
 joinedFacts P f fn s c=true:=by
 unfold joinedFacts
 repeat' (first|assumption|(refine Bool.and_eq_true_iff.mpr ⟨?_,?_⟩))
def Z5M:laidOutB Tryz.prog=true:=by kernel_rfl
def Z5N:mapsRowed Tryz.prog=true:=by kernel_rfl
def Z5O:(Tryz.prog.stops==[])=true:=by kernel_rfl
def Z5P:(Tryz.prog.stopKnobs==[])=true:=by kernel_rfl
def Z5Q:Tryz.prog.stopsHeard=true:=by kernel_rfl
def own:ownKnob Tryz.prog.godebug=none:=by kernel_rfl
end Go.Proofs.YtaeppjlndecijabGreatDoor
namespace Go.Proofs.YtaeppjlndecijabGreatDoor
open Go.ChangeShapes Go.WideShapes Go.ChangeAt Go.RowKit Go.AM
def ZCq:(Rows.routeEndsRow.inPlace==Tryz.prog.inPlace 3)=true:=by kernel_rfl
def ZCr:(Rows.routeEndsRow.unfollowed==Tryz.prog.unfollowed 3)=true:=by kernel_rfl
def ZCs:(Rows.routeEndsRow.recurses==Tryz.prog.recurses 3)=true:=by kernel_rfl
def ZCt:(Rows.routeEndsRow.named==Tryz.prog.varsNamed 3)=true:=by kernel_rfl
def ZCu:(Rows.routeEndsRow.lifted==Tryz.prog.liftsFinal)=true:=by kernel_rfl
def ZCv:(Tryz.prog.make==some Rows.routeEndsRow.make)=true:=by kernel_rfl
def ZCw:joinedFacts Tryz.prog 3 Tryz.f3 Rows.routeEndsSpec Rows.routeEndsRow=true:=
 Z5L (by kernel_rfl) Z5M Z5N (by kernel_rfl) (by kernel_rfl) (by kernel_rfl) Z5O (by kernel_rfl) Z5P ZCq ZCr ZCs ZCt (by kernel_rfl) (by kernel_rfl) (by kernel_rfl)
  (by kernel_rfl) (by kernel_rfl) (by kernel_rfl) (by kernel_rfl) (by kernel_rfl) (by kernel_rfl) (by kernel_rfl) (by kernel_rfl) Z5Q Z5K ZCu ZCv (by kernel_rfl) (by kernel_rfl) (by kernel_rfl) (by kernel_rfl)
end Go.Proofs.YtaeppjlndecijabGreatDoor
namespace Go.Proofs.YtaeppjlndecijabGreatDoor
open Go.ChangeShapes Go.WideShapes Go.ChangeAt Go.RowKit Go.AM
noncomputable def zv(t:TypeId):Value:=match Tryz.prog.info? t with|some i=>i.zero.getD (.bool false)|none=>.bool false
noncomputable def ZCi:Array Value:=#[zv 22,zv 23,zv 24,zv 25,zv 9,.int .i64 0,.int .i64 0,zv 9]
def ZCx(os:Os):((World.laidAll Tryz.prog os Rows.routeEndsRow.laid).forCall (λ_ _=>0) ⟨#[],ZCi,[]⟩).variablesZipB Tryz.prog=true:=by kernel_rfl
def ZCy(os:Os):(((World.laidAll Tryz.prog os Rows.routeEndsRow.laid).forCall (λ_ _=>0) ⟨#[],ZCi,[]⟩).heap.toList.drop Tryz.prog.globals.size).take ((begin Tryz.prog (λ_ _=>0) default).world.heap.size-Tryz.prog.globals.size)=(begin Tryz.prog (λ_ _=>0) default).world.heap.toList.drop Tryz.prog.globals.size:=by kernel_rfl
def Z60(os:Os):(World.holding Tryz.prog os ⟨#[],#[],[]⟩).layFits Tryz.prog Rows.routeEndsRow.laid []=true:=by kernel_rfl
def Z61(os:Os):(World.holding Tryz.prog os ⟨#[],#[],[]⟩).layIfaces Tryz.prog Rows.routeEndsRow.laid (World.laidAll Tryz.prog os Rows.routeEndsRow.laid)=true:=by kernel_rfl
def ZCz(os:Os):Input.okWideB Tryz.prog ((World.laidAll Tryz.prog os Rows.routeEndsRow.laid).forCall (λ_ _=>0) ⟨#[],ZCi,[]⟩) 3 ⟨#[],ZCi,[]⟩=true:=by kernel_rfl
def ZCA(os:Os)(H:Type)(enc:TypeId×Value->H):Rows.routeEndsSpec.preB enc Tryz.prog Tryz.f3 Rows.routeEndsRow.domain false ((World.laidAll Tryz.prog os Rows.routeEndsRow.laid).forCall (λ_ _=>0) ⟨#[],ZCi,[]⟩).memory ZCi 3=true:=by kernel_rfl
def ZCB(os:Os)(H:Type)(enc:TypeId×Value->H):Rows.routeEndsSpec.sizedB enc Tryz.prog Tryz.f3 false ((World.laidAll Tryz.prog os Rows.routeEndsRow.laid).forCall (λ_ _=>0) ⟨#[],ZCi,[]⟩).memory ZCi 3=true:=by kernel_rfl
def Z65{W:World}:laidMetH Tryz.prog Rows.routeEndsRow.laid W=laidMet Tryz.prog Rows.routeEndsRow.laid W:=by
 rw[MakeChecks.laidMetH_plain _ _ _<|by kernel_rfl]
end Go.Proofs.YtaeppjlndecijabGreatDoor
namespace Go.Proofs.YtaeppjlndecijabGreatDoor
open Go.ChangeShapes Go.WideShapes Go.ChangeAt Go.RowKit Go.AM
set_option maxRecDepth 100000 in
def ZCC{E:Env}(ok:EnvOk Tryz.prog E)(hgl:∀W:World,laidMetH Tryz.prog Rows.routeEndsRow.laid W->GlR E T0 (X0 Tryz.prog) W){n:Nat}{S:List (Bool×List CSh)}(hsum:E.sum 3=none)
 (hsig:sig Tryz.prog n Tryz.f3.params.toList=some S) (hspec:∀xs,Wvs S xs->pfn E 3 xs=some (.bool true)) (os:Os) (started:os.Started) (H:Type) (enc:TypeId×Value->H):
 ReturnsInHanded {} Tryz.checked os 3 .any (λw args=>(Rows.routeEndsSpec.pre enc Tryz.prog Tryz.f3 Rows.routeEndsRow.domain false w args/\laidMetH Tryz.prog Rows.routeEndsRow.laid w)/\sizedMet enc Tryz.prog Tryz.f3 (OpenSpec.ofChange Rows.routeEndsSpec) false w args)
  (Rows.routeEndsSpec.post enc Tryz.prog Tryz.f3 false true false false):=by
 refine returnsInHanded_of_change_and (C:=Tryz.checked) (X:=λw _=>laidMetH Tryz.prog Rows.routeEndsRow.laid w) (λ_ _ _ hh h=>h.of_heap hh) own started (by kernel_rfl) Tryz.func3
  (ChangeSpec.witness_shaped (enc:=enc) (C:=Tryz.checked) (os:=os) (X:=λw _=>laidMetH Tryz.prog Rows.routeEndsRow.laid w) false (World.laidAll Tryz.prog os Rows.routeEndsRow.laid) ZCi 3 (World.laidAll_os _ _ _)
   (World.shaped_of_ZipB (ZCx os)<|ZCy os) (ZCz os) (ZCA os H enc) (ZCB os H enc)
   (by rw[Z65];exact laidMet_laidAll _ (Z60 os)<|Z61 os)) ?_
 intro W base args ds gs before hval0 hW hc hwt hL _;exact Z5I ok hsum rfl hsig (tb:=4) (by kernel_rfl) Tryz.underlying4 (λds hl=>by
  have hl':ds.length=8:=hl
  match ds,hl' with
  |[d1,d2,d3,d4,d5,d6,d7,d8],_=>rfl) hspec W (hgl W hL) base args ds gs before hval0 hW hwt
def ZCD{E:Env}(ok:EnvOk Tryz.prog E)(hgl:∀W:World,laidMetH Tryz.prog Rows.routeEndsRow.laid W->GlR E T0 (X0 Tryz.prog) W){n:Nat}{S:List (Bool×List CSh)}(hsum:E.sum 3=none)
 (hsig:sig Tryz.prog n Tryz.f3.params.toList=some S) (hspec:∀xs,Wvs S xs->pfn E 3 xs=some (.bool true)):Rows.RouteEndsSaid:=
 OpenClaim.holds_of_wide 3 Tryz.f3 rfl rfl rfl rfl rfl rfl rfl ⟨rfl,rfl,rfl,rfl,rfl⟩ rfl rfl rfl rfl rfl (by kernel_rfl) Tryz.func3 ZCw
  (of_decide_eq_true<|by kernel_rfl) (by unfold Func.isWrapper;first|(rw[if_pos<|by decide +kernel];kernel_rfl)|(rw[if_neg<|by decide +kernel];exact⟨rfl,rfl⟩))
  (λos started H enc _=>ZCC ok hgl hsum hsig hspec os started H enc)
def Z68:true=Tryz.pinned.checked.prog.looks []:=by kernel_rfl
def Z69:Tryz.pinned.checked.prog.mainIs=some (true, "da6d4e38b1609271ba3f13c534749b50787b8a1ac96ea7ab5a2ed986ed866175".toList):=by kernel_rfl
def ZCE:(Tryz.f3.params.toList.all λu=>!Tryz.prog.wantsStandIn u)=true:=by kernel_rfl
def ZCF:Tryz.prog.funcNamed Rows.routeEndsRow.func=some 3:=by kernel_rfl
def ZCG(f:FuncId)(fn:Func)(hf:Tryz.pinned.checked.prog.funcNamed Rows.routeEndsRow.func=some f)(hfn:Tryz.pinned.checked.prog.funcs[f]?=some fn):
 true=Tryz.pinned.checked.prog.looks []/\∀(j:Nat)t,fn.params[j]?=some t->Tryz.pinned.checked.prog.wantsStandIn t=false:=by
 obtain rfl:3=f:=Option.some.inj<|ZCF.symm.trans hf;obtain rfl:Tryz.f3=fn:=Option.some.inj<|Tryz.func3.symm.trans hfn;refine⟨Z68,λj t ht=>?_⟩
 have hm:t∈Tryz.f3.params.toList:=by simpa using Array.mem_of_getElem? ht
 have:=List.all_eq_true.1 ZCE t hm;show Tryz.prog.wantsStandIn t=false
 simpa using this
def ZWK{P:Program}{c:OpenClaim}(h:P.funcs.toList.any Func.goes=false):c.goesBy P=false:=by
 have h':P.funcs.any Func.goes=false:=by rw[<-Array.any_toList];exact h
 have hg:∀f,P.goes f=false:=λf=>by
  unfold Program.goes;rw[h',Bool.and_false,Bool.or_false];refine List.any_eq_false.2 λg _=>?_
  cases hx:P.funcs[g]? with
  |none=>simp
  |some fn=>
   have hm:=Array.mem_of_getElem? hx;have:=List.any_eq_false.1 h fn<|by simpa using hm
   simpa using this
 have hg':P.goes=λ_=>false:=funext hg
 unfold OpenClaim.goesBy Program.goesAt Program.goesFrom;rw[hg'];cases P.funcNamed c.func<;>cases c.start<;>simp
def ZCH:false=Rows.routeEndsRow.goesBy Tryz.pinned.checked.prog:=(ZWK (P:=Tryz.prog)<|by kernel_rfl).symm
def ZCI{E:Env}(ok:EnvOk Tryz.prog E)(hgl:∀W:World,laidMetH Tryz.prog Rows.routeEndsRow.laid W->GlR E T0 (X0 Tryz.prog) W){n:Nat}{S:List (Bool×List CSh)}(hsum:E.sum 3=none)
 (hsig:sig Tryz.prog n Tryz.f3.params.toList=some S) (hspec:∀xs,Wvs S xs->pfn E 3 xs=some (.bool true)):Rows.RouteEndsCardSaid:=
 Claim7.holds_tied_plain_at .later [] _ _ _ _ (ZCD ok hgl hsum hsig hspec) (λ_ h=>by cases h) (by kernel_rfl) (λ_ h=>by cases h) routeEnds_row_tie rfl ⟨rfl,rfl⟩ Z69 rfl ZCG ZCH
end Go.Proofs.YtaeppjlndecijabGreatDoor
