/- From the abstract machine to the tied card of the statement TicketLater. No condition. -/
import Derived.Test.YtnjibjdmniajjaaGreatDoorQ4
import Derived.Test.YtnjibjdmniajjaaGreatDoorCards
import Derived.Test.YtnjibjdmniajjaaGreatDoorTie
import Derived.JoinedOf
import Derived.JoinedCond
import Derived.Lay
import Derived.LaidMore
import Derived.SevenTiedAt
import Derived.Stop.Joined
set_option linter.unusedVariables false
set_option linter.defProp false
set_option linter.unusedSimpArgs false
set_option linter.unusedSectionVars false
namespace Go.Proofs.YtnjibjdmniajjaaGreatDoor
open Go
def Z5J{P:Program}(h1:(behindMainWord<|wordsSigns P.initOrder.toList).head?=some "cut".toList)(h2:P.laysLater=false)(h3:P.bearsReflect=false)(h4:P.doorFits []=true):P.mayEnter=true:=by
 unfold Program.mayEnter;cases h:behindMainWord (wordsSigns P.initOrder.toList)with
 |nil=>rw[h]at h1;cases h1
 |cons c rest=>
  rw[h]at h1;obtain rfl:c = "cut".toList:=Option.some.inj h1;have hs:stripLifts liftWords ("cut".toList::rest)=([], "cut".toList::rest):=by
   rfl
  simp only[hs,h2,h3,h4,List.head?_cons];simp
def me1:(behindMainWord<|wordsSigns Tryz.prog.initOrder.toList).head?=some "cut".toList:=by kernel_rfl
def me2:Tryz.prog.laysLater=false:=by kernel_rfl
def me3:Tryz.prog.bearsReflect=false:=by kernel_rfl
def me4:Tryz.prog.doorFits []=true:=by kernel_rfl
def Z5K:Tryz.prog.mayEnter=true:=Z5J me1 me2 me3 me4
def Z5L{P:Program}{f:FuncId}{fn:Func}{s:ChangeSpec}{c:OpenClaim}
 (k1:c.wf (OpenSpec.ofChange s)=true) (k2:laidOutB P=true) (k3:mapsRowed P=true) (k4:fn.params.all (P.readableRec ·)=true) (k5:namedTie P c.named s.vars=true)
 (k6:(c.stops==[])=true) (k7:(P.stops==[])=true) (k8:(c.knobs==[])=true) (k9:(P.stopKnobs==[])=true)
 (k10:(c.inPlace==P.inPlace f)=true) (k11:(c.unfollowed==P.unfollowed f)=true) (k12:(c.recurses==P.recurses f)=true) (k13:(c.named==P.varsNamed f)=true)
 (k14:(c.maps==(fn.params.toList++s.plain.varTypes P).any (P.mapsRec ·))=true) (k15:(c.ifaces==(fn.params.toList++s.plain.varTypes P).any (P.ifacesRec ·))=true) (k16:(c.mapsOut==P.mapsAmong fn.resultTypes.toList)=true)
 (k17:(c.loops==(fn.params.toList++s.plain.varTypes P).any (P.loopsFrom ·))=true) (k17b:(c.wideKeys==(fn.params.toList++s.plain.varTypes P++fn.resultTypes.toList).any (P.wideKeysFrom ·))=true)
 (k18:s.vars.all (P.varReadable ·)=true) (k19:fn.resultTypes.all (λt=>P.readableRec t&&decide (t<P.types.size))=true) (k20:(c.ifacesOut==fn.resultTypes.toList.any (P.ifacesRec ·))=true) (k21:(c.loopsOut==fn.resultTypes.toList.any (P.loopsFrom ·))=true)
 (k22:(c.plainKeys==P.plainKeys)=true) (k23:c.shortTexts.isNone=true) (k23b:P.stopsHeard=true) (k24:P.mayEnter=true) (k24b:(c.lifted==P.liftsFinal)=true) (k24c:(P.make==some c.make)=true)
 (k25:(c.kinds==(if c.domain.isEmpty then []else fn.params.toList.map λt=>match P.underlying t with|some (.int k)=>some k|_=>none))=true) (k26:(c.pinned==c.pinnedBy)=true)
 (k27:(c.veiled==(fn.params.toList++s.plain.varTypes P++fn.resultTypes.toList).any (P.veiledRec ·))=true) (k28:c.veiledFits P fn.params.toList (fn.params.toList++s.plain.varTypes P++fn.resultTypes.toList)=true):
 joinedFacts P f fn s c=true:=by
 unfold joinedFacts
 repeat' (first|assumption|(refine Bool.and_eq_true_iff.mpr ⟨?_,?_⟩))
def Z5M:laidOutB Tryz.prog=true:=by kernel_rfl
def Z5N:mapsRowed Tryz.prog=true:=by kernel_rfl
def Z5O:(Tryz.prog.stops==[])=true:=by kernel_rfl
def Z5P:(Tryz.prog.stopKnobs==[])=true:=by kernel_rfl
def Z5Q:Tryz.prog.stopsHeard=true:=by kernel_rfl
def own:ownKnob Tryz.prog.godebug=none:=by kernel_rfl
end Go.Proofs.YtnjibjdmniajjaaGreatDoor
namespace Go.Proofs.YtnjibjdmniajjaaGreatDoor
open Go.ChangeShapes Go.WideShapes Go.ChangeAt Go.RowKit Go.AM
def Zo4:(Rows.ticketLaterRow.inPlace==Tryz.prog.inPlace 4)=true:=by kernel_rfl
def Zo5:(Rows.ticketLaterRow.unfollowed==Tryz.prog.unfollowed 4)=true:=by kernel_rfl
def Zo6:(Rows.ticketLaterRow.recurses==Tryz.prog.recurses 4)=true:=by kernel_rfl
def Zo7:(Rows.ticketLaterRow.named==Tryz.prog.varsNamed 4)=true:=by kernel_rfl
def Zo8:(Rows.ticketLaterRow.lifted==Tryz.prog.liftsFinal)=true:=by kernel_rfl
def Zo9:(Tryz.prog.make==some Rows.ticketLaterRow.make)=true:=by kernel_rfl
def Zoa:joinedFacts Tryz.prog 4 Tryz.f4 Rows.ticketLaterSpec Rows.ticketLaterRow=true:=
 Z5L (by kernel_rfl) Z5M Z5N (by kernel_rfl) (by kernel_rfl) (by kernel_rfl) Z5O (by kernel_rfl) Z5P Zo4 Zo5 Zo6 Zo7 (by kernel_rfl) (by kernel_rfl) (by kernel_rfl)
  (by kernel_rfl) (by kernel_rfl) (by kernel_rfl) (by kernel_rfl) (by kernel_rfl) (by kernel_rfl) (by kernel_rfl) (by kernel_rfl) Z5Q Z5K Zo8 Zo9 (by kernel_rfl) (by kernel_rfl) (by kernel_rfl) (by kernel_rfl)
end Go.Proofs.YtnjibjdmniajjaaGreatDoor
namespace Go.Proofs.YtnjibjdmniajjaaGreatDoor
open Go.ChangeShapes Go.WideShapes Go.ChangeAt Go.RowKit Go.AM
noncomputable def zv(t:TypeId):Value:=match Tryz.prog.info? t with|some i=>i.zero.getD (.bool false)|none=>.bool false
noncomputable def Zo3:Array Value:=#[zv 34,zv 23,.int .i64 0,.int .i64 0,.int .u16 0]
def Zob(os:Os):((World.laidAll Tryz.prog os Rows.ticketLaterRow.laid).forCall (λ_ _=>0) ⟨#[],Zo3,[]⟩).variablesZipB Tryz.prog=true:=by kernel_rfl
def Zoc(os:Os):(((World.laidAll Tryz.prog os Rows.ticketLaterRow.laid).forCall (λ_ _=>0) ⟨#[],Zo3,[]⟩).heap.toList.drop Tryz.prog.globals.size).take ((begin Tryz.prog (λ_ _=>0) default).world.heap.size-Tryz.prog.globals.size)=(begin Tryz.prog (λ_ _=>0) default).world.heap.toList.drop Tryz.prog.globals.size:=by kernel_rfl
def Z60(os:Os):(World.holding Tryz.prog os ⟨#[],#[],[]⟩).layFits Tryz.prog Rows.ticketLaterRow.laid []=true:=by kernel_rfl
def Z61(os:Os):(World.holding Tryz.prog os ⟨#[],#[],[]⟩).layIfaces Tryz.prog Rows.ticketLaterRow.laid (World.laidAll Tryz.prog os Rows.ticketLaterRow.laid)=true:=by kernel_rfl
def Zod(os:Os):Input.okWideB Tryz.prog ((World.laidAll Tryz.prog os Rows.ticketLaterRow.laid).forCall (λ_ _=>0) ⟨#[],Zo3,[]⟩) 4 ⟨#[],Zo3,[]⟩=true:=by kernel_rfl
def Zoe(os:Os)(H:Type)(enc:TypeId×Value->H):Rows.ticketLaterSpec.preB enc Tryz.prog Tryz.f4 Rows.ticketLaterRow.domain false ((World.laidAll Tryz.prog os Rows.ticketLaterRow.laid).forCall (λ_ _=>0) ⟨#[],Zo3,[]⟩).memory Zo3 4=true:=by kernel_rfl
def Zof(os:Os)(H:Type)(enc:TypeId×Value->H):Rows.ticketLaterSpec.sizedB enc Tryz.prog Tryz.f4 false ((World.laidAll Tryz.prog os Rows.ticketLaterRow.laid).forCall (λ_ _=>0) ⟨#[],Zo3,[]⟩).memory Zo3 4=true:=by kernel_rfl
def Z65{W:World}:laidMetH Tryz.prog Rows.ticketLaterRow.laid W=laidMet Tryz.prog Rows.ticketLaterRow.laid W:=by
 rw[MakeChecks.laidMetH_plain _ _ _<|by kernel_rfl]
end Go.Proofs.YtnjibjdmniajjaaGreatDoor
namespace Go.Proofs.YtnjibjdmniajjaaGreatDoor
open Go.ChangeShapes Go.WideShapes Go.ChangeAt Go.RowKit Go.AM
set_option maxRecDepth 100000 in
def Zog{E:Env}(ok:EnvOk Tryz.prog E)(hgl:∀W:World,laidMetH Tryz.prog Rows.ticketLaterRow.laid W->GlR E T0 (X0 Tryz.prog) W){n:Nat}{S:List (Bool×List CSh)}(hsum:E.sum 4=none)
 (hsig:sig Tryz.prog n Tryz.f4.params.toList=some S) (hspec:∀xs,Wvs S xs->pfn E 4 xs=some (.bool true)) (os:Os) (started:os.Started) (H:Type) (enc:TypeId×Value->H):
 ReturnsInHanded {} Tryz.checked os 4 .any (λw args=>(Rows.ticketLaterSpec.pre enc Tryz.prog Tryz.f4 Rows.ticketLaterRow.domain false w args/\laidMetH Tryz.prog Rows.ticketLaterRow.laid w)/\sizedMet enc Tryz.prog Tryz.f4 (OpenSpec.ofChange Rows.ticketLaterSpec) false w args)
  (Rows.ticketLaterSpec.post enc Tryz.prog Tryz.f4 false true false false):=by
 refine returnsInHanded_of_change_and (C:=Tryz.checked) (X:=λw _=>laidMetH Tryz.prog Rows.ticketLaterRow.laid w) (λ_ _ _ hh h=>h.of_heap hh) own started (by kernel_rfl) Tryz.func4
  (ChangeSpec.witness_shaped (enc:=enc) (C:=Tryz.checked) (os:=os) (X:=λw _=>laidMetH Tryz.prog Rows.ticketLaterRow.laid w) false (World.laidAll Tryz.prog os Rows.ticketLaterRow.laid) Zo3 4 (World.laidAll_os _ _ _)
   (World.shaped_of_ZipB (Zob os)<|Zoc os) (Zod os) (Zoe os H enc) (Zof os H enc)
   (by rw[Z65];exact laidMet_laidAll _ (Z60 os)<|Z61 os)) ?_
 intro W base args ds gs before hval0 hW hc hwt hL _;exact Z5I ok hsum rfl hsig (tb:=4) (by kernel_rfl) Tryz.underlying4 (λds hl=>by
  have hl':ds.length=5:=hl
  match ds,hl' with
  |[d1,d2,d3,d4,d5],_=>rfl) hspec W (hgl W hL) base args ds gs before hval0 hW hwt
def Zoh{E:Env}(ok:EnvOk Tryz.prog E)(hgl:∀W:World,laidMetH Tryz.prog Rows.ticketLaterRow.laid W->GlR E T0 (X0 Tryz.prog) W){n:Nat}{S:List (Bool×List CSh)}(hsum:E.sum 4=none)
 (hsig:sig Tryz.prog n Tryz.f4.params.toList=some S) (hspec:∀xs,Wvs S xs->pfn E 4 xs=some (.bool true)):Rows.TicketLaterSaid:=
 OpenClaim.holds_of_wide 4 Tryz.f4 rfl rfl rfl rfl rfl rfl rfl ⟨rfl,rfl,rfl,rfl,rfl⟩ rfl rfl rfl rfl rfl (by kernel_rfl) Tryz.func4 Zoa
  (of_decide_eq_true<|by kernel_rfl) (by unfold Func.isWrapper;first|(rw[if_pos<|by decide +kernel];kernel_rfl)|(rw[if_neg<|by decide +kernel];exact⟨rfl,rfl⟩))
  (λos started H enc _=>Zog ok hgl hsum hsig hspec os started H enc)
def Z68:true=Tryz.pinned.checked.prog.looks []:=by kernel_rfl
def Z69:Tryz.pinned.checked.prog.mainIs=some (true, "547e70480cc4146132ca837ad957b6d7f81f324d4e9162f772dd0b4ba4d7bb58".toList):=by kernel_rfl
def Zoi:(Tryz.f4.params.toList.all λu=>!Tryz.prog.wantsStandIn u)=true:=by kernel_rfl
def Zoj:Tryz.prog.funcNamed Rows.ticketLaterRow.func=some 4:=by kernel_rfl
def Zok(f:FuncId)(fn:Func)(hf:Tryz.pinned.checked.prog.funcNamed Rows.ticketLaterRow.func=some f)(hfn:Tryz.pinned.checked.prog.funcs[f]?=some fn):
 true=Tryz.pinned.checked.prog.looks []/\∀(j:Nat)t,fn.params[j]?=some t->Tryz.pinned.checked.prog.wantsStandIn t=false:=by
 obtain rfl:4=f:=Option.some.inj<|Zoj.symm.trans hf;obtain rfl:Tryz.f4=fn:=Option.some.inj<|Tryz.func4.symm.trans hfn;refine⟨Z68,λj t ht=>?_⟩
 have hm:t∈Tryz.f4.params.toList:=by simpa using Array.mem_of_getElem? ht
 have:=List.all_eq_true.1 Zoi t hm;show Tryz.prog.wantsStandIn t=false
 simpa using this
def Zol:false=Rows.ticketLaterRow.goesBy Tryz.pinned.checked.prog:=by kernel_rfl
def Zom{E:Env}(ok:EnvOk Tryz.prog E)(hgl:∀W:World,laidMetH Tryz.prog Rows.ticketLaterRow.laid W->GlR E T0 (X0 Tryz.prog) W){n:Nat}{S:List (Bool×List CSh)}(hsum:E.sum 4=none)
 (hsig:sig Tryz.prog n Tryz.f4.params.toList=some S) (hspec:∀xs,Wvs S xs->pfn E 4 xs=some (.bool true)):Rows.TicketLaterCardSaid:=
 Claim7.holds_tied_plain_at .later [] _ _ _ _ (Zoh ok hgl hsum hsig hspec) (λ_ h=>by cases h) (by kernel_rfl) (λ_ h=>by cases h) ticketLater_row_tie rfl ⟨rfl,rfl⟩ Z69 rfl Zok Zol
end Go.Proofs.YtnjibjdmniajjaaGreatDoor
