/- From the abstract machine to the tied card of the statement TicketIssues. No condition. -/
import Derived.Test.YtnjibjdmniajjaaGreatDoorQ4
import Derived.Test.YtnjibjdmniajjaaGreatDoorCards
import Derived.Test.YtnjibjdmniajjaaGreatDoorTie
import Derived.JoinedOf
import Derived.JoinedCond
import Derived.Lay
import Derived.LaidMore
import Derived.SevenTiedAt
import Derived.Stop.Joined
set_option linter.unusedVariables false
set_option linter.defProp false
set_option linter.unusedSimpArgs false
set_option linter.unusedSectionVars false
namespace Go.AM
open Go
section
variable {H:Type} {enc:TypeId×Value→H} {P:Program}
def ZUn(P:Program):List TypeId->List AV->List (DataW H)->Prop
 |t::ts,a::aS,d::ds=>(∀s,P.underlying t=some .string->a=.str s->d=.lit (.string s.data.toList))/\ZUn P ts aS ds
 |_,_,_=>True
def ZUD{held:Bool}{w:World}:∀{ts:List TypeId}{vs:List Value}{ds:List (DataW H)}{ps:List MemPlace}{aS:List AV},DataW.TrodAll enc P w 0 (λ_=>true) held ts vs ds ps->Rs T0 (X0 P) w aS vs->ZUn P ts aS ds
 |[],_,_,_,_,_,_=>trivial
 |_::_,_,_,_,[],_,_=>trivial
 |t::ts,vs,ds,ps,a::aS,h,hr=>by
  obtain⟨v,vr,rfl,h1,h2⟩:=hr;cases ds with
  |nil=>exact trivial
  |cons d ds=>
   obtain⟨p,q,⟨fuel,h3⟩,h4,_⟩:=h;refine⟨λs hu ha=>?_,ZUD h4 h2⟩
   subst ha;have hv:v=.string s:=h1;subst hv;cases fuel with
   |zero=>simp[DataW.trod]at h3
   |succ fuel=>
    rw[DataW.trod_step]at h3;unfold DataW.trodStep at h3;rw[hu]at h3;simp only[Value.cells]at h3;split at h3
    .cases h3;rfl
    .cases h3
def ZUT{E:Env}(ok:EnvOk P E){f:Nat}{fn:Func}{s:ChangeSpec}{n:Nat}{S:List (Bool×List CSh)}{tb:TypeId}(hsum:E.sum f=none)(hvars:s.vars=[])(hsig:sig P n fn.params.toList=some S)
 (hres:fn.resultTypes = #[tb]) (htb:P.underlying tb=some .bool) (hfn:∀ds:List<|DataW H,ds.length=fn.params.size->s.fn H ds={results:=[.lit<|.bool true],args:=ds})
 (W:World) (hgl:GlR E T0 (X0 P) W) (base:Nat) (args:Array Value) (ds gs:List<|DataW H) (before:List MemPlace)
 (hspec:∀aS,Wvs S aS->ZUn P fn.params.toList aS ds->pfn E f aS=some (.bool true))
 (hval:∀(j:Nat)t v,fn.params[j]?=some t->args[j]?=some v->Value.okWide P W .any base t v)
 (hW:DataW.Whole enc P fn.params.toList s.vars false W args.toList ds gs before) {us:List TypeId} (hwt:(DataW.weightsEach P (fn.params.toList++us)<|ds++gs).all (·<=reachBytes)=true):
 Calls P f args W λe W'=>∃v,e=.returned v/\s.post enc P fn false true false false W args v W':=by
 have hW':=hW;obtain⟨p,q,hA,hV,rfl,hfz,hnd⟩:=hW;obtain⟨aS,h1,h2⟩:=readAll hsig (λj t v h1 h2=>hval j t v (by simpa using h1)<|by simpa using h2) hA (λm hm=>by
  have:=List.all_eq_true.1 hwt m<|Zz6 (ZAU _ _ _ _ hA) m hm;simpa using this)
 obtain⟨k,h',hrun⟩:=Z5H hsum<|hspec aS h1<|ZUD hA h2;have hc:=((TM ok k).body f aS [] (.bool true) h' hrun T0 (X0 P) W args rfl ⟨Z5E W,hgl,λr hr=>hr.elim⟩ h2).2
 refine hc.mono λe W'⟨rv,he,T',st,m,hr⟩=>⟨rv,he,?_⟩
 have hr':rv=.bool true:=hr;subst hr';rw[hvars]at hV;have hgq:gs=[]/\q=[]:=by
  cases gs with
  |nil=>exact⟨rfl,hV⟩
  |cons g gs=>exact hV.elim
 obtain⟨rfl,rfl⟩:=hgq;have hlen:ds.length=fn.params.size:=by
  simpa using ZAU _ _ _ _ hA
 have hlt:∀x∈p,x.block<W.heap.size:=λx hx=>hW'.lt x<|by simpa using hx
 have hsame:∀x:MemPlace,x.block<W.heap.size->W.sameAt W' x:=by
  intro x hx;have hk:=st.keep x.block hx<|JM _;cases x with
  |cell b o=>
   have hk':W'.heap[b]?=W.heap[b]?:=hk;simp only[World.sameAt,World.cell?,hk']
  |map b=>exact hk
 have hk:W.keptBut W' (λ_=>False):=Z5D W W' st.os st.output<|λi hi=>st.keep i hi<|JM _
 refine⟨ds,[],p++[],[],p,[],hW',?_,?_,?_,World.keptBut_mono (λ_ h=>h.elim) hk,nofun⟩
 .rw[List.append_nil,hfn ds hlen,hres];exact⟨[],[],⟨1,by rw[DataW.trod_step];unfold DataW.trodStep;rw[htb];rfl⟩,rfl,rfl⟩
 .rw[List.append_nil,hfn ds hlen];exact C7 hsig hA<|λx hx=>⟨by simpa using hlt x hx,hsame x<|hlt x hx⟩
 .rw[hvars,List.append_nil,hfn ds hlen];rfl
end
end Go.AM
namespace Go.Proofs.YtnjibjdmniajjaaGreatDoor
open Go
def Z5J{P:Program}(h1:(behindMainWord<|wordsSigns P.initOrder.toList).head?=some "cut".toList)(h2:P.laysLater=false)(h3:P.bearsReflect=false)(h4:P.doorFits []=true):P.mayEnter=true:=by
 unfold Program.mayEnter;cases h:behindMainWord (wordsSigns P.initOrder.toList)with
 |nil=>rw[h]at h1;cases h1
 |cons c rest=>
  rw[h]at h1;obtain rfl:c = "cut".toList:=Option.some.inj h1;have hs:stripLifts liftWords ("cut".toList::rest)=([], "cut".toList::rest):=by
   rfl
  simp only[hs,h2,h3,h4,List.head?_cons];simp
def me1:(behindMainWord<|wordsSigns Tryz.prog.initOrder.toList).head?=some "cut".toList:=by kernel_rfl
def me2:Tryz.prog.laysLater=false:=by kernel_rfl
def me3:Tryz.prog.bearsReflect=false:=by kernel_rfl
def me4:Tryz.prog.doorFits []=true:=by kernel_rfl
def Z5K:Tryz.prog.mayEnter=true:=Z5J me1 me2 me3 me4
def Z5L{P:Program}{f:FuncId}{fn:Func}{s:ChangeSpec}{c:OpenClaim}
 (k1:c.wf (OpenSpec.ofChange s)=true) (k2:laidOutB P=true) (k3:mapsRowed P=true) (k4:fn.params.all (P.readableRec ·)=true) (k5:namedTie P c.named s.vars=true)
 (k6:(c.stops==[])=true) (k7:(P.stops==[])=true) (k8:(c.knobs==[])=true) (k9:(P.stopKnobs==[])=true)
 (k10:(c.inPlace==P.inPlace f)=true) (k11:(c.unfollowed==P.unfollowed f)=true) (k12:(c.recurses==P.recurses f)=true) (k13:(c.named==P.varsNamed f)=true)
 (k14:(c.maps==(fn.params.toList++s.plain.varTypes P).any (P.mapsRec ·))=true) (k15:(c.ifaces==(fn.params.toList++s.plain.varTypes P).any (P.ifacesRec ·))=true) (k16:(c.mapsOut==P.mapsAmong fn.resultTypes.toList)=true)
 (k17:(c.loops==(fn.params.toList++s.plain.varTypes P).any (P.loopsFrom ·))=true) (k17b:(c.wideKeys==(fn.params.toList++s.plain.varTypes P++fn.resultTypes.toList).any (P.wideKeysFrom ·))=true)
 (k18:s.vars.all (P.varReadable ·)=true) (k19:fn.resultTypes.all (λt=>P.readableRec t&&decide (t<P.types.size))=true) (k20:(c.ifacesOut==fn.resultTypes.toList.any (P.ifacesRec ·))=true) (k21:(c.loopsOut==fn.resultTypes.toList.any (P.loopsFrom ·))=true)
 (k22:(c.plainKeys==P.plainKeys)=true) (k23:c.shortTexts.isNone=true) (k23b:P.stopsHeard=true) (k24:P.mayEnter=true) (k24b:(c.lifted==P.liftsFinal)=true) (k24c:(P.make==some c.make)=true)
 (k25:(c.kinds==(if c.domain.isEmpty then []else fn.params.toList.map λt=>match P.underlying t with|some (.int k)=>some k|_=>none))=true) (k26:(c.pinned==c.pinnedBy)=true)
 (k27:(c.veiled==(fn.params.toList++s.plain.varTypes P++fn.resultTypes.toList).any (P.veiledRec ·))=true) (k28:c.veiledFits P fn.params.toList (fn.params.toList++s.plain.varTypes P++fn.resultTypes.toList)=true):
 joinedFacts P f fn s c=true:=by
 unfold joinedFacts
 repeat' (first|assumption|(refine Bool.and_eq_true_iff.mpr ⟨?_,?_⟩))
def Z5M:laidOutB Tryz.prog=true:=by kernel_rfl
def Z5N:mapsRowed Tryz.prog=true:=by kernel_rfl
def Z5O:(Tryz.prog.stops==[])=true:=by kernel_rfl
def Z5P:(Tryz.prog.stopKnobs==[])=true:=by kernel_rfl
def Z5Q:Tryz.prog.stopsHeard=true:=by kernel_rfl
def own:ownKnob Tryz.prog.godebug=none:=by kernel_rfl
end Go.Proofs.YtnjibjdmniajjaaGreatDoor
namespace Go.Proofs.YtnjibjdmniajjaaGreatDoor
open Go.ChangeShapes Go.WideShapes Go.ChangeAt Go.RowKit Go.AM
def ZCq:(Rows.ticketIssuesUptoRow.inPlace==Tryz.prog.inPlace 3)=true:=by kernel_rfl
def ZCr:(Rows.ticketIssuesUptoRow.unfollowed==Tryz.prog.unfollowed 3)=true:=by kernel_rfl
def ZCs:(Rows.ticketIssuesUptoRow.recurses==Tryz.prog.recurses 3)=true:=by kernel_rfl
def ZCt:(Rows.ticketIssuesUptoRow.named==Tryz.prog.varsNamed 3)=true:=by kernel_rfl
def ZCu:(Rows.ticketIssuesUptoRow.lifted==Tryz.prog.liftsFinal)=true:=by kernel_rfl
def ZCv:(Tryz.prog.make==some Rows.ticketIssuesUptoRow.make)=true:=by kernel_rfl
def ZCw:joinedFacts Tryz.prog 3 Tryz.f3 (Rows.OpenSpec.upto Rows.ticketIssuesSpec).bare Rows.ticketIssuesUptoRow=true:=
 Z5L (by kernel_rfl) Z5M Z5N (by kernel_rfl) (by kernel_rfl) (by kernel_rfl) Z5O (by kernel_rfl) Z5P ZCq ZCr ZCs ZCt (by kernel_rfl) (by kernel_rfl) (by kernel_rfl)
  (by kernel_rfl) (by kernel_rfl) (by kernel_rfl) (by kernel_rfl) (by kernel_rfl) (by kernel_rfl) (by kernel_rfl) (by kernel_rfl) Z5Q Z5K ZCu ZCv (by kernel_rfl) (by kernel_rfl) (by kernel_rfl) (by kernel_rfl)
end Go.Proofs.YtnjibjdmniajjaaGreatDoor
namespace Go.Proofs.YtnjibjdmniajjaaGreatDoor
open Go.ChangeShapes Go.WideShapes Go.ChangeAt Go.RowKit Go.AM
noncomputable def zv(t:TypeId):Value:=match Tryz.prog.info? t with|some i=>i.zero.getD (.bool false)|none=>.bool false
noncomputable def ZCi:Array Value:=#[zv 9,zv 9,.int .i64 0,zv 9,.int .i64 0,zv 23]
def ZCx(os:Os):((World.laidAll Tryz.prog os Rows.ticketIssuesUptoRow.laid).forCall (λ_ _=>0) ⟨#[],ZCi,[]⟩).variablesZipB Tryz.prog=true:=by kernel_rfl
def ZCy(os:Os):(((World.laidAll Tryz.prog os Rows.ticketIssuesUptoRow.laid).forCall (λ_ _=>0) ⟨#[],ZCi,[]⟩).heap.toList.drop Tryz.prog.globals.size).take ((begin Tryz.prog (λ_ _=>0) default).world.heap.size-Tryz.prog.globals.size)=(begin Tryz.prog (λ_ _=>0) default).world.heap.toList.drop Tryz.prog.globals.size:=by kernel_rfl
def Z60(os:Os):(World.holding Tryz.prog os ⟨#[],#[],[]⟩).layFits Tryz.prog Rows.ticketIssuesUptoRow.laid []=true:=by kernel_rfl
def Z61(os:Os):(World.holding Tryz.prog os ⟨#[],#[],[]⟩).layIfaces Tryz.prog Rows.ticketIssuesUptoRow.laid (World.laidAll Tryz.prog os Rows.ticketIssuesUptoRow.laid)=true:=by kernel_rfl
def ZCz(os:Os):Input.okWideB Tryz.prog ((World.laidAll Tryz.prog os Rows.ticketIssuesUptoRow.laid).forCall (λ_ _=>0) ⟨#[],ZCi,[]⟩) 3 ⟨#[],ZCi,[]⟩=true:=by kernel_rfl
def ZCA(os:Os)(H:Type)(enc:TypeId×Value->H):(match DataW.whole enc Tryz.prog ((World.laidAll Tryz.prog os Rows.ticketIssuesUptoRow.laid).forCall (λ_ _=>0) ⟨#[],ZCi,[]⟩).memory Tryz.f3.params.toList [] false ZCi.toList 8 with|some x=>Rows.uptoSmall H (x.1++x.2.1)|none=>false)=true:=by kernel_rfl
def ZCB(os:Os)(H:Type)(enc:TypeId×Value->H):(Rows.OpenSpec.upto Rows.ticketIssuesSpec).bare.sizedB enc Tryz.prog Tryz.f3 false ((World.laidAll Tryz.prog os Rows.ticketIssuesUptoRow.laid).forCall (λ_ _=>0) ⟨#[],ZCi,[]⟩).memory ZCi 8=true:=by kernel_rfl
def Z65{W:World}:laidMetH Tryz.prog Rows.ticketIssuesUptoRow.laid W=laidMet Tryz.prog Rows.ticketIssuesUptoRow.laid W:=by
 rw[MakeChecks.laidMetH_plain _ _ _<|by kernel_rfl]
end Go.Proofs.YtnjibjdmniajjaaGreatDoor
namespace Go.Proofs.YtnjibjdmniajjaaGreatDoor
open Go.ChangeShapes Go.WideShapes Go.ChangeAt Go.RowKit Go.AM
def ZUE:Tryz.prog.underlying 9=some .string:=by kernel_rfl
def ZUF:Tryz.f3.params.toList=[9,9,3,9,3,23]:=by kernel_rfl
def ZUG{H:Type}{s:ByteArray}{ds:List (DataW H)}(h:Rows.uptoBulkAll (DataW.lit (.string s.data.toList)::ds)<=1048576):s.size<=1100000:=by
 rw[Rows.uptoBulkAll,Rows.uptoBulk]at h;have e:s.data.toList.length=s.size:=by rw[Array.length_toList];rfl
 omega
def ZUo{H:Type}{d:DataW H}{ds:List (DataW H)}(h:Rows.uptoBulkAll (d::ds)<=1048576):Rows.uptoBulkAll ds<=1048576:=by
 rw[Rows.uptoBulkAll]at h;omega
def ZUU{H:Type}:∀{ds gs:List (DataW H)},Rows.uptoBulkAll (ds++gs)<=1048576->Rows.uptoBulkAll ds<=1048576
 |[],_,_=>by rw[Rows.uptoBulkAll];omega
 |d::ds,gs,h=>by
  rw[List.cons_append,Rows.uptoBulkAll]at h;have:∀(l m:List<|DataW H),Rows.uptoBulkAll l<=Rows.uptoBulkAll (l++m):=by
   intro l m;induction l with
   |nil=>rw[Rows.uptoBulkAll];omega
   |cons a l ih=>rw[List.cons_append,Rows.uptoBulkAll,Rows.uptoBulkAll];omega
  have:=this ds gs;rw[Rows.uptoBulkAll];omega
set_option maxRecDepth 100000 in
def ZCC{E:Env}(ok:EnvOk Tryz.prog E)(hgl:∀W:World,laidMetH Tryz.prog Rows.ticketIssuesUptoRow.laid W->GlR E T0 (X0 Tryz.prog) W){n:Nat}{S:List (Bool×List CSh)}(hsum:E.sum 3=none)
 (hsig:sig Tryz.prog n Tryz.f3.params.toList=some S) (hspec:∀xs,Wvs S xs->(∀s,xs[0]?=some (.str s)->s.size<=1100000)->(∀s,xs[3]?=some (.str s)->s.size<=1100000)->pfn E 3 xs=some (.bool true)) (os:Os) (started:os.Started) (H:Type) (enc:TypeId×Value->H):
 ReturnsInHanded {} Tryz.checked os 3 .any (λw args=>((Rows.OpenSpec.upto Rows.ticketIssuesSpec).pre enc Tryz.prog Tryz.f3 Rows.ticketIssuesUptoRow.domain false w args/\laidMetH Tryz.prog Rows.ticketIssuesUptoRow.laid w)/\sizedMet enc Tryz.prog Tryz.f3 (Rows.OpenSpec.upto Rows.ticketIssuesSpec) false w args)
  (Rows.ticketIssuesSpec.post enc Tryz.prog Tryz.f3 false true false false):=by
 have hwit:∃ds gs before,DataW.Whole enc Tryz.prog Tryz.f3.params.toList [] false ((World.laidAll Tryz.prog os Rows.ticketIssuesUptoRow.laid).forCall (λ_ _=>0) ⟨#[],ZCi,[]⟩).memory ZCi.toList ds gs before/\Rows.uptoSmall H (ds++gs)=true:=by
  have h:=ZCA os H enc;cases hx:DataW.whole enc Tryz.prog ((World.laidAll Tryz.prog os Rows.ticketIssuesUptoRow.laid).forCall (λ_ _=>0) ⟨#[],ZCi,[]⟩).memory Tryz.f3.params.toList [] false ZCi.toList 8 with
  |none=>rw[hx]at h;cases h
  |some x=>
   rw[hx]at h;exact⟨x.1,x.2.1,x.2.2,DataW.Whole_of_whole hx,h⟩
 obtain⟨ds0,gs0,be0,hw0,hs0⟩:=hwit;have hok:=ZCz os;have hsz:sizedMet enc Tryz.prog Tryz.f3 (OpenSpec.ofChange (Rows.OpenSpec.upto Rows.ticketIssuesSpec).bare) false ((World.laidAll Tryz.prog os Rows.ticketIssuesUptoRow.laid).forCall (λ_ _=>0) ⟨#[],ZCi,[]⟩).memory ZCi:=sizedMet_of_sizedB<|ZCB os H enc
 refine returnsInHanded_of_calls own started (by kernel_rfl)
  ⟨World.laidAll Tryz.prog os Rows.ticketIssuesUptoRow.laid,λ_ _=>0,⟨#[],ZCi,[]⟩,World.laidAll_os _ _ _,World.shaped_of_ZipB (ZCx os)<|ZCy os,(Input.okWide_of_okWideB (base:=0) hok).1,(Input.okWide_of_okWideB hok).2,
   ⟨⟨(OpenSpec.pre_some (s:=Rows.OpenSpec.upto Rows.ticketIssuesSpec) rfl _ _ _ _).2 ⟨ds0,gs0,be0,hw0,rfl,hs0⟩,by rw[Z65];exact laidMet_laidAll _ (Z60 os)<|Z61 os⟩,hsz⟩,by
     simp only[Assume.holds];exact⟨by simp,by simp,λ_=>Modest.zero,by simp,by simp⟩⟩ ?_
 intro w tape i _ _ _ hokw hpre hholds;obtain⟨_,_,_,fn',hfn',_,_,_,_,hval⟩:=hokw;have e:fn'=Tryz.f3:=Option.some.inj<|hfn'.symm.trans Tryz.func3;subst e;obtain⟨⟨hp,hx⟩,hz⟩:=hpre;obtain⟨ds,gs,before,hw,_,hk⟩:=(OpenSpec.pre_some (s:=Rows.OpenSpec.upto Rows.ticketIssuesSpec) rfl _ _ _ _).1 hp;have hw':=DataW.Whole.of_heap (w':=w.forCall tape i) (by rfl) hw
 have hk':Rows.uptoBulkAll ds<=1048576:=ZUU<|of_decide_eq_true hk;have hlen:ds.length=6:=by
  obtain⟨p,q,hA,_⟩:=hw';simpa[ZUF]using ZAU _ _ _ _ hA
 obtain⟨d1,d2,d3,d4,d5,d6,rfl⟩:∃d1 d2 d3 d4 d5 d6,ds=[d1,d2,d3,d4,d5,d6]:=by
  match ds,hlen with
  |[a,b,c,d,e,f],_=>exact⟨a,b,c,d,e,f,rfl⟩
 have hlaid:laidMetH Tryz.prog Rows.ticketIssuesUptoRow.laid (w.forCall tape i):=hx.of_heap<|by rfl
 have hc:=ZUT ok hsum (s:=Rows.ticketIssuesSpec) rfl hsig (tb:=4) (by kernel_rfl) Tryz.underlying4 (λds hl=>by
  have hl':ds.length=6:=hl
  match ds,hl' with
  |[d1,d2,d3,d4,d5,d6],_=>rfl) (w.forCall tape i) (hgl _ hlaid) w.heap.size i.args [d1,d2,d3,d4,d5,d6] gs before (λxs hxs hl=>by
   rw[ZUF]at hl;refine hspec xs hxs (λs h0=>?_)<|λs h3=>?_
   .match xs,hl,h0 with
    |a::xs,hl,h0=>
     have ed:=hl.1 s ZUE<|Option.some.inj h0;subst ed;exact ZUG hk'
   .match xs,hl,h3 with
    |a::b::c::e::xs,hl,h3=>
     have ed:=hl.2.2.2.1 s ZUE<|Option.some.inj h3;subst ed;exact ZUG<|ZUo<|ZUo<|ZUo hk') hval hw' (hz.weights hw)
 refine hc.mono λe W'⟨v,he,hp⟩=>?_
 subst he;exact ChangeSpec.post_blind hp
def ZCD{E:Env}(ok:EnvOk Tryz.prog E)(hgl:∀W:World,laidMetH Tryz.prog Rows.ticketIssuesUptoRow.laid W->GlR E T0 (X0 Tryz.prog) W){n:Nat}{S:List (Bool×List CSh)}(hsum:E.sum 3=none)
 (hsig:sig Tryz.prog n Tryz.f3.params.toList=some S) (hspec:∀xs,Wvs S xs->(∀s,xs[0]?=some (.str s)->s.size<=1100000)->(∀s,xs[3]?=some (.str s)->s.size<=1100000)->pfn E 3 xs=some (.bool true)):Rows.TicketIssuesUptoSaid:=
 OpenClaim.holds_of_cond 3 Tryz.f3 rfl rfl rfl rfl rfl rfl rfl ⟨rfl,rfl,rfl,rfl,rfl⟩ rfl rfl rfl rfl rfl (by kernel_rfl) Tryz.func3 ZCw
  (of_decide_eq_true<|by kernel_rfl) (by unfold Func.isWrapper;first|(rw[if_pos<|by decide +kernel];kernel_rfl)|(rw[if_neg<|by decide +kernel];exact⟨rfl,rfl⟩))
  (λos started H enc _ _=>ZCC ok hgl hsum hsig hspec os started H enc)
def Z68:true=Tryz.pinned.checked.prog.looks []:=by kernel_rfl
def Z69:Tryz.pinned.checked.prog.mainIs=some (true, "547e70480cc4146132ca837ad957b6d7f81f324d4e9162f772dd0b4ba4d7bb58".toList):=by kernel_rfl
def ZCE:(Tryz.f3.params.toList.all λu=>!Tryz.prog.wantsStandIn u)=true:=by kernel_rfl
def ZCF:Tryz.prog.funcNamed Rows.ticketIssuesUptoRow.func=some 3:=by kernel_rfl
def ZCG(f:FuncId)(fn:Func)(hf:Tryz.pinned.checked.prog.funcNamed Rows.ticketIssuesUptoRow.func=some f)(hfn:Tryz.pinned.checked.prog.funcs[f]?=some fn):
 true=Tryz.pinned.checked.prog.looks []/\∀(j:Nat)t,fn.params[j]?=some t->Tryz.pinned.checked.prog.wantsStandIn t=false:=by
 obtain rfl:3=f:=Option.some.inj<|ZCF.symm.trans hf;obtain rfl:Tryz.f3=fn:=Option.some.inj<|Tryz.func3.symm.trans hfn;refine⟨Z68,λj t ht=>?_⟩
 have hm:t∈Tryz.f3.params.toList:=by simpa using Array.mem_of_getElem? ht
 have:=List.all_eq_true.1 ZCE t hm;show Tryz.prog.wantsStandIn t=false
 simpa using this
def ZCH:false=Rows.ticketIssuesUptoRow.goesBy Tryz.pinned.checked.prog:=by kernel_rfl
def ZCI{E:Env}(ok:EnvOk Tryz.prog E)(hgl:∀W:World,laidMetH Tryz.prog Rows.ticketIssuesUptoRow.laid W->GlR E T0 (X0 Tryz.prog) W){n:Nat}{S:List (Bool×List CSh)}(hsum:E.sum 3=none)
 (hsig:sig Tryz.prog n Tryz.f3.params.toList=some S) (hspec:∀xs,Wvs S xs->(∀s,xs[0]?=some (.str s)->s.size<=1100000)->(∀s,xs[3]?=some (.str s)->s.size<=1100000)->pfn E 3 xs=some (.bool true)):Rows.TicketIssuesUptoCardSaid:=
 Claim7.holds_tied_plain_at .later [] _ _ _ _ (ZCD ok hgl hsum hsig hspec) (λ_ h=>by cases h) (by kernel_rfl) (λ_ h=>by cases h) ticketIssuesUpto_row_tie rfl ⟨rfl,rfl⟩ Z69 rfl ZCG ZCH
end Go.Proofs.YtnjibjdmniajjaaGreatDoor
