/- GcKnown: the examples of the collector that the document gives have their results in the given program, on every schedule and whatever the tape; no conditions. -/
import Derived.Test.YtbnmpafbfoaggaaGreatDoorQ14
import Derived.Test.YtbnmpafbfoaggaaGreatDoorChecked
import Derived.Test.YtbnmpafbfoaggaaGreatDoorTie
import Derived.Test.YtbnmpafbfoaggaaGreatDoorCards
import Derived.Conc.HoldsTime
import Derived.ChangeSame
import Derived.ChangeVars
import Derived.JoinedOf
import Derived.RowKit
import Derived.RowKitTokens
import Derived.LaidLaws
import Derived.LaidHandle
import Derived.SevenTiedAt
import Derived.Test.YtbnmpafbfoaggaaGreatDoorQ7
set_option linter.unusedVariables false
set_option linter.unusedSimpArgs false
set_option maxRecDepth 100000
set_option maxHeartbeats 16000000
noncomputable section
open Go.Proofs.Tryz renaming prog->Ω,f10->Δ
open Go.OpenSpec renaming ofChange->Ψ
open Bool renaming true->Ξ,false->Γ
open Option.some renaming inj->Θ
open Option renaming some->ω
namespace Go.Proofs.YtbnmpafbfoaggaaGreatDoor
namespace Vc
open Go Go.Conc Go.ChangeShapes Go.WideShapes Go.ChangeAt Go.RowKit Ph gO
open Go.ConcM (OsLater)
theorem own:ownKnob Tryz.prog.godebug=none:=by kernel_rfl
theorem et:Tryz.prog.globalNamed "errors.errorType"=ω 0:=by kernel_rfl
theorem rt:(Tryz.prog.cutTypes.find? (·.1== "internal/reflectlite.rtype")).map (·.2)=ω 273:=by kernel_rfl
theorem VO:((List.range 363).filter fun t=>Tryz.prog.rowNamed t [101,114,114,111,114])=[174]:=by kernel_rfl
theorem aeN:Tryz.prog.types.size=363:=by kernel_rfl
def EL:Value:=.iface 273 (.agg #[.pointer (ω ⟨1,174,none⟩)])
def uF:List (String×DataW Unit):=[("errors.errorType",Rows.laid_errors_errorType)]
theorem rZ{W:World}(h:laidMetH Ω uF W):W.cell? ⟨0,0,none⟩=ω EL:=by
 have c:laidMet Ω [] W/\handlesMet Ω uF W:=h;obtain⟨name,u,f,e1,e2,e3,e4,b⟩:=c.2 _ (List.mem_singleton.2 rfl);have e:name=[101,114,114,111,114]:=(Θ e1).symm;subst e;obtain rfl:=Θ (rt.symm.trans e2);have a:f∈(List.range 363).filter fun t=>Tryz.prog.rowNamed t [101,114,114,111,114]:=List.mem_filter.2 ⟨List.mem_range.2 (by rw[<-aeN];exact e3),e4⟩
 rw[VO]at a;obtain rfl:=List.mem_singleton.1 a;have d:typeHandle Ω 174=.pointer (ω ⟨1,174,none⟩):=by kernel_rfl
 rw[d]at b;have:=World.var?_cell et b 0;simpa[EL]using this
def uG(os:Os):World:=
 let w0:=World.holding Ω os ⟨#[],#[],[]⟩
 {w0 with heap:=w0.heap.modify 0 fun
   |.cells _ t frozen=>.cells #[EL] t frozen
   |o=>o}
theorem tF(os:Os)(args:Array Value):laidMetH Ω uF ((uG os).forCall (fun _ _=>0) ⟨#[],args,[]⟩).memory:=laidMetH_of_parts (laidMet_nil _ _) (by kernel_rfl)
theorem vW{H:Type}{enc:TypeId×Value->H}{a:Assume}{os:Os}{f:FuncId}{fn:Func}{s:ChangeSpec}{F:Stop.Interp}{conds:List PathCond}{fresh handsOn:Bool}(started:os.Started)(hfn:Tryz.prog.funcs[f]?=ω fn)
 (witness:∃(w:World) (tape:Tape) (i:Input),w.os=os/\(w.forCall tape i).Shaped Ω/\i.vars=[]/\Input.okWide Ω (w.forCall tape i) .any w.heap.size f i/\
   ((s.pre enc Ω fn conds Γ (w.forCall tape i).memory i.args/\laidMetH Ω uF (w.forCall tape i).memory)/\sizedMet enc Ω fn (Ψ s) Γ (w.forCall tape i).memory i.args)/\a.holds Ω (lone (Frame.enter Ω f i.args .normal) [] (w.forCall tape i)))
 (runs:∀(W:World) (base:Nat) (args:Array Value) (ds gs:List (DataW H)) (before:List MemPlace),
   (∀(j:Nat) t v,fn.params[j]?=ω t->args[j]?=ω v->Value.okWide Ω W .any base t v) ->
   DataW.Whole enc Ω fn.params.toList s.vars Γ W args.toList ds gs before->
   conds.all (PathCond.test Ω ⟨fn.params.toList,ds,s.plain.varTypes Ω,gs⟩)=Ξ->
   (DataW.weightsEach Ω (fn.params.toList++s.plain.varTypes Ω) (ds++gs)).all (·<=reachBytes)=Ξ->
   W.cell? ⟨0,0,none⟩=ω EL->
   dj Ω (fun v W'=>s.post enc Ω fn Γ fresh handsOn Γ W args v {W' with os:=W.os}/\OsLater W.os W'.os) (solo (G (Frame.enter Ω f args .normal) []) W) #[]):
 ReturnsInLeavingWide a Tryz.checked os f .any (fun w args=>(s.pre enc Ω fn conds Γ w args/\laidMetH Ω uF w)/\sizedMet enc Ω fn (Ψ s) Γ w args) ((Ψ s).postWith enc Ω fn F (outsideKept [.timePasses]) Γ fresh handsOn):=by
 refine returnsInLeavingWide_of_good own started witness ?_;intro w tape i _ _ _ ir g h;obtain⟨_,_,_,m,d,_,_,_,_,c⟩:=ir;have e:m=fn:=Θ (d.symm.trans hfn);subst e;obtain⟨⟨⟨ds,gs,before,hw,hc⟩,y⟩,hz⟩:=g;have k:=DataW.Whole.of_heap (w':=w.forCall tape i) (by rfl) hw;have l:=rZ (W:=w.forCall tape i) (y.of_heap (by rfl));obtain⟨M,b,o,n,r,x,q,z,u⟩:=runs (w.forCall tape i) w.heap.size i.args ds gs before c k hc (hz.weights hw) l;obtain⟨v,e,p,r1,r2,r3,r4⟩:=u;exact⟨M,b,o,n,r,x,q,z,v,e,postWith_blind (postWith_of_post p.1 p.2),r1,r2,r3,r4⟩
def v6(n:Nat)(H0:Array Obj)(v:Value)(h:Array Obj):Prop:=v=.bool Ξ/\n<=h.size/\∀b,b<n->h[b]?=H0[b]?
theorem EM{W w:World}{h:Array Obj}{S:Nat->Prop}{v:Value}(hp:v6 W.heap.size (shut W.heap) v h)(hR:HR (cV LV) W S h w)(hK:Kept (Hx LV) W S w):Below W.heap.size W {w with os:=W.os}:=by
 obtain⟨rfl,e,d⟩:=hp;refine⟨rfl,hK.tape,hK.output,?_,fun b hb=>?_⟩
 ·have:w.heap.size=h.size:=(hR 0).size;show W.heap.size<=w.heap.size;omega
 ·show w.heap[b]?=W.heap[b]?;obtain⟨o,a⟩:∃o,W.heap[b]?=ω o:=⟨_,Array.getElem?_eq_getElem hb⟩;by_cases c:Hx LV o
  ·have e1:w.heap[b]?=h[b]?:=(hR 0).same b (hK.fair b o a c);rw[e1,d b hb,vV a c,a]
  ·rw[(hK.R9 b o a c).2,a]
def lT:Prop:=∀u:World,u.cell? ⟨0,0,none⟩=ω EL->Calls PV 10 #[] u fun e w'=>∃v,e=.returned v/\v6 u.heap.size u.heap v w'.heap
theorem v7(zh:lT)(os:Os)(started:os.Started)(H:Type)(enc:TypeId×Value->H)(F:Stop.Interp):
 ReturnsInLeavingWide Rows.gcKnownRow.assume Tryz.checked os 10 .any (fun w args=>(Rows.gcKnownSpec.pre enc Ω Δ [] Γ w args/\laidMetH Ω uF w)/\sizedMet enc Ω Δ (Ψ Rows.gcKnownSpec) Γ w args)
  ((Ψ Rows.gcKnownSpec).postWith enc Ω Δ F (outsideKept [.timePasses]) Γ Ξ Γ):=by
 have e:Tryz.prog.funcs[10]?=ω Δ:=by kernel_rfl
 refine vW started e ?_ ?_
 ·exact⟨uG os,fun _ _=>0,⟨#[],#[],[]⟩,rfl,World.shaped_of_B (by kernel_rfl) (by kernel_rfl),rfl,(Input.okWide_of_okWideB (by kernel_rfl)).2,
   ⟨⟨ChangeSpec.pre_of_preB (fuel:=8) (by kernel_rfl),tF os _⟩,sizedMet_of_sizedB (fuel:=8) (by kernel_rfl)⟩,by
   simp only[Assume.holds];refine⟨fun h=>?_,fun _=>?_,fun h=>?_,fun d h=>?_,fun d h=>?_,fun h=>?_⟩
   ·cases (show Rows.gcKnownRow.assume.fair=Γ from rfl).symm.trans h
   ·exact fun _ _ _=>rfl
   ·cases (show Rows.gcKnownRow.assume.modest=Γ from rfl).symm.trans h
   ·cases (show Rows.gcKnownRow.assume.brisk=none from rfl).symm.trans h
   ·cases (show Rows.gcKnownRow.assume.punctual=none from rfl).symm.trans h
   ·cases (show Rows.gcKnownRow.assume.roomy=Γ from rfl).symm.trans h⟩
 ·intro W base args ds gs j t s _ _ k;have l:=s;obtain⟨p,q,hA0,C,rfl,_,_⟩:=s;have i:DataW.TrodAll enc Ω W 0 (fun _=>Ξ) Ξ Tryz.f10.params.toList args.toList ds p:=hA0;have a:Tryz.f10.params=#[]:=by kernel_rfl
  rw[a]at i;obtain⟨rfl,rfl,rfl⟩:args=#[]/\ds=[]/\p=[]:=by
   obtain⟨la⟩:=args;cases la with
   |nil=>cases ds with
    |nil=>exact⟨rfl,rfl,i⟩
    |cons d r=>exact absurd i (by intro h;cases h)
   |cons x r=>cases ds<;>exact absurd i (by intro h;cases h)
  obtain⟨rfl,rfl⟩:=trodVars_none C;obtain⟨b,hb⟩:∃b,Tryz.f10.body=ω b:=by
   cases hx:Tryz.f10.body with
   |some b=>exact⟨b,rfl⟩
   |none=>exact absurd hx (by intro h;have:Tryz.f10.body.isSome=Ξ:=by kernel_rfl
                              rw[h]at this;cases this)
  have c:PV.funcs[10]?=ω Δ:=by kernel_rfl
  obtain⟨A,D,E,g0,_,_⟩:=gO.qR k;refine Ig (f:=10) (by decide) c hb #[] (Post:=v6 W.heap.size (shut W.heap)) (fun o y=>?_) (fun m=>?_) fun v h w S u B n z=>?_
  ·rw[g0]at y;cases y
   trivial
  ·have:=zh (bL W (shut W.heap) m 0) (by show(bL W (shut W.heap) m 0).cell? ⟨0,0,none⟩=ω EL;have hs:=Bw g0;simp only[World.cell?,bL,hs]at k⊢;simp only[g0]at k;exact k)
   rw[show(bL W (shut W.heap) m 0).heap.size=W.heap.size from pj _]at this;exact ends_of_calls c hb this
  ·have g:=EM u B z;obtain⟨rfl,_,_⟩:=u;exact⟨⟨_,_,_,[],[],[],l,trodAll_mk1 (shut_bool (by kernel_rfl) _),rfl,rfl,g.frame _,fun h=>by cases h⟩,n⟩
abbrev gP:Program:=Tryz.pinned.checked.prog
abbrev gC:OpenClaim:=Rows.gcKnownRow
abbrev gS:ChangeSpec:=Rows.gcKnownSpec
theorem kx0:(gC.wf (Ψ gS))=Ξ:=by kernel_rfl
theorem kx1:(laidOutB gP)=Ξ:=by kernel_rfl
theorem kx2:(mapsRowed gP)=Ξ:=by kernel_rfl
theorem kx3:(Tryz.f10.params.all (gP.readableRec ·))=Ξ:=by kernel_rfl
theorem kx4:(namedTie gP gC.named gS.vars)=Ξ:=by kernel_rfl
theorem kx5:((gC.stops==[]))=Ξ:=by kernel_rfl
theorem kx6:((gP.stops==[]))=Ξ:=by kernel_rfl
theorem kx7:((gC.knobs==[]))=Ξ:=by kernel_rfl
theorem kx8:((gP.stopKnobs==[]))=Ξ:=by kernel_rfl
theorem kx9:((gC.inPlace==gP.inPlace 10))=Ξ:=by kernel_rfl
theorem amu:((gC.unfollowed==gP.unfollowed 10))=Ξ:=by kernel_rfl
theorem amv:((gC.recurses==gP.recurses 10))=Ξ:=by kernel_rfl
theorem amw:((gC.named==gP.varsNamed 10))=Ξ:=by kernel_rfl
theorem amx:((gC.maps==(Tryz.f10.params.toList++gS.plain.varTypes gP).any (gP.mapsRec ·)))=Ξ:=by kernel_rfl
theorem amy:((gC.ifaces==(Tryz.f10.params.toList++gS.plain.varTypes gP).any (gP.ifacesRec ·)))=Ξ:=by kernel_rfl
theorem amz:((gC.mapsOut==gP.mapsAmong Tryz.f10.resultTypes.toList))=Ξ:=by kernel_rfl
theorem amA:((gC.loops==(Tryz.f10.params.toList++gS.plain.varTypes gP).any (gP.loopsFrom ·)))=Ξ:=by kernel_rfl
theorem amB:((gC.wideKeys==(Tryz.f10.params.toList++gS.plain.varTypes gP++Tryz.f10.resultTypes.toList).any (gP.wideKeysFrom ·)))=Ξ:=by kernel_rfl
theorem amC:(gS.vars.all (gP.varReadable ·))=Ξ:=by kernel_rfl
theorem amD:(Tryz.f10.resultTypes.all (fun t=>gP.readableRec t&&decide (t<gP.types.size)))=Ξ:=by kernel_rfl
theorem amE:((gC.ifacesOut==Tryz.f10.resultTypes.toList.any (gP.ifacesRec ·)))=Ξ:=by kernel_rfl
theorem amF:((gC.loopsOut==Tryz.f10.resultTypes.toList.any (gP.loopsFrom ·)))=Ξ:=by kernel_rfl
theorem amG:((gC.plainKeys==gP.plainKeys))=Ξ:=by kernel_rfl
theorem amH:(gC.shortTexts.isNone)=Ξ:=by kernel_rfl
theorem amI:(gP.stopsHeard)=Ξ:=by kernel_rfl
theorem amJ:(gP.mayEnter)=Ξ:=by kernel_rfl
theorem amK:((gC.lifted==gP.liftsFinal))=Ξ:=by kernel_rfl
theorem amL:((gP.make==ω gC.make))=Ξ:=by kernel_rfl
theorem amM:((gC.kinds==(if gC.domain.isEmpty then []else Tryz.f10.params.toList.map fun t=>match gP.underlying t with|some (.int k)=>ω k|_=>none)))=Ξ:=by kernel_rfl
theorem amN:((gC.pinned==gC.pinnedBy))=Ξ:=by kernel_rfl
theorem amO:((gC.veiled==(Tryz.f10.params.toList++gS.plain.varTypes gP++Tryz.f10.resultTypes.toList).any (gP.veiledRec ·)))=Ξ:=by kernel_rfl
theorem amP:(gC.veiledFits gP Tryz.f10.params.toList (Tryz.f10.params.toList++gS.plain.varTypes gP++Tryz.f10.resultTypes.toList))=Ξ:=by kernel_rfl
theorem fj{a b:Bool}(h:a=Ξ)(k:b=Ξ):(a&&b)=Ξ:=by rw[h,k];rfl
theorem Ih:joinedFacts gP 10 Δ gS gC=Ξ:=by unfold joinedFacts;exact fj (fj (fj (fj (fj (fj (fj (fj (fj (fj (fj (fj (fj (fj (fj (fj (fj (fj (fj (fj (fj (fj (fj (fj (fj (fj (fj (fj (fj (fj (fj (kx0) kx1) kx2) kx3) kx4) kx5) kx6) kx7) kx8) kx9) amu) amv) amw) amx) amy) amz) amA) amB) amC) amD) amE) amF) amG) amH) amI) amJ) amK) amL) amM) amN) amO) amP
theorem aeO:gP.funcNamed gC.func=ω 10:=by kernel_rfl
theorem VP:Tryz.f10.isInstance gP gC.origin gC.targs:=of_decide_eq_true (by kernel_rfl)
theorem VQ:Tryz.f10.isWrapper gP gC.wrapper gC.mainSum:=by unfold Func.isWrapper;first|(rw[if_pos (by decide+kernel)];kernel_rfl)|(rw[if_neg (by decide+kernel)];exact⟨rfl,rfl⟩)
theorem Dl:gP.funcs[10]?=ω Δ:=by kernel_rfl
theorem hi4:gC.initsInPlace=[]/\gC.initsUnfollowed=Γ/\gC.initsRecurse=Γ/\gC.initsNamed=[]/\gC.initsPassed=[]:=⟨rfl,rfl,rfl,rfl,rfl⟩
theorem zi(zh:lT):Rows.GcKnownSaid:=
 OpenClaim.holds_of_wide_leaving_time (p:=Tryz.pinned) (s:=gS) (c:=gC) 10 Δ rfl rfl rfl rfl rfl rfl rfl hi4 rfl rfl rfl rfl rfl aeO Dl Ih VP VQ
  (fun os a H b _ F=>v7 zh os a H b F)
theorem NQ:gC.start=.entering:=rfl
theorem VR:gP.mainIs=ω (Rows.gcKnownCard.stood.harness.1,Rows.gcKnownCard.stood.harness.2.toList):=by kernel_rfl
theorem NR:Claim7.isSixth {stood:={row:=gC,standIns:=[],harness:=Rows.gcKnownCard.stood.harness,looks:=Ξ},kinds:=[]}=Γ:=by kernel_rfl
theorem NS:Ξ=gP.looks []:=by kernel_rfl
theorem VS:gC.wfByText (Ψ gS)=Ξ:=by kernel_rfl
theorem VU:Ξ=gC.goesBy gP:=by kernel_rfl
theorem params10:Tryz.f10.params=#[]:=by kernel_rfl
theorem By(zh:lT):Rows.GcKnownCardSaid:=by
 have d:=Claim7.new_of_sixth (zi zh) Rows.gcKnownCard.stood.harness Ξ NQ ⟨rfl,rfl⟩ VR NR (by intro f fn c a;have e1:f=10:=Θ (c.symm.trans aeO);subst e1;have e2:fn=Δ:=Θ (a.symm.trans Dl);subst e2;exact⟨NS,fun j t b=>by rw[params10]at b;simp at b⟩)
 exact⟨Claim7.tied_new_at .later [.handle] Ξ d VS,fun D e=>(by cases e),gcKnown_row_tie,(fun h=>by cases h),VU⟩
end Vc
section
open Go
theorem Ck:Vc.lT:=fun u a=>(Kn.Fs u a).mono fun _ _ h=>⟨_,h.1,rfl,h.2.size,h.2.block⟩
theorem gcKnown_card:Rows.GcKnownCardSaid:=Vc.By Ck
end
