/- A part of the proof of GcKnown; no conditions. -/
import Derived.Test.YtbnmpafbfoaggaaGreatDoorQ9
import Derived.Conc.AtomicLaws2
import Derived.Conc.ClockLaws
import Derived.Conc.MarkLaws
import Derived.Test.YtbnmpafbfoaggaaGreatDoorProg
import Derived.KernelRfl
import Derived.Laws.LoneSync
import Derived.Laws.BitsLemmas
import Derived.Laws.Bits64
import Derived.Conc.CrowdBase
import Derived.Conc.MuStops
set_option linter.unusedVariables false
set_option linter.unusedSimpArgs false
set_option maxRecDepth 100000
set_option maxHeartbeats 16000000
noncomputable section
open Bool renaming false->Ω,true->Ψ,false_eq_true->θ,not_eq_true'->ZL
open Go renaming Goroutine->Ξ,Value->Δ,Addr->ο,callFunc->η,Deferred->Z3,Item->Z1,Program->ZZ,run_callFunc_extern->ZY,FuncId->ZT,events_load->ZO,run_underlying->ZN,run_store->ZM,TypeId->ZJ,events_store->ZH,asAddr->ZE
open Go.Value renaming pointer->Θ,int->Γ
open Option renaming some->ω,none->ZQ,map_eq_some_iff->ZD
open Go.IntKind renaming i32->ψ,wrap->χ,u64->Z0,i64->Zz
open Go.Result renaming andThen->φ,evThen->ε
open Go.Extern.Sync renaming semacquire->υ,semrelease->ζ,count->Z9,nothing->ZG,canSpin->ZF,none_->ZC
open Go.Mark renaming extern->ξ
open Go.Sem renaming runT_eq->μ
open Go.Extern.Race renaming marked->κ,none_->ι,at_->ZB
open Go.Extern.OsHooks renaming nano->Z8
open Go.Extern.Atomic renaming casT->Z7,read->Z4,update->ZX,none_->ZV,storeT->ZK,loadT->ZI
open Prod renaming snd->Z2
open List.cons renaming injEq->ZW
open List renaming zipWith->ZU
open Go.Conc renaming events_callFunc_extern->ZS,canSpin_eq->ZA
open Go.Op renaming intArith->ZR
open BitVec renaming ofInt->ZP
namespace Go.Proofs.YtbnmpafbfoaggaaGreatDoor
namespace Ph
open Go Go.Conc
section
def rC(fr:Frame):Option Oper:=
 match fr.mode,fr.todo with
 |.run,.inRegion ops (i::_)::_=>if((ops[i]?).map (Region.wanted · (yielded ops fr.tmps))).getD Ω then ops[i]? else ZQ
 |_,_=>ZQ
def d9(g:Ξ):Bool:=
 match g.status,g.dying,g.offers,g.frame.roundOf,g.frame.kind with
 |.running,ZQ,ZQ,ZQ,.normal|.running,ZQ,ZQ,ZQ,.deferred=>Ψ
 |_,_,_,_,_=>Ω
def au(g:Ξ):Option (Sem Next):=if d9 g then(rC g.frame).map (execOp g.frame.eval)else ZQ
section
variable{P:ZZ}{main:Bool}{g:Ξ}{s:Sem Next}{w w':World}{es:Array Event}
theorem bU(h:au g=ω s):g.status=.running/\g.dying=ZQ/\g.offers=ZQ/\(∀v,s.runT P w #[]=(.ok (.value v) w',es) ->stepG P main g w=.go (fin v g) w' (seen P g.frame.fn es))/\
 (s.runT P w #[]=(.ok .skip w',es) ->stepG P main g w=.go (fin undef g) w' (seen P g.frame.fn es))/\
 (s.runT P w #[]=(.halt .blocked w',es) ->stepG P main g w=.go {g with status:=.blocked} w' #[]):=by
 unfold au at h;by_cases b:d9 g=Ψ
 ·rw[if_pos b]at h;obtain⟨fr,cs,st,f,off⟩:=g;obtain⟨fn,d,todo,defers,mode,kind,k⟩:=fr;obtain⟨o,a,rfl⟩:=ZD.1 h;obtain⟨rfl,rfl,rfl,rfl,j⟩:st=.running/\f=ZQ/\off=ZQ/\k=ZQ/\(kind==.early)=Ω:=by unfold d9 at b;dsimp only at b;split at b<;>first|(cases b;done)|exact⟨rfl,rfl,rfl,rfl,rfl⟩
  unfold rC at a;dsimp only at a;cases mode with
  |run=>
   cases todo with
   |nil=>cases a
   |cons i rest=>
    cases i with
    |inRegion c todo=>
     cases todo with
     |nil=>cases a
     |cons i l=>
      dsimp only at a;by_cases hw:(((c[i]?).map (Region.wanted · (yielded c d))).getD Ω)=Ψ
      ·rw[if_pos hw]at a;refine⟨rfl,rfl,rfl,fun v e=>?_,fun e=>?_,fun e=>?_⟩
       all_goals
        unfold stepG;dsimp only;unfold stepG.exec;dsimp only;simp only[if_pos hw];unfold stepG.oper;simp only[Frame.oper?,a];unfold stepG.apply;simp only[if_true,e,j,θ,if_false]
        first|rfl|(simp only[Array.empty_append,GStep.after];rfl)|(simp[GStep.after,seen_none,fin];done)|skip
      ·rw[if_neg hw]at a;cases a
    |_=>cases a
  |_=>cases a
 ·rw[if_neg b]at h;cases h
end
structure Ext(P:ZZ)(f:ZT)(e:Array Δ->Sem Δ)(q:Bool):Prop where
 ex:∃fn,P.funcs[f]?=ω fn/\(fn.name== "runtime.NumGoroutine")=Ω/\fn.body.isNone=Ψ/\Extern.findNext fn=ZQ/\Extern.find fn=ω e/\fn.norace=q
section
variable{P:ZZ}{main:Bool}{g:Ξ}{f:ZT}{e:Array Δ->Sem Δ}{q:Bool}{args:Array Δ}{w w':World}{Ft:Array Event}{v:Δ}
theorem Ext.step(hx:Ext P f e q)(h:au g=ω (η f args))(hrun:(e args).run P w=.ok v w')(hev:(e args).events P w #[⟨.mark (ξ f),Ω,Ψ⟩]=#[⟨.mark (ξ f),Ω,Ψ⟩]++Ft)
 (hs:∀x∈Ft,x.sync=Ψ/\∀g,x.loc≠.mark (ξ g)):stepG P main g w=.go (fin v g) w' Ft:=by
 obtain⟨fn,c,a,i,b,d,j⟩:=hx.ex;obtain⟨_,_,_,k,_⟩:=bU (P:=P) (main:=main) (w:=w) (w':=w') (es:=#[⟨.mark (ξ f),Ω,Ψ⟩]++Ft) h;rw[k v,seen_entry _ _ _ hs];rw[μ,ZY c a i b d,ZS c a i b d,hrun];simp only[φ,List.push_toArray,List.nil_append,hev]
theorem Ext.wait(hx:Ext P f e q)(h:au g=ω (η f args))(hrun:(e args).run P w=.halt .blocked w'):stepG P main g w=.go {g with status:=.blocked} w' #[]:=by obtain⟨fn,c,a,i,b,d,j⟩:=hx.ex;obtain⟨_,_,_,_,_,k⟩:=bU (P:=P) (main:=main) (w:=w) (w':=w') (es:=(η f args).events P w #[]) h;apply k;rw[μ,ZY c a i b d,hrun];rfl
variable{ad:ο}{k:IntKind}{x y d n:Int}
theorem nJ(hx:Ext P f (Z7 (.int k)) q)(h:au g=ω (η f #[Θ (ω ad),.int k x,.int k y]))(hc:w.cell? ad=ω (.int k x))(hz:w.frozen? ad=Ω):
 stepG P main g w=.go (fin (.bool Ψ) g) (w.setCell ad (.int k y)) #[⟨.cell ad,Ω,Ψ⟩,⟨.cell ad,Ψ,Ψ⟩]:=
 hx.step h (by rw[casT_eq];exact run_cas_hit_entry hc hz) (by rw[casT_eq,events_cas_hit_entry hc hz];rfl) (sync_rw ad)
theorem kY(hx:Ext P f (Z7 (.int k)) q)(h:au g=ω (η f #[Θ (ω ad),.int k x,.int k y]))(hc:w.cell? ad=ω (.int k n))(hz:w.frozen? ad=Ω)(hne:¬n=x):
 stepG P main g w=.go (fin (.bool Ω) g) w #[⟨.cell ad,Ω,Ψ⟩]:=
 hx.step h (by rw[casT_eq];exact run_cas_miss_entry hc hz hne) (by rw[casT_eq,events_cas_miss_entry hc hz hne];rfl) (sync_r ad)
theorem qF(hx:Ext P f (ZX (ZR .add) k Ψ) q)(h:au g=ω (η f #[Θ (ω ad),.int k d]))(hc:w.cell? ad=ω (.int k x))(hz:w.frozen? ad=Ω):
 stepG P main g w=.go (fin (.int k (k.wrap (x+d))) g) (w.setCell ad (.int k (k.wrap (x+d)))) #[⟨.cell ad,Ω,Ψ⟩,⟨.cell ad,Ψ,Ψ⟩]:=
 hx.step h (run_add_entry hc hz) (by rw[events_add_entry hc hz];rfl) (sync_rw ad)
theorem rD(hx:Ext P f (ZI (.int k)) q)(h:au g=ω (η f #[Θ (ω ad)]))(hc:w.cell? ad=ω (.int k x)):
 stepG P main g w=.go (fin (.int k x) g) w #[⟨.cell ad,Ω,Ψ⟩]:=by
 refine hx.step h ?_ ?_ (sync_r ad)
 ·change Sem.run P (do Z4 (.int k) (<-ZE (Θ (ω ad)))) w=_
  simp[Z4,ZE,hc]
 ·change Sem.events P (do Z4 (.int k) (<-ZE (Θ (ω ad)))) w _=_
  simp[Z4,ZE,hc,ZO]
theorem D6{u:Δ}(hx:Ext P f ZK q)(h:au g=ω (η f #[Θ (ω ad),.int k y]))(hc:w.cell? ad=ω u)(hz:w.frozen? ad=Ω):
 stepG P main g w=.go (fin (.tuple #[]) g) (w.setCell ad (.int k y)) #[⟨.cell ad,Ψ,Ψ⟩]:=by
 refine hx.step h ?_ ?_ (fun x hx=>by simp at hx;subst hx;exact⟨rfl,fun g h=>by cases h⟩)
 ·change Sem.run P (do
   store (<-ZE (Θ (ω ad))) (.int k y) .atomic
   pure ZV) w=_
  simp[ZE,hc,hz,ZV,ZM P w ad (.int k y) .atomic rfl,φ]
 ·change Sem.events P (do
   store (<-ZE (Θ (ω ad))) (.int k y) .atomic
   pure ZV) w _=_
  simp[ZE,hc,hz,ZH P w _ ad (.int k y) .atomic rfl]
theorem mC(m:Mark)(hm:∀g,m≠ξ g)(hx:Ext P f (fun _=>do mark m;pure ι) q)(h:au g=ω (η f args)):
 stepG P main g w=.go (fin (.tuple #[]) g) w #[⟨.mark m,Ω,Ψ⟩]:=
 hx.step h (by simp[ι]) (by simp) (by intro x hx;simp at hx;subst hx;exact⟨rfl,fun g h=>hm g (by cases h;rfl)⟩)
theorem kZ(mk:ο->Mark)(hm:∀ad g,mk ad≠ξ g)(hx:Ext P f (κ mk) q)(h:au g=ω (η f #[Θ (ω ad)])):
 stepG P main g w=.go (fin (.tuple #[]) g) w #[⟨.mark (mk ad),Ω,Ψ⟩]:=
 hx.step h (by simp[κ,ZB,ι]) (by simp[κ,ZB]) (by intro x a;simp at a;subst a;exact⟨rfl,fun g h=>hm ad g (Loc.mark.inj h)⟩)
theorem xT(hx:Ext P f υ q)(h:au g=ω (η f args))(ha:args[0]?=ω (Θ (ω ad)))(hc:w.cell? ad=ω (Γ .u32 n))(hn0:n≠0)(hz:w.frozen? ad=Ω):
 stepG P main g w=.go (fin (.tuple #[]) g) (w.setCell ad (Γ .u32 (n-1))) (semEvents ad):=
 hx.step h (by simp[υ,Z9,ha,hc,hn0,hz,ZC,ZM P w ad (Γ .u32 (n-1)) .atomic rfl,φ])
  (by simp[υ,Z9,ha,hc,hn0,hz,semEvents,ZO,ZH P w _ ad (Γ .u32 (n-1)) .atomic rfl,ZM P w ad (Γ .u32 (n-1)) .atomic rfl,ε]) (semEvents_sync ad)
theorem xU(hx:Ext P f υ q)(h:au g=ω (η f args))(ha:args[0]?=ω (Θ (ω ad)))(hc:w.cell? ad=ω (Γ .u32 0)):
 stepG P main g w=.go {g with status:=.blocked} w #[]:=
 hx.wait h (by simp[υ,Z9,ha,hc])
theorem vy(hx:Ext P f ζ q)(h:au g=ω (η f args))(ha:args[0]?=ω (Θ (ω ad)))(hc:w.cell? ad=ω (Γ .u32 n))(hz:w.frozen? ad=Ω):
 stepG P main g w=.go (fin (.tuple #[]) g) (w.setCell ad (Γ .u32 (IntKind.u32.wrap (n+1)))) (semEvents ad):=
 hx.step h (by simp[ζ,Z9,ha,hc,hz,ZC,ZR,ZM P w ad (Γ .u32 (IntKind.u32.wrap (n+1))) .atomic rfl,φ])
  (by simp[ζ,Z9,ha,hc,hz,semEvents,ZR,ZO,ZH P w _ ad (Γ .u32 (IntKind.u32.wrap (n+1))) .atomic rfl,ZM P w ad (Γ .u32 (IntKind.u32.wrap (n+1))) .atomic rfl,ε]) (semEvents_sync ad)
theorem vz(hx:Ext P f ZG q)(h:au g=ω (η f args)):stepG P main g w=.go (fin (.tuple #[]) g) w #[]:=hx.step h (Ft:=#[]) rfl rfl (by simp)
theorem uk(hx:Ext P f Z8 Ψ)(h:au g=ω (η f args)):stepG P main g w=.go (fin (Γ Zz ((w.os.mono+w.tick:Nat):Int)) g) w.later #[]:=by obtain⟨fn,b,d,j,e,i,l⟩:=hx.ex;have a:(Z8 args).run P w=.ok (Γ Zz ((w.os.mono+w.tick:Nat):Int)) w.later:=rfl;have c:(Z8 args).events P w #[⟨.mark (ξ f),Ω,Ψ⟩]=#[⟨.mark (ξ f),Ω,Ψ⟩]++#[⟨.output,Ψ,Ω⟩]:=rfl;obtain⟨_,_,_,k,_⟩:=bU (P:=P) (main:=main) (w:=w) (w':=w.later) (es:=#[⟨.mark (ξ f),Ω,Ψ⟩]++#[⟨.output,Ψ,Ω⟩]) h;rw[k (Γ Zz ((w.os.mono+w.tick:Nat):Int)),seen_entry_out _ _ (by rw[b];exact l)];rw[μ,ZY b d j e i,ZS b d j e i,a];simp only[φ,List.push_toArray,List.nil_append,c]
theorem D7(hx:Ext P f ZF q)(h:au g=ω (η f #[.int k n])):∃b w',stepG P main g w=.go (fin (.bool b) g) w' #[]/\(w'=w\/w'=w.asked)/\(4<=n->b=Ω):=by
 by_cases a:n>=4
 ·exact⟨Ω,w,hx.step h (Ft:=#[]) (by rw[ZA,if_pos a];rfl) (by rw[ZA,if_pos a];rfl) (by simp),.inl rfl,fun _=>rfl⟩
 ·exact⟨w.spins,w.asked,hx.step h (Ft:=#[]) (by rw[ZA,if_neg a];rfl) (by rw[ZA,if_neg a];rfl) (by simp),.inr rfl,fun h=>absurd h a⟩
end
end
noncomputable abbrev P0:ZZ:=Go.Proofs.Tryz.prog
theorem Ext.of{P:ZZ}{f:ZT}{e:Array Δ->Sem Δ}{q:Bool}(fn:Func)(h1:P.funcs[f]?=ω fn)(h2:(fn.name== "runtime.NumGoroutine")=Ω)(h3:fn.body.isNone=Ψ)(h4:Extern.findNext fn=ZQ)(h5:Extern.find fn=ω e)(h6:fn.norace=q):Ext P f e q:=⟨fn,h1,h2,h3,h4,h5,h6⟩
def F0(n:Nat):Func:=(P0.funcs[n]?).getD default
theorem aa1:Ext P0 235 (κ .releaseMerge) Ω:=Ext.of (F0 235) (by kernel_rfl) (by kernel_rfl) (by kernel_rfl) (by kernel_rfl) (by kernel_rfl) (by kernel_rfl)
theorem F2:Ext P0 236 (fun _=>do mark .disable;pure ι) Ω:=Ext.of (F0 236) (by kernel_rfl) (by kernel_rfl) (by kernel_rfl) (by kernel_rfl) (by kernel_rfl) (by kernel_rfl)
theorem tw:Ext P0 237 (fun _=>do mark .enable;pure ι) Ω:=Ext.of (F0 237) (by kernel_rfl) (by kernel_rfl) (by kernel_rfl) (by kernel_rfl) (by kernel_rfl) (by kernel_rfl)
theorem La:Ext P0 252 (κ .acquire) Ω:=Ext.of (F0 252) (by kernel_rfl) (by kernel_rfl) (by kernel_rfl) (by kernel_rfl) (by kernel_rfl) (by kernel_rfl)
theorem xV:Ext P0 271 (Z7 (.int ψ)) Ψ:=Ext.of (F0 271) (by kernel_rfl) (by kernel_rfl) (by kernel_rfl) (by kernel_rfl) (by kernel_rfl) (by kernel_rfl)
theorem aa2:Ext P0 273 (ZX (ZR .add) ψ Ψ) Ψ:=Ext.of (F0 273) (by kernel_rfl) (by kernel_rfl) (by kernel_rfl) (by kernel_rfl) (by kernel_rfl) (by kernel_rfl)
theorem akH:Ext P0 280 ZF Ψ:=Ext.of (F0 280) (by kernel_rfl) (by kernel_rfl) (by kernel_rfl) (by kernel_rfl) (by kernel_rfl) (by kernel_rfl)
theorem akI:Ext P0 281 ZG Ψ:=Ext.of (F0 281) (by kernel_rfl) (by kernel_rfl) (by kernel_rfl) (by kernel_rfl) (by kernel_rfl) (by kernel_rfl)
theorem aa3:Ext P0 283 Z8 Ψ:=Ext.of (F0 283) (by kernel_rfl) (by kernel_rfl) (by kernel_rfl) (by kernel_rfl) (by kernel_rfl) (by kernel_rfl)
theorem aa4:Ext P0 284 υ Ψ:=Ext.of (F0 284) (by kernel_rfl) (by kernel_rfl) (by kernel_rfl) (by kernel_rfl) (by kernel_rfl) (by kernel_rfl)
theorem aa5:Ext P0 286 ζ Ψ:=Ext.of (F0 286) (by kernel_rfl) (by kernel_rfl) (by kernel_rfl) (by kernel_rfl) (by kernel_rfl) (by kernel_rfl)
theorem aa6:Ext P0 268 (ZX (ZR .add) Z0 Ψ) Ψ:=Ext.of (F0 268) (by kernel_rfl) (by kernel_rfl) (by kernel_rfl) (by kernel_rfl) (by kernel_rfl) (by kernel_rfl)
theorem Sa:Ext P0 269 (ZI (.int Z0)) Ψ:=Ext.of (F0 269) (by kernel_rfl) (by kernel_rfl) (by kernel_rfl) (by kernel_rfl) (by kernel_rfl) (by kernel_rfl)
theorem akJ:Ext P0 270 ZK Ψ:=Ext.of (F0 270) (by kernel_rfl) (by kernel_rfl) (by kernel_rfl) (by kernel_rfl) (by kernel_rfl) (by kernel_rfl)
theorem aa7:Ext P0 275 (Z7 (.int Z0)) Ψ:=Ext.of (F0 275) (by kernel_rfl) (by kernel_rfl) (by kernel_rfl) (by kernel_rfl) (by kernel_rfl) (by kernel_rfl)
theorem akK:Ext P0 247 ζ Ψ:=Ext.of (F0 247) (by kernel_rfl) (by kernel_rfl) (by kernel_rfl) (by kernel_rfl) (by kernel_rfl) (by kernel_rfl)
theorem aa8:Ext P0 256 υ Ψ:=Ext.of (F0 256) (by kernel_rfl) (by kernel_rfl) (by kernel_rfl) (by kernel_rfl) (by kernel_rfl) (by kernel_rfl)
theorem akL:Ext P0 243 (κ .read) Ω:=Ext.of (F0 243) (by kernel_rfl) (by kernel_rfl) (by kernel_rfl) (by kernel_rfl) (by kernel_rfl) (by kernel_rfl)
theorem akM:Ext P0 255 (κ .write) Ω:=Ext.of (F0 255) (by kernel_rfl) (by kernel_rfl) (by kernel_rfl) (by kernel_rfl) (by kernel_rfl) (by kernel_rfl)
abbrev iv(n:Nat)(x:Int):Nat×Δ:=(n,Γ Zz x)
abbrev jv(n:Nat)(x:Int):Nat×Δ:=(n,Γ ψ x)
abbrev bv(n:Nat)(x:Bool):Nat×Δ:=(n,.bool x)
abbrev pv(n:Nat)(x:ο):Nat×Δ:=(n,Θ (ω x))
theorem wV.three{α β γ:Type}{a a':α}{b b':β}{c c':γ}(h:(a,b,c)=(a',b',c')):a=a'/\b=b'/\c=c':=by
 cases h
 exact⟨rfl,rfl,rfl⟩
section
section
variable{P:ZZ}{main:Bool}
theorem At.F3{fn fn':ZT}{n n':Nat}{T T':List Z1}{l l':List (Nat×Δ)}{cs cs':List Frame}(v:Δ)(stop:Ξ->Bool)(k:Nat)(h1:∀f,bN P main stop k (fin v (FG fn (l7 n (cO l f)) T cs))=FG fn' (bN P main stop k (fin v (FG fn (l7 n (cO l f)) T cs))).frame.tmps T' cs')
 (h2:∀f,(bN P main stop k (fin v (FG fn (l7 n (cO l f)) T cs))).frame.tmps.size=n') (h3:∀f,(l'.map fun p=>(bN P main stop k (fin v (FG fn (l7 n (cO l f)) T cs))).frame.tmps.getD p.1 undef)=l'.map Z2) (g:Ξ) (h:At fn n T l cs g):ak P main k (At fn' n' T' l' cs') (fin v g):=by
 obtain⟨f,rfl⟩:=h;exact ak.run stop k (At.of (h1 f) (h2 f) (h3 f))
end
def K(a:ο)(aV old it:Int)(sv aw:Bool):List (Nat×Δ):=[pv 0 a,iv 2 aV,bv 3 sv,bv 4 aw,iv 5 it,jv 6 old]
def Lg(T:List Z1)(l:List (Nat×Δ))(T':List Z1)(l':List (Nat×Δ)):Prop:=∀(cs:List Frame) (g:Ξ),At 272 139 T l cs g->ak P0 Ω 150 (At 272 139 T' l' cs) g
def Lf(v:Δ)(T:List Z1)(l:List (Nat×Δ))(T':List Z1)(l':List (Nat×Δ)):Prop:=∀(cs:List Frame) (g:Ξ),At 272 139 T l cs g->ak P0 Ω 150 (At 272 139 T' l' cs) (fin v g)
theorem Lg.of{T T':List Z1}{l l':List (Nat×Δ)}(stop:Ξ->Bool)(h:∀cs f,(bN P0 Ω stop 150 (FG 272 (l7 139 (cO l f)) T cs),(bN P0 Ω stop 150 (FG 272 (l7 139 (cO l f)) T cs)).frame.tmps.size,l'.map fun p=>(bN P0 Ω stop 150 (FG 272 (l7 139 (cO l f)) T cs)).frame.tmps.getD p.1 undef)=(FG 272 (bN P0 Ω stop 150 (FG 272 (l7 139 (cO l f)) T cs)).frame.tmps T' cs,139,l'.map Z2)):Lg T l T' l':=fun cs g a=>At.QF stop 150 (fun f=>(wV.three (h cs f)).1) (fun f=>(wV.three (h cs f)).2.1) (fun f=>(wV.three (h cs f)).2.2) g a
theorem Lf.of{v:Δ}{T T':List Z1}{l l':List (Nat×Δ)}(stop:Ξ->Bool)(h:∀cs f,(bN P0 Ω stop 150 (fin v (FG 272 (l7 139 (cO l f)) T cs)),(bN P0 Ω stop 150 (fin v (FG 272 (l7 139 (cO l f)) T cs))).frame.tmps.size,l'.map fun p=>(bN P0 Ω stop 150 (fin v (FG 272 (l7 139 (cO l f)) T cs))).frame.tmps.getD p.1 undef)=(FG 272 (bN P0 Ω stop 150 (fin v (FG 272 (l7 139 (cO l f)) T cs))).frame.tmps T' cs,139,l'.map Z2)):Lf v T l T' l':=fun cs g a=>At.F3 v stop 150 (fun f=>(wV.three (h cs f)).1) (fun f=>(wV.three (h cs f)).2.1) (fun f=>(wV.three (h cs f)).2.2) g a
def a0:ο:=⟨0,0,ZQ⟩
def lsD(T:List Z1)(l:List (Nat×Δ)):Ξ:=FG 272 (l7 139 (cO l fun _=>undef)) T []
def k6(T:List Z1)(l:List (Nat×Δ))(stop:Ξ->Bool):List Z1:=(bN P0 Ω stop 150 (lsD T l)).frame.todo
def k7(T:List Z1)(l:List (Nat×Δ))(v:Δ)(stop:Ξ->Bool):List Z1:=(bN P0 Ω stop 150 (fin v (lsD T l))).frame.todo
def lsE(a:ο)(cs:List Frame):Ξ:={frame:=Frame.enter P0 272 #[Θ (ω a)] .normal,callers:=cs,status:=.running,dying:=ZQ}
def Lb:List Z1:=(bN P0 Ω (ah 272 13) 150 (lsE a0 [])).frame.todo
def A1:=k7 Lb ((K a0 0 0 0 Ω Ω)) (Γ ψ 0) (ah 272 14)
def F4:=k6 A1 ((K a0 0 0 0 Ω Ω)) (ah 272 18)
def xW:=k6 F4 (bv 17 Ψ::(K a0 0 0 0 Ω Ω)) (ah 272 19)
def D8:=k6 F4 (bv 17 Ω::(K a0 0 0 0 Ω Ω)) (aC 272 52)
def Ld:=k7 xW (bv 17 Ψ::(K a0 0 0 0 Ω Ω)) (.bool Ψ) (ah 272 29)
def qq:=k7 xW (bv 17 Ψ::(K a0 0 0 0 Ω Ψ)) (.bool Ψ) (ah 272 42)
def Le:=k6 Ld (bv 28 Ψ::(K a0 0 0 0 Ω Ω)) (ah 272 34)
def A2:=k6 Le (bv 33 Ψ::(K a0 0 0 0 Ω Ω)) (ah 272 40)
def Sb:=k7 qq ((K a0 0 0 0 Ω Ω)) (.tuple #[]) (ah 272 48)
def qr:=k6 D8 (bv 52 Ψ::jv 7 0::(K a0 0 0 0 Ω Ω)) (aC 272 57)
def xX:=k6 qr (bv 57 Ψ::jv 7 0::(K a0 0 0 0 Ψ Ω)) (aC 272 65)
def xY:=k6 qr (bv 57 Ψ::jv 7 0::(K a0 0 0 0 Ω Ψ)) (aC 272 71)
def mU:=k6 qr (bv 57 Ψ::jv 7 0::(K a0 0 0 0 Ω Ω)) (ah 272 80)
def F5:=k7 mU ((K a0 0 0 0 Ω Ω)) (.bool Ψ) (aC 272 83)
def F6:=k7 mU ((K a0 0 0 0 Ω Ω)) (.bool Ω) (ah 272 134)
def F7:=k6 F5 (bv 83 Ω::(K a0 0 0 0 Ω Ω)) (aC 272 87)
def xZ:=k6 F5 (bv 83 Ψ::(K a0 0 0 0 Ω Ω)) (ah 272 135)
def Sc:=k6 F7 (bv 87 Ψ::(K a0 0 0 0 Ω Ω)) (ah 272 88)
def A3:=k6 F7 (bv 87 Ω::(K a0 0 0 0 Ω Ω)) (ah 272 93)
def Sd:=k7 A3 ((K a0 0 0 0 Ω Ω)) (.tuple #[]) (ah 272 96)
def ul:=k7 A3 ((K a0 0 0 0 Ψ Ω)) (.tuple #[]) (ah 272 104)
def Cu:=k7 ul ((K a0 0 0 0 Ω Ω)) (Γ ψ 0) (aC 272 107)
def F8:=k6 Cu (bv 107 Ψ::(K a0 0 0 0 Ω Ω)) (ah 272 112)
def Cv:=k6 F8 (bv 111 Ω::(K a0 0 0 0 Ω Ω)) (aC 272 115)
def Cw:=k6 Cv (bv 115 Ω::(K a0 0 0 0 Ψ Ω)) (aC 272 123)
def um:=k6 Cw (bv 123 Ψ::jv 9 0::(K a0 0 0 0 Ω Ω)) (ah 272 130)
def Cx:=k7 xZ ((K a0 0 0 0 Ω Ω)) (.tuple #[]) (ah 272 137)
def F9:=k7 Cx ((K a0 0 0 0 Ω Ω)) (Θ (ω a0)) (ah 272 138)
theorem Lh(a:ο)(v:Int):Lf (Γ ψ v) Lb [pv 0 a,iv 2 0,bv 3 Ω,bv 4 Ω,iv 5 0,pv 12 a] A1 (K a 0 v 0 Ω Ω):=Lf.of (ah 272 14) fun _ _=>by kernel_rfl
theorem Li(a:ο)(aV old it:Int)(sv aw:Bool):Lg A1 (K a aV old it sv aw) F4 (bv 17 (decide (bits .and ψ old 5=1))::K a aV old it sv aw):=Lg.of (ah 272 18) fun _ _=>by kernel_rfl
theorem Se(a:ο)(aV old it:Int)(sv aw:Bool):Lg F4 (bv 17 Ψ::K a aV old it sv aw) xW (iv 18 it::bv 17 Ψ::K a aV old it sv aw):=Lg.of (ah 272 19) fun _ _=>by kernel_rfl
theorem Si(a:ο)(aV old it:Int)(sv aw:Bool):Lg F4 (bv 17 Ω::K a aV old it sv aw) D8 (bv 52 (decide (bits .and ψ old 4=0))::jv 7 (old)::K a aV old it sv aw):=Lg.of (aC 272 52) fun _ _=>by kernel_rfl
theorem Sj(a:ο)(aV old it:Int)(sv aw:Bool):Lf (.bool Ω) xW (iv 18 it::bv 17 Ψ::K a aV old it sv aw) D8 (bv 52 (decide (bits .and ψ old 4=0))::jv 7 (old)::K a aV old it sv aw):=Lf.of (aC 272 52) fun _ _=>by kernel_rfl
theorem Lj(a:ο)(aV old it:Int)(sv:Bool):Lf (.bool Ψ) xW (iv 18 it::bv 17 Ψ::K a aV old it sv Ψ) qq (K a aV old it sv Ψ):=Lf.of (ah 272 42) fun _ _=>by kernel_rfl
theorem Lk(a:ο)(aV old it:Int)(sv:Bool):Lf (.bool Ψ) xW (iv 18 it::bv 17 Ψ::K a aV old it sv Ω) Ld (bv 28 (decide (bits .and ψ old 2=0))::K a aV old it sv Ω):=Lf.of (ah 272 29) fun _ _=>by kernel_rfl
theorem Sk(a:ο)(aV old it:Int)(sv:Bool):Lg Ld (bv 28 Ω::K a aV old it sv Ω) qq (K a aV old it sv Ω):=Lg.of (ah 272 42) fun _ _=>by kernel_rfl
theorem Sl(a:ο)(aV old it:Int)(sv:Bool):Lg Ld (bv 28 Ψ::K a aV old it sv Ω) Le (bv 33 (old.fdiv 8 !=0)::K a aV old it sv Ω):=Lg.of (ah 272 34) fun _ _=>by kernel_rfl
theorem Sn(a:ο)(aV old it:Int)(sv:Bool):Lg Le (bv 33 Ω::K a aV old it sv Ω) qq (K a aV old it sv Ω):=Lg.of (ah 272 42) fun _ _=>by kernel_rfl
theorem So(a:ο)(aV old it:Int)(sv:Bool):Lg Le (bv 33 Ψ::K a aV old it sv Ω) A2 (bv 33 Ψ::pv 36 a::jv 37 (old)::jv 39 (bits .or ψ old 2)::K a aV old it sv Ω):=Lg.of (ah 272 40) fun _ _=>by kernel_rfl
theorem Sp(a:ο)(aV old it:Int)(sv:Bool):Lf (.bool Ψ) A2 (bv 33 Ψ::K a aV old it sv Ω) qq (K a aV old it sv Ψ):=Lf.of (ah 272 42) fun _ _=>by kernel_rfl
theorem Sq(a:ο)(aV old it:Int)(sv:Bool):Lf (.bool Ω) A2 (bv 33 Ψ::K a aV old it sv Ω) qq (K a aV old it sv Ω):=Lf.of (ah 272 42) fun _ _=>by kernel_rfl
theorem Ll(a:ο)(aV old it:Int)(sv aw:Bool):Lf (.tuple #[]) qq (K a aV old it sv aw) Sb (pv 47 a::K a aV old (χ Zz (it+1)) sv aw):=Lf.of (ah 272 48) fun _ _=>by kernel_rfl
theorem Lm(a:ο)(aV old it v:Int)(sv aw:Bool):Lf (Γ ψ v) Sb (pv 47 a::K a aV old it sv aw) A1 (K a aV v it sv aw):=Lf.of (ah 272 14) fun _ _=>by kernel_rfl
theorem Ss(a:ο)(aV old it:Int)(sv aw:Bool):Lg D8 (bv 52 Ψ::jv 7 (old)::K a aV old it sv aw) qr (bv 57 (bits .and ψ old 5 !=0)::jv 7 (bits .or ψ old 1)::K a aV old it sv aw):=Lg.of (aC 272 57) fun _ _=>by kernel_rfl
theorem Su(a:ο)(aV old it:Int)(sv aw:Bool):Lg D8 (bv 52 Ω::jv 7 (old)::K a aV old it sv aw) qr (bv 57 (bits .and ψ old 5 !=0)::jv 7 (old)::K a aV old it sv aw):=Lg.of (aC 272 57) fun _ _=>by kernel_rfl
theorem Ga(a:ο)(aV old it nw:Int):Lg qr (bv 57 Ψ::jv 7 (nw)::K a aV old it Ω Ω) mU (pv 77 a::jv 78 (old)::jv 79 ((χ ψ (nw+8)))::K a aV old it Ω Ω):=Lg.of (ah 272 80) fun _ _=>by kernel_rfl
theorem Gb(a:ο)(aV old it nw:Int):Lg qr (bv 57 Ψ::jv 7 (nw)::K a aV old it Ω Ψ) xY (bv 71 (decide (bits .and ψ (χ ψ (nw+8)) 2=0))::jv 7 ((χ ψ (nw+8)))::K a aV old it Ω Ψ):=Lg.of (aC 272 71) fun _ _=>by kernel_rfl
theorem Ln(a:ο)(aV old it nw:Int)(aw:Bool):Lg qr (bv 57 Ψ::jv 7 (nw)::K a aV old it Ψ aw) xX (bv 65 (bits .and ψ old 1 !=0)::jv 7 ((χ ψ (nw+8)))::K a aV old it Ψ aw):=Lg.of (aC 272 65) fun _ _=>by kernel_rfl
theorem Gc(a:ο)(aV old it nw:Int):Lg qr (bv 57 Ω::jv 7 (nw)::K a aV old it Ω Ω) mU (pv 77 a::jv 78 (old)::jv 79 (nw)::K a aV old it Ω Ω):=Lg.of (ah 272 80) fun _ _=>by kernel_rfl
theorem Gd(a:ο)(aV old it nw:Int):Lg qr (bv 57 Ω::jv 7 (nw)::K a aV old it Ω Ψ) xY (bv 71 (decide (bits .and ψ nw 2=0))::jv 7 (nw)::K a aV old it Ω Ψ):=Lg.of (aC 272 71) fun _ _=>by kernel_rfl
theorem Lo(a:ο)(aV old it nw:Int)(aw:Bool):Lg qr (bv 57 Ω::jv 7 (nw)::K a aV old it Ψ aw) xX (bv 65 (bits .and ψ old 1 !=0)::jv 7 (nw)::K a aV old it Ψ aw):=Lg.of (aC 272 65) fun _ _=>by kernel_rfl
theorem Lp(a:ο)(aV old it nw:Int)(sv:Bool):Lg xX (bv 65 Ψ::jv 7 (nw)::K a aV old it sv Ω) mU (pv 77 a::jv 78 (old)::jv 79 (bits .or ψ nw 4)::K a aV old it sv Ω):=Lg.of (ah 272 80) fun _ _=>by kernel_rfl
theorem Lq(a:ο)(aV old it nw:Int)(sv:Bool):Lg xX (bv 65 Ψ::jv 7 (nw)::K a aV old it sv Ψ) xY (bv 71 (decide (bits .and ψ (bits .or ψ nw 4) 2=0))::jv 7 (bits .or ψ nw 4)::K a aV old it sv Ψ):=Lg.of (aC 272 71) fun _ _=>by kernel_rfl
theorem Lr(a:ο)(aV old it nw:Int)(sv:Bool):Lg xX (bv 65 Ω::jv 7 (nw)::K a aV old it sv Ω) mU (pv 77 a::jv 78 (old)::jv 79 (nw)::K a aV old it sv Ω):=Lg.of (ah 272 80) fun _ _=>by kernel_rfl
theorem Ls(a:ο)(aV old it nw:Int)(sv:Bool):Lg xX (bv 65 Ω::jv 7 (nw)::K a aV old it sv Ψ) xY (bv 71 (decide (bits .and ψ (nw) 2=0))::jv 7 (nw)::K a aV old it sv Ψ):=Lg.of (aC 272 71) fun _ _=>by kernel_rfl
theorem Sv(a:ο)(aV old it nw:Int)(sv:Bool):Lg xY (bv 71 Ω::jv 7 (nw)::K a aV old it sv Ψ) mU (pv 77 a::jv 78 (old)::jv 79 (bits .andNot ψ nw 2)::K a aV old it sv Ψ):=Lg.of (ah 272 80) fun _ _=>by kernel_rfl
theorem Sw(a:ο)(aV old it nw:Int)(sv aw:Bool):Lf (.bool Ψ) mU (pv 77 a::jv 78 (old)::jv 79 (nw)::K a aV old it sv aw) F5 (bv 83 (decide (bits .and ψ old 5=0))::K a aV old it sv aw):=Lf.of (aC 272 83) fun _ _=>by kernel_rfl
theorem Sx(a:ο)(aV old it nw:Int)(sv aw:Bool):Lf (.bool Ω) mU (pv 77 a::jv 78 (old)::jv 79 (nw)::K a aV old it sv aw) F6 (pv 133 a::K a aV old it sv aw):=Lf.of (ah 272 134) fun _ _=>by kernel_rfl
theorem Ge(a:ο)(aV old it v:Int)(sv aw:Bool):Lf (Γ ψ v) F6 (pv 133 a::K a aV old it sv aw) A1 (K a aV v it sv aw):=Lf.of (ah 272 14) fun _ _=>by kernel_rfl
theorem Sy(a:ο)(aV old it:Int)(sv aw:Bool):Lg F5 (bv 83 Ψ::K a aV old it sv aw) xZ (K a aV old it sv aw):=Lg.of (ah 272 135) fun _ _=>by kernel_rfl
theorem Sz(a:ο)(aV old it:Int)(sv aw:Bool):Lg F5 (bv 83 Ω::K a aV old it sv aw) F7 (bv 87 (decide (aV=0))::bv 8 (aV !=0)::K a aV old it sv aw):=Lg.of (aC 272 87) fun _ _=>by kernel_rfl
theorem SA(a:ο)(aV old it:Int)(sv aw lf:Bool):Lg F7 (bv 87 Ψ::bv 8 lf::K a aV old it sv aw) Sc (bv 8 lf::K a aV old it sv aw):=Lg.of (ah 272 88) fun _ _=>by kernel_rfl
theorem SD(a:ο)(aV old it:Int)(sv aw lf:Bool):Lg F7 (bv 87 Ω::bv 8 lf::K a aV old it sv aw) A3 (pv 91 (a.add 1)::bv 92 lf::K a aV old it sv aw):=Lg.of (ah 272 93) fun _ _=>by kernel_rfl
theorem Lt(a:ο)(aV old it t:Int)(sv aw lf:Bool):Lf (Γ Zz t) Sc (bv 8 lf::K a aV old it sv aw) A3 (pv 91 (a.add 1)::bv 92 lf::K a t old it sv aw):=Lf.of (ah 272 93) fun _ _=>by kernel_rfl
theorem SE(a:ο)(aV old it:Int)(aw lf:Bool):Lf (.tuple #[]) A3 (pv 91 (a.add 1)::bv 92 lf::K a aV old it Ω aw) Sd (bv 95 Ω::K a aV old it Ω aw):=Lf.of (ah 272 96) fun _ _=>by kernel_rfl
theorem SF(a:ο)(aV old it:Int)(aw lf:Bool):Lf (.tuple #[]) A3 (pv 91 (a.add 1)::bv 92 lf::K a aV old it Ψ aw) ul (pv 103 a::K a aV old it Ψ aw):=Lf.of (ah 272 104) fun _ _=>by kernel_rfl
theorem Lu(a:ο)(aV old it t:Int)(aw:Bool):Lf (Γ Zz t) Sd (bv 95 Ω::K a aV old it Ω aw) ul (pv 103 a::K a aV old it (decide (χ Zz (t-aV)>1000000)) aw):=Lf.of (ah 272 104) fun _ _=>by kernel_rfl
theorem Gf(a:ο)(aV old it v:Int)(sv aw:Bool):Lf (Γ ψ v) ul (pv 103 a::K a aV old it sv aw) Cu (bv 107 (bits .and ψ v 4 !=0)::K a aV v it sv aw):=Lf.of (aC 272 107) fun _ _=>by kernel_rfl
theorem Lv(a:ο)(aV old it:Int)(sv aw:Bool):Lg Cu (bv 107 Ω::K a aV old it sv aw) A1 (K a aV old 0 sv Ψ):=Lg.of (ah 272 14) fun _ _=>by kernel_rfl
theorem Lw(a:ο)(aV old it:Int)(sv aw:Bool):Lg Cu (bv 107 Ψ::K a aV old it sv aw) F8 (bv 111 (bits .and ψ old 3 !=0)::K a aV old it sv aw):=Lg.of (ah 272 112) fun _ _=>by kernel_rfl
theorem Lx(a:ο)(aV old it:Int)(sv aw:Bool):Lg F8 (bv 111 Ω::K a aV old it sv aw) Cv (bv 115 (decide (old.fdiv 8=0))::K a aV old it sv aw):=Lg.of (aC 272 115) fun _ _=>by kernel_rfl
theorem Gg(a:ο)(aV old it:Int)(aw:Bool):Lg Cv (bv 115 Ω::K a aV old it Ω aw) um (pv 128 a::jv 129 (-11)::K a aV old it Ω aw):=Lg.of (ah 272 130) fun _ _=>by kernel_rfl
theorem Gh(a:ο)(aV old it:Int)(aw:Bool):Lg Cv (bv 115 Ω::K a aV old it Ψ aw) Cw (bv 123 (decide (old.fdiv 8=1))::jv 9 (-7)::K a aV old it Ψ aw):=Lg.of (aC 272 123) fun _ _=>by kernel_rfl
theorem Ly(a:ο)(aV old it:Int)(sv aw:Bool):Lg Cw (bv 123 Ψ::jv 9 (-7)::K a aV old it sv aw) um (pv 128 a::jv 129 (-11)::K a aV old it sv aw):=Lg.of (ah 272 130) fun _ _=>by kernel_rfl
theorem Lz(a:ο)(aV old it:Int)(sv aw:Bool):Lg Cw (bv 123 Ω::jv 9 (-7)::K a aV old it sv aw) um (pv 128 a::jv 129 (-7)::K a aV old it sv aw):=Lg.of (ah 272 130) fun _ _=>by kernel_rfl
theorem Gi(a:ο)(aV old it v dl:Int)(sv aw:Bool):Lf (Γ ψ v) um (pv 128 a::jv 129 (dl)::K a aV old it sv aw) xZ (K a aV old it sv aw):=Lf.of (ah 272 135) fun _ _=>by kernel_rfl
theorem Gj(a:ο)(aV old it:Int)(sv aw:Bool):Lf (.tuple #[]) xZ (K a aV old it sv aw) Cx (pv 136 a::K a aV old it sv aw):=Lf.of (ah 272 137) fun _ _=>by kernel_rfl
theorem Gk(a:ο)(aV old it:Int)(sv aw:Bool):Lf (Θ (ω a)) Cx (pv 136 a::K a aV old it sv aw) F9 (pv 137 a::K a aV old it sv aw):=Lf.of (ah 272 138) fun _ _=>by kernel_rfl
end
section
structure bG where
 fn:ZT
 n:Nat
 T:List Z1
 l:List (Nat×Δ)
 defers:List Z3:=[]
 mode:FrameMode:=.run
 kind:CallKind:=.normal
def bG.fr(d:bG)(tmps:Array Δ):Frame:={fn:=d.fn,tmps,todo:=d.T,defers:=d.defers,mode:=d.mode,kind:=d.kind}
def KN:List bG->(Nat->Nat->Δ) ->List Frame
 |[],_=>[]
 |d::ds,F=>d.fr (l7 d.n (cO d.l (F 0)))::KN ds fun i=>F (i+1)
def SG(d:bG)(ds:List bG)(F:Nat->Nat->Δ):Ξ:=G (d.fr (l7 d.n (cO d.l (F 0)))) (KN ds fun i=>F (i+1))
def bj(d:bG)(ds:List bG)(g:Ξ):Prop:=∃F,g=SG d ds F
def ck:List bG->List Frame->List Frame
 |d::ds,fr::qH=>d.fr fr.tmps::ck ds qH
 |_,_=>[]
theorem A4:∀(ds:List bG) (qH:List Frame),qH=ck ds qH->qH.map (fun fr=>fr.tmps.size)=ds.map (·.n) ->ZU (fun(d:bG) (fr:Frame)=>d.l.map fun p=>fr.tmps.getD p.1 undef) ds qH=ds.map (fun d=>d.l.map Z2) ->
 ∃F,qH=KN ds F
 |[],[],_,_,_=>⟨fun _ _=>undef,rfl⟩
 |[],fr::qH,h,_,_=>by simp[ck]at h
 |d::ds,[],_,h,_=>by simp at h
 |d::ds,fr::qH,h1,h2,h3=>by
  simp only[ck,ZW]at h1;simp only[List.map_cons,ZW]at h2;simp only[List.zipWith_cons_cons,List.map_cons,ZW]at h3;obtain⟨F,hF⟩:=A4 ds qH h1.2 h2.2 h3.2;refine⟨fun i=>match i with|0=>fun j=>fr.tmps.getD j undef|i+1=>F i,?_⟩;simp only[KN];rw[<-uj h2.1 d.l fun p hp=>?_,<-h1.1]
  ·exact congrArg (fr::·) hF
  ·obtain⟨i,hi,rfl⟩:=List.mem_iff_getElem.1 hp;have:=congrArg (fun x=>x[i]?) h3.1;simpa[hi]using this
section
variable{P:ZZ}{main:Bool}{S S':Ξ->Prop}{g:Ξ}
theorem bj.of{d:bG}{ds:List bG}{r:Ξ}(h1:r=G (d.fr r.frame.tmps) (ck ds r.callers))(h2:(r.frame::r.callers).map (fun fr=>fr.tmps.size)=(d::ds).map (·.n))
 (h3:ZU (fun(d:bG) (fr:Frame)=>d.l.map fun p=>fr.tmps.getD p.1 undef) (d::ds) (r.frame::r.callers)=(d::ds).map (fun d=>d.l.map Z2)):bj d ds r:=by
 obtain⟨F,hF⟩:=A4 (d::ds) (r.frame::r.callers) (by simp only[ck];have e1:=congrArg Goroutine.frame h1;have e2:=congrArg Goroutine.callers h1;dsimp only[G]at e1 e2;rw[<-e2,<-e1]) h2 h3
 refine⟨F,?_⟩;simp only[KN,ZW]at hF;unfold SG;rw[<-hF.1,<-hF.2];have e1:=congrArg Goroutine.frame h1;have e2:=congrArg Goroutine.callers h1;dsimp only[G]at e1 e2;rw[<-e2,<-e1]at h1;exact h1
theorem bj.QF{d d':bG}{ds ds':List bG}(stop:Ξ->Bool)(k:Nat)(h1:∀F,bN P main stop k (SG d ds F)=G (d'.fr (bN P main stop k (SG d ds F)).frame.tmps) (ck ds' (bN P main stop k (SG d ds F)).callers))
 (h2:∀F,((bN P main stop k (SG d ds F)).frame::(bN P main stop k (SG d ds F)).callers).map (fun fr=>fr.tmps.size)=(d'::ds').map (·.n))
 (h3:∀F,ZU (fun(d:bG) (fr:Frame)=>d.l.map fun p=>fr.tmps.getD p.1 undef) (d'::ds') ((bN P main stop k (SG d ds F)).frame::(bN P main stop k (SG d ds F)).callers)=(d'::ds').map (fun d=>d.l.map Z2))
 (g:Ξ) (h:bj d ds g):ak P main k (bj d' ds') g:=by
 obtain⟨F,rfl⟩:=h;exact ak.run stop k (bj.of (h1 F) (h2 F) (h3 F))
theorem bj.F3{d d':bG}{ds ds':List bG}(v:Δ)(stop:Ξ->Bool)(k:Nat)(h1:∀F,bN P main stop k (fin v (SG d ds F))=G (d'.fr (bN P main stop k (fin v (SG d ds F))).frame.tmps) (ck ds' (bN P main stop k (fin v (SG d ds F))).callers))
 (h2:∀F,((bN P main stop k (fin v (SG d ds F))).frame::(bN P main stop k (fin v (SG d ds F))).callers).map (fun fr=>fr.tmps.size)=(d'::ds').map (·.n))
 (h3:∀F,ZU (fun(d:bG) (fr:Frame)=>d.l.map fun p=>fr.tmps.getD p.1 undef) (d'::ds') ((bN P main stop k (fin v (SG d ds F))).frame::(bN P main stop k (fin v (SG d ds F))).callers)=(d'::ds').map (fun d=>d.l.map Z2))
 (g:Ξ) (h:bj d ds g):ak P main k (bj d' ds') (fin v g):=by
 obtain⟨F,rfl⟩:=h;exact ak.run stop k (bj.of (h1 F) (h2 F) (h3 F))
theorem bj.head{d:bG}{ds:List bG}{s:Sem Next}(h:∀F,au (SG d ds F)=ω s)(g:Ξ)(hg:bj d ds g):au g=ω s:=by obtain⟨F,rfl⟩:=hg;exact h F
theorem bj.open{d:bG}{ds:List bG}{g:Ξ}(h:bj d ds g)(h1:d.defers=[])(h2:d.mode=.run)(h3:d.kind=.normal):∃cs,At d.fn d.n d.T d.l cs g/\∃F,cs=KN ds F:=by obtain⟨F,rfl⟩:=h;refine⟨KN ds fun i=>F (i+1),⟨F 0,?_⟩,fun i=>F (i+1),rfl⟩;unfold SG FG bG.fr;rw[h1,h2,h3]
theorem At.close{fn:ZT}{n:Nat}{T:List Z1}{l:List (Nat×Δ)}{ds:List bG}{F:Nat->Nat->Δ}{g:Ξ}(h:At fn n T l (KN ds F) g):bj {fn,n,T,l} ds g:=by
 obtain⟨f,rfl⟩:=h;exact⟨fun i=>match i with|0=>f|i+1=>F i,rfl⟩
end
def eh(f:ZT)(g:Ξ):Bool:=
 g.frame.fn==f&&match g.frame.mode,g.frame.todo with
 |.run,.inRegion ops (i::_)::_=>match((ops[i]?).map (·.op):Option Op)with
  |some (.store ..)=>Ψ
  |_=>Ω
 |_,_=>Ω
def LA(f:ZT)(g:Ξ):Bool:=g.frame.fn==f
end
section
def sz3(ds:List bG)(r:Ξ):Ξ×List Nat×List (List Δ):=(r,(r.frame::r.callers).map (fun fr=>fr.tmps.size),ZU (fun(d:bG) (fr:Frame)=>d.l.map fun p=>fr.tmps.getD p.1 undef) ds (r.frame::r.callers))
def sg3(d:bG)(ds:List bG)(r:Ξ):Ξ×List Nat×List (List Δ):=(G (d.fr r.frame.tmps) (ck ds r.callers),(d::ds).map (·.n),(d::ds).map (fun d=>d.l.map Z2))
def Sg(d:bG)(ds:List bG)(d':bG)(ds':List bG):Prop:=∀g,bj d ds g->ak P0 Ω 200 (bj d' ds') g
def Sf(v:Δ)(d:bG)(ds:List bG)(d':bG)(ds':List bG):Prop:=∀g,bj d ds g->ak P0 Ω 200 (bj d' ds') (fin v g)
theorem Sg.of{d d':bG}{ds ds':List bG}(stop:Ξ->Bool)(h:∀F,sz3 (d'::ds') (bN P0 Ω stop 200 (SG d ds F))=sg3 d' ds' (bN P0 Ω stop 200 (SG d ds F))):Sg d ds d' ds':=bj.QF stop 200 (fun f=>(wV.three (h f)).1) (fun f=>(wV.three (h f)).2.1) (fun f=>(wV.three (h f)).2.2)
theorem Sf.of{v:Δ}{d d':bG}{ds ds':List bG}(stop:Ξ->Bool)(h:∀F,sz3 (d'::ds') (bN P0 Ω stop 200 (fin v (SG d ds F)))=sg3 d' ds' (bN P0 Ω stop 200 (fin v (SG d ds F)))):Sf v d ds d' ds':=bj.F3 v stop 200 (fun f=>(wV.three (h f)).1) (fun f=>(wV.three (h f)).2.1) (fun f=>(wV.three (h f)).2.2)
structure WP where
 wg:ο
 gb:ο
 cb:ο
 lk:ο
 eb:ο
 ib:ο
variable(p:WP)(v e o:Int)
def WP.l(p:WP):List (Nat×Δ):=[pv 0 p.wg,pv 1 p.gb,pv 2 p.cb,pv 3 p.lk,pv 4 p.eb,pv 5 p.ib]
def WP.tx(p:WP):Array Δ:=#[Θ (ω p.wg),Θ (ω p.gb),Θ (ω p.cb),Θ (ω p.lk),Θ (ω p.eb),Θ (ω p.ib)]
def bB:WP:=⟨a0,a0,a0,a0,a0,a0⟩
def fB(ds:List Z3):bG:={fn:=P0.funcs.size,n:=0,T:=[],l:=[],defers:=ds,mode:=.panicking [goexitEntry]}
def aZ(p:WP):Z3:={target:=.fn (.func 212) #[],args:=#[Θ (ω p.wg)]}
def cT(p:WP):Z3:={target:=.fn (.func 215) #[],args:=#[Θ (ω p.lk)]}
def vA(p:WP):Z3:={target:=.fn (.func 211) p.tx,args:=#[]}
def fW(p:WP)(T:List Z1)(ex:List (Nat×Δ))(ds:List Z3):bG:={fn:=211,n:=15,T,l:=ex++p.l,defers:=ds,kind:=.deferred}
def kz(p:WP)(T:List Z1)(ds:List Z3):bG:={fn:=211,n:=15,T,l:=p.l,defers:=ds,mode:=.returning,kind:=.deferred}
def fL(p:WP)(T:List Z1):bG:={fn:=214,n:=6,T,l:=[pv 0 p.lk]}
def fI(p:WP)(T:List Z1)(ex:List (Nat×Δ)):bG:={fn:=250,n:=13,T,l:=ex++[pv 0 p.lk]}
def fU(p:WP)(T:List Z1):bG:={fn:=215,n:=6,T,l:=[pv 0 p.lk],kind:=.deferred}
def fJ(p:WP)(T:List Z1)(ex:List (Nat×Δ)):bG:={fn:=251,n:=21,T,l:=ex++[pv 0 p.lk]}
def fV(p:WP)(T:List Z1)(ex:List (Nat×Δ))(v:Int):bG:={fn:=274,n:=43,T,l:=ex++[pv 0 p.lk,jv 1 v]}
def fS(p:WP)(T:List Z1)(l:List (Nat×Δ)):bG:={fn:=272,n:=139,T,l:=l}
def kG(d:bG)(ds:List bG)(stop:Ξ->Bool):Ξ:=bN P0 Ω stop 200 (SG d ds fun _ _=>undef)
def dG(d:bG)(ds:List bG)(v:Δ)(stop:Ξ->Bool):Ξ:=bN P0 Ω stop 200 (fin v (SG d ds fun _ _=>undef))
def aK(g:Ξ):List Z1:=g.frame.todo
def cH(i:Nat)(g:Ξ):List Z1:=match g.callers[i]? with|some fr=>fr.todo|none=>[]
def tw7:=aK (kG (fB [vA bB]) [] (ah 211 7))
def LB:=aK (dG (fW bB tw7 [] [aZ bB]) [fB []] (Θ (ω a0)) (ah 211 8))
def SH:=dG (fW bB LB [pv 7 a0] [aZ bB]) [fB []] (.agg #[]) (LA 213)
def QG:=cH 0 SH
def Gl:=dG (fW bB QG [] [aZ bB]) [fB []] (Γ Zz 0) (ah 250 2)
def ti2:=aK Gl
def QH:=cH 0 Gl
def x8:=cH 1 Gl
def Ks:=aK (dG (fI bB ti2 []) [fL bB QH,fW bB x8 [] [aZ bB],fB []] (.tuple #[]) (ah 250 6))
def ti7:=aK (dG (fI bB Ks []) [fL bB QH,fW bB x8 [] [aZ bB],fB []] (.bool Ψ) (ah 250 7))
def aa9:=dG (fI bB Ks []) [fL bB QH,fW bB x8 [] [aZ bB],fB []] (.bool Ω) (ah 272 13)
def SI:=cH 0 aa9
def ti9:=aK (dG (fI bB ti7 []) [fL bB QH,fW bB x8 [] [aZ bB],fB []] (.tuple #[]) (ah 250 9))
def LC:=aK (dG (fI bB ti9 []) [fL bB QH,fW bB x8 [] [aZ bB],fB []] (Θ (ω a0)) (ah 250 10))
def D9:=aK (dG (fI bB LC []) [fL bB QH,fW bB x8 [] [aZ bB],fB []] (.tuple #[]) (ah 211 11))
def LD:=aK (dG (fW bB D9 [] [cT bB,aZ bB]) [fB []] (.slice (ω a0) 1 1) (ah 211 12))
def LE:=aK (dG (fW bB LD [] [cT bB,aZ bB]) [fB []] (Γ Zz 0) (ah 211 14))
def Gm:=aK (dG (fW bB LE [] [cT bB,aZ bB]) [fB []] (Θ (ω a0)) (eh 211))
def SJ:=dG (fW bB Gm [] [cT bB,aZ bB]) [fB []] undef (ah 251 6)
def tj6:=aK SJ
def vB:=cH 0 SJ
def kA:=cH 1 SJ
def tj8:=aK (dG (fJ bB tj6 []) [fU bB vB,kz bB kA [aZ bB],fB []] (Γ ψ 0) (ah 251 8))
def tj9:=aK (dG (fJ bB tj8 [pv 7 a0]) [fU bB vB,kz bB kA [aZ bB],fB []] (Θ (ω a0)) (ah 251 9))
def LF:=aK (dG (fJ bB tj9 []) [fU bB vB,kz bB kA [aZ bB],fB []] (.tuple #[]) (ah 251 10))
def LG:=aK (dG (fJ bB LF []) [fU bB vB,kz bB kA [aZ bB],fB []] (.tuple #[]) (ah 251 14))
def SK:=aK (dG (fJ bB LG []) [fU bB vB,kz bB kA [aZ bB],fB []] (Γ ψ 0) (aC 251 16))
def A5:=aK (kG (fJ bB SK [bv 16 Ω,jv 2 0]) [fU bB vB,kz bB kA [aZ bB],fB []] (ah 251 20))
def gUs:=kG (fJ bB SK [bv 16 Ψ,jv 2 0]) [fU bB vB,kz bB kA [aZ bB],fB []] (aC 274 8)
def SM:=aK gUs
def eN:=cH 0 gUs
def un:=aK (kG (fV bB SM [bv 8 Ω] 0) (fJ bB eN []::[fU bB vB,kz bB kA [aZ bB],fB []]) (aC 274 12))
def SN:=aK (kG (fV bB un [bv 12 Ω] 0) (fJ bB eN []::[fU bB vB,kz bB kA [aZ bB],fB []]) (ah 274 42))
def Gn:=aK (kG (fV bB un [bv 12 Ψ] 0) (fJ bB eN []::[fU bB vB,kz bB kA [aZ bB],fB []]) (ah 274 14))
def LH:=aK (kG (fV bB Gn [jv 4 0] 0) (fJ bB eN []::[fU bB vB,kz bB kA [aZ bB],fB []]) (ah 274 18))
def x9:=aK (kG (fV bB LH [bv 17 Ω,jv 4 0] 0) (fJ bB eN []::[fU bB vB,kz bB kA [aZ bB],fB []]) (aC 274 21))
def Ea:=aK (kG (fV bB x9 [bv 21 Ω,jv 4 0] 0) (fJ bB eN []::[fU bB vB,kz bB kA [aZ bB],fB []]) (ah 274 30))
def SO:=aK (dG (fV bB Ea [] 0) (fJ bB eN []::[fU bB vB,kz bB kA [aZ bB],fB []]) (.bool Ψ) (ah 274 34))
def SP:=aK (dG (fV bB Ea [] 0) (fJ bB eN []::[fU bB vB,kz bB kA [aZ bB],fB []]) (.bool Ω) (ah 274 38))
def QI:=dG (fJ bB A5 []) [fU bB vB,kz bB kA [aZ bB],fB []] (.tuple #[]) (ah 210 12)
def LI:=aK QI
def vC:=cH 0 QI
abbrev dH(p:WP):List bG:=[fU p vB,kz p kA [aZ p],fB []]
abbrev oV(p:WP)(e:Int):List bG:=[fL p QH,fW p x8 [iv 6 e] [aZ p],fB []]
theorem LJ:Sg (fB [vA p]) [] (fW p tw7 [] [aZ p]) [fB []]:=Sg.of (ah 211 7) fun _=>by kernel_rfl
theorem aba(g0:ο):Sf (Θ (ω g0)) (fW p tw7 [] [aZ p]) [fB []] (fW p LB [pv 7 g0] [aZ p]) [fB []]:=Sf.of (ah 211 8) fun _=>by kernel_rfl
theorem abb(g0:ο)(c:Δ)(g:Ξ)(h:bj (fW p LB [pv 7 g0] [aZ p]) [fB []] g):ak P0 Ω 200 (fun g'=>∃cs1,bj (fW p QG [] [aZ p]) [fB []] (G cs1.head! cs1.tail)/\cs1≠[]/\g'={frame:=Frame.enter P0 213 #[Θ (ω g0),c] .normal,callers:=cs1,status:=.running,dying:=ZQ}) (fin c g):=by
 obtain⟨F,rfl⟩:=h;refine ak.run (LA 213) 200 ⟨(bN P0 Ω (LA 213) 200 (fin c (SG (fW p LB [pv 7 g0] [aZ p]) [fB []] F))).callers,bj.of (by kernel_rfl) (by kernel_rfl) (by kernel_rfl),?_,?_⟩
 ·have e:(bN P0 Ω (LA 213) 200 (fin c (SG (fW p LB [pv 7 g0] [aZ p]) [fB []] F))).callers.length=2:=by kernel_rfl
  intro h;rw[h]at e;cases e
 ·kernel_rfl
theorem abc:Sf (Γ Zz e) (fW p QG [] [aZ p]) [fB []] (fI p ti2 []) (oV p e):=Sf.of (ah 250 2) fun _=>by kernel_rfl
theorem abd:Sf (.tuple #[]) (fI p ti2 []) (oV p e) (fI p Ks [pv 5 p.lk]) (oV p e):=Sf.of (ah 250 6) fun _=>by kernel_rfl
theorem akN:Sf (.bool Ψ) (fI p Ks [pv 5 p.lk]) (oV p e) (fI p ti7 []) (oV p e):=Sf.of (ah 250 7) fun _=>by kernel_rfl
theorem akO:Sf (.bool Ω) (fI p Ks [pv 5 p.lk]) (oV p e) (fS p Lb [pv 0 p.lk,iv 2 0,bv 3 Ω,bv 4 Ω,iv 5 0,pv 12 p.lk]) (fI p SI []::(oV p e)):=Sf.of (ah 272 13) fun _=>by kernel_rfl
theorem abe:Sf (.tuple #[]) (fI p ti7 []) (oV p e) (fI p ti9 [pv 8 p.lk]) (oV p e):=Sf.of (ah 250 9) fun _=>by kernel_rfl
theorem abf:Sf (Θ (ω p.lk)) (fI p ti9 [pv 8 p.lk]) (oV p e) (fI p LC [pv 9 p.lk]) (oV p e):=Sf.of (ah 250 10) fun _=>by kernel_rfl
theorem SQ:Sf (.tuple #[]) (fI p LC [pv 9 p.lk]) (oV p e) (fW p D9 [iv 6 e] [cT p,aZ p]) [fB []]:=Sf.of (ah 211 11) fun _=>by kernel_rfl
theorem LL(l:List (Nat×Δ)):Sf (.tuple #[]) (fS p F9 l) (fI p SI []::(oV p e)) (fW p D9 [iv 6 e] [cT p,aZ p]) [fB []]:=Sf.of (ah 211 11) fun _=>by kernel_rfl
theorem SR(v:Δ):Sf (v) (fW p D9 [iv 6 e] [cT p,aZ p]) [fB []] (fW p LD [(11,v),iv 6 e] [cT p,aZ p]) [fB []]:=Sf.of (ah 211 12) fun _=>by kernel_rfl
theorem SS(i:Int)(v:Δ):Sf (Γ Zz i) (fW p LD [(11,v),iv 6 e] [cT p,aZ p]) [fB []] (fW p LE [(11,v),iv 12 i,iv 13 e] [cT p,aZ p]) [fB []]:=Sf.of (ah 211 14) fun _=>by kernel_rfl
theorem ST(v i d:Δ):Sf (d) (fW p LE [(11,v),(12,i),iv 13 e] [cT p,aZ p]) [fB []] (fW p Gm [(14,d),iv 13 e] [cT p,aZ p]) [fB []]:=Sf.of (eh 211) fun _=>by kernel_rfl
theorem SU(d:Δ):Sf (undef) (fW p Gm [(14,d),iv 13 e] [cT p,aZ p]) [fB []] (fJ p tj6 [pv 5 p.lk]) (dH p):=Sf.of (ah 251 6) fun _=>by kernel_rfl
theorem abg(v:Δ):Sf (v) (fJ p tj6 [pv 5 p.lk]) (dH p) (fJ p tj8 [pv 7 p.lk]) (dH p):=Sf.of (ah 251 8) fun _=>by kernel_rfl
theorem abh:Sf (Θ (ω p.lk)) (fJ p tj8 [pv 7 p.lk]) (dH p) (fJ p tj9 [pv 8 p.lk]) (dH p):=Sf.of (ah 251 9) fun _=>by kernel_rfl
theorem abi:Sf (.tuple #[]) (fJ p tj9 [pv 8 p.lk]) (dH p) (fJ p LF []) (dH p):=Sf.of (ah 251 10) fun _=>by kernel_rfl
theorem SV:Sf (.tuple #[]) (fJ p LF []) (dH p) (fJ p LG [pv 13 p.lk]) (dH p):=Sf.of (ah 251 14) fun _=>by kernel_rfl
theorem SW:Sf (Γ ψ v) (fJ p LG [pv 13 p.lk]) (dH p) (fJ p SK [bv 16 (v !=0),jv 2 v]) (dH p):=Sf.of (aC 251 16) fun _=>by kernel_rfl
theorem akP:Sg (fJ p SK [bv 16 Ω,jv 2 v]) (dH p) (fJ p A5 []) (dH p):=Sg.of (ah 251 20) fun _=>by kernel_rfl
theorem akQ:Sg (fJ p SK [bv 16 Ψ,jv 2 v]) (dH p) (fV p SM [bv 8 (decide (bits .and ψ (χ ψ (v+1)) 1=0))] v) (fJ p eN []::(dH p)):=Sg.of (aC 274 8) fun _=>by kernel_rfl
theorem abj:Sg (fV p SM [bv 8 Ω] v) (fJ p eN []::(dH p)) (fV p un [bv 12 (decide (bits .and ψ v 4=0))] v) (fJ p eN []::(dH p)):=Sg.of (aC 274 12) fun _=>by kernel_rfl
theorem SX:Sg (fV p un [bv 12 Ω] v) (fJ p eN []::(dH p)) (fV p SN [pv 41 (p.lk.add 1)] v) (fJ p eN []::(dH p)):=Sg.of (ah 274 42) fun _=>by kernel_rfl
theorem SY:Sg (fV p un [bv 12 Ψ] v) (fJ p eN []::(dH p)) (fV p Gn [jv 4 v] v) (fJ p eN []::(dH p)):=Sg.of (ah 274 14) fun _=>by kernel_rfl
theorem SZ:Sg (fV p Gn [jv 4 o] v) (fJ p eN []::(dH p)) (fV p LH [bv 17 (decide (o.fdiv 8=0)),jv 4 o] v) (fJ p eN []::(dH p)):=Sg.of (ah 274 18) fun _=>by kernel_rfl
theorem abk:Sg (fV p LH [bv 17 Ψ,jv 4 o] v) (fJ p eN []::(dH p)) (fV p x9 [bv 21 Ψ,jv 4 o] v) (fJ p eN []::(dH p)):=Sg.of (aC 274 21) fun _=>by kernel_rfl
theorem abl:Sg (fV p LH [bv 17 Ω,jv 4 o] v) (fJ p eN []::(dH p)) (fV p x9 [bv 21 (bits .and ψ o 7 !=0),jv 4 o] v) (fJ p eN []::(dH p)):=Sg.of (aC 274 21) fun _=>by kernel_rfl
theorem Gp:Sg (fV p x9 [bv 21 Ψ,jv 4 o] v) (fJ p eN []::(dH p)) (fJ p A5 []) (dH p):=Sg.of (ah 251 20) fun _=>by kernel_rfl
theorem S1:Sg (fV p x9 [bv 21 Ω,jv 4 o] v) (fJ p eN []::(dH p)) (fV p Ea [pv 27 p.lk,jv 28 o,jv 29 (bits .or ψ (χ ψ (o-8)) 2)] (bits .or ψ (χ ψ (o-8)) 2)) (fJ p eN []::(dH p)):=Sg.of (ah 274 30) fun _=>by kernel_rfl
theorem abm(nw:Int):Sf (.bool Ψ) (fV p Ea [pv 27 p.lk,jv 28 o,jv 29 nw] nw) (fJ p eN []::(dH p)) (fV p SO [pv 33 (p.lk.add 1)] nw) (fJ p eN []::(dH p)):=Sf.of (ah 274 34) fun _=>by kernel_rfl
theorem abn(nw:Int):Sf (.bool Ω) (fV p Ea [pv 27 p.lk,jv 28 o,jv 29 nw] nw) (fJ p eN []::(dH p)) (fV p SP [pv 37 p.lk] nw) (fJ p eN []::(dH p)):=Sf.of (ah 274 38) fun _=>by kernel_rfl
theorem S5:Sf (Γ ψ o) (fV p SP [pv 37 p.lk] v) (fJ p eN []::(dH p)) (fV p Gn [jv 4 o] v) (fJ p eN []::(dH p)):=Sf.of (ah 274 14) fun _=>by kernel_rfl
theorem S7:Sf (.tuple #[]) (fV p SO [pv 33 (p.lk.add 1)] v) (fJ p eN []::(dH p)) (fJ p A5 []) (dH p):=Sf.of (ah 251 20) fun _=>by kernel_rfl
theorem S9:Sf (.tuple #[]) (fV p SN [pv 41 (p.lk.add 1)] v) (fJ p eN []::(dH p)) (fJ p A5 []) (dH p):=Sf.of (ah 251 20) fun _=>by kernel_rfl
end
section
variable(p:WP)(v n m:Int)
def rE(g:Ξ):Bool:=match g.frame.mode with|.returning=>Ψ|_=>Ω
def fD(p:WP)(T:List Z1):bG:={fn:=212,n:=4,T,l:=[pv 0 p.wg],kind:=.deferred}
def dK:Z3:={target:=.fn (.func 237) #[],args:=#[]}
def fA(p:WP)(T:List Z1)(ex:List (Nat×Δ))(ds:List Z3):bG:={fn:=210,n:=117,T,l:=ex++[pv 0 p.wg,iv 1 (-1)],defers:=ds}
def fAr(p:WP)(T:List Z1)(ds:List Z3):bG:={fn:=210,n:=117,T,l:=[],defers:=ds,mode:=.returning}
def fM(p:WP)(f:ZT)(n:Nat)(T:List Z1)(ex:List (Nat×Δ)):bG:={fn:=f,n,T,l:=ex++[pv 0 p.wg]}
def LM:=aK (dG (fA bB LI [pv 11 a0] []) [fD bB vC,kz bB kA [],fB []] (Θ (ω a0)) (ah 210 13))
def LN:=aK (dG (fA bB LM [] []) [fD bB vC,kz bB kA [],fB []] (.tuple #[]) (ah 210 14))
def QJ:=dG (fA bB LN [] []) [fD bB vC,kz bB kA [],fB []] (.tuple #[]) (ah 242 9)
def Cy:=aK QJ
def LO:=cH 0 QJ
def Ta:=aK (dG (fM bB 242 10 Cy []) (fA bB LO [bv 4 Ω] [dK]::[fD bB vC,kz bB kA [],fB []]) (Γ Z0 0) (ah 210 48))
def Gq:=aK (kG (fA bB Ta [bv 47 Ω,(6,Γ Z0 0),bv 4 Ω] [dK]) [fD bB vC,kz bB kA [],fB []] (aC 210 74))
def LP:=aK (kG (fA bB Gq [bv 74 Ω,(6,Γ Z0 0),bv 4 Ω,jv 7 0,(8,Γ .u32 0)] [dK]) [fD bB vC,kz bB kA [],fB []] (ah 210 79))
def Eb:=aK (kG (fA bB LP [bv 78 Ω,(6,Γ Z0 0),bv 4 Ω,jv 7 0,(8,Γ .u32 0)] [dK]) [fD bB vC,kz bB kA [],fB []] (ah 210 92))
def uo:=aK (kG (fA bB Eb [bv 91 Ω,(6,Γ Z0 0),bv 4 Ω,jv 7 0,(8,Γ .u32 0)] [dK]) [fD bB vC,kz bB kA [],fB []] (aC 210 94))
def akR:=kG (fA bB uo [bv 94 Ψ,(6,Γ Z0 0),bv 4 Ω,jv 7 0,(8,Γ .u32 0)] [dK]) [fD bB vC,kz bB kA [],fB []] rE
def tgr:=aK akR
def gLd:=kG (fA bB uo [bv 94 Ω,(6,Γ Z0 0),bv 4 Ω,jv 7 0,(8,Γ .u32 0)] [dK]) [fD bB vC,kz bB kA [],fB []] (ah 244 6)
def Cz:=aK gLd
def LQ:=cH 0 gLd
def A6:=aK (dG (fM bB 244 7 Cz []) (fA bB LQ [(6,Γ Z0 0),bv 4 Ω,(8,Γ .u32 0)] [dK]::[fD bB vC,kz bB kA [],fB []]) (Γ Z0 0) (aC 210 100))
def gSt:=kG (fA bB A6 [bv 100 Ω,bv 4 Ω,(8,Γ .u32 0)] [dK]) [fD bB vC,kz bB kA [],fB []] (ah 245 8)
def CA:=aK gSt
def CB:=cH 0 gSt
def oW:=aK (dG (fM bB 245 9 CA []) (fA bB CB [bv 4 Ω,(8,Γ .u32 0)] [dK]::[fD bB vC,kz bB kA [],fB []]) (.tuple #[]) (aC 210 110))
def Gr:=aK (kG (fA bB oW [bv 110 Ψ,(8,Γ .u32 0)] [dK]) [fD bB vC,kz bB kA [],fB []] (ah 210 116))
def abo:=kG (fA bB oW [bv 110 Ω,(8,Γ .u32 0)] [dK]) [fD bB vC,kz bB kA [],fB []] rE
def Tb:=aK abo
abbrev cy(p:WP):List bG:=[fD p vC,kz p kA [],fB []]
abbrev gY(v:Int)(n:Int)(m:Int):List (Nat×Δ):=[(6,Γ Z0 v),bv 4 Ω,jv 7 n,(8,Γ .u32 m)]
theorem Tc:Sf (.tuple #[]) (fJ p A5 []) [fU p vB,kz p kA [aZ p],fB []] (fA p LI [pv 11 p.wg] []) (cy p):=Sf.of (ah 210 12) fun _=>by kernel_rfl
theorem Td:Sf (Θ (ω p.wg)) (fA p LI [pv 11 p.wg] []) (cy p) (fA p LM [pv 12 p.wg] []) (cy p):=Sf.of (ah 210 13) fun _=>by kernel_rfl
theorem Te:Sf (.tuple #[]) (fA p LM [pv 12 p.wg] []) (cy p) (fA p LN [] []) (cy p):=Sf.of (ah 210 14) fun _=>by kernel_rfl
theorem Tf:Sf (.tuple #[]) (fA p LN [] []) (cy p) (fM p 242 10 Cy [pv 7 p.wg,(8,Γ Z0 18446744069414584320)]) (fA p LO [bv 4 Ω] [dK]::(cy p)):=Sf.of (ah 242 9) fun _=>by kernel_rfl
theorem LR:Sf (Γ Z0 v) (fM p 242 10 Cy [pv 7 p.wg,(8,Γ Z0 18446744069414584320)]) (fA p LO [bv 4 Ω] [dK]::(cy p)) (fA p Ta [bv 47 (bits .and Z0 v 2147483648 !=0),(6,Γ Z0 v),bv 4 Ω] [dK]) (cy p):=Sf.of (ah 210 48) fun _=>by kernel_rfl
theorem abp:Sg (fA p Ta [bv 47 Ω,(6,Γ Z0 v),bv 4 Ω] [dK]) (cy p) (fA p Gq [bv 74 (decide (χ ψ (v.fdiv 4294967296)<0)),(6,Γ Z0 v),bv 4 Ω,jv 7 (χ ψ (v.fdiv 4294967296)),(8,Γ .u32 (χ .u32 (bits .and Z0 v 2147483647)))] [dK]) (cy p):=Sg.of (aC 210 74) fun _=>by kernel_rfl
theorem Tg:Sg (fA p Gq (bv 74 Ω::gY v n m) [dK]) (cy p) (fA p LP (bv 78 (m !=0)::gY v n m) [dK]) (cy p):=Sg.of (ah 210 79) fun _=>by kernel_rfl
theorem abq:Sg (fA p LP (bv 78 Ψ::gY v n m) [dK]) (cy p) (fA p Eb (bv 91 (decide (n>0))::gY v n m) [dK]) (cy p):=Sg.of (ah 210 92) fun _=>by kernel_rfl
theorem abr:Sg (fA p LP (bv 78 Ω::gY v n m) [dK]) (cy p) (fA p Eb (bv 91 (decide (n>0))::gY v n m) [dK]) (cy p):=Sg.of (ah 210 92) fun _=>by kernel_rfl
theorem abs:Sg (fA p Eb (bv 91 Ψ::gY v n m) [dK]) (cy p) (fA p uo (bv 94 Ψ::gY v n m) [dK]) (cy p):=Sg.of (aC 210 94) fun _=>by kernel_rfl
theorem abt:Sg (fA p Eb (bv 91 Ω::gY v n m) [dK]) (cy p) (fA p uo (bv 94 (decide (m=0))::gY v n m) [dK]) (cy p):=Sg.of (aC 210 94) fun _=>by kernel_rfl
theorem Gs:Sg (fA p uo (bv 94 Ψ::gY v n m) [dK]) (cy p) (fAr p tgr [dK]) (cy p):=Sg.of (rE) fun _=>by kernel_rfl
theorem Th:Sg (fA p uo (bv 94 Ω::gY v n m) [dK]) (cy p) (fM p 244 7 Cz [pv 5 p.wg]) (fA p LQ [(6,Γ Z0 v),bv 4 Ω,(8,Γ .u32 m)] [dK]::(cy p)):=Sg.of (ah 244 6) fun _=>by kernel_rfl
theorem LS(x:Int):Sf (Γ Z0 x) (fM p 244 7 Cz [pv 5 p.wg]) (fA p LQ [(6,Γ Z0 v),bv 4 Ω,(8,Γ .u32 m)] [dK]::(cy p)) (fA p A6 [bv 100 (x !=v),bv 4 Ω,(8,Γ .u32 m)] [dK]) (cy p):=Sf.of (aC 210 100) fun _=>by kernel_rfl
theorem LT:Sg (fA p A6 [bv 100 Ω,bv 4 Ω,(8,Γ .u32 m)] [dK]) (cy p) (fM p 245 9 CA [pv 6 p.wg,(7,Γ Z0 0)]) (fA p CB [bv 4 Ω,(8,Γ .u32 m)] [dK]::(cy p)):=Sg.of (ah 245 8) fun _=>by kernel_rfl
theorem LU:Sf (.tuple #[]) (fM p 245 9 CA [pv 6 p.wg,(7,Γ Z0 0)]) (fA p CB [bv 4 Ω,(8,Γ .u32 m)] [dK]::(cy p)) (fA p oW [bv 110 (m !=0),(8,Γ .u32 m)] [dK]) (cy p):=Sf.of (aC 210 110) fun _=>by kernel_rfl
theorem LW:Sg (fA p oW [bv 110 Ω,(8,Γ .u32 m)] [dK]) (cy p) (fAr p Tb [dK]) (cy p):=Sg.of (rE) fun _=>by kernel_rfl
theorem LX:Sg (fA p oW [bv 110 Ψ,(8,Γ .u32 m)] [dK]) (cy p) (fA p Gr [pv 115 (p.wg.add 1),(8,Γ .u32 m)] [dK]) (cy p):=Sg.of (ah 210 116) fun _=>by kernel_rfl
theorem LY:Sf (.tuple #[]) (fA p Gr [pv 115 (p.wg.add 1),(8,Γ .u32 m)] [dK]) (cy p) (fA p oW [bv 110 ((χ .u32 (m-1)) !=0),(8,Γ .u32 (χ .u32 (m-1)))] [dK]) (cy p):=Sf.of (aC 210 110) fun _=>by kernel_rfl
end
section
def bI(t:ZJ)(x:Δ):Sem Next:=do pure (.value (<-Instr.loadAt t x))
def gh(t:ZJ)(a x:Δ):Sem Next:=do Instr.storeAt t a x;pure .skip
def iC(s d:ZJ)(x:Δ):Sem Next:=do pure (.value (<-convert s d x))
def l9(t:ZJ)(x i:Δ):Sem Next:=do pure (.value (<-Instr.indexAt t x i))
def ei(P:ZZ)(t:ZJ)(b:Bool):Prop:=∀w es,(isAgg t).runT P w es=(.ok b w,es)
def dt(P:ZZ)(t:ZJ)(n:Nat):Prop:=∀w es,(sizeOf t).runT P w es=(.ok n w,es)
def bR(P:ZZ)(f:ZT)(q:Bool):Prop:=(P.funcs[f]?).any (·.norace)=q
section
variable{P:ZZ}{main:Bool}{g:Ξ}{t:ZJ}{w w':World}{ad:ο}{v u:Δ}{q:Bool}
theorem ei.run{b:Bool}(h:ei P t b)(w:World):(isAgg t).run P w=.ok b w:=by have:=h w #[];rw[μ]at this;exact congrArg Prod.fst this
theorem ei.events{b:Bool}(h:ei P t b)(w:World)(es:Array Event):(isAgg t).events P w es=es:=by have:=h w es;rw[μ]at this;exact congrArg Z2 this
theorem dt.run{n:Nat}(h:dt P t n)(w:World):(sizeOf t).run P w=.ok n w:=by have:=h w #[];rw[μ]at this;exact congrArg Prod.fst this
theorem dt.events{n:Nat}(h:dt P t n)(w:World)(es:Array Event):(sizeOf t).events P w es=es:=by have:=h w es;rw[μ]at this;exact congrArg Z2 this
theorem rF(f:ZT)(e:Event)(he:∀g,e.loc≠.mark (ξ g))(hq:bR P f q):seen P f #[e]=if q&&!e.sync then #[]else #[e]:=by
 rw[seen_def];unfold bR at hq;simp only[List.foldl_cons,List.foldl_nil,seenStep];rw[hq];obtain⟨loc,wr,a⟩:=e;cases loc with
 |mark m=>
  cases m<;>first
   |(cases q<;>cases a<;>rfl)
   |exact absurd rfl (he _)
 |_=>cases q<;>cases a<;>rfl
theorem du(h:au g=ω (bI t (Θ (ω ad))))(ha:ei P t Ω)(hc:w.cell? ad=ω v)(hq:bR P g.frame.fn q):
 stepG P main g w=.go (fin v g) w (if q then #[]else #[⟨.cell ad,Ω,Ω⟩]):=by
 obtain⟨_,_,_,k,_⟩:=bU (P:=P) (main:=main) (w:=w) (w':=w) (es:=#[⟨.cell ad,Ω,Ω⟩]) h;rw[k v]
 ·rw[rF (q:=q) _ _ (fun g h=>by cases h) hq];cases q<;>rfl
 ·rw[μ];unfold bI Instr.loadAt Instr.sureAddr loadVar;simp[ha.run,ha.events,hc,φ,ε,ZO]
theorem jp{v2:Δ}(h:au g=ω (bI t (Θ (ω ad))))(ha:ei P t Ψ)(hs:dt P t 2)(hc:w.cell? (ad.add 0)=ω v)(hc2:w.cell? (ad.add 1)=ω v2)(hq:bR P g.frame.fn Ω):
 stepG P main g w=.go (fin (.agg #[v,v2]) g) w #[⟨.cell (ad.add 0),Ω,Ω⟩,⟨.cell (ad.add 1),Ω,Ω⟩]:=by
 obtain⟨_,_,_,k,_⟩:=bU (P:=P) (main:=main) (w:=w) (w':=w) (es:=#[⟨.cell (ad.add 0),Ω,Ω⟩,⟨.cell (ad.add 1),Ω,Ω⟩]) h;rw[k (.agg #[v,v2])]
 ·rw[seen_def];unfold bR at hq;simp[seenStep,hq]
 ·rw[μ];unfold bI Instr.loadAt Instr.sureAddr loadVar loadCells;simp[ha.run,ha.events,hs.run,hs.events,loadCellsFrom,hc,hc2,φ,ε,ZO]
theorem iS(h:au g=ω (gh t (Θ (ω ad)) u))(hs:dt P t 1)(hu:u.cells=#[u])(hu1:u.oneCell'=Ψ)(hc:w.cell? (ad.add 0)=ω v)(hz:w.frozen? (ad.add 0)=Ω)(hq:bR P g.frame.fn Ω):
 stepG P main g w=.go (fin undef g) (w.setCell (ad.add 0) u) #[⟨.cell (ad.add 0),Ψ,Ω⟩]:=by
 obtain⟨_,_,_,_,k,_⟩:=bU (P:=P) (main:=main) (w:=w) (w':=w.setCell (ad.add 0) u) (es:=#[⟨.cell (ad.add 0),Ψ,Ω⟩]) h;rw[k]
 ·rw[rF (q:=Ω) _ _ (fun g h=>by cases h) hq];rfl
 ·rw[μ];unfold gh Instr.storeAt Instr.sureAddr storeVar;simp[hs.run,hs.events,hu,storeCells,hc,hz,φ,ε,ZH P w _ _ u .plain hu1,ZM P w _ u .plain hu1]
theorem iD{s d e:ZJ}(h:au g=ω (iC s d (Θ (ω ad))))(hs:P.underlying s=ω (.pointer e))(hd:P.underlying d=ω .unsafePointer)(hz:(P.info? e).map (fun i=>decide (i.size=0))=ω Ω)(hc:w.cell? ad=ω v):
 stepG P main g w=.go (fin (Θ (ω ad)) g) w #[]:=by
 obtain⟨_,_,_,k,_⟩:=bU (P:=P) (main:=main) (w:=w) (w':=w) (es:=(iC s d (Θ (ω ad))).events P w #[]) h;have o:=run_convert_to_unsafe hs hd hz hc;have j:(iC s d (Θ (ω ad))).events P w #[]=#[]:=by
  unfold iC;obtain⟨p,n,b,l,m⟩:=World.shape?_of_cell? hc;obtain⟨i,hi,c⟩:=ZD.1 hz;have f:i.size≠0:=by simpa using c
  have a:¬(n<=ad.off):=by omega
  simp[convert,Conv.unsafePointer,Conv.seenAt,viewAt,cellsIn,sizeOf,typeInfo,ZN hs,ZN hd,hi,f,b,a,φ,ε]
 rw[k (Θ (ω ad)),j,seen_none];rw[μ];unfold iC;simp[o,φ]
theorem Ec{k:IntKind}{e:ZJ}{i n m:Nat}(h:au g=ω (l9 t (.slice (ω ad) n m) (.int k i)))(ht:P.underlying t=ω (.slice e))(hs:dt P e 1)(hi:i<n):
 stepG P main g w=.go (fin (Θ (ω (ad.add i))) g) w #[]:=by
 obtain⟨_,_,_,c,_⟩:=bU (P:=P) (main:=main) (w:=w) (w':=w) (es:=(l9 t (.slice (ω ad) n m) (.int k i)).events P w #[]) h;have b:(i:Int)<n:=by omega
 have a:(l9 t (.slice (ω ad) n m) (.int k i)).events P w #[]=#[]:=by
  unfold l9 Instr.indexAt;simp[asIntOf,ZN ht,hi,hs.run,φ,ε]
  try (intro h;omega)
 rw[c (Θ (ω (ad.add i))),a,seen_none];rw[μ];unfold l9 Instr.indexAt;simp[asIntOf,ZN ht,hi,hs.run,φ]
theorem g6{f:ZT}(m:Mark)(hm:∀g,m≠ξ g)(hx:Ext P f (fun _=>do mark m;pure ι) q){fr:Frame}{cs:List Frame}{ds:List Z3}(hmode:fr.mode=.returning)(hd:fr.defers={target:=.fn (.func f) #[],args:=#[]}::ds):
 stepG P main (G fr cs) w=.go (G {fr with defers:=ds} cs) w #[⟨.mark m,Ω,Ψ⟩]:=by
 obtain⟨fn,d,b,j,c,i,n⟩:=hx.ex;obtain⟨a,k,todo,defers,mode,kind,o⟩:=fr;dsimp only at hmode hd;subst hmode hd;have l:(invoke (.fn (.func f) #[]) #[]).runT P w #[]=(.ok (.value ι) w,#[⟨.mark (ξ f),Ω,Ψ⟩]++#[⟨.mark m,Ω,Ψ⟩]):=by
  have e:invoke (.fn (.func f) #[]) #[]=η f #[]:=by unfold invoke;rfl
  rw[e,μ,ZY d b j c i,ZS d b j c i];simp[φ]
 unfold stepG G;dsimp only;unfold unwind;dsimp only;unfold callDeferred;dsimp only;rw[l];have hs:seen P a (#[⟨.mark (ξ f),Ω,Ψ⟩]++#[⟨.mark m,Ω,Ψ⟩])=#[⟨.mark m,Ω,Ψ⟩]:=seen_entry _ _ _ (by intro x hx;simp at hx;subst hx;exact⟨rfl,fun g h=>hm g (by cases h;rfl)⟩)
 simp only[Bool.false_and,θ,if_false,hs,GStep.after];rfl
theorem Ed{fr:Frame}(hfn:P.funcs[fr.fn]?=ZQ)(hm:fr.mode=.panicking [goexitEntry])(hd:fr.defers=[])(ht:fr.todo=[]):stepG P Ω (G fr []) w=.go {G fr []with status:=.finished} w #[]:=by
 unfold stepG G;dsimp only;rw[hm];dsimp only;unfold unwind;rw[hd,hm];dsimp only;have hc:fr.catches P=Ω:=by unfold Frame.catches;rw[hfn,ht]
 simp only[hc,θ,if_false];rfl
end
end
end Ph
namespace Ph
open Go
section
structure Wd where
 L:Bool
 W:Bool
 S:Bool
 c:Nat
def fT:Bool->Bool->Bool->Nat
 |false,Ω,Ω=>0
 |true,Ω,Ω=>1
 |false,Ψ,Ω=>2
 |true,Ψ,Ω=>3
 |false,Ω,Ψ=>4
 |true,Ω,Ψ=>5
 |false,Ψ,Ψ=>6
 |true,Ψ,Ψ=>7
def Wd.lo(x:Wd):Nat:=fT x.L x.W x.S
def Wd.n(x:Wd):Nat:=8*x.c+x.lo
def Wd.z(x:Wd):Int:=(x.n:Int)
def Wd.ok(x:Wd):Prop:=x.c<268435455
theorem Ti:∀L W S:Bool,fT L W S<8:=by decide
theorem Wd.mD(x:Wd):x.lo<8:=Ti _ _ _
theorem CC(c k d m:Nat)(hk:k<8)(hm:m<8):(8*c+k)&&&(8*d+m)=8*(c&&&d)+(k&&&m):=by
 apply Nat.eq_of_testBit_eq;intro i;have b:(8:Nat)=2^3:=by decide
 have a:k&&&m<2^3:=Nat.and_lt_two_pow _ hm;rw[b]at hk hm;rw[Nat.testBit_and,b,Nat.testBit_two_pow_mul_add _ hk,Nat.testBit_two_pow_mul_add _ hm,Nat.testBit_two_pow_mul_add _ a];split<;>simp[Nat.testBit_and]
theorem Tj(c k m:Nat)(hk:k<8)(hm:m<8):(8*c+k)|||m=8*c+(k|||m):=by
 apply Nat.eq_of_testBit_eq;intro i;have b:(8:Nat)=2^3:=by decide
 have a:k|||m<2^3:=Nat.or_lt_two_pow (by omega) hm
 rw[b]at hk hm;rw[Nat.testBit_or,b,Nat.testBit_two_pow_mul_add _ hk,Nat.testBit_two_pow_mul_add _ a];split
 ·simp[Nat.testBit_or]
 ·rename_i h;have:m.testBit i=Ω:=Nat.testBit_lt_two_pow (Nat.lt_of_lt_of_le hm (Nat.pow_le_pow_right (by decide) (by omega)));simp[this]
section
variable{x:Wd}
theorem Wd.Tk(h:x.ok):x.n<2^31:=by have:=x.mD;unfold Wd.ok at h;unfold Wd.n;omega
theorem Wd.fH(h:x.ok)(m:Nat)(hm:m<8):bits .and ψ x.z (m:Int)=((x.lo&&&m:Nat):Int):=by unfold Wd.z;rw[(bits_nat ψ 31 (by decide) wraps_i32 x.n m (Wd.Tk h) (by omega)).1];unfold Wd.n;have:=CC x.c x.lo 0 m x.mD hm;simp only[Nat.mul_zero,Nat.zero_add,Nat.and_zero]at this;rw[this]
theorem Wd.vD(h:x.ok)(m:Nat)(hm:m<8):bits .or ψ x.z (m:Int)=((8*x.c+(x.lo|||m):Nat):Int):=by unfold Wd.z;rw[(bits_nat ψ 31 (by decide) wraps_i32 x.n m (Wd.Tk h) (by omega)).2];unfold Wd.n;rw[Tj _ _ _ x.mD hm]
theorem Wd.vE(h:x.ok):bits .andNot ψ x.z 2=({x with W:=Ω}:Wd).z:=by
 have b:=Wd.Tk h;have e1:bits .andNot ψ x.z 2=IntKind.i32.wrap ((ZP 32 x.z&&&~~~(ZP 32 2)).toNat:Int):=rfl;have e2:(~~~(ZP 32 2)).toNat=8*536870911+5:=by decide
 have e3:(ZP 32 x.z).toNat=x.n:=by unfold Wd.z;rw[BitVec.ofInt_natCast,BitVec.toNat_ofNat];exact Nat.mod_eq_of_lt (by omega)
 have hc:x.c&&&536870911=x.c:=by
  have:=Nat.and_two_pow_sub_one_eq_mod x.c 29;have e:(2:Nat)^29-1=536870911:=by decide
  rw[e]at this;rw[this];unfold Wd.ok at h;omega
 rw[e1,BitVec.toNat_and,e2,e3];unfold Wd.n;rw[CC _ _ _ _ x.mD (by decide),hc];have a:x.lo&&&5=({x with W:=Ω}:Wd).lo:=(by decide:∀L W S:Bool,fT L W S&&&5=fT L Ω S) _ _ _;rw[a];have hb:=({x with W:=Ω}:Wd).mD;unfold Wd.ok at h;rw[wraps_i32 _ (by omega) (by omega)];rfl
theorem Wd.Tl(h:x.ok):decide (bits .and ψ x.z 5=1)=(x.L&&!x.S):=by rw[show(5:Int)=((5:Nat):Int)from rfl,Wd.fH h 5 (by decide)];exact(by decide:∀L W S:Bool,(decide (((fT L W S&&&5:Nat):Int)=1))=(L&&!S)) _ _ _
theorem Wd.Tm(h:x.ok):decide (bits .and ψ x.z 5=0)=(!x.L&&!x.S):=by rw[show(5:Int)=((5:Nat):Int)from rfl,Wd.fH h 5 (by decide)];exact(by decide:∀L W S:Bool,(decide (((fT L W S&&&5:Nat):Int)=0))=(!L&&!S)) _ _ _
theorem Wd.Tn(h:x.ok):(bits .and ψ x.z 5 !=0)=(x.L||x.S):=by rw[show(5:Int)=((5:Nat):Int)from rfl,Wd.fH h 5 (by decide)];exact(by decide:∀L W S:Bool,((((fT L W S&&&5:Nat):Int) !=0))=(L||S)) _ _ _
theorem Wd.A7(h:x.ok):decide (bits .and ψ x.z 4=0)=!x.S:=by rw[show(4:Int)=((4:Nat):Int)from rfl,Wd.fH h 4 (by decide)];exact(by decide:∀L W S:Bool,(decide (((fT L W S&&&4:Nat):Int)=0))=!S) _ _ _
theorem Wd.To(h:x.ok):(bits .and ψ x.z 4 !=0)=x.S:=by rw[show(4:Int)=((4:Nat):Int)from rfl,Wd.fH h 4 (by decide)];exact(by decide:∀L W S:Bool,((((fT L W S&&&4:Nat):Int) !=0))=S) _ _ _
theorem Wd.Gt(h:x.ok):decide (bits .and ψ x.z 2=0)=!x.W:=by rw[show(2:Int)=((2:Nat):Int)from rfl,Wd.fH h 2 (by decide)];exact(by decide:∀L W S:Bool,(decide (((fT L W S&&&2:Nat):Int)=0))=!W) _ _ _
theorem Wd.Gu(h:x.ok):(bits .and ψ x.z 1 !=0)=x.L:=by rw[show(1:Int)=((1:Nat):Int)from rfl,Wd.fH h 1 (by decide)];exact(by decide:∀L W S:Bool,((((fT L W S&&&1:Nat):Int) !=0))=L) _ _ _
theorem Wd.Tp(h:x.ok):(bits .and ψ x.z 3 !=0)=(x.L||x.W):=by rw[show(3:Int)=((3:Nat):Int)from rfl,Wd.fH h 3 (by decide)];exact(by decide:∀L W S:Bool,((((fT L W S&&&3:Nat):Int) !=0))=(L||W)) _ _ _
theorem Wd.Tq(h:x.ok):(bits .and ψ x.z 7 !=0)=(x.L||x.W||x.S):=by rw[show(7:Int)=((7:Nat):Int)from rfl,Wd.fH h 7 (by decide)];exact(by decide:∀L W S:Bool,((((fT L W S&&&7:Nat):Int) !=0))=(L||W||S)) _ _ _
theorem Wd.or1(h:x.ok):bits .or ψ x.z 1=({x with L:=Ψ}:Wd).z:=by
 rw[show(1:Int)=((1:Nat):Int)from rfl,Wd.vD h 1 (by decide)];have:x.lo|||1=({x with L:=Ψ}:Wd).lo:=(by decide:∀L W S:Bool,fT L W S|||1=fT Ψ W S) _ _ _
 rw[this];rfl
theorem Wd.or2(h:x.ok):bits .or ψ x.z 2=({x with W:=Ψ}:Wd).z:=by
 rw[show(2:Int)=((2:Nat):Int)from rfl,Wd.vD h 2 (by decide)];have:x.lo|||2=({x with W:=Ψ}:Wd).lo:=(by decide:∀L W S:Bool,fT L W S|||2=fT L Ψ S) _ _ _
 rw[this];rfl
theorem Wd.or4(h:x.ok):bits .or ψ x.z 4=({x with S:=Ψ}:Wd).z:=by
 rw[show(4:Int)=((4:Nat):Int)from rfl,Wd.vD h 4 (by decide)];have:x.lo|||4=({x with S:=Ψ}:Wd).lo:=(by decide:∀L W S:Bool,fT L W S|||4=fT L W Ψ) _ _ _
 rw[this];rfl
theorem Wd.LZ(x:Wd):x.z.fdiv 8=(x.c:Int):=by have:=x.mD;unfold Wd.z Wd.n;rw[Int.fdiv_eq_ediv_of_nonneg _ (by decide)];omega
theorem Wd.nK(x:Wd):x.z=8*(x.c:Int)+(x.lo:Int):=by unfold Wd.z Wd.n;omega
theorem wrap_small{z:Int}(h0:-2147483648<=z)(h1:z<2147483648):IntKind.i32.wrap z=z:=by rw[IntKind.wrap_i32];omega
theorem Wd.lN(h:x.ok):0<=x.z/\x.z<2147483640:=by have:=x.mD;unfold Wd.ok at h;rw[Wd.nK];omega
theorem Wd.abu(h:x.ok):IntKind.i32.wrap (x.z+8)=({x with c:=x.c+1}:Wd).z:=by have:=Wd.lN h;rw[wrap_small (by omega) (by omega),Wd.nK,Wd.nK];have:({x with c:=x.c+1}:Wd).lo=x.lo:=rfl;rw[this];have:({x with c:=x.c+1}:Wd).c=x.c+1:=rfl;rw[this];omega
theorem Wd.Tr(h:x.ok)(hc:0<x.c):IntKind.i32.wrap (x.z-8)=({x with c:=x.c-1}:Wd).z:=by have:=Wd.lN h;rw[wrap_small (by omega) (by omega),Wd.nK,Wd.nK];have:({x with c:=x.c-1}:Wd).lo=x.lo:=rfl;rw[this];have:({x with c:=x.c-1}:Wd).c=x.c-1:=rfl;rw[this];omega
theorem Wd.Gv(h:x.ok)(hL:x.L=Ψ):IntKind.i32.wrap (x.z+-1)=({x with L:=Ω}:Wd).z:=by have:=Wd.lN h;rw[wrap_small (by omega) (by omega),Wd.nK,Wd.nK];obtain⟨L,W,S,c⟩:=x;dsimp only at hL;subst hL;have:=(by decide:∀W S:Bool,fT Ψ W S=fT Ω W S+1) W S;unfold Wd.lo;dsimp only;omega
theorem Wd.Ts(h:x.ok)(hL:x.L=Ω)(hc:0<x.c):IntKind.i32.wrap (x.z+-7)=({x with L:=Ψ,c:=x.c-1}:Wd).z:=by have:=Wd.lN h;rw[wrap_small (by omega) (by omega),Wd.nK,Wd.nK];obtain⟨L,W,S,c⟩:=x;dsimp only at hL hc;subst hL;have:=(by decide:∀W S:Bool,fT Ψ W S=fT Ω W S+1) W S;unfold Wd.lo;dsimp only;omega
theorem Wd.L0(h:x.ok)(hL:x.L=Ω)(hS:x.S=Ψ)(hc:0<x.c):IntKind.i32.wrap (x.z+-11)=({x with L:=Ψ,S:=Ω,c:=x.c-1}:Wd).z:=by have:=Wd.lN h;rw[wrap_small (by omega) (by omega),Wd.nK,Wd.nK];obtain⟨L,W,S,c⟩:=x;dsimp only at hL hS hc;subst hL hS;have:=(by decide:∀W:Bool,fT Ψ W Ω+3=fT Ω W Ψ) W;unfold Wd.lo;dsimp only;omega
theorem Wd.CE{x y:Wd}(h:x.z=y.z):x=y:=by
 rw[Wd.nK,Wd.nK]at h;have i:=x.mD;have f:=y.mD;obtain⟨L,W,S,c⟩:=x;obtain⟨b,d,a,g⟩:=y;have hc:c=g:=by dsimp only at h;omega
 subst hc;have e:({L,W,S,c}:Wd).lo=({L:=b,W:=d,S:=a,c}:Wd).lo:=by dsimp only at h;omega
 clear h i f
 revert e
 cases L<;>cases W<;>cases S<;>cases b<;>cases d<;>cases a<;>simp[Wd.lo,fT]
theorem Wd.Tt(x:Wd):(x.z !=0)=(x.L||x.W||x.S||decide (x.c≠0)):=by
 have hb:=(by decide:∀L W S:Bool,(L||W||S)=decide (fT L W S≠0)) x.L x.W x.S;have a:=x.mD;rw[hb];have e:(x.z !=0)=decide (x.z≠0):=by by_cases h:x.z=0<;>simp[h]
 rw[e,<-Bool.decide_or,decide_eq_decide,Wd.nK];have:x.lo=fT x.L x.W x.S:=rfl;rw[<-this];omega
end
end
section
deriving instance DecidableEq for Wd
structure Lc where
 aV:Int
 old:Wd
 it:Int
 sv:Bool
 aw:Bool
inductive St where
 |w7|w8|pv
 |ld|l0|r0
 |sq (x:Lc)|c1 (x:Lc)|ds (x:Lc)|r1 (x:Lc)|c2 (x:Lc)|r3 (x:Lc)
 |t1 (x:Lc)|s1 (x:Lc)|t2 (x:Lc)|r2 (x:Lc)|a1 (x:Lc)
 |le (f:Bool)|cv (f:Bool)|la (f:Bool)
 |e1|e2|e3|e4|u1|uv|ur|ud|u0
 |uc (o:Wd)|ux|us|uh|ue
 |gv|gr|gd|ga|gl|gs|gm|gn|gx|fin
structure Sh where
 mu:Wd
 ms:Nat
 k:Nat
 wt:Nat
 ws:Nat
def Wd.zero:Wd:=⟨Ω,Ω,Ω,0⟩
def iH(o:Wd):Wd:=if o.S then o else {o with L:=Ψ}
def i8(o:Wd):Wd:=if o.L||o.S then {iH o with c:=o.c+1}else iH o
def g7(x:Lc):Wd:=if x.sv&&x.old.L then {i8 x.old with S:=Ψ}else i8 x.old
def iT(x:Lc):Wd:=if x.aw then {g7 x with W:=Ω}else g7 x
def hd(x:Lc):St:=if x.old.L&&!x.old.S then .sq x else .c2 x
def k8(o:Wd):St:=if decide (o.c=0)||o.L||o.W||o.S then .ue else .uc o
def oY(x:Lc)(m:Wd):Wd:=if !x.sv||decide (x.old.c=1)then {m with L:=Ψ,S:=Ω,c:=m.c-1}else {m with L:=Ψ,c:=m.c-1}
def Nx(s:St)(h:Sh)(s':St)(h':Sh):Prop:=
 match s with
 |.w7|.w8|.pv|.fin=>False
 |.ld=>s'=.l0/\h'=h
 |.l0=>(h.mu=Wd.zero/\s'=.le Ψ/\h'={h with mu:=⟨Ψ,Ω,Ω,0⟩})\/(h.mu≠Wd.zero/\s'=.r0/\h'=h)
 |.r0=>s'=hd ⟨0,h.mu,0,Ω,Ω⟩/\h'=h
 |.sq x=>h'=h/\(s'=.c2 x\/(x.it<4/\s'=if !x.aw&&!x.old.W&&decide (x.old.c≠0)then .c1 x else .ds x))
 |.c1 x=>(h.mu=x.old/\s'=.ds {x with aw:=Ψ}/\h'={h with mu:={x.old with W:=Ψ}})\/(h.mu≠x.old/\s'=.ds x/\h'=h)
 |.ds x=>s'=.r1 {x with it:=x.it+1}/\h'=h
 |.r1 x|.r3 x=>s'=hd {x with old:=h.mu}/\h'=h
 |.c2 x=>(h.mu=x.old/\h'={h with mu:=iT x}/\s'=if !x.old.L&&!x.old.S then .le Ω else if x.aV=0 then .t1 x else .s1 x)\/(h.mu≠x.old/\s'=.r3 x/\h'=h)
 |.t1 x=>h'=h/\∃t,s'=.s1 {x with aV:=t}
 |.s1 x=>0<h.ms/\h'={h with ms:=h.ms-1}/\s'=if x.sv then .r2 x else .t2 x
 |.t2 x=>h'=h/\∃b,s'=.r2 {x with sv:=b}
 |.r2 x=>h'=h/\s'=if h.mu.S then .a1 {x with old:=h.mu}else hd {x with old:=h.mu,it:=0,aw:=Ψ}
 |.a1 x=>s'=.le Ω/\h'={h with mu:=oY x h.mu}
 |.le f=>s'=.cv f/\h'=h
 |.cv f=>s'=.la f/\h'=h
 |.la _=>s'=.e1/\h'=h
 |.e1=>s'=.e2/\h'=h
 |.e2=>s'=.e3/\h'=h
 |.e3=>s'=.e4/\h'=h
 |.e4=>s'=.u1/\h'=h
 |.u1=>s'=.uv/\h'=h
 |.uv=>s'=.ur/\h'=h
 |.ur=>s'=.ud/\h'=h
 |.ud=>s'=.u0/\h'=h
 |.u0=>h'={h with mu:={h.mu with L:=Ω}}/\s'=if h.mu.S then .uh else k8 {h.mu with L:=Ω}
 |.uc o=>(h.mu=o/\s'=.us/\h'={h with mu:={o with W:=Ψ,c:=o.c-1}})\/(h.mu≠o/\s'=.ux/\h'=h)
 |.ux=>s'=k8 h.mu/\h'=h
 |.us|.uh=>s'=.ue/\h'={h with ms:=h.ms+1}
 |.ue=>s'=.gv/\h'=h
 |.gv=>s'=.gr/\h'=h
 |.gr=>s'=.gd/\h'=h
 |.gd=>s'=.ga/\h'=h
 |.ga=>h'={h with k:=h.k-1}/\s'=if h.k=1/\h.wt=1 then .gl else .gn
 |.gl=>s'=.gs/\h'=h
 |.gs=>s'=.gm/\h'={h with k:=0,wt:=0}
 |.gm=>s'=.gn/\h'={h with ws:=h.ws+1}
 |.gn=>s'=.gx/\h'=h
 |.gx=>s'=.fin/\h'=h
def nO:St->Nat
 |.le _|.cv _|.la _|.e1|.e2|.e3|.e4|.u1|.uv|.ur|.ud|.u0=>1
 |_=>0
def nA:St->Nat
 |.sq x|.c1 x|.ds x|.r1 x|.c2 x|.r3 x=>if x.aw then 1 else 0
 |_=>0
def nT:St->Nat
 |.t2 _|.r2 _=>1
 |_=>0
def nQ:St->Nat
 |.t1 _|.s1 _=>1
 |_=>0
def nH:St->Nat
 |.a1 _=>1
 |_=>0
def nU:St->Nat
 |.us=>1
 |_=>0
def nV:St->Nat
 |.uh=>1
 |_=>0
def nC:St->Nat
 |.uc _|.ux=>1
 |_=>0
def nG:St->Nat
 |.gl|.gs|.gm|.gn|.gx|.fin=>0
 |_=>1
def nL:St->Nat
 |.gl|.gs=>1
 |_=>0
def ia(m:Wd)(ms O A T Q H U V C:Nat):Prop:=
 (if m.L then O=1 else O=0)/\(m.L=Ω->m.W=Ω->m.S=Ω->0<m.c->0<C)/\
 (m.S=Ω->(if m.W then A+T+U+ms=1 else A+T+U+ms=0)/\m.c+U+ms=Q/\H=0/\V=0)/\
 (m.S=Ψ->m.W=Ω/\A=0/\U=0/\O+V+ms+T+H=1/\m.c=Q+T+H/\0<m.c)
def aaA(h:Sh):St->Prop
 |.sq x=>x.old.L=Ψ/\x.old.S=Ω/\(x.aw=Ψ->x.old.W=Ψ)/\(x.sv=Ψ->x.aw=Ψ)/\0<=x.it/\x.it<=4
 |.c1 x=>x.old.L=Ψ/\x.old.S=Ω/\x.old.W=Ω/\x.aw=Ω/\(x.sv=Ψ->x.aw=Ψ)/\0<=x.it/\x.it<4
 |.ds x=>(x.sv=Ψ->x.aw=Ψ)/\0<=x.it/\x.it<4
 |.r1 x|.r3 x=>(x.sv=Ψ->x.aw=Ψ)/\0<=x.it/\x.it<=4
 |.c2 x=>(x.aw=Ψ->x.old.W=Ψ)/\(x.sv=Ψ->x.aw=Ψ)/\0<=x.it/\x.it<=4
 |.a1 x=>h.mu.S=Ψ/\x.old.S=Ψ/\x.old.L=Ω/\x.old.W=Ω/\0<x.old.c/\x.old.c<=h.mu.c
 |.uc o=>o.L=Ω/\o.W=Ω/\o.S=Ω/\0<o.c
 |_=>True
def ff(h:Sh)(s:St)(RO RA RT RQ RH RU RV RC:Nat):Prop:=ia h.mu h.ms (RO+nO s) (RA+nA s) (RT+nT s) (RQ+nQ s) (RH+nH s) (RU+nU s) (RV+nV s) (RC+nC s)
theorem ff.same{h:Sh}{s s':St}{RO RA RT RQ RH RU RV RC:Nat}(hI:ff h s RO RA RT RQ RH RU RV RC)(e:nO s'=nO s/\nA s'=nA s/\nT s'=nT s/\nQ s'=nQ s/\nH s'=nH s/\nU s'=nU s/\nV s'=nV s/\nC s'=nC s):ff h s' RO RA RT RQ RH RU RV RC:=by unfold ff;rw[e.1,e.2.1,e.2.2.1,e.2.2.2.1,e.2.2.2.2.1,e.2.2.2.2.2.1,e.2.2.2.2.2.2.1,e.2.2.2.2.2.2.2];exact hI
theorem qI(x:Lc):nO (hd x)=0/\nA (hd x)=(if x.aw then 1 else 0)/\nT (hd x)=0/\nQ (hd x)=0/\nH (hd x)=0/\nU (hd x)=0/\nV (hd x)=0/\nC (hd x)=0:=by unfold hd;split<;>exact⟨rfl,rfl,rfl,rfl,rfl,rfl,rfl,rfl⟩
theorem vF{h:Sh}{x:Lc}(h1:x.aw=Ψ->x.old.W=Ψ)(h2:x.sv=Ψ->x.aw=Ψ)(h3:0<=x.it/\x.it<=4):aaA h (hd x):=by
 unfold hd;split
 ·rename_i hb;simp only[Bool.and_eq_true,ZL]at hb;exact⟨hb.1,hb.2,h1,h2,h3⟩
 ·exact⟨h1,h2,h3⟩
theorem ya(o:Wd):nO (k8 o)=0/\nA (k8 o)=0/\nT (k8 o)=0/\nQ (k8 o)=0/\nH (k8 o)=0/\nU (k8 o)=0/\nV (k8 o)=0/\nC (k8 o)=(if decide (o.c=0)||o.L||o.W||o.S then 0 else 1):=by unfold k8;split<;>exact⟨rfl,rfl,rfl,rfl,rfl,rfl,rfl,rfl⟩
theorem CF{h:Sh}(o:Wd):aaA h (k8 o):=by
 unfold k8;split
 ·trivial
 ·rename_i hb;simp only[Bool.or_eq_true,decide_eq_true_eq,not_or,Bool.not_eq_true]at hb;exact⟨hb.1.1.2,hb.1.2,hb.2,by omega⟩
section
variable{h h':Sh}{s s':St}{RO RA RT RQ RH RU RV RC:Nat}
theorem ff.woken(hI:ff h s RO RA RT RQ RH RU RV RC)(ha:0<nA s):h.mu.W=Ψ/\h.mu.S=Ω:=by
 obtain⟨⟨L,W,S,c⟩,ms,k,wt,ws⟩:=h;unfold ff ia at hI;dsimp only at hI⊢;cases S with
 |true=>have:=(hI.2.2.2 rfl).2.1;omega
 |false=>
  cases W with
  |true=>exact⟨rfl,rfl⟩
  |false=>have:=(hI.2.2.1 rfl).1;simp only[θ,if_false]at this;omega
theorem core(hI:ff h s RO RA RT RQ RH RU RV RC)(hL:aaA h s)(hx:Nx s h s' h'):ff h' s' RO RA RT RQ RH RU RV RC/\aaA h' s':=by
 cases s with
 |w7=>exact hx.elim
 |w8=>exact hx.elim
 |pv=>exact hx.elim
 |fin=>exact hx.elim
 |ld=>obtain⟨rfl,rfl⟩:=hx;exact⟨hI,trivial⟩
 |l0=>
  rcases hx with⟨d,rfl,rfl⟩|⟨d,rfl,rfl⟩
  ·refine⟨?_,trivial⟩;unfold ff ia at hI⊢;rw[d]at hI;simp[Wd.zero,nO,nA,nT,nQ,nH,nU,nV,nC]at hI⊢;omega
  ·exact⟨hI,trivial⟩
 |r0=>obtain⟨rfl,rfl⟩:=hx;exact⟨hI.same (qI _),vF (by simp) (by simp) (by simp)⟩
 |sq x=>
  obtain⟨d,e,f,g,i,j⟩:=hL;obtain⟨rfl,rfl|⟨hi,rfl⟩⟩:=hx
  ·exact⟨hI,f,g,i,j⟩
  ·split
   ·rename_i hb;simp only[Bool.and_eq_true,ZL,decide_eq_true_eq]at hb;exact⟨hI,d,e,hb.1.2,hb.1.1,g,i,hi⟩
   ·exact⟨hI,g,i,hi⟩
 |c1 x=>
  obtain⟨d,e,f,g,i,j,p⟩:=hL;rcases hx with⟨e1,rfl,rfl⟩|⟨e1,rfl,rfl⟩
  ·refine⟨?_,by simp[aaA];omega⟩;unfold ff ia at hI⊢;rw[e1]at hI;simp[d,e,f,g,nO,nA,nT,nQ,nH,nU,nV,nC]at hI⊢;omega
  ·exact⟨hI,i,j,p⟩
 |ds x=>obtain⟨d,e,f⟩:=hL;obtain⟨rfl,rfl⟩:=hx;exact⟨hI,d,by dsimp only;omega,by dsimp only;omega⟩
 |r1 x=>obtain⟨d,e⟩:=hL;obtain⟨rfl,rfl⟩:=hx;refine⟨hI.same (qI _),vF (fun l=>?_) d e⟩;exact(hI.woken (by simp only[nA];rw[if_pos l];exact Nat.one_pos)).1
 |r3 x=>obtain⟨d,e⟩:=hL;obtain⟨rfl,rfl⟩:=hx;refine⟨hI.same (qI _),vF (fun l=>?_) d e⟩;exact(hI.woken (by simp only[nA];rw[if_pos l];exact Nat.one_pos)).1
 |c2 x=>
  obtain⟨d,e,f⟩:=hL;rcases hx with⟨e1,rfl,rfl⟩|⟨e1,rfl,rfl⟩
  ·obtain⟨aV,⟨L,W,S,c⟩,it,sv,aw⟩:=x;refine⟨?_,by split<;>(try split)<;>trivial⟩;unfold ff ia at hI⊢;rw[e1]at hI;dsimp only at hI d e⊢;by_cases hw:aV=0<;>cases L<;>cases W<;>cases S<;>cases sv<;>cases aw<;>
    simp[hw,iT,g7,i8,iH,nO,nA,nT,nQ,nH,nU,nV,nC]at hI d e⊢<;>(try omega)
  ·exact⟨hI,e,f⟩
 |t1 x=>obtain⟨rfl,t,rfl⟩:=hx;exact⟨hI,trivial⟩
 |s1 x=>obtain⟨d,rfl,rfl⟩:=hx;refine⟨?_,by split<;>trivial⟩;unfold ff ia at hI⊢;obtain⟨⟨L,W,S,c⟩,ms,k,wt,ws⟩:=h;dsimp only at hI d⊢;cases hs:x.sv<;>cases L<;>cases W<;>cases S<;>simp[hs,nO,nA,nT,nQ,nH,nU,nV,nC]at hI⊢<;>omega
 |t2 x=>obtain⟨rfl,b,rfl⟩:=hx;exact⟨hI,trivial⟩
 |r2 x=>
  obtain⟨rfl,rfl⟩:=hx;obtain⟨⟨L,W,S,c⟩,ms,k,wt,ws⟩:=h';dsimp only;cases S with
  |true=>unfold ff ia at hI⊢;cases L<;>cases W<;>simp[nO,nA,nT,nQ,nH,nU,nV,nC,aaA]at hI⊢<;>omega
  |false=>
   have n:W=Ψ:=by
    unfold ff ia at hI;cases W<;>simp[nO,nA,nT,nQ,nH,nU,nV,nC]at hI⊢
    try omega
   subst n;refine⟨?_,vF (by simp) (by simp) (by simp)⟩;have a:=qI {x with old:=⟨L,Ψ,Ω,c⟩,it:=0,aw:=Ψ};unfold ff ia at hI⊢;simp only[θ,if_false];rw[a.1,a.2.1,a.2.2.1,a.2.2.2.1,a.2.2.2.2.1,a.2.2.2.2.2.1,a.2.2.2.2.2.2.1,a.2.2.2.2.2.2.2];cases L<;>simp[nO,nA,nT,nQ,nH,nU,nV,nC]at hI⊢<;>omega
 |a1 x=>
  obtain⟨d,e,f,g,i,j⟩:=hL;obtain⟨rfl,rfl⟩:=hx;refine⟨?_,trivial⟩;obtain⟨⟨L,W,S,c⟩,ms,k,wt,ws⟩:=h;dsimp only at d j;subst d;unfold ff ia at hI⊢;unfold oY;dsimp only at hI⊢;split
  ·cases L<;>cases W<;>simp[nO,nA,nT,nQ,nH,nU,nV,nC]at hI⊢<;>omega
  ·rename_i hb;simp only[Bool.or_eq_true,ZL,decide_eq_true_eq,not_or]at hb;cases L<;>cases W<;>simp[nO,nA,nT,nQ,nH,nU,nV,nC]at hI⊢<;>omega
 |u0=>
  obtain⟨rfl,rfl⟩:=hx;obtain⟨⟨L,W,S,c⟩,ms,k,wt,ws⟩:=h;dsimp only;have m:L=Ψ:=by unfold ff ia at hI;cases L<;>simp[nO]at hI⊢
  subst m;cases S with
  |true=>refine⟨?_,trivial⟩;unfold ff ia at hI⊢;cases W<;>simp[nO,nA,nT,nQ,nH,nU,nV,nC]at hI⊢<;>omega
  |false=>refine⟨?_,CF _⟩;have a:=ya ⟨Ω,W,Ω,c⟩;unfold ff ia at hI⊢;simp only[θ,if_false];rw[a.1,a.2.1,a.2.2.1,a.2.2.2.1,a.2.2.2.2.1,a.2.2.2.2.2.1,a.2.2.2.2.2.2.1,a.2.2.2.2.2.2.2];cases W<;>by_cases hc:c=0<;>simp[nO,nA,nT,nQ,nH,nU,nV,nC,hc]at hI⊢<;>omega
 |uc o=>
  obtain⟨d,e,f,g⟩:=hL;rcases hx with⟨e1,rfl,rfl⟩|⟨e1,rfl,rfl⟩
  ·refine⟨?_,trivial⟩;unfold ff ia at hI⊢;rw[e1]at hI;simp[d,e,f,nO,nA,nT,nQ,nH,nU,nV,nC]at hI⊢;omega
  ·exact⟨hI,trivial⟩
 |ux=>obtain⟨rfl,rfl⟩:=hx;refine⟨?_,CF _⟩;obtain⟨⟨L,W,S,c⟩,ms,k,wt,ws⟩:=h';have a:=ya ⟨L,W,S,c⟩;unfold ff ia at hI⊢;dsimp only at hI⊢;rw[a.1,a.2.1,a.2.2.1,a.2.2.2.1,a.2.2.2.2.1,a.2.2.2.2.2.1,a.2.2.2.2.2.2.1,a.2.2.2.2.2.2.2];cases L<;>cases W<;>cases S<;>by_cases hc:c=0<;>simp[nO,nA,nT,nQ,nH,nU,nV,nC,hc]at hI⊢<;>omega
 |us=>obtain⟨rfl,rfl⟩:=hx;refine⟨?_,trivial⟩;obtain⟨⟨L,W,S,c⟩,ms,k,wt,ws⟩:=h;unfold ff ia at hI⊢;cases L<;>cases W<;>cases S<;>simp[nO,nA,nT,nQ,nH,nU,nV,nC]at hI⊢<;>omega
 |uh=>obtain⟨rfl,rfl⟩:=hx;refine⟨?_,trivial⟩;obtain⟨⟨L,W,S,c⟩,ms,k,wt,ws⟩:=h;unfold ff ia at hI⊢;cases L<;>cases W<;>cases S<;>simp[nO,nA,nT,nQ,nH,nU,nV,nC]at hI⊢<;>omega
 |ga=>obtain⟨rfl,rfl⟩:=hx;split<;>exact⟨hI,trivial⟩
 |_=>obtain⟨rfl,rfl⟩:=hx;exact⟨hI,trivial⟩
theorem yc{t:St}(hI:ff h s RO RA RT RQ RH RU RV RC)(hL:aaA h s)(hx:Nx s h s' h')(ht:aaA h t)(hH:nH t<=RH):aaA h' t:=by
 cases t with
 |a1 x=>
  obtain⟨a,e,i,f,g,d⟩:=ht;have j:1<=RH:=hH
  suffices b:h'.mu.S=Ψ/\h.mu.c<=h'.mu.c from⟨b.1,e,i,f,g,Nat.le_trans d b.2⟩
  have k:=(hI.2.2.2 a);cases s with
  |w7=>exact hx.elim
  |w8=>exact hx.elim
  |pv=>exact hx.elim
  |fin=>exact hx.elim
  |l0=>
   rcases hx with⟨e1,rfl,rfl⟩|⟨e1,rfl,rfl⟩
   ·rw[e1]at a;cases a
   ·exact⟨a,Nat.le_refl _⟩
  |c1 y=>
   rcases hx with⟨e1,rfl,rfl⟩|⟨e1,rfl,rfl⟩
   ·rw[e1,hL.2.1]at a;cases a
   ·exact⟨a,Nat.le_refl _⟩
  |c2 y=>
   rcases hx with⟨e1,rfl,rfl⟩|⟨e1,rfl,rfl⟩
   ·rw[e1]at a⊢;obtain⟨aV,⟨L,W,S,c⟩,it,sv,aw⟩:=y;dsimp only at a;subst a;cases L<;>cases sv<;>cases aw<;>simp[iT,g7,i8,iH]
   ·exact⟨a,Nat.le_refl _⟩
  |uc o=>
   rcases hx with⟨e1,rfl,rfl⟩|⟨e1,rfl,rfl⟩
   ·rw[e1,hL.2.2.1]at a;cases a
   ·exact⟨a,Nat.le_refl _⟩
  |a1 y=>exfalso;have:nH (.a1 y)=1:=rfl;omega
  |u0=>exfalso;have:nO .u0=1:=rfl;omega
  |s1 y=>obtain⟨e1,rfl,rfl⟩:=hx;exact⟨a,Nat.le_refl _⟩
  |sq y=>obtain⟨rfl,_⟩:=hx;exact⟨a,Nat.le_refl _⟩
  |t1 y=>obtain⟨rfl,_⟩:=hx;exact⟨a,Nat.le_refl _⟩
  |t2 y=>obtain⟨rfl,_⟩:=hx;exact⟨a,Nat.le_refl _⟩
  |_=>obtain⟨rfl,rfl⟩:=hx;exact⟨a,Nat.le_refl _⟩
 |_=>exact ht
def phi:St->Nat
 |.w7|.w8|.pv|.ld|.l0|.r0=>12
 |.sq x|.c1 x|.ds x|.r1 x|.c2 x|.r3 x=>if x.aw then 8 else 10
 |.t1 _|.s1 _=>7
 |.t2 _|.r2 _=>9
 |.a1 _=>8
 |.le _|.cv _|.la _|.e1|.e2|.e3|.e4|.u1|.uv|.ur|.ud|.u0=>6
 |.uc _|.ux|.uh=>5
 |.us=>4
 |_=>0
def rk(m:Wd):St->Nat
 |.w7=>103
 |.w8=>102
 |.pv=>101
 |.ld=>100
 |.l0=>99
 |.r0=>98
 |.sq x=>5*(4-x.it).toNat+5+if x.old=m then 0 else 41
 |.c1 x=>5*(4-x.it).toNat+4+if x.old=m then 0 else 41
 |.ds x=>5*(4-x.it).toNat+3
 |.r1 x=>5*(4-x.it).toNat+6
 |.c2 x=>1+if x.old=m then 0 else 41
 |.r3 x=>5*(4-x.it).toNat+6
 |.t1 _=>3
 |.s1 _=>2
 |.t2 _=>2
 |.r2 _=>1
 |.a1 _=>1
 |.le _=>15
 |.cv _=>14
 |.la _=>13
 |.e1=>12
 |.e2=>11
 |.e3=>10
 |.e4=>9
 |.u1=>8
 |.uv=>7
 |.ur=>6
 |.ud=>5
 |.u0=>4
 |.uc o=>if o=m then 1 else 4
 |.ux=>3
 |.us|.uh=>1
 |.ue=>30
 |.gv=>29
 |.gr=>28
 |.gd=>27
 |.ga=>26
 |.gl=>25
 |.gs=>24
 |.gm=>23
 |.gn=>22
 |.gx=>21
 |.fin=>0
theorem vG(x:Lc):phi (hd x)=if x.aw then 8 else 10:=by unfold hd;split<;>rfl
theorem QK(x:Lc):rk x.old (hd x)<=5*(4-x.it).toNat+5:=by
 unfold hd;split
 ·simp[rk]
 ·simp[rk]
theorem lower(hI:ff h s RO RA RT RQ RH RU RV RC)(hL:aaA h s)(hx:Nx s h s' h'):phi s'+3*h'.ms<phi s+3*h.ms\/(h'.mu=h.mu/\h'.ms=h.ms/\phi s'=phi s/\rk h.mu s'<rk h.mu s):=by
 cases s with
 |w7=>exact hx.elim
 |w8=>exact hx.elim
 |pv=>exact hx.elim
 |fin=>exact hx.elim
 |l0=>
  rcases hx with⟨e1,rfl,rfl⟩|⟨e1,rfl,rfl⟩
  ·left;simp[phi]
  ·right;exact⟨rfl,rfl,rfl,by simp[rk]⟩
 |r0=>obtain⟨rfl,rfl⟩:=hx;left;rw[vG];simp[phi]
 |sq x=>
  obtain⟨a,c,e,d,g,f⟩:=hL;obtain⟨rfl,rfl|⟨hi,rfl⟩⟩:=hx
  ·right;refine⟨rfl,rfl,rfl,?_⟩;simp only[rk];omega
  ·right;split
   ·refine⟨rfl,rfl,rfl,?_⟩;simp only[rk];omega
   ·refine⟨rfl,rfl,rfl,?_⟩;simp only[rk];omega
 |c1 x=>
  obtain⟨a,c,e,d,g,f,i⟩:=hL;rcases hx with⟨e1,rfl,rfl⟩|⟨e1,rfl,rfl⟩
  ·left;simp[phi,d]
  ·right;refine⟨rfl,rfl,rfl,?_⟩;simp only[rk];omega
 |ds x=>obtain⟨a,c,e⟩:=hL;obtain⟨rfl,rfl⟩:=hx;right;refine⟨rfl,rfl,rfl,?_⟩;simp only[rk];omega
 |r1 x=>
  obtain⟨rfl,rfl⟩:=hx;right;refine⟨rfl,rfl,?_,?_⟩
  ·rw[vG];rfl
  ·have:=QK {x with old:=h'.mu};simp only[rk]at this⊢;omega
 |r3 x=>
  obtain⟨rfl,rfl⟩:=hx;right;refine⟨rfl,rfl,?_,?_⟩
  ·rw[vG];rfl
  ·have:=QK {x with old:=h'.mu};simp only[rk]at this⊢;omega
 |c2 x=>
  obtain⟨a,c,e,d⟩:=hL;rcases hx with⟨e1,rfl,rfl⟩|⟨e1,rfl,rfl⟩
  ·left;dsimp only;split
   ·simp only[phi];split<;>omega
   ·split<;>(simp only[phi];split<;>omega)
  ·right;refine⟨rfl,rfl,rfl,?_⟩;simp only[rk];rw[if_neg (fun h=>e1 h.symm)];omega
 |t1 x=>obtain⟨rfl,t,rfl⟩:=hx;right;exact⟨rfl,rfl,rfl,by simp[rk]⟩
 |s1 x=>obtain⟨a,rfl,rfl⟩:=hx;left;dsimp only;split<;>(simp only[phi];omega)
 |t2 x=>obtain⟨rfl,b,rfl⟩:=hx;right;exact⟨rfl,rfl,rfl,by simp[rk]⟩
 |r2 x=>
  obtain⟨rfl,rfl⟩:=hx;left;split
  ·simp[phi]
  ·rw[vG];simp[phi]
 |a1 x=>obtain⟨rfl,rfl⟩:=hx;left;simp[phi]
 |u0=>
  obtain⟨rfl,rfl⟩:=hx;left;dsimp only;split
  ·simp[phi]
  ·unfold k8;split<;>simp[phi]
 |uc o=>
  rcases hx with⟨e1,rfl,rfl⟩|⟨e1,rfl,rfl⟩
  ·left;simp[phi]
  ·right;refine⟨rfl,rfl,rfl,?_⟩;simp only[rk];rw[if_neg (fun h=>e1 h.symm)];omega
 |ux=>
  obtain⟨rfl,rfl⟩:=hx;unfold k8;split
  ·left;simp[phi]
  ·right;exact⟨rfl,rfl,rfl,by simp[rk]⟩
 |us=>obtain⟨rfl,rfl⟩:=hx;left;simp only[phi];omega
 |uh=>obtain⟨rfl,rfl⟩:=hx;left;simp only[phi];omega
 |ga=>obtain⟨rfl,rfl⟩:=hx;right;split<;>exact⟨rfl,rfl,rfl,by simp[rk]⟩
 |_=>obtain⟨rfl,rfl⟩:=hx;right;exact⟨rfl,rfl,rfl,by simp[rk]⟩
end
theorem Gw{m:Wd}{Q:Nat}(h:ia m 0 0 0 0 Q 0 0 0 0):Q=0:=by obtain⟨L,W,S,c⟩:=m;unfold ia at h;cases L<;>cases W<;>cases S<;>simp at h⊢<;>omega
open Go.ConcN (sumTo upd sumTo_upd)
def cnt(n:Nat)(F:St->Nat)(st:Nat->St):Nat:=sumTo n fun i=>F (st i)
theorem lO{n:Nat}{F:St->Nat}{st:Nat->St}{i:Nat}(hi:i<n)(s':St):cnt n F (upd st i s')+F (st i)=cnt n F st+F s':=sumTo_upd st s' F hi
theorem gj{F:St->Nat}{st:Nat->St}{i:Nat}:∀{n:Nat},i<n->F (st i)<=cnt n F st
 |0,h=>by omega
 |n+1,h=>by
  have e:cnt (n+1) F st=cnt n F st+F (st n):=rfl;rcases Nat.lt_or_ge i n with hlt|hge
  ·have:=gj (F:=F) (st:=st) hlt;omega
  ·have:i=n:=by omega
   subst this;omega
structure GI(n:Nat)(st:Nat->St)(h:Sh):Prop where
 Ee:ia h.mu h.ms (cnt n nO st) (cnt n nA st) (cnt n nT st) (cnt n nQ st) (cnt n nH st) (cnt n nU st) (cnt n nV st) (cnt n nC st)
 loc:∀i,i<n->aaA h (st i)
section
variable{n:Nat}{st:Nat->St}{h h':Sh}{i:Nat}{s':St}
theorem GI.inv(G:GI n st h)(hi:i<n):ff h (st i) (cnt n nO st-nO (st i)) (cnt n nA st-nA (st i)) (cnt n nT st-nT (st i)) (cnt n nQ st-nQ (st i)) (cnt n nH st-nH (st i)) (cnt n nU st-nU (st i)) (cnt n nV st-nV (st i)) (cnt n nC st-nC (st i)):=by
 have e:∀F:St->Nat,cnt n F st-F (st i)+F (st i)=cnt n F st:=fun F=>Nat.sub_add_cancel (gj hi)
 unfold ff;simp only[e];exact G.Ee
theorem GI.step(G:GI n st h)(hi:i<n)(hx:Nx (st i) h s' h'):GI n (upd st i s') h':=by
 obtain⟨c1,c2⟩:=core (G.inv hi) (G.loc i hi) hx;have e:∀F:St->Nat,cnt n F (upd st i s')=cnt n F st-F (st i)+F s':=fun F=>by have d:=lO (F:=F) (st:=st) hi s';have b:=gj (F:=F) (st:=st) hi;omega
 refine⟨?_,fun j c=>?_⟩
 ·unfold ff at c1;simp only[e];exact c1
 ·by_cases a:j=i
  ·subst a;simp only[upd,if_true];exact c2
  ·simp only[upd,if_neg a];refine yc (G.inv hi) (G.loc i hi) hx (G.loc j c) ?_;have d:=lO (F:=nH) (st:=st) hi .fin;have b:nH (upd st i .fin j)<=cnt n nH (upd st i .fin):=gj c;simp only[upd,if_neg a]at b;have f:=gj (F:=nH) (st:=st) hi;have:nH .fin=0:=rfl;unfold upd at d b;omega
def meas(n:Nat)(st:Nat->St)(h:Sh):Nat:=(cnt n phi st+3*h.ms)*(n*104+1)+cnt n (rk h.mu) st
theorem abv(m:Wd)(s:St)(hL:aaA h s):rk m s<=103:=by
 cases s with
 |sq x=>obtain⟨b,a,c,e,f,d⟩:=hL;simp only[rk];split<;>omega
 |c1 x=>obtain⟨b,a,c,e,f,d,g⟩:=hL;simp only[rk];split<;>omega
 |ds x=>obtain⟨b,a,c⟩:=hL;simp only[rk];omega
 |r1 x=>obtain⟨b,a,c⟩:=hL;simp only[rk];omega
 |r3 x=>obtain⟨b,a,c⟩:=hL;simp only[rk];omega
 |c2 x=>simp only[rk];split<;>omega
 |uc o=>simp only[rk];split<;>omega
 |_=>simp[rk]
theorem mV{F:St->Nat}{c:Nat}:∀{n:Nat},(∀i,i<n->F (st i)<=c) ->cnt n F st<=n*c
 |0,_=>by simp[cnt,sumTo]
 |n+1,h=>by
  have e:cnt (n+1) F st=cnt n F st+F (st n):=rfl;have h1:=mV (n:=n) fun i hi=>h i (by omega)
  have h2:=h n (by omega);have:(n+1)*c=n*c+c:=Nat.succ_mul n c;omega
theorem GI.lower(G:GI n st h)(hi:i<n)(hx:Nx (st i) h s' h'):meas n (upd st i s') h'<meas n st h:=by
 have f:=G.step hi hx;have c:=lO (F:=phi) (st:=st) hi s';have a:=gj (F:=phi) (st:=st) hi;rcases Ph.lower (G.inv hi) (G.loc i hi) hx with b|⟨b,g,m,l⟩
 ·have k:cnt n (rk h'.mu) (upd st i s')<=n*103:=mV fun j d=>abv _ _ (f.loc j d)
  have hb:cnt n phi (upd st i s')+3*h'.ms+1<=cnt n phi st+3*h.ms:=by omega
  unfold meas;have:=Nat.mul_le_mul_right (n*104+1) hb;have e:(cnt n phi (upd st i s')+3*h'.ms+1)*(n*104+1)=(cnt n phi (upd st i s')+3*h'.ms)*(n*104+1)+(n*104+1):=Nat.succ_mul _ _;omega
 ·have k:=lO (F:=rk h.mu) (st:=st) hi s';unfold meas;rw[b,g];have e:cnt n phi (upd st i s')=cnt n phi st:=by omega
  rw[e];omega
end
end
end Ph
namespace Ph
open Go Go.Conc
section
section
variable{p:WP}{T T':List Z1}{l l':List (Nat×Δ)}{ds:List bG}{g:Ξ}
theorem lift(hseg:∀cs g,At 272 139 T l cs g->ak P0 Ω 150 (At 272 139 T' l' cs) g)(h:bj (fS p T l) ds g):ak P0 Ω 150 (bj (fS p T' l') ds) g:=by obtain⟨cs,a,F,rfl⟩:=h.open rfl rfl rfl;exact(hseg _ _ a).mono (Nat.le_refl _) fun g b=>At.close b
theorem fN{v:Δ}(hseg:∀cs g,At 272 139 T l cs g->ak P0 Ω 150 (At 272 139 T' l' cs) (fin v g))(h:bj (fS p T l) ds g):ak P0 Ω 150 (bj (fS p T' l') ds) (fin v g):=by obtain⟨cs,a,F,rfl⟩:=h.open rfl rfl rfl;exact(hseg _ _ a).mono (Nat.le_refl _) fun g b=>At.close b
end
def LK(p:WP)(e:Int):List bG:=[fL p QH,fW p x8 [iv 6 e] [aZ p],fB []]
def SL(p:WP)(e:Int):List bG:=fI p SI []::LK p e
def UL(p:WP):List bG:=[fU p vB,kz p kA [aZ p],fB []]
def US(p:WP):List bG:=fJ p eN []::UL p
def DK(p:WP):List bG:=[fD p vC,kz p kA [],fB []]
def KX(p:WP)(x:Lc):List (Nat×Δ):=K p.lk x.aV x.old.z x.it x.sv x.aw
def delta(x:Lc):Int:=if !x.sv||decide (x.old.c=1)then-11 else-7
def bh(p:WP)(e:Int)(s:St)(g:Ξ):Prop:=
 match s with
 |.ld=>bj (fI p ti2 []) (LK p e) g
 |.l0=>bj (fI p Ks [pv 5 p.lk]) (LK p e) g
 |.r0=>bj (fS p Lb [pv 0 p.lk,iv 2 0,bv 3 Ω,bv 4 Ω,iv 5 0,pv 12 p.lk]) (SL p e) g
 |.sq x=>bj (fS p xW (iv 18 x.it::bv 17 Ψ::KX p x)) (SL p e) g
 |.c1 x=>bj (fS p A2 (bv 33 Ψ::pv 36 p.lk::jv 37 x.old.z::jv 39 (bits .or ψ x.old.z 2)::KX p x)) (SL p e) g
 |.ds x=>bj (fS p qq (KX p x)) (SL p e) g
 |.r1 x=>bj (fS p Sb (pv 47 p.lk::KX p x)) (SL p e) g
 |.c2 x=>bj (fS p mU (pv 77 p.lk::jv 78 x.old.z::(79,Γ ψ (iT x).z)::KX p x)) (SL p e) g
 |.r3 x=>bj (fS p F6 (pv 133 p.lk::KX p x)) (SL p e) g
 |.t1 x=>∃lf,bj (fS p Sc (bv 8 lf::KX p x)) (SL p e) g
 |.s1 x=>∃lf,bj (fS p A3 (pv 91 (p.lk.add 1)::bv 92 lf::KX p x)) (SL p e) g
 |.t2 x=>bj (fS p Sd (bv 95 Ω::KX p x)) (SL p e) g/\x.sv=Ω
 |.r2 x=>bj (fS p ul (pv 103 p.lk::KX p x)) (SL p e) g
 |.a1 x=>bj (fS p um (pv 128 p.lk::jv 129 (delta x)::KX p x)) (SL p e) g
 |.le Ψ=>bj (fI p ti7 []) (LK p e) g
 |.le Ω=>∃x,bj (fS p xZ (KX p x)) (SL p e) g
 |.cv Ψ=>bj (fI p ti9 [pv 8 p.lk]) (LK p e) g
 |.cv Ω=>∃x,bj (fS p Cx (pv 136 p.lk::KX p x)) (SL p e) g
 |.la Ψ=>bj (fI p LC [pv 9 p.lk]) (LK p e) g
 |.la Ω=>∃x,bj (fS p F9 (pv 137 p.lk::KX p x)) (SL p e) g
 |.e1=>bj (fW p D9 [iv 6 e] [cT p,aZ p]) [fB []] g
 |.u1=>bj (fJ p tj6 [pv 5 p.lk]) (UL p) g
 |.uv=>bj (fJ p tj8 [pv 7 p.lk]) (UL p) g
 |.ur=>bj (fJ p tj9 [pv 8 p.lk]) (UL p) g
 |.ud=>bj (fJ p LF []) (UL p) g
 |.u0=>bj (fJ p LG [pv 13 p.lk]) (UL p) g
 |.uc o=>∃nw,nw=bits .or ψ (χ ψ (o.z-8)) 2/\bj (fV p Ea [pv 27 p.lk,jv 28 o.z,jv 29 nw] nw) (US p) g
 |.ux=>∃nw,bj (fV p SP [pv 37 p.lk] nw) (US p) g
 |.us=>∃nw,bj (fV p SO [pv 33 (p.lk.add 1)] nw) (US p) g
 |.uh=>∃nw,bj (fV p SN [pv 41 (p.lk.add 1)] nw) (US p) g
 |.ue=>bj (fJ p A5 []) (UL p) g
 |.gv=>bj (fA p LI [pv 11 p.wg] []) (DK p) g
 |.gr=>bj (fA p LM [pv 12 p.wg] []) (DK p) g
 |.gd=>bj (fA p LN [] []) (DK p) g
 |.ga=>bj (fM p 242 10 Cy [pv 7 p.wg,(8,Γ Z0 18446744069414584320)]) (fA p LO [bv 4 Ω] [dK]::DK p) g
 |.gl=>bj (fM p 244 7 Cz [pv 5 p.wg]) (fA p LQ [(6,Γ Z0 1),bv 4 Ω,(8,Γ .u32 1)] [dK]::DK p) g
 |.gs=>bj (fM p 245 9 CA [pv 6 p.wg,(7,Γ Z0 0)]) (fA p CB [bv 4 Ω,(8,Γ .u32 1)] [dK]::DK p) g
 |.gm=>bj (fA p Gr [pv 115 (p.wg.add 1),(8,Γ .u32 1)] [dK]) (DK p) g
 |.gn=>bj (fAr p tgr [dK]) (DK p) g\/bj (fAr p Tb [dK]) (DK p) g
 |.gx=>bj (fB []) [] g
 |_=>False
section
variable{p:WP}{e:Int}{g:Ξ}{x:Lc}
theorem ak.le{P:ZZ}{main:Bool}{S:Ξ->Prop}{n k:Nat}{g:Ξ}(h:ak P main n S g)(hk:n<=k):ak P main k S g:=h.mono hk fun _ h=>h
theorem Tu(h:x.old.ok):(iH x.old).z=if x.old.S then x.old.z else bits .or ψ x.old.z 1:=by
 unfold iH;split
 ·rfl
 ·exact(Wd.or1 h).symm
theorem L6{o:Wd}(h:o.ok):(iH o).ok:=by unfold iH;split<;>exact h
theorem vH(o:Wd):(iH o).c=o.c/\(iH o).W=o.W:=by unfold iH;split<;>exact⟨rfl,rfl⟩
theorem Gx(o:Wd):(i8 o).W=o.W/\(i8 o).c<=o.c+1:=by
 unfold i8;split
 ·exact⟨(vH o).2,Nat.le_refl _⟩
 ·exact⟨(vH o).2,by rw[(vH o).1];omega⟩
theorem Gy(x:Lc):(g7 x).W=x.old.W/\(g7 x).c<=x.old.c+1:=by unfold g7;split<;>exact Gx _
theorem CG(hb:x.old.c+2<268435455)(hw:x.aw=Ψ->x.old.W=Ψ)(h:bj (fS p D8 (bv 52 (!x.old.S)::jv 7 x.old.z::KX p x)) (SL p e) g):ak P0 Ω 600 (bh p e (.c2 x)) g:=by
 have ir:x.old.ok:=by unfold Wd.ok;omega
 have r:=L6 ir;have s:(i8 x.old).ok:=by have:=(Gx x.old).2;unfold Wd.ok;omega
 have o:(g7 x).ok:=by have:=(Gy x).2;unfold Wd.ok;omega
 have u:ak P0 Ω 150 (bj (fS p qr (bv 57 (x.old.L||x.old.S)::(7,Γ ψ (iH x.old).z)::KX p x)) (SL p e)) g:=by
  rw[Tu ir,<-Wd.Tn ir];cases hS:x.old.S with
  |true=>rw[hS]at h;exact lift (fun cs g h=>Su p.lk x.aV x.old.z x.it x.sv x.aw cs g h) h
  |false=>rw[hS]at h;exact lift (fun cs g h=>Ss p.lk x.aV x.old.z x.it x.sv x.aw cs g h) h
 have l:∀g,bj (fS p xY (bv 71 Ω::(7,Γ ψ (g7 x).z)::K p.lk x.aV x.old.z x.it x.sv Ψ)) (SL p e) g->x.aw=Ψ->ak P0 Ω 150 (bh p e (.c2 x)) g:=by
  intro g a d;have e1:(iT x).z=bits .andNot ψ (g7 x).z 2:=by unfold iT;rw[if_pos d,Wd.vE o]
  show ak P0 Ω 150 (bj (fS p mU (pv 77 p.lk::jv 78 x.old.z::(79,Γ ψ (iT x).z)::KX p x)) (SL p e)) g;unfold KX;rw[d,e1];exact lift (fun cs g h=>Sv p.lk x.aV x.old.z x.it (g7 x).z x.sv cs g h) a
 have m:x.aw=Ψ->decide (bits .and ψ (g7 x).z 2=0)=Ω:=by intro d;rw[Wd.Gt o,(Gy x).1,hw d];rfl
 have j:∀g,bj (fS p mU (pv 77 p.lk::jv 78 x.old.z::(79,Γ ψ (g7 x).z)::K p.lk x.aV x.old.z x.it x.sv Ω)) (SL p e) g->x.aw=Ω->bh p e (.c2 x) g:=by
  intro g a d;have e1:iT x=g7 x:=by unfold iT;rw[d];rfl
  show bj (fS p mU (pv 77 p.lk::jv 78 x.old.z::(79,Γ ψ (iT x).z)::KX p x)) (SL p e) g;unfold KX;rw[d,e1];exact a
 have q:∀g,bj (fS p xX (bv 65 x.old.L::(7,Γ ψ (i8 x.old).z)::K p.lk x.aV x.old.z x.it Ψ x.aw)) (SL p e) g->x.sv=Ψ->ak P0 Ω 300 (bh p e (.c2 x)) g:=by
  intro g a f;have e2:(g7 x).z=if x.old.L then bits .or ψ (i8 x.old).z 4 else(i8 x.old).z:=by
   unfold g7;rw[f,Bool.true_and];split
   ·exact(Wd.or4 s).symm
   ·rfl
  cases d:x.aw with
  |true=>
   rw[d]at a;refine ak.trans (n:=150) (k:=150) (S:=bj (fS p xY (bv 71 Ω::(7,Γ ψ (g7 x).z)::K p.lk x.aV x.old.z x.it x.sv Ψ)) (SL p e)) ?_ fun g a=>l g a d
   rw[f];cases hL:x.old.L with
   |true=>
    rw[hL]at a;have b:=lift (fun cs g h=>Lq p.lk x.aV x.old.z x.it (i8 x.old).z Ψ cs g h) a;have i:bits .or ψ (i8 x.old).z 4=(g7 x).z:=by rw[e2,hL];rfl
    rw[i,m d]at b;exact b
   |false=>
    rw[hL]at a;have b:=lift (fun cs g h=>Ls p.lk x.aV x.old.z x.it (i8 x.old).z Ψ cs g h) a;have i:(i8 x.old).z=(g7 x).z:=by rw[e2,hL];rfl
    rw[i,m d]at b;exact b
  |false=>
   rw[d]at a;refine ak.mono (n:=150) (S:=bj (fS p mU (pv 77 p.lk::jv 78 x.old.z::(79,Γ ψ (g7 x).z)::K p.lk x.aV x.old.z x.it x.sv Ω)) (SL p e)) ?_ (by omega) fun g a=>j g a d
   rw[f,e2];cases hL:x.old.L with
   |true=>rw[hL]at a;exact lift (fun cs g h=>Lp p.lk x.aV x.old.z x.it (i8 x.old).z Ψ cs g h) a
   |false=>rw[hL]at a;exact lift (fun cs g h=>Lr p.lk x.aV x.old.z x.it (i8 x.old).z Ψ cs g h) a
 refine ak.le (ak.trans (n:=150) (k:=450) u fun g a=>?_) (by omega);have t:(i8 x.old).z=if x.old.L||x.old.S then χ ψ ((iH x.old).z+8)else(iH x.old).z:=by
  unfold i8;split
  ·rw[Wd.abu r,(vH x.old).1]
  ·rfl
 cases f:x.sv with
 |true=>
  refine ak.le (ak.trans (n:=150) (k:=300) (S:=bj (fS p xX (bv 65 x.old.L::(7,Γ ψ (i8 x.old).z)::K p.lk x.aV x.old.z x.it Ψ x.aw)) (SL p e)) ?_ fun g a=>q g a f) (by omega);unfold KX at a;rw[f]at a;rw[<-Wd.Gu ir,t];cases hf:(x.old.L||x.old.S)with
  |true=>rw[hf]at a;exact lift (fun cs g h=>Ln p.lk x.aV x.old.z x.it (iH x.old).z x.aw cs g h) a
  |false=>rw[hf]at a;exact lift (fun cs g h=>Lo p.lk x.aV x.old.z x.it (iH x.old).z x.aw cs g h) a
 |false=>
  have v:g7 x=i8 x.old:=by unfold g7;rw[f];rfl
  unfold KX at a;rw[f]at a;cases d:x.aw with
  |true=>
   refine ak.le (ak.trans (n:=150) (k:=150) (S:=bj (fS p xY (bv 71 Ω::(7,Γ ψ (g7 x).z)::K p.lk x.aV x.old.z x.it x.sv Ψ)) (SL p e)) ?_ fun g a=>l g a d) (by omega);rw[d]at a;rw[f];cases hf:(x.old.L||x.old.S)with
   |true=>
    rw[hf]at a;have b:=lift (fun cs g h=>Gb p.lk x.aV x.old.z x.it (iH x.old).z cs g h) a;have i:χ ψ ((iH x.old).z+8)=(g7 x).z:=by rw[v,t,hf];rfl
    rw[i,m d]at b;exact b
   |false=>
    rw[hf]at a;have b:=lift (fun cs g h=>Gd p.lk x.aV x.old.z x.it (iH x.old).z cs g h) a;have i:(iH x.old).z=(g7 x).z:=by rw[v,t,hf];rfl
    rw[i,m d]at b;exact b
  |false=>
   refine ak.mono (n:=150) (S:=bj (fS p mU (pv 77 p.lk::jv 78 x.old.z::(79,Γ ψ (g7 x).z)::K p.lk x.aV x.old.z x.it x.sv Ω)) (SL p e)) ?_ (by omega) fun g a=>j g a d
   rw[d]at a;rw[f,v,t];cases hf:(x.old.L||x.old.S)with
   |true=>rw[hf]at a;exact lift (fun cs g h=>Ga p.lk x.aV x.old.z x.it (iH x.old).z cs g h) a
   |false=>rw[hf]at a;exact lift (fun cs g h=>Gc p.lk x.aV x.old.z x.it (iH x.old).z cs g h) a
theorem qJ(hb:x.old.c+2<268435455)(hw:x.aw=Ψ->x.old.W=Ψ)(h:bj (fS p A1 (KX p x)) (SL p e) g):ak P0 Ω 900 (bh p e (hd x)) g:=by
 have ir:x.old.ok:=by unfold Wd.ok;omega
 refine ak.le (ak.trans (n:=150) (k:=750) (lift (fun cs g h=>Li p.lk x.aV x.old.z x.it x.sv x.aw cs g h) h) fun g a=>?_) (by omega);rw[Wd.Tl ir]at a;unfold hd;cases hf:(x.old.L&&!x.old.S)with
 |true=>rw[hf]at a;simp only[if_true];exact ak.le (lift (fun cs g h=>Se p.lk x.aV x.old.z x.it x.sv x.aw cs g h) a) (by omega)
 |false=>rw[hf]at a;simp only[θ,if_false];refine ak.le (ak.trans (n:=150) (k:=600) (lift (fun cs g h=>Si p.lk x.aV x.old.z x.it x.sv x.aw cs g h) a) fun g a=>?_) (by omega);rw[Wd.A7 ir]at a;exact CG hb hw a
end
end
end Ph
