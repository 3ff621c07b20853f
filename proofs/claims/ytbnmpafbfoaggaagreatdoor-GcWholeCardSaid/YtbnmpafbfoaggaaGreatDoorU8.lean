/- A part of the proof of GcWhole; no conditions. -/
import Derived.Test.YtbnmpafbfoaggaaGreatDoorU7
import Derived.Conc.MuSpec
import Derived.Conc.Own
import Derived.Conc.AtomicLaws2
import Derived.Conc.ClockLaws
import Derived.Conc.MarkLaws
import Derived.Test.YtbnmpafbfoaggaaGreatDoorProg
import Derived.KernelRfl
import Derived.Laws.LoneSync
import Derived.Laws.BitsLemmas
import Derived.Laws.Bits64
import Derived.Conc.CrowdBase
import Derived.Conc.MuStops
import Derived.Conc.WgArith
set_option linter.defProp false
set_option linter.unusedVariables false
set_option linter.unusedSimpArgs false
set_option maxRecDepth 100000
set_option maxHeartbeats 16000000
noncomputable section
open Bool renaming false->I,true->Y
open Go renaming Goroutine->Ω,callFunc->Γ,Value->R,Program->φ,Item->ZY,Deferred->ZX,FuncId->ZW,run_callFunc_extern->ZV,World->ZS,TypeId->ZK,run_underlying->ZJ,run_store->ZH,events_store->ZD,asAddr->ZA,events_load->Zy,invoke->Zw,Addr->Zr,callDeferred->Zn,yielded->Zf
open Go.Value renaming pointer->Ψ,int->Ξ
open Option renaming some->Z,none->κ,map_eq_some_iff->Z8
open Go.IntKind renaming wrap->Θ,i32->Δ,u64->Z0,i64->ZN,wrap_u32->ZI
open Go.Mark renaming extern->ω
open Go.Result renaming andThen->ψ,evThen->η
open Go.Extern.Sync renaming semacquire->χ,semrelease->ο,count->ε,nothing->ZC,canSpin->ZB,none_->Zz
open Nat renaming testBit_two_pow_mul_add->υ,one_pos->Zs,eq_of_testBit_eq->Zq,eq_zero_or_pos->Zo,testBit_and->Zj,testBit_or->Zg
open Go.GStep renaming after->ξ
open Go.Conc renaming mem_ofEvents->μ,events_callFunc_extern->ZP,Deaf_other->ZG,canSpin_eq->Zv,semEvents->Zp,casT_eq->Ze
open Go.Sem renaming runT_eq->ι,runT->Zi
open Go.Extern.Race renaming marked->θ,none_->ζ
open Go.MemAct renaming ofEvent->Z9,touch?->Z3
open Go.Extern.OsHooks renaming nano->Z7
open Prod renaming snd->Z4
open Go.Extern.Atomic renaming casT->Z2,read->Z1,update->ZU,none_->ZT,storeT->ZF,loadT->ZE
open Option.some renaming injEq->ZZ,inj->Zx
open List renaming zipWith->ZR,mem_cons_of_mem->Zu,mem_iff_getElem->Zt,push_toArray->Zm,foldl_cons->Zl,nil_append->Zk,map_cons->Zh
open Go.Region renaming wanted->ZQ
open Go.Op renaming intArith->ZO
open BitVec renaming ofInt->ZM
open List.cons renaming injEq->ZL
namespace Go.Proofs.YtbnmpafbfoaggaaGreatDoor
namespace gO
open Go Go.Conc Go.ConcM
open Go.ConcN (sumTo upd sumTo_upd upd_ne upd_same)
section
def Ctx.with(c:Ctx)(S:Nat->Prop):Ctx:={c with S:=S}
def mT(S:Nat->Prop):Loc->Prop
 |.cell a=>S a.block
 |.obj r=>S r
 |_=>False
def HR(c:Ctx)(u0:ZS)(S:Nat->Prop)(h:Array Obj)(w:ZS):Prop:=∀k,Rel c.ok c.T.globals.size S k (bL u0 h w.tape w.drawn) w
def HR.at{c u0 S h w}(a:HR c u0 S h w)(d):HR c u0 S h (w.at d):=λk=>⟨λj q _=>rfl,(a k).size,(a k).same,(a k).mask,(a k).high,(a k).env,(a k).safe⟩
def HR.of{c u0 S k b w'}(a:Rel c.ok c.T.globals.size S k b w')(d:w'.os.env=u0.os.env):HR c u0 S b.heap w':=λk=>⟨λj q _=>rfl,a.size,a.same,a.mask,a.high,d,a.safe⟩
def FX{S B e}(h:jG S B e):EvL (mT S) B e:=by
 obtain⟨loc,wr,c⟩:=e;cases loc with
 |cell a=>refine⟨λx b hs=>?_,by simp,by simp,h.2⟩;simp only[Z9,Z3,ZZ]at b;subst b;exact absurd hs h.1
 |obj r=>
  cases wr<;>cases c<;>first
   |(refine⟨λx b hs=>?_,by simp,by simp,h.2⟩
     simp only[Z9,Z3,ZZ]at b;subst b;exact absurd hs h.1)
   |exact⟨λx b=>by simp[Z9,Z3]at b,by simp,by simp,h.2⟩
 |output=>refine⟨λx b hs=>?_,by simp,by simp,trivial⟩;simp only[Z9,Z3,ZZ]at b;subst b;exact hs.elim
 |goroutines=>exact absurd h (by simp[jG])
 |mark m=>
  cases m with
  |noRoom=>exact⟨λx b=>by simp[Z9,Z3]at b,by simp,by simp,trivial⟩
  |extern f=>exact⟨λx b=>by simp[Z9,Z3]at b,by simp,by simp,trivial⟩
  |_=>exact absurd h (by simp[jG])
def lX(P:φ)(PostR:R->ZS->Prop)(m:Machine)(t:Trace):Prop:=∃N last o w' t',runNT P (N+1) m t=(.ended o w',t')/\runN P N m=.next last/\step P last=.ended o w'/\Conc.Good P PostR last o w' t'
section
variable{P:φ}{PostR:R->ZS->Prop}
def lX.end{m t o w ops}(h:stepT P m=(.ended o w,ops))(a:Conc.Good P PostR m o w (t++ops)):lX P PostR m t:=⟨0,m,o,w,t++ops,by simp[runNT,h],rfl,by simp[step,h],a⟩
def lX.step{m b t ops}(h:stepT P m=(.next b,ops))(f:lX P PostR b (t++ops)):lX P PostR m t:=by
 obtain⟨N,a,o,c,e,g,d,h3,h4⟩:=f;refine⟨N+1,a,o,c,e,?_,?_,h3,h4⟩;rw[runNT]
 grind
 simp only[runN,Go.step,h];exact d
def lX.steps:∀{N} {m b} {t a},runNT P N m t=(.next b,a) ->lX P PostR b a->lX P PostR m t
 |0,m,b,t,a,h,hg=>by
  cases h
  exact hg
 |N+1,m,b,t,a,h,hg=>by
  simp only[runNT]at h;cases hs:stepT P m with
  |mk s c=>
   rw[hs]at h;cases s with
   |next m1=>exact lX.step hs<|lX.steps h hg
   |ended o w=>cases h
end
structure R8(S S':Nat->Prop)(w w':ZS):Prop where
 grow:∀b,S b->S' b
 only:∀b,S' b->S b\/w.heap.size<=b
 size:w.heap.size<=w'.heap.size
 tape:w'.tape=w.tape
 output:w'.output=w.output
 still:∀b,b<w.heap.size->S b->w'.heap[b]?=w.heap[b]?
structure Kept(ok:Obj->Prop)(u0:ZS)(S:Nat->Prop)(w:ZS):Prop where
 tape:w.tape=u0.tape
 output:w.output=u0.output
 size:u0.heap.size<=w.heap.size
 R9:∀b o,u0.heap[b]?=Z o->¬ok o->S b/\w.heap[b]?=Z o
 fair:∀b o,u0.heap[b]?=Z o->ok o->¬S b
def Kept.go{ok u0 w w' S S'}(h:Kept ok u0 S w)(hs:R8 S S' w w'):Kept ok u0 S' w':=
 ⟨hs.tape.trans h.tape,hs.output.trans h.output,Nat.le_trans h.size hs.size,λb o hb f=>by
   obtain⟨a,c⟩:=h.R9 b o hb f;exact⟨hs.grow b a,by rw[hs.still b (Array.getElem?_eq_some_iff.1 c).1 a,c]⟩,λb o hb d e=>by
   obtain a|a:=hs.only b e
   exact h.fair b o hb d a;have:=(Array.getElem?_eq_some_iff.1 hb).1;have:=h.size;omega⟩
def kE.same{S u a w w' d}(h:kE S u a (w.at d) w')(hs:w.heap.size<=w'.heap.size):R8 S S w w':=⟨λ_ h=>h,λ_ h=>.inl h,hs,h.tape,h.output,h.still⟩
def qE(c:Ctx)(L:bu)(sp:ZW)(u0:ZS)(Post:R->Array Obj->Prop):Prop:=
 ∀args kd cs h gs w sl t q S,
  ((kd=.normal\/kd=.deferred)/\cs≠[]) ->(∀x∈cs,aJ c L sp x) ->pL c h->
  Live c u0 Post {frame:=Frame.enter c.P sp args kd,callers:=cs,status:=.running,dying:=κ} h->
  gs[0]?=Z {frame:=Frame.enter c.Q sp args kd,callers:=cs,status:=.running,dying:=κ} ->Leavers c.Q t gs q->Past (mT S) w.heap.size t->HR c u0 S h w->OsLater u0.os w.os->
  ∃g' h' N gs' w' sl' t' q' S',Move c L sp u0 {frame:=Frame.enter c.P sp args kd,callers:=cs,status:=.running,dying:=κ} h g' h'/\OkG c L sp g'/\
   runNT c.Q N (crowd gs w sl) t=(.next<|crowd gs' w' sl',t')/\gs'[0]?=Z g'/\Leavers c.Q t' gs' q'/\Past (mT S') w'.heap.size t'/\HR c u0 S' h' w'/\OsLater u0.os w'.os/\R8 S S' w w'
def FY(c:Ctx)(L:bu)(sp:ZW)(g gR:Ω):Prop:=
 (gR=g/\OkG c L sp g)\/∃args kind cs,g={frame:=Frame.enter c.P sp args kind,callers:=cs,status:=.running,dying:=κ}/\gR={frame:=Frame.enter c.Q sp args kind,callers:=cs,status:=.running,dying:=κ}/\
   ((kind=.normal\/kind=.deferred)/\cs≠[])/\∀x∈cs,aJ c L sp x
def aJ.with{c L sp fr}(h:aJ c L sp fr)(S):aJ (c.with S) L sp fr:=⟨h.fn,h.todo,h.defers,h.kind⟩
def aJ.oT{c L sp fr S}(h:aJ (c.with S) L sp fr):aJ c L sp fr:=⟨h.fn,h.todo,h.defers,h.kind⟩
def OkG.with{c L sp g}(h:OkG c L sp g)(S):OkG (c.with S) L sp g:=⟨h.frame.with S,λx a=>(h.callers x a).with S,h.dying⟩
def OkG.oT{c L sp g S}(h:OkG (c.with S) L sp g):OkG c L sp g:=⟨h.frame.oT,λx a=>(h.callers x a).oT,h.dying⟩
def After.real{c L sp S g' a}(h:After (c.with S) L sp g' a):FY c L sp g' a:=by
 obtain⟨e,h⟩|⟨b,d,cs,e1,e2,e3,e4⟩:=h
 exact .inl ⟨e,h.oT⟩;exact .inr ⟨b,d,cs,e1,e2,e3,λx f=>(e4 x f).oT⟩
section
variable{c:Ctx}{L:bu}{sp:ZW}{u0:ZS}{Post:R->Array Obj->Prop}{PostR:R->ZS->Prop}
def FZ(hF:∀S,ge (c.with S) L sp)(hFt:ge c.eH L sp)(hPh:qE c L sp u0 Post)(hfin:∀v h w S,Post v h->HR c u0 S h w->OsLater u0.os w.os->Kept c.ok u0 S w->PostR v w):
 ∀{g} {h},FW c L sp u0 Post g h->pL c h->g.status=.running->∀gR,FY c L sp g gR->
  ∀M gs w sl t q S,sumTo gs.size q<=M->gs[0]?=Z gR->Leavers c.Q t gs q->Past (mT S) w.heap.size t->
   HR c u0 S h w->OsLater u0.os w.os->Kept c.ok u0 S w->lX c.Q PostR (crowd gs w sl) t:=by
 intro g h hW
 induction hW with
 |mk g h safe live next ih=>
  intro z s gR hgR M
  induction M using Nat.strongRecOn with
  |_ M ihM=>
  intro gs w sl t q S hM h0 G hP hR E W;obtain⟨rfl,hg⟩|⟨args,kd,cs,rfl,rfl,hk,hcs⟩:=hgR
  ·have af1:Node c L sp gR h:=⟨z,s,.inl hg⟩;have haw:∀g∈gs,awake g:=by
    intro g hg;obtain⟨i,hi,rfl⟩:=Array.mem_iff_getElem.1 hg;obtain rfl|u:=Zo i
    have:gs[0]=gR:=by simpa[Array.getElem?_eq_getElem hi]using h0
    rw[this];exact awake_of<|.inl s;exact awake_of<|(G.old i _ u<|Array.getElem?_eq_getElem hi).status.elim .inl λx=>.inr<|.inr x
   obtain⟨i,g,d,m,hi,O,l⟩:=crowd_pick (P:=c.Q) (w:=w) (sl:=sl) haw ⟨0,gR,h0,s⟩;obtain rfl|u:=Zo i
   ·obtain rfl:g=gR:=by rw[h0]at hi;exact(Zx hi).symm
    have B:=(Array.getElem?_eq_some_iff.1 h0).1;have T:=λK=>kX (c:=c.with S) (L:=L) (sp:=sp) (hF S) (hg.with S)<|(HR.at hR d) K;obtain⟨v,A,es,h1,h2⟩|⟨o,A,es,h1,h2,h3⟩:=safe hg w.tape d
    ·
     have hs:=T A.drawn;rw[show stepG (c.with S).P Y g (bL u0 h (w.at d).tape (w.at d).drawn)=.ended (.done v) A es from h1]at hs;obtain⟨w',C,q1,q2,q3,q4,q5⟩:=hs (by omega);have p:w.heap.size<=A.heap.size:=by rw[((hR 0).size)];exact q5
     have J:=(hP.mono p).own (fn:=g.frame.fn) (pos:=g.frame.place) (es:=C) λe he=>FX<|q4 e he;have a:=q3.os;refine lX.end (l.trans<|runT_many_ended (P:=c.Q) (sl:=m) (i:=0) hi (q1:stepG c.Q (0==0) g (w.at d)=_)) ⟨v,rfl,hfin v A.heap w' S h2 (HR.of q2 (by rw[a];exact(hR 0).env)) (by rw[a];exact E)<|W.go<|q3.same (by rw[q2.size];exact p),J.clean,J.over,⟨λx r=>?_,rfl⟩,λj x r n=>?_⟩;obtain⟨j,n⟩:=List.mem_iff_getElem?.1 r;rw[List.getElem?_drop]at n;exact⟨_,(G.old (1+j) x (by omega)<|by simpa[crowd]using n).leaves⟩;have H:=G.old j x (by omega) r;refine⟨q j,?_⟩;have e:(t++MemOp.ofEvents 0 g.frame.fn g.frame.place C).deaf j (t++MemOp.ofEvents 0 g.frame.fn g.frame.place C).size=Deaf t j:=ZG t (g:=j) (g':=0) (by omega) _ (λop f=>by obtain⟨e,_,rfl⟩:=μ f;rfl)
     rw[e];exact H.hears _
    ·
     have hs:=T A.drawn;rw[show stepG (c.with S).P Y g (bL u0 h (w.at d).tape (w.at d).drawn)=.go o A es from h1]at hs;obtain⟨g'',w',C,q1,q2,q3,q4,q5,q6⟩:=hs.2 h2 h3 (by omega);obtain⟨hn',δ,hu',hwalk⟩:=Cs hFt af1 hg h1 h2 h3;have b:Move c L sp u0 g h o A.heap:=by refine⟨hn',1,δ,λj q=>w.tape (d+j) q,Zs,λτ D ha=>?_⟩;obtain⟨es2,e2⟩:=hwalk τ D ha;simp only[runN];rw[step_solo_go s e2]
     have p:w.heap.size<=A.heap.size:=by rw[((hR 0).size)];exact q6
     have hsw:=q3.size;have a:=q4.os;refine lX.step (l.trans<|runT_crowd_go (P:=c.Q) (sl:=m) (i:=0) hi (q1:stepG c.Q (0==0) g (w.at d)=_))<|ih o A.heap b hn'.1 hn'.2.1 g'' q2.real (sumTo ((gs.map<|woken c.Q g g'' w').setIfInBounds 0 g'').size q) _ w' m _ q S .refl (by simp[B]) ⟨λj x n r=>?_,λj n=>?_⟩ ?_ (HR.of q3 (by rw[a];exact(hR 0).env)) (by rw[a];exact E)<|W.go<|q4.same (by rw[hsw];exact p);have X:0≠j:=by omega
     rw[Array.getElem?_setIfInBounds_ne X,Array.getElem?_map]at r;obtain⟨y,hy,rfl⟩:=Z8.1 r;have H:=G.old j y n hy;rw[woken_quitsD H,ZG t (by omega) _ (λop f=>by obtain⟨e,_,rfl⟩:=μ f;rfl)];exact H;rw[ZG t (g':=0) (by simp at n;omega) _ (λop f=>by obtain⟨e,_,rfl⟩:=μ f;rfl)];exact G.above j (by simpa using n);rw[hsw];exact(hP.mono p).own λe he=>FX<|q5 e he
   ·
    have H:=G.old i g u hi;have hi0:(i==0)=I:=by simp;omega
    have B:=(Array.getElem?_eq_some_iff.1 hi).1;cases hqi:q i with
    |zero=>rw[hqi]at H;rw[H.1]at O;cases O
    |succ k=>
     rw[hqi]at H;obtain⟨hf,_⟩|⟨_,o,es,hm,hstp,hq'⟩:=H
     rw[hf]at O;cases O;have hsum:sumTo gs.size (upd q i k)+(k+1)=sumTo gs.size q+k:=by have:=sumTo_upd q k id B;simpa[hqi]using this
     refine lX.step (l.trans<|runT_crowd_go (P:=c.Q) (sl:=m) (i:=i) hi (by rw[hi0];exact hstp<|w.at d))<|ihM (sumTo gs.size<|upd q i k) (by omega) _ (w.at d) m _ (upd q i k) S (by rw[(by simp:((gs.map<|woken c.Q g o<|w.at d).setIfInBounds i o).size=gs.size)];exact .refl) ?_ ⟨λj x n r=>?_,λj n=>?_⟩ (hP.mute (by omega) hm) (hR.at d) E ⟨W.tape,W.output,W.size,W.R9,W.fair⟩;have X:i≠0:=by omega
     rw[Array.getElem?_setIfInBounds_ne X,Array.getElem?_map,h0];simp[woken_run s];by_cases F:i=j
     ·subst F;rw[Array.getElem?_setIfInBounds_self_of_lt (by simpa using B)]at r;obtain rfl:=Zx r;rw[upd_same,Deaf_own];exact hq'
     rw[Array.getElem?_setIfInBounds_ne F,Array.getElem?_map]at r;obtain⟨y,hy,rfl⟩:=Z8.1 r;have hqj:=G.old j y n hy;rw[woken_quitsD hqj,upd_ne q k<|Ne.symm F,ZG t F _ (λop f=>by obtain⟨e,_,rfl⟩:=μ f;rfl)];exact hqj;rw[ZG t (g':=i) (by simp at n;omega) _ (λop f=>by obtain⟨e,_,rfl⟩:=μ f;rfl)];exact G.above j (by simpa using n)
  ·
   obtain⟨o,h',N,gs',w',m,t',q',S',b,hg',hrun,h0',hL',J,hR',a,hsm⟩:=hPh args kd cs h gs w sl t q S hk hcs z live h0 G hP hR E;exact lX.steps hrun<|ih o h' b b.1.1 b.1.2.1 o (.inl ⟨rfl,hg'⟩) _ gs' w' m t' q' S' .refl h0' hL' J hR' a<|W.go hsm
end
end
end gO
namespace Ph
open Go Go.Conc
section
def xP(es:Array Event):Prop:=∀e∈es,∃f,e.loc=.mark (ω f)
def jM(P fn){es}(h:xP es):seen P fn es=#[]:=by
 unfold seen;dsimp only;obtain⟨l⟩:=es;have:∀(l:List Event) (q:Bool),(∀e∈l,∃f,e.loc=.mark (ω f)) ->∃b,List.foldl (λ(x:Bool×Array Event) (e:Event)=>match e.loc with
  |.mark (ω f)=>((P.funcs[f]?).any (·.norace),x.2)
  |_=>(x.1,if x.1&&!e.sync then x.2 else x.2.push e)) (q,#[]) l=(b,#[]):=by
  intro l
  induction l with
  |nil=>exactλq _=>⟨q,rfl⟩
  |cons e l g=>intro q h;obtain⟨f,c⟩:=h e List.mem_cons_self;rw[Zl];simp only[c];exact g _ λe a=>h e<|Zu _ a
 obtain⟨b,d⟩:=this l ((P.funcs[fn]?).any (·.norace)) λe a=>h e<|by simpa using a
 simp only[<-Array.foldl_toList];exact congrArg Z4 d
def dE{α:Type}(P:φ):Nat->Sem α->Option α
 |0,_=>κ
 |n+1,.pure a=>Z a
 |n+1,.program k=>dE P n<|k P
 |n+1,.mark (ω f) k=>dE P n k
 |_,_=>κ
theorem fu{j:Type}{P:φ}:∀{n:Nat} {s:Sem j} {a:j},dE P n s=Z a->∃c,xP c/\∀w es,s.runT P w es=(.ok a w,es++c)
 |0,_,_,h=>by cases h
 |n+1,s,a,h=>by
  cases s with
  |pure b=>simp only[dE,ZZ]at h;subst h;exact⟨#[],λe d=>by simp at d,λw es=>by simp[Zi]⟩
  |program k=>simp only[dE]at h;obtain⟨c,i,g⟩:=fu h;exact⟨c,i,λw es=>by simp only[Zi];exact g w es⟩
  |mark m k=>
   cases m<;>first|(simp[dE]at h;done)|skip
   rename_i f;simp only[dE]at h;obtain⟨c,i,g⟩:=fu h;refine⟨#[⟨.mark<|ω f,I,Y⟩]++c,λe d=>?_,λw es=>?_⟩;obtain d|d:=Array.mem_append.1 d
   ·rw[Array.mem_singleton.1 d];exact⟨f,rfl⟩
   exact i e d;simp only[Zi];rw[g];simp
  |_=>simp[dE]at h
def F1:Next->Bool
 |.value _|.skip|.enter _ _|.defer _=>Y
 |_=>I
def gX:Nat:=60
def rA(P:φ)(fr:Frame)(callers:List Frame):Bool:=
 match fr.mode with
 |.run=>match fr.todo with
  |[]|.code .ret::_|.code .skip::_|.code (.label _)::_|.inBlock _::_|.inScope _::_|.code (.seq _ _)::_|.code (.block _ _)::_|.code (.loop _)::_|.inLoop _::_|.code (.scope _)::_=>Y
  |.code (.exit id)::k=>(exitTo id k).isSome
  |.code (.cond c _ _)::_=>match fr.eval c with
   |.bool _=>Y
   |_=>I
  |.code (.region _ _ draw)::_=>!draw
  |.inRegion _ []::_=>Y
  |.inRegion ops (i::_)::_=>
   if((ops[i]?).map (ZQ · (Zf ops fr.tmps))).getD I then
    match ops[i]? with
    |some o=>((dE P gX<|execOp fr.eval o).map F1).getD I
    |none=>I
   else Y
  |_=>I
 |.returning=>match fr.defers with
  |{target:=.fn (.func f) cs,args}::_=>match dE P gX (Zw (.fn (.func f) cs) args)with
   |some (.enter _ _)=>Y
   |_=>I
  |[]=>!callers.isEmpty&&match P.funcs[fr.fn]? with
   |some fn=>(dE P gX<|results fn fr.tmps).isSome
   |none=>I
  |_=>I
 |.panicking _=>match fr.defers with
  |{target:=.fn (.func f) cs,args}::_=>match dE P gX (Zw (.fn (.func f) cs) args)with
   |some (.enter _ _)=>Y
   |_=>I
  |_=>I
def oU(P:φ)(g:Ω):Bool:=
 match g.status,g.dying,g.offers,g.frame.roundOf,g.frame.kind with
 |.running,κ,κ,κ,.normal|.running,κ,κ,κ,.deferred=>rA P g.frame g.callers
 |_,_,_,_,_=>I
def pM{P g}(h:oU P g=Y):g.status=.running/\g.dying=κ/\g.offers=κ/\g.frame.roundOf=κ/\(g.frame.kind=.normal\/g.frame.kind=.deferred):=by unfold oU at h;split at h<;>first|(cases h)|simp_all
def D4{P main g}(h:oU P g=Y):∃g',∀w,stepG P main g w=.go g' w #[]:=by
 obtain⟨B,A,h3,h4,h5⟩:=pM h;obtain⟨fr,cs,st,H,off⟩:=g;obtain⟨fn,k,todo,defers,mode,kind,F⟩:=fr;dsimp only at B A h3 h4 h5;subst B A h3 h4;have C:(kind==.early)=I:=by obtain e|e:=h5<;>rw[e]<;>rfl
 have j:rA P ⟨fn,k,todo,defers,mode,kind,κ⟩ cs=Y:=by obtain e|e:=h5<;>subst e<;>exact h
 unfold rA at j;dsimp only at j;clear h;unfold stepG;dsimp only;cases mode with
 |panicking q=>
  dsimp only at j⊢;unfold unwind;obtain _|⟨d,ds⟩:=defers
  cases j
  obtain⟨t,r⟩:=d;cases t with
  |fn f y=>
   cases f with
   |func f=>
    dsimp only at j⊢;unfold Zn;dsimp only;cases hp:dE P gX (Zw (.fn (.func f) y) r)with
    |none=>rw[hp]at j;cases j
    |some n=>
     rw[hp]at j;cases n with
     |enter E z=>obtain⟨u,p,m⟩:=fu hp;simp only[m,Bool.false_and,Bool.false_eq_true,if_false];exact⟨_,λw=>by simp only[Array.empty_append,jM P fn p,ξ];rfl⟩
     |_=>cases j
   |_=>cases j
  |_=>cases j
 |run=>
  dsimp only at j⊢;unfold stepG.exec;obtain _|⟨i,rest⟩:=todo
  exact⟨_,λw=>rfl⟩;cases i with
  |code b=>
   cases b with
   |skip=>exact⟨_,λw=>rfl⟩
   |region id s draw=>
    dsimp only at j;obtain _|_:=draw
    exact⟨_,λw=>rfl⟩;cases j
   |seq a b=>exact⟨_,λw=>rfl⟩
   |cond x a b=>
    dsimp only at j⊢;cases hx:(Frame.eval ⟨fn,k,.code (.cond x a b)::rest,defers,.run,kind,κ⟩ x)with
    |bool t=>simp only;exact⟨_,λw=>rfl⟩
    |_=>rw[hx]at j;cases j
   |block id b=>exact⟨_,λw=>rfl⟩
   |loop b=>exact⟨_,λw=>rfl⟩
   |rangeFunc x G a b=>cases j
   |exit id=>
    dsimp only at j⊢;cases he:exitTo id rest with
    |none=>rw[he]at j;cases j
    |some t=>exact⟨_,λw=>rfl⟩
   |scope b=>exact⟨_,λw=>rfl⟩
   |label l=>exact⟨_,λw=>rfl⟩
   |goto l=>cases j
   |ret=>exact⟨_,λw=>rfl⟩
   |refuse D=>cases j
  |inBlock id=>exact⟨_,λw=>rfl⟩
  |inLoop b=>exact⟨_,λw=>rfl⟩
  |inScope b=>exact⟨_,λw=>rfl⟩
  |inRegion s todo=>
   obtain _|⟨i,is⟩:=todo
   exact⟨_,λw=>rfl⟩;dsimp only at j⊢;by_cases hw:(((s[i]?).map (ZQ · (Zf s k))).getD I)=Y
   rw[if_pos hw]at j;simp only[if_pos hw];unfold stepG.oper;cases ho:s[i]? with
   |none=>rw[ho]at j;cases j
   |some o=>
    rw[ho]at j;simp only[Frame.oper?,ho];dsimp only at j;cases hp:dE P gX (execOp (Frame.eval ⟨fn,k,.inRegion s (i::is)::rest,defers,.run,kind,κ⟩) o)with
    |none=>rw[hp]at j;cases j
    |some n=>
     rw[hp]at j;obtain⟨u,p,m⟩:=fu hp;have hs:=jM P fn p;unfold stepG.apply;simp only[if_true,m,C,Bool.false_eq_true,if_false];cases n with
     |value v=>exact⟨_,λw=>by simp only[Array.empty_append,hs,ξ];rfl⟩
     |skip=>exact⟨_,λw=>by simp only[Array.empty_append,hs,ξ];rfl⟩
     |enter f r=>exact⟨_,λw=>by simp only[Array.empty_append,hs,ξ];rfl⟩
     |defer d=>exact⟨_,λw=>by simp only[Array.empty_append,hs,ξ];rfl⟩
     |_=>cases j
   simp only[if_neg hw];exact⟨_,λw=>rfl⟩
  |_=>cases j
 |returning=>
  dsimp only at j⊢;unfold unwind;obtain _|⟨d,ds⟩:=defers
  dsimp only at j⊢;cases hf:P.funcs[fn]? with
  |none=>rw[hf]at j;simp at j
  |some f=>
   rw[hf]at j;dsimp only at j⊢;cases hp:dE P gX (results f k)with
   |none=>rw[hp]at j;simp at j
   |some v=>
    obtain⟨u,p,m⟩:=fu hp;simp only[m,Array.empty_append,(jM P fn p)];obtain _|⟨c,cs⟩:=cs
    simp at j;unfold doReturn;dsimp only;obtain e|e:=h5<;>subst e<;>exact⟨_,λw=>by simp only[ξ];rfl⟩
  obtain⟨t,r⟩:=d;cases t with
  |fn f y=>
   cases f with
   |func f=>
    dsimp only at j⊢;unfold Zn;dsimp only;cases hp:dE P gX (Zw (.fn (.func f) y) r)with
    |none=>rw[hp]at j;cases j
    |some n=>
     rw[hp]at j;cases n with
     |enter E z=>obtain⟨u,p,m⟩:=fu hp;simp only[m,Bool.false_and,Bool.false_eq_true,if_false];exact⟨_,λw=>by simp only[Array.empty_append,jM P fn p,ξ];rfl⟩
     |_=>cases j
   |_=>cases j
  |_=>cases j
def xQ(P:φ)(main:Bool)(g:Ω):Ω:=match stepG P main g default with|.go g' _ _=>g'|_=>g
def RW{P main g}(h:oU P g=Y)(w):stepG P main g w=.go (xQ P main g) w #[]:=by
 obtain⟨a,b⟩:=D4 h;have:xQ P main g=a:=by unfold xQ;rw[b]
 grind
def ah(f:ZW)(d:Nat)(g:Ω):Bool:=
 g.frame.fn==f&&match g.frame.mode,g.frame.todo with
 |.run,.inRegion ops (i::_)::_=>((ops[i]?).bind (·.dst))==Z d
 |_,_=>I
def bN(P:φ)(main:Bool)(stop:Ω->Bool):Nat->Ω->Ω
 |0,g=>g
 |n+1,g=>if stop g then g else if oU P g then bN P main stop n (xQ P main g)else g
def Path(P:φ)(main:Bool):Nat->Ω->Ω->Prop
 |0,g,g'=>g'=g
 |n+1,g,g'=>g.status=.running/\∃g1,(∀w,stepG P main g w=.go g1 w #[])/\Path P main n g1 g'
def Path.trans{P main}:∀{n k} {g b a},Path P main n g b->Path P main k b a->Path P main (n+k) g a
 |0,k,g,b,a,h,h'=>by
  cases h
  grind
 |n+1,k,g,b,a,h,h'=>by rw[show n+1+k=n+k+1 by omega];obtain⟨d,e,c,h3⟩:=h;exact⟨d,e,c,h3.trans h'⟩
theorem ui{P:φ}{main:Bool}{stop:Ω->Bool}:∀(n:Nat) (g:Ω),∃k,k<=n/\Path P main k g (bN P main stop n g)
 |0,g=>⟨0,.refl,rfl⟩
 |n+1,g=>by
  unfold bN;by_cases hs:stop g=Y
  rw[if_pos hs];exact⟨0,Nat.zero_le _,rfl⟩;rw[if_neg hs];by_cases a:oU P g=Y
  rw[if_pos a];obtain⟨k,b,h⟩:=ui n<|xQ P main g;exact⟨k+1,by omega,(pM a).1,_,RW a,h⟩;rw[if_neg a];exact⟨0,Nat.zero_le _,rfl⟩
def xR:Nat->Nat->(Nat->R) ->List R
 |_,0,_=>[]
 |i,n+1,f=>f i::xR (i+1) n f
def Jv(n:Nat)(f:Nat->R):Array R:=⟨xR 0 n f⟩
def cO:List (Nat×R) ->(Nat->R) ->Nat->R
 |[],f,i=>f i
 |(j,v)::l,f,i=>match Nat.beq i j with
  |true=>v
  |false=>cO l f i
theorem pN:∀(i n:Nat) (f:Nat->R),(xR i n f).length=n
 |_,0,_=>rfl
 |i,n+1,f=>by simp[xR,pN (i+1) n f]
theorem xS:∀(i n:Nat) (f:Nat->R) (j:Nat),j<n->(xR i n f)[j]?=Z (f<|i+j)
 |_,0,_,_,h=>by omega
 |i,n+1,f,0,_=>by simp[xR]
 |i,n+1,f,j+1,h=>by
  simp only[xR,List.getElem?_cons_succ];rw[xS (i+1) n f j (by omega)]
  grind
def K'(n f i):(Jv n f)[i]?=if i<n then Z (f i)else κ:=by
 have e:(Jv n f)[i]?=(xR 0 n f)[i]?:=by exact(List.getElem?_toArray).trans rfl
 rw[e];split
 rename_i h;rw[xS 0 n f i h,Nat.zero_add];rename_i h;rw[List.getElem?_eq_none (by rw[pN];omega)]
def R'(a):a=Jv a.size λi=>a.getD i undef:=by
 apply Array.ext_getElem?;intro i;rw[K'];split
 simp
 grind
theorem rB:∀(l:List (Nat×R)) (f:Nat->R),(∀p∈l,f p.1=p.2) ->cO l f=f
 |[],f,_=>rfl
 |(j,v)::l,f,h=>by
  funext i
  simp only[cO,rB l f λp a=>h p<|Zu _ a];cases hb:Nat.beq i j with
  |false=>rfl
  |true=>simp_all
def uj{a n}(b:a.size=n)(l)(h:∀p∈l,a.getD p.1 undef=p.2):a=Jv n (cO l λi=>a.getD i undef):=by rw[rB l _ h,<-b];exact R' a
def aC(f:ZW)(d:Nat)(g:Ω):Bool:=
 g.frame.fn==f&&match g.frame.mode,g.frame.todo with
 |.run,.code (.cond (.tmp j) _ _)::_=>j==d
 |_,_=>I
def never(_:Ω):Bool:=I
def FG(fn:ZW)(tmps:Array R)(T:List ZY)(cs:List Frame):Ω:=G {fn,tmps,todo:=T,defers:=[],mode:=.run,kind:=.normal} cs
def At(fn:ZW)(n:Nat)(T:List ZY)(l:List (Nat×R))(cs:List Frame)(g:Ω):Prop:=∃f,g=FG fn (Jv n<|cO l f) T cs
def bZ(P:φ)(main:Bool)(n:Nat)(S:Ω->Prop)(g:Ω):Prop:=∃k,k<=n/\∃g',Path P main k g g'/\S g'
section
variable{P:φ}{main:Bool}{S S':Ω->Prop}{g:Ω}
def bZ.trans{n k}(h:bZ P main n S g)(h':∀g,S g->bZ P main k S' g):bZ P main (n+k) S' g:=by obtain⟨i,hi,b,d,c⟩:=h;obtain⟨j,e,a,h3,h4⟩:=h' b c;exact⟨i+j,by omega,a,d.trans h3,h4⟩
def bZ.mono{n k}(h:bZ P main n S g)(d:n<=k)(h':∀g,S g->S' g):bZ P main k S' g:=by obtain⟨i,hi,c,a,b⟩:=h;exact⟨i,by omega,c,a,h' _ b⟩
def bZ.run(stop n)(h:S (bN P main stop n g)):bZ P main n S g:=by obtain⟨k,b,a⟩:=ui n g;exact⟨k,b,_,a,h⟩
def At.of{fn n T l cs r}(c:r=FG fn r.frame.tmps T cs)(b:r.frame.tmps.size=n)(h3:(l.map λp=>r.frame.tmps.getD p.1 undef)=l.map Z4):At fn n T l cs r:=by refine⟨λi=>r.frame.tmps.getD i undef,?_⟩;rw[<-uj b l λp a=>?_];omega;obtain⟨i,hi,rfl⟩:=Zt.1 a;have:=congrArg (λx=>x[i]?) h3;simpa[hi]using this
def At.QF{fn a n c T d l b cs cs'}(stop k)(i:∀f,bN P main stop k (FG fn (Jv n<|cO l f) T cs)=FG a (bN P main stop k<|FG fn (Jv n<|cO l f) T cs).frame.tmps d cs')(e:∀f,(bN P main stop k<|FG fn (Jv n<|cO l f) T cs).frame.tmps.size=c)(h3:∀f,(b.map λp=>(bN P main stop k<|FG fn (Jv n<|cO l f) T cs).frame.tmps.getD p.1 undef)=b.map Z4)(g)(h:At fn n T l cs g):bZ P main k (At a c d b cs') g:=by obtain⟨f,rfl⟩:=h;exact bZ.run stop k<|At.of (i f) (e f)<|h3 f
end
def fin(v:R)(g:Ω):Ω:={g with frame:=g.frame.finish v}
end
section
def rC(fr:Frame):Option Oper:=
 match fr.mode,fr.todo with
 |.run,.inRegion ops (i::_)::_=>if((ops[i]?).map (ZQ · (Zf ops fr.tmps))).getD I then ops[i]? else κ
 |_,_=>κ
def d9(g:Ω):Bool:=
 match g.status,g.dying,g.offers,g.frame.roundOf,g.frame.kind with
 |.running,κ,κ,κ,.normal|.running,κ,κ,κ,.deferred=>Y
 |_,_,_,_,_=>I
def dl(g:Ω):Option (Sem Next):=if d9 g then(rC g.frame).map (execOp g.frame.eval)else κ
section
variable{P:φ}{main:Bool}{g:Ω}{s:Sem Next}{w w':ZS}{es:Array Event}
def bU(h:dl g=Z s):g.status=.running/\g.dying=κ/\g.offers=κ/\(∀v,s.runT P w #[]=(.ok (.value v) w',es) ->stepG P main g w=.go (fin v g) w' (seen P g.frame.fn es))/\
 (s.runT P w #[]=(.ok .skip w',es) ->stepG P main g w=.go (fin undef g) w' (seen P g.frame.fn es))/\
 (s.runT P w #[]=(.halt .blocked w',es) ->stepG P main g w=.go {g with status:=.blocked} w' #[]):=by
 unfold dl at h;by_cases b:d9 g=Y
 ·rw[if_pos b]at h;obtain⟨fr,cs,st,f,off⟩:=g;obtain⟨fn,d,todo,defers,mode,kind,k⟩:=fr;obtain⟨o,a,rfl⟩:=Z8.1 h;obtain⟨rfl,rfl,rfl,rfl,j⟩:st=.running/\f=κ/\off=κ/\k=κ/\(kind==.early)=I:=by unfold Ph.d9 at b;dsimp only at b;split at b<;>first|(cases b;done)|exact⟨rfl,rfl,rfl,rfl,rfl⟩
  unfold rC at a;dsimp only at a;cases mode with
  |run=>
   obtain _|⟨i,rest⟩:=todo
   cases a
   cases i with
   |inRegion c todo=>
    obtain _|⟨i,is⟩:=todo
    cases a
    dsimp only at a;by_cases hw:(((c[i]?).map (ZQ · (Zf c d))).getD I)=Y
    ·rw[if_pos hw]at a;refine⟨rfl,rfl,rfl,λv e=>?_,λe=>?_,λe=>?_⟩
     all_goals
      unfold stepG;dsimp only;unfold stepG.exec;dsimp only;simp only[if_pos hw];unfold stepG.oper;simp only[Frame.oper?,a];unfold stepG.apply;simp only[if_true,e,j,Bool.false_eq_true,if_false]
      first|rfl|(simp only[Array.empty_append,ξ];rfl)|(simp[ξ,seen_none,fin];done)|skip
    rw[if_neg hw]at a;cases a
   |_=>cases a
  |_=>cases a
 rw[if_neg b]at h;cases h
end
structure Ext(P:φ)(f:ZW)(e:Array R->Sem R)(q:Bool):Prop where
 ex:∃fn,P.funcs[f]?=Z fn/\(fn.name== "runtime.NumGoroutine")=I/\fn.body.isNone=Y/\Extern.findNext fn=κ/\Extern.find fn=Z e/\fn.norace=q
section
variable{P:φ}{main:Bool}{g:Ω}{f:ZW}{e:Array R->Sem R}{q:Bool}{args:Array R}{w w':ZS}{Ft:Array Event}{v:R}
def Ext.step(i:Ext P f e q)(h:dl g=Z (Γ f args))(a:(e args).run P w=.ok v w')(b:(e args).events P w #[⟨.mark<|ω f,I,Y⟩]=#[⟨.mark<|ω f,I,Y⟩]++Ft)
 (hs:∀x∈Ft,x.sync=Y/\∀g,x.loc≠.mark (ω g)):stepG P main g w=.go (fin v g) w' Ft:=by
 obtain⟨fn,d,c,h3,h4,h5,j⟩:=i.ex;obtain⟨_,_,_,k,_⟩:=bU (w:=w) (w':=w') (es:=#[⟨.mark<|ω f,I,Y⟩]++Ft) h;rw[k v,seen_entry _ _ _ hs];rw[ι,ZV d c h3 h4 h5,ZP d c h3 h4 h5,a];simp only[ψ,Zm,Zk,b]
def Ext.wait(d:Ext P f e q)(h:dl g=Z (Γ f args))(a:(e args).run P w=.halt .blocked w'):stepG P main g w=.go {g with status:=.blocked} w' #[]:=by obtain⟨fn,c,b,h3,h4,h5,i⟩:=d.ex;obtain⟨_,_,_,_,_,k⟩:=bU (w':=w') h;apply k;rw[ι,ZV c b h3 h4 h5,a];rfl
variable{ad:Zr}{k:IntKind}{x y d n:Int}
def nJ(a:Ext P f (Z2<|.int k) q)(h:dl g=Z (Γ f #[Ψ (Z ad),.int k x,.int k y]))(hc:w.cell? ad=Z (.int k x))(hz:w.frozen? ad=I):
 stepG P main g w=.go (fin (.bool Y) g) (w.setCell ad<|.int k y) #[⟨.cell ad,I,Y⟩,⟨.cell ad,Y,Y⟩]:=
 a.step h (by rw[Ze];exact run_cas_hit_entry hc hz) (by rw[Ze,events_cas_hit_entry hc hz];rfl) (sync_rw ad)
def kY(b:Ext P f (Z2<|.int k) q)(h:dl g=Z (Γ f #[Ψ (Z ad),.int k x,.int k y]))(hc:w.cell? ad=Z (.int k n))(hz:w.frozen? ad=I)(a:¬n=x):
 stepG P main g w=.go (fin (.bool I) g) w #[⟨.cell ad,I,Y⟩]:=
 b.step h (by rw[Ze];exact run_cas_miss_entry hc hz a) (by rw[Ze,events_cas_miss_entry hc hz a];rfl) (sync_r ad)
def qF(a:Ext P f (ZU (ZO .add) k Y) q)(h:dl g=Z (Γ f #[Ψ (Z ad),.int k d]))(hc:w.cell? ad=Z (.int k x))(hz:w.frozen? ad=I):
 stepG P main g w=.go (fin (.int k<|k.wrap<|x+d) g) (w.setCell ad<|.int k<|k.wrap<|x+d) #[⟨.cell ad,I,Y⟩,⟨.cell ad,Y,Y⟩]:=
 a.step h (run_add_entry hc hz) (by rw[events_add_entry hc hz];rfl) (sync_rw ad)
def rD(a:Ext P f (ZE<|.int k) q)(h:dl g=Z (Γ f #[Ψ (Z ad)]))(hc:w.cell? ad=Z (.int k x)):
 stepG P main g w=.go (fin (.int k x) g) w #[⟨.cell ad,I,Y⟩]:=by
 refine a.step h ?_ ?_<|sync_r ad
 change Sem.run P (do Z1 (.int k) (<-ZA (Ψ<|Z ad))) w=_
 simp[Z1,ZA,hc]
 change Sem.events P (do Z1 (.int k) (<-ZA (Ψ<|Z ad))) w _=_
 simp[Z1,ZA,hc]
def RX{u}(a:Ext P f ZF q)(h:dl g=Z (Γ f #[Ψ (Z ad),.int k y]))(hc:w.cell? ad=Z u)(hz:w.frozen? ad=I):
 stepG P main g w=.go (fin (.tuple #[]) g) (w.setCell ad<|.int k y) #[⟨.cell ad,Y,Y⟩]:=by
 refine a.step h ?_ ?_ (λx a=>by simp at a;subst a;exact⟨rfl,λg h=>by cases h⟩)
 change Sem.run P (do
  store (<-ZA (Ψ<|Z ad)) (.int k y) .atomic
  pure ZT) w=_
 simp[ZA,hc,hz,ZT,ZH P w ad (.int k y) .atomic rfl]
 change Sem.events P (do
  store (<-ZA (Ψ<|Z ad)) (.int k y) .atomic
  pure ZT) w _=_
 simp[ZA,hc,hz,ZD P w _ ad (.int k y) .atomic rfl]
def mC(m)(b:∀g,m≠ω g)(a:Ext P f (λ_=>do mark m;pure ζ) q)(h:dl g=Z (Γ f args)):
 stepG P main g w=.go (fin (.tuple #[]) g) w #[⟨.mark m,I,Y⟩]:=
 a.step h rfl rfl (by intro x a;simp at a;subst a;exact⟨rfl,λg h=>b g (by grind)⟩)
def kZ(mk)(b:∀ad g,mk ad≠ω g)(c:Ext P f (θ mk) q)(h:dl g=Z (Γ f #[Ψ (Z ad)])):
 stepG P main g w=.go (fin (.tuple #[]) g) w #[⟨.mark<|mk ad,I,Y⟩]:=
 c.step h rfl rfl (by intro x a;simp at a;subst a;exact⟨rfl,λg h=>b ad g (Loc.mark.inj h)⟩)
def P6(c:Ext P f χ q)(h:dl g=Z (Γ f args))(b:args[0]?=Z (Ψ<|Z ad))(hc:w.cell? ad=Z (Ξ .u32 n))(a:n≠0)(hz:w.frozen? ad=I):
 stepG P main g w=.go (fin (.tuple #[]) g) (w.setCell ad<|Ξ .u32<|n-1) (Zp ad):=
 c.step h (by simp[χ,ε,b,hc,a,hz,Zz,ZH P w ad (Ξ .u32<|n-1) .atomic rfl,ψ])
  (by simp[χ,ε,b,hc,a,hz,Zp,Zy,ZD P w _ ad (Ξ .u32<|n-1) .atomic rfl,ZH P w ad (Ξ .u32<|n-1) .atomic rfl,η]) (semEvents_sync ad)
def xU(b:Ext P f χ q)(h:dl g=Z (Γ f args))(a:args[0]?=Z (Ψ<|Z ad))(hc:w.cell? ad=Z (Ξ .u32 0)):
 stepG P main g w=.go {g with status:=.blocked} w #[]:=
 b.wait h (by simp[χ,ε,a,hc])
def vy(b:Ext P f ο q)(h:dl g=Z (Γ f args))(a:args[0]?=Z (Ψ<|Z ad))(hc:w.cell? ad=Z (Ξ .u32 n))(hz:w.frozen? ad=I):
 stepG P main g w=.go (fin (.tuple #[]) g) (w.setCell ad<|Ξ .u32<|IntKind.u32.wrap<|n+1) (Zp ad):=
 b.step h (by simp[ο,ε,a,hc,hz,Zz,ZO,ZH P w ad (Ξ .u32<|IntKind.u32.wrap<|n+1) .atomic rfl,ψ])
  (by simp[ο,ε,a,hc,hz,Zp,ZO,Zy,ZD P w _ ad (Ξ .u32<|IntKind.u32.wrap<|n+1) .atomic rfl,ZH P w ad (Ξ .u32<|IntKind.u32.wrap<|n+1) .atomic rfl,η]) (semEvents_sync ad)
def vz(a:Ext P f ZC q)(h:dl g=Z (Γ f args)):stepG P main g w=.go (fin (.tuple #[]) g) w #[]:=a.step h rfl rfl (by simp)
def uk(i:Ext P f Z7 Y)(h:dl g=Z (Γ f args)):stepG P main g w=.go (fin (Ξ ZN ((w.os.mono+w.tick:Nat):Int)) g) w.later #[]:=by obtain⟨fn,b,d,h3,h4,h5,e⟩:=i.ex;have a:(Z7 args).run P w=.ok (Ξ ZN ((w.os.mono+w.tick:Nat):Int)) w.later:=rfl;have c:(Z7 args).events P w #[⟨.mark<|ω f,I,Y⟩]=#[⟨.mark<|ω f,I,Y⟩]++#[⟨.output,Y,I⟩]:=rfl;obtain⟨_,_,_,k,_⟩:=bU (P:=P) (main:=main) (w:=w) (w':=w.later) h;rw[k (Ξ ZN ((w.os.mono+w.tick:Nat):Int)),seen_entry_out _ _ (by rw[b];exact e)];rw[ι,ZV b d h3 h4 h5,ZP b d h3 h4 h5,a];simp only[ψ,Zm,Zk,c]
def D7(a:Ext P f ZB q)(h:dl g=Z (Γ f #[.int k n])):∃b w',stepG P main g w=.go (fin (.bool b) g) w' #[]/\(w'=w\/w'=w.asked)/\(4<=n->b=I):=by
 by_cases h4:n>=4
 exact⟨I,w,a.step h (by rw[Zv,if_pos h4];rfl) (by rw[Zv,if_pos h4];rfl)<|by simp,.inl rfl,λ_=>rfl⟩;exact⟨w.spins,w.asked,a.step h (Ft:=#[]) (by rw[Zv,if_neg h4];rfl) (by rw[Zv,if_neg h4];rfl)<|by simp,.inr rfl,λh=>absurd h h4⟩
end
end
noncomputable abbrev P0:φ:=Go.Proofs.Tryz.prog
def Ext.of{P f e q}(fn)(a:P.funcs[f]?=Z fn)(b:(fn.name== "runtime.NumGoroutine")=I)(h3:fn.body.isNone=Y)(h4:Extern.findNext fn=κ)(h5:Extern.find fn=Z e)(c:fn.norace=q):Ext P f e q:=⟨fn,a,b,h3,h4,h5,c⟩
def F0(n:Nat):Func:=(P0.funcs[n]?).getD default
def aa1:Ext P0 235 (θ .releaseMerge) I:=Ext.of (F0 235) rfl rfl (by kernel_rfl) (by kernel_rfl) (by kernel_rfl) (by kernel_rfl)
def F2:Ext P0 236 (λ_=>do mark .disable;pure ζ) I:=Ext.of (F0 236) rfl rfl (by kernel_rfl) (by kernel_rfl) (by kernel_rfl) (by kernel_rfl)
def tw:Ext P0 237 (λ_=>do mark .enable;pure ζ) I:=Ext.of (F0 237) rfl rfl (by kernel_rfl) (by kernel_rfl) (by kernel_rfl) (by kernel_rfl)
def La:Ext P0 252 (θ .acquire) I:=Ext.of (F0 252) rfl rfl (by kernel_rfl) (by kernel_rfl) (by kernel_rfl) (by kernel_rfl)
def xV:Ext P0 271 (Z2<|.int Δ) Y:=Ext.of (F0 271) rfl rfl rfl (by kernel_rfl) (by kernel_rfl) (by kernel_rfl)
def aa2:Ext P0 273 (ZU (ZO .add) Δ Y) Y:=Ext.of (F0 273) rfl rfl rfl (by kernel_rfl) (by kernel_rfl) (by kernel_rfl)
def akH:Ext P0 280 ZB Y:=Ext.of (F0 280) (by kernel_rfl) (by kernel_rfl) (by kernel_rfl) (by kernel_rfl) (by kernel_rfl) (by kernel_rfl)
def akI:Ext P0 281 ZC Y:=Ext.of (F0 281) rfl (by kernel_rfl) (by kernel_rfl) (by kernel_rfl) (by kernel_rfl) (by kernel_rfl)
def aa3:Ext P0 283 Z7 Y:=Ext.of (F0 283) rfl rfl (by kernel_rfl) (by kernel_rfl) (by kernel_rfl) (by kernel_rfl)
def aa4:Ext P0 284 χ Y:=Ext.of (F0 284) rfl (by kernel_rfl) (by kernel_rfl) (by kernel_rfl) (by kernel_rfl) (by kernel_rfl)
def aa5:Ext P0 286 ο Y:=Ext.of (F0 286) rfl (by kernel_rfl) (by kernel_rfl) (by kernel_rfl) (by kernel_rfl) (by kernel_rfl)
def aa6:Ext P0 268 (ZU (ZO .add) Z0 Y) Y:=Ext.of (F0 268) rfl rfl rfl (by kernel_rfl) (by kernel_rfl) (by kernel_rfl)
def Sa:Ext P0 269 (ZE<|.int Z0) Y:=Ext.of (F0 269) rfl rfl rfl (by kernel_rfl) (by kernel_rfl) (by kernel_rfl)
def akJ:Ext P0 270 ZF Y:=Ext.of (F0 270) rfl rfl rfl (by kernel_rfl) (by kernel_rfl) (by kernel_rfl)
def aa7:Ext P0 275 (Z2<|.int Z0) Y:=Ext.of (F0 275) rfl rfl rfl (by kernel_rfl) (by kernel_rfl) (by kernel_rfl)
def akK:Ext P0 247 ο Y:=Ext.of (F0 247) rfl (by kernel_rfl) (by kernel_rfl) (by kernel_rfl) (by kernel_rfl) (by kernel_rfl)
def aa8:Ext P0 256 χ Y:=Ext.of (F0 256) rfl (by kernel_rfl) (by kernel_rfl) (by kernel_rfl) (by kernel_rfl) (by kernel_rfl)
def akL:Ext P0 243 (θ .read) I:=Ext.of (F0 243) rfl rfl (by kernel_rfl) (by kernel_rfl) (by kernel_rfl) (by kernel_rfl)
def akM:Ext P0 255 (θ .write) I:=Ext.of (F0 255) rfl rfl (by kernel_rfl) (by kernel_rfl) (by kernel_rfl) (by kernel_rfl)
abbrev iv(n:Nat)(x:Int):Nat×R:=(n,Ξ ZN x)
abbrev jv(n:Nat)(x:Int):Nat×R:=(n,Ξ Δ x)
abbrev bv(n:Nat)(x:Bool):Nat×R:=(n,.bool x)
abbrev pv(n:Nat)(x:Zr):Nat×R:=(n,Ψ<|Z x)
def wV.three{g f i:Type}{a a':g}{b e:f}{c d:i}(h:(a,b,c)=(a',e,d)):a=a'/\b=e/\c=d:=by grind
section
section
variable{P:φ}{main:Bool}
def At.F3{fn a n c T d l b cs cs'}(v stop k)(i:∀f,bN P main stop k (fin v<|FG fn (Jv n<|cO l f) T cs)=FG a (bN P main stop k<|fin v<|FG fn (Jv n<|cO l f) T cs).frame.tmps d cs')(e:∀f,(bN P main stop k<|fin v<|FG fn (Jv n<|cO l f) T cs).frame.tmps.size=c)(h3:∀f,(b.map λp=>(bN P main stop k<|fin v<|FG fn (Jv n<|cO l f) T cs).frame.tmps.getD p.1 undef)=b.map Z4)(g)(h:At fn n T l cs g):bZ P main k (At a c d b cs') (fin v g):=by obtain⟨f,rfl⟩:=h;exact bZ.run stop k<|At.of (i f) (e f)<|h3 f
end
def K(a:Zr)(aV old it:Int)(sv aw:Bool):List (Nat×R):=[pv 0 a,iv 2 aV,bv 3 sv,bv 4 aw,iv 5 it,jv 6 old]
def Lg(T:List ZY)(l:List (Nat×R))(T':List ZY)(l':List (Nat×R)):Prop:=∀cs g,At 272 139 T l cs g->bZ P0 I 150 (At 272 139 T' l' cs) g
def Lf(v:R)(T:List ZY)(l:List (Nat×R))(T':List ZY)(l':List (Nat×R)):Prop:=∀cs g,At 272 139 T l cs g->bZ P0 I 150 (At 272 139 T' l' cs) (fin v g)
def Lg.of{T b l a}(stop)(h:∀cs f,(bN P0 I stop 150<|FG 272 (Jv 139<|cO l f) T cs,(bN P0 I stop 150<|FG 272 (Jv 139<|cO l f) T cs).frame.tmps.size,a.map λp=>(bN P0 I stop 150<|FG 272 (Jv 139<|cO l f) T cs).frame.tmps.getD p.1 undef)=(FG 272 (bN P0 I stop 150<|FG 272 (Jv 139<|cO l f) T cs).frame.tmps b cs,139,a.map Z4)):Lg T l b a:=λcs g c=>At.QF stop 150 (λf=>(wV.three<|h cs f).1) (λf=>(wV.three<|h cs f).2.1) (λf=>(wV.three<|h cs f).2.2) g c
def Lf.of{v T b l a}(stop)(h:∀cs f,(bN P0 I stop 150<|fin v<|FG 272 (Jv 139<|cO l f) T cs,(bN P0 I stop 150<|fin v<|FG 272 (Jv 139<|cO l f) T cs).frame.tmps.size,a.map λp=>(bN P0 I stop 150<|fin v<|FG 272 (Jv 139<|cO l f) T cs).frame.tmps.getD p.1 undef)=(FG 272 (bN P0 I stop 150<|fin v<|FG 272 (Jv 139<|cO l f) T cs).frame.tmps b cs,139,a.map Z4)):Lf v T l b a:=λcs g c=>At.F3 v stop 150 (λf=>(wV.three<|h cs f).1) (λf=>(wV.three<|h cs f).2.1) (λf=>(wV.three<|h cs f).2.2) g c
def a0:Zr:=⟨0,0,κ⟩
def lsD(T:List ZY)(l:List (Nat×R)):Ω:=FG 272 (Jv 139<|cO l λ_=>undef) T []
def Ff(T:List ZY)(l:List (Nat×R))(stop:Ω->Bool):List ZY:=(bN P0 I stop 150<|lsD T l).frame.todo
def Fh(T:List ZY)(l:List (Nat×R))(v:R)(stop:Ω->Bool):List ZY:=(bN P0 I stop 150<|fin v<|lsD T l).frame.todo
def lsE(a:Zr)(cs:List Frame):Ω:={frame:=Frame.enter P0 272 #[Ψ (Z a)] .normal,callers:=cs,status:=.running,dying:=κ}
def Lb:List ZY:=(bN P0 I (ah 272 13) 150<|lsE a0 []).frame.todo
def A1:=Fh Lb ((K a0 0 0 0 I I)) (Ξ Δ 0)<|ah 272 14
def F4:=Ff A1 ((K a0 0 0 0 I I))<|ah 272 18
def P7:=Ff F4 (bv 17 Y::(K a0 0 0 0 I I))<|ah 272 19
def D8:=Ff F4 (bv 17 I::(K a0 0 0 0 I I))<|aC 272 52
def Ld:=Fh P7 (bv 17 Y::(K a0 0 0 0 I I)) (.bool Y)<|ah 272 29
def qq:=Fh P7 (bv 17 Y::(K a0 0 0 0 I Y)) (.bool Y)<|ah 272 42
def Le:=Ff Ld (bv 28 Y::(K a0 0 0 0 I I))<|ah 272 34
def A2:=Ff Le (bv 33 Y::(K a0 0 0 0 I I))<|ah 272 40
def Sb:=Fh qq ((K a0 0 0 0 I I)) (.tuple #[])<|ah 272 48
def qr:=Ff D8 (bv 52 Y::jv 7 0::(K a0 0 0 0 I I))<|aC 272 57
def xX:=Ff qr (bv 57 Y::jv 7 0::(K a0 0 0 0 Y I))<|aC 272 65
def xY:=Ff qr (bv 57 Y::jv 7 0::(K a0 0 0 0 I Y))<|aC 272 71
def mU:=Ff qr (bv 57 Y::jv 7 0::(K a0 0 0 0 I I))<|ah 272 80
def F5:=Fh mU ((K a0 0 0 0 I I)) (.bool Y)<|aC 272 83
def F6:=Fh mU ((K a0 0 0 0 I I)) (.bool I)<|ah 272 134
def F7:=Ff F5 (bv 83 I::(K a0 0 0 0 I I))<|aC 272 87
def xZ:=Ff F5 (bv 83 Y::(K a0 0 0 0 I I))<|ah 272 135
def Sc:=Ff F7 (bv 87 Y::(K a0 0 0 0 I I))<|ah 272 88
def A3:=Ff F7 (bv 87 I::(K a0 0 0 0 I I))<|ah 272 93
def Sd:=Fh A3 ((K a0 0 0 0 I I)) (.tuple #[])<|ah 272 96
def ul:=Fh A3 ((K a0 0 0 0 Y I)) (.tuple #[])<|ah 272 104
def Cu:=Fh ul ((K a0 0 0 0 I I)) (Ξ Δ 0)<|aC 272 107
def F8:=Ff Cu (bv 107 Y::(K a0 0 0 0 I I))<|ah 272 112
def Cv:=Ff F8 (bv 111 I::(K a0 0 0 0 I I))<|aC 272 115
def Cw:=Ff Cv (bv 115 I::(K a0 0 0 0 Y I))<|aC 272 123
def um:=Ff Cw (bv 123 Y::jv 9 0::(K a0 0 0 0 I I))<|ah 272 130
def Cx:=Fh xZ ((K a0 0 0 0 I I)) (.tuple #[])<|ah 272 137
def F9:=Fh Cx ((K a0 0 0 0 I I)) (Ψ<|Z a0)<|ah 272 138
def Lh(a v):Lf (Ξ Δ v) Lb [pv 0 a,iv 2 0,bv 3 I,bv 4 I,iv 5 0,pv 12 a] A1 (K a 0 v 0 I I):=Lf.of (ah 272 14) λ_ _=>by kernel_rfl
def Li(a aV old it sv aw):Lg A1 (K a aV old it sv aw) F4 (bv 17 (decide<|bits .and Δ old 5=1)::K a aV old it sv aw):=Lg.of (ah 272 18) λ_ _=>by kernel_rfl
def Se(a aV old it sv aw):Lg F4 (bv 17 Y::K a aV old it sv aw) P7 (iv 18 it::bv 17 Y::K a aV old it sv aw):=Lg.of (ah 272 19) λ_ _=>by kernel_rfl
def Si(a aV old it sv aw):Lg F4 (bv 17 I::K a aV old it sv aw) D8 (bv 52 (decide<|bits .and Δ old 4=0)::jv 7 (old)::K a aV old it sv aw):=Lg.of (aC 272 52) λ_ _=>by kernel_rfl
def Sj(a aV old it sv aw):Lf (.bool I) P7 (iv 18 it::bv 17 Y::K a aV old it sv aw) D8 (bv 52 (decide<|bits .and Δ old 4=0)::jv 7 (old)::K a aV old it sv aw):=Lf.of (aC 272 52) λ_ _=>by kernel_rfl
def Lj(a aV old it sv):Lf (.bool Y) P7 (iv 18 it::bv 17 Y::K a aV old it sv Y) qq (K a aV old it sv Y):=Lf.of (ah 272 42) λ_ _=>by kernel_rfl
def Lk(a aV old it sv):Lf (.bool Y) P7 (iv 18 it::bv 17 Y::K a aV old it sv I) Ld (bv 28 (decide<|bits .and Δ old 2=0)::K a aV old it sv I):=Lf.of (ah 272 29) λ_ _=>by kernel_rfl
def Sk(a aV old it sv):Lg Ld (bv 28 I::K a aV old it sv I) qq (K a aV old it sv I):=Lg.of (ah 272 42) λ_ _=>by kernel_rfl
def Sl(a aV old it sv):Lg Ld (bv 28 Y::K a aV old it sv I) Le (bv 33 (old.fdiv 8 !=0)::K a aV old it sv I):=Lg.of (ah 272 34) λ_ _=>by kernel_rfl
def Sn(a aV old it sv):Lg Le (bv 33 I::K a aV old it sv I) qq (K a aV old it sv I):=Lg.of (ah 272 42) λ_ _=>by kernel_rfl
def So(a aV old it sv):Lg Le (bv 33 Y::K a aV old it sv I) A2 (bv 33 Y::pv 36 a::jv 37 (old)::jv 39 (bits .or Δ old 2)::K a aV old it sv I):=Lg.of (ah 272 40) λ_ _=>by kernel_rfl
def Sp(a aV old it sv):Lf (.bool Y) A2 (bv 33 Y::K a aV old it sv I) qq (K a aV old it sv Y):=Lf.of (ah 272 42) λ_ _=>by kernel_rfl
def Sq(a aV old it sv):Lf (.bool I) A2 (bv 33 Y::K a aV old it sv I) qq (K a aV old it sv I):=Lf.of (ah 272 42) λ_ _=>by kernel_rfl
def Ll(a aV old it sv aw):Lf (.tuple #[]) qq (K a aV old it sv aw) Sb (pv 47 a::K a aV old (Θ ZN<|it+1) sv aw):=Lf.of (ah 272 48) λ_ _=>by kernel_rfl
def Lm(a aV old it v sv aw):Lf (Ξ Δ v) Sb (pv 47 a::K a aV old it sv aw) A1 (K a aV v it sv aw):=Lf.of (ah 272 14) λ_ _=>by kernel_rfl
def Ss(a aV old it sv aw):Lg D8 (bv 52 Y::jv 7 (old)::K a aV old it sv aw) qr (bv 57 (bits .and Δ old 5 !=0)::jv 7 (bits .or Δ old 1)::K a aV old it sv aw):=Lg.of (aC 272 57) λ_ _=>by kernel_rfl
def Su(a aV old it sv aw):Lg D8 (bv 52 I::jv 7 (old)::K a aV old it sv aw) qr (bv 57 (bits .and Δ old 5 !=0)::jv 7 (old)::K a aV old it sv aw):=Lg.of (aC 272 57) λ_ _=>by kernel_rfl
def Ga(a aV old it b):Lg qr (bv 57 Y::jv 7 (b)::K a aV old it I I) mU (pv 77 a::jv 78 (old)::jv 79 ((Θ Δ<|b+8))::K a aV old it I I):=Lg.of (ah 272 80) λ_ _=>by kernel_rfl
def Gb(a aV old it b):Lg qr (bv 57 Y::jv 7 (b)::K a aV old it I Y) xY (bv 71 (decide<|bits .and Δ (Θ Δ<|b+8) 2=0)::jv 7 ((Θ Δ<|b+8))::K a aV old it I Y):=Lg.of (aC 272 71) λ_ _=>by kernel_rfl
def Ln(a aV old it b aw):Lg qr (bv 57 Y::jv 7 (b)::K a aV old it Y aw) xX (bv 65 (bits .and Δ old 1 !=0)::jv 7 ((Θ Δ<|b+8))::K a aV old it Y aw):=Lg.of (aC 272 65) λ_ _=>by kernel_rfl
def Gc(a aV old it b):Lg qr (bv 57 I::jv 7 (b)::K a aV old it I I) mU (pv 77 a::jv 78 (old)::jv 79 (b)::K a aV old it I I):=Lg.of (ah 272 80) λ_ _=>by kernel_rfl
def Gd(a aV old it b):Lg qr (bv 57 I::jv 7 (b)::K a aV old it I Y) xY (bv 71 (decide<|bits .and Δ b 2=0)::jv 7 (b)::K a aV old it I Y):=Lg.of (aC 272 71) λ_ _=>by kernel_rfl
def Lo(a aV old it b aw):Lg qr (bv 57 I::jv 7 (b)::K a aV old it Y aw) xX (bv 65 (bits .and Δ old 1 !=0)::jv 7 (b)::K a aV old it Y aw):=Lg.of (aC 272 65) λ_ _=>by kernel_rfl
def Lp(a aV old it b sv):Lg xX (bv 65 Y::jv 7 (b)::K a aV old it sv I) mU (pv 77 a::jv 78 (old)::jv 79 (bits .or Δ b 4)::K a aV old it sv I):=Lg.of (ah 272 80) λ_ _=>by kernel_rfl
def Lq(a aV old it b sv):Lg xX (bv 65 Y::jv 7 (b)::K a aV old it sv Y) xY (bv 71 (decide<|bits .and Δ (bits .or Δ b 4) 2=0)::jv 7 (bits .or Δ b 4)::K a aV old it sv Y):=Lg.of (aC 272 71) λ_ _=>by kernel_rfl
def Lr(a aV old it b sv):Lg xX (bv 65 I::jv 7 (b)::K a aV old it sv I) mU (pv 77 a::jv 78 (old)::jv 79 (b)::K a aV old it sv I):=Lg.of (ah 272 80) λ_ _=>by kernel_rfl
def Ls(a aV old it b sv):Lg xX (bv 65 I::jv 7 (b)::K a aV old it sv Y) xY (bv 71 (decide<|bits .and Δ (b) 2=0)::jv 7 (b)::K a aV old it sv Y):=Lg.of (aC 272 71) λ_ _=>by kernel_rfl
def Sv(a aV old it b sv):Lg xY (bv 71 I::jv 7 (b)::K a aV old it sv Y) mU (pv 77 a::jv 78 (old)::jv 79 (bits .andNot Δ b 2)::K a aV old it sv Y):=Lg.of (ah 272 80) λ_ _=>by kernel_rfl
def Sw(a aV old it b sv aw):Lf (.bool Y) mU (pv 77 a::jv 78 (old)::jv 79 (b)::K a aV old it sv aw) F5 (bv 83 (decide<|bits .and Δ old 5=0)::K a aV old it sv aw):=Lf.of (aC 272 83) λ_ _=>by kernel_rfl
def Sx(a aV old it b sv aw):Lf (.bool I) mU (pv 77 a::jv 78 (old)::jv 79 (b)::K a aV old it sv aw) F6 (pv 133 a::K a aV old it sv aw):=Lf.of (ah 272 134) λ_ _=>by kernel_rfl
def Ge(a aV old it v sv aw):Lf (Ξ Δ v) F6 (pv 133 a::K a aV old it sv aw) A1 (K a aV v it sv aw):=Lf.of (ah 272 14) λ_ _=>by kernel_rfl
def Sy(a aV old it sv aw):Lg F5 (bv 83 Y::K a aV old it sv aw) xZ (K a aV old it sv aw):=Lg.of (ah 272 135) λ_ _=>by kernel_rfl
def Sz(a aV old it sv aw):Lg F5 (bv 83 I::K a aV old it sv aw) F7 (bv 87 (decide<|aV=0)::bv 8 (aV !=0)::K a aV old it sv aw):=Lg.of (aC 272 87) λ_ _=>by kernel_rfl
def SA(a aV old it sv aw b):Lg F7 (bv 87 Y::bv 8 b::K a aV old it sv aw) Sc (bv 8 b::K a aV old it sv aw):=Lg.of (ah 272 88) λ_ _=>by kernel_rfl
def SD(a aV old it sv aw b):Lg F7 (bv 87 I::bv 8 b::K a aV old it sv aw) A3 (pv 91 (a.add 1)::bv 92 b::K a aV old it sv aw):=Lg.of (ah 272 93) λ_ _=>by kernel_rfl
def Lt(a aV old it t sv aw b):Lf (Ξ ZN t) Sc (bv 8 b::K a aV old it sv aw) A3 (pv 91 (a.add 1)::bv 92 b::K a t old it sv aw):=Lf.of (ah 272 93) λ_ _=>by kernel_rfl
def SE(a aV old it aw b):Lf (.tuple #[]) A3 (pv 91 (a.add 1)::bv 92 b::K a aV old it I aw) Sd (bv 95 I::K a aV old it I aw):=Lf.of (ah 272 96) λ_ _=>by kernel_rfl
def SF(a aV old it aw b):Lf (.tuple #[]) A3 (pv 91 (a.add 1)::bv 92 b::K a aV old it Y aw) ul (pv 103 a::K a aV old it Y aw):=Lf.of (ah 272 104) λ_ _=>by kernel_rfl
def Lu(a aV old it t aw):Lf (Ξ ZN t) Sd (bv 95 I::K a aV old it I aw) ul (pv 103 a::K a aV old it (decide<|Θ ZN (t-aV)>1000000) aw):=Lf.of (ah 272 104) λ_ _=>by kernel_rfl
def Gf(a aV old it v sv aw):Lf (Ξ Δ v) ul (pv 103 a::K a aV old it sv aw) Cu (bv 107 (bits .and Δ v 4 !=0)::K a aV v it sv aw):=Lf.of (aC 272 107) λ_ _=>by kernel_rfl
def Lv(a aV old it sv aw):Lg Cu (bv 107 I::K a aV old it sv aw) A1 (K a aV old 0 sv Y):=Lg.of (ah 272 14) λ_ _=>by kernel_rfl
def Lw(a aV old it sv aw):Lg Cu (bv 107 Y::K a aV old it sv aw) F8 (bv 111 (bits .and Δ old 3 !=0)::K a aV old it sv aw):=Lg.of (ah 272 112) λ_ _=>by kernel_rfl
def Lx(a aV old it sv aw):Lg F8 (bv 111 I::K a aV old it sv aw) Cv (bv 115 (decide<|old.fdiv 8=0)::K a aV old it sv aw):=Lg.of (aC 272 115) λ_ _=>by kernel_rfl
def Gg(a aV old it aw):Lg Cv (bv 115 I::K a aV old it I aw) um (pv 128 a::jv 129 (-11)::K a aV old it I aw):=Lg.of (ah 272 130) λ_ _=>by kernel_rfl
def Gh(a aV old it aw):Lg Cv (bv 115 I::K a aV old it Y aw) Cw (bv 123 (decide<|old.fdiv 8=1)::jv 9 (-7)::K a aV old it Y aw):=Lg.of (aC 272 123) λ_ _=>by kernel_rfl
def Ly(a aV old it sv aw):Lg Cw (bv 123 Y::jv 9 (-7)::K a aV old it sv aw) um (pv 128 a::jv 129 (-11)::K a aV old it sv aw):=Lg.of (ah 272 130) λ_ _=>by kernel_rfl
def Lz(a aV old it sv aw):Lg Cw (bv 123 I::jv 9 (-7)::K a aV old it sv aw) um (pv 128 a::jv 129 (-7)::K a aV old it sv aw):=Lg.of (ah 272 130) λ_ _=>by kernel_rfl
def Gi(a aV old it v b sv aw):Lf (Ξ Δ v) um (pv 128 a::jv 129 (b)::K a aV old it sv aw) xZ (K a aV old it sv aw):=Lf.of (ah 272 135) λ_ _=>by kernel_rfl
def Gj(a aV old it sv aw):Lf (.tuple #[]) xZ (K a aV old it sv aw) Cx (pv 136 a::K a aV old it sv aw):=Lf.of (ah 272 137) λ_ _=>by kernel_rfl
def Gk(a aV old it sv aw):Lf (Ψ<|Z a) Cx (pv 136 a::K a aV old it sv aw) F9 (pv 137 a::K a aV old it sv aw):=Lf.of (ah 272 138) λ_ _=>by kernel_rfl
end
section
structure bG where
 fn:ZW
 n:Nat
 T:List ZY
 l:List (Nat×R)
 defers:List ZX:=[]
 mode:FrameMode:=.run
 kind:CallKind:=.normal
def bG.fr(d:bG)(tmps:Array R):Frame:={fn:=d.fn,tmps,todo:=d.T,defers:=d.defers,mode:=d.mode,kind:=d.kind}
def KN:List bG->(Nat->Nat->R) ->List Frame
 |[],_=>[]
 |d::ds,F=>d.fr (Jv d.n<|cO d.l<|F 0)::KN ds λi=>F<|i+1
def SG(d:bG)(ds:List bG)(F:Nat->Nat->R):Ω:=G (d.fr<|Jv d.n<|cO d.l<|F 0)<|KN ds λi=>F<|i+1
def bj(d:bG)(ds:List bG)(g:Ω):Prop:=∃F,g=SG d ds F
def ck:List bG->List Frame->List Frame
 |d::ds,fr::qH=>d.fr fr.tmps::ck ds qH
 |_,_=>[]
theorem A4:∀(ds:List bG) (qH:List Frame),qH=ck ds qH->qH.map (λfr=>fr.tmps.size)=ds.map (·.n) ->ZR (λ(d:bG) (fr:Frame)=>d.l.map λp=>fr.tmps.getD p.1 undef) ds qH=ds.map (λd=>d.l.map Z4) ->
 ∃F,qH=KN ds F
 |[],[],_,_,_=>⟨λ_ _=>undef,rfl⟩
 |[],fr::qH,h,_,_=>by simp[ck]at h
 |d::ds,[],_,h,_=>by simp at h
 |d::ds,fr::qH,h1,h2,h3=>by
  simp only[ck,ZL]at h1;simp only[Zh,ZL]at h2;simp only[List.zipWith_cons_cons,Zh,ZL]at h3;obtain⟨F,hF⟩:=A4 ds qH h1.2 h2.2 h3.2;refine⟨λi=>match i with|0=>λj=>fr.tmps.getD j undef|i+1=>F i,?_⟩;simp only[KN];rw[<-uj h2.1 d.l λp a=>?_,<-h1.1]
  grind
  obtain⟨i,hi,rfl⟩:=Zt.1 a;have:=congrArg (λx=>x[i]?) h3.1;simpa[hi]using this
section
variable{P:φ}{main:Bool}{S S':Ω->Prop}{g:Ω}
def bj.of{d ds r}(a:r=G (d.fr r.frame.tmps) (ck ds r.callers))(b:(r.frame::r.callers).map (λfr=>fr.tmps.size)=(d::ds).map (·.n))(h3:ZR (λd fr=>d.l.map λp=>fr.tmps.getD p.1 undef) (d::ds) (r.frame::r.callers)=(d::ds).map (λd=>d.l.map Z4)):bj d ds r:=by
 obtain⟨F,hF⟩:=A4 (d::ds) (r.frame::r.callers) (by simp only[ck];have e1:=congrArg Goroutine.frame a;have e2:=congrArg Goroutine.callers a;dsimp only[G]at e1 e2;rw[<-e2,<-e1]) b h3
 refine⟨F,?_⟩;simp only[KN]at hF;unfold SG;have e1:=congrArg Goroutine.frame a;have e2:=congrArg Goroutine.callers a;dsimp only[G]at e1 e2
 grind
def bj.QF{d b ds a}(stop k)(c:∀F,bN P main stop k (SG d ds F)=G (b.fr (bN P main stop k<|SG d ds F).frame.tmps) (ck a (bN P main stop k<|SG d ds F).callers))(e:∀F,((bN P main stop k<|SG d ds F).frame::(bN P main stop k<|SG d ds F).callers).map (λfr=>fr.tmps.size)=(b::a).map (·.n))(h3:∀F,ZR (λd fr=>d.l.map λp=>fr.tmps.getD p.1 undef) (b::a) ((bN P main stop k<|SG d ds F).frame::(bN P main stop k<|SG d ds F).callers)=(b::a).map (λd=>d.l.map Z4))(g)(h:bj d ds g):bZ P main k (bj b a) g:=by obtain⟨F,rfl⟩:=h;exact bZ.run stop k<|bj.of (c F) (e F)<|h3 F
def bj.F3{d b ds a}(v stop k)(c:∀F,bN P main stop k (fin v<|SG d ds F)=G (b.fr (bN P main stop k<|fin v<|SG d ds F).frame.tmps) (ck a (bN P main stop k<|fin v<|SG d ds F).callers))(e:∀F,((bN P main stop k<|fin v<|SG d ds F).frame::(bN P main stop k<|fin v<|SG d ds F).callers).map (λfr=>fr.tmps.size)=(b::a).map (·.n))(h3:∀F,ZR (λd fr=>d.l.map λp=>fr.tmps.getD p.1 undef) (b::a) ((bN P main stop k<|fin v<|SG d ds F).frame::(bN P main stop k<|fin v<|SG d ds F).callers)=(b::a).map (λd=>d.l.map Z4))(g)(h:bj d ds g):bZ P main k (bj b a) (fin v g):=by obtain⟨F,rfl⟩:=h;exact bZ.run stop k<|bj.of (c F) (e F)<|h3 F
def bj.head{d ds s}(h:∀F,dl (SG d ds F)=Z s)(g)(a:bj d ds g):dl g=Z s:=by obtain⟨F,rfl⟩:=a;exact h F
def bj.open{d ds g}(h:bj d ds g)(a:d.defers=[])(b:d.mode=.run)(h3:d.kind=.normal):∃cs,At d.fn d.n d.T d.l cs g/\∃F,cs=KN ds F:=by obtain⟨F,rfl⟩:=h;refine⟨KN ds λi=>F<|i+1,⟨F 0,?_⟩,λi=>F<|i+1,rfl⟩;unfold SG FG bG.fr;rw[a,b,h3]
def At.close{fn n T l ds F g}(h:At fn n T l (KN ds F) g):bj {fn,n,T,l} ds g:=by
 obtain⟨f,rfl⟩:=h;exact⟨λi=>match i with|0=>f|i+1=>F i,rfl⟩
end
def eh(f:ZW)(g:Ω):Bool:=
 g.frame.fn==f&&match g.frame.mode,g.frame.todo with
 |.run,.inRegion ops (i::_)::_=>match((ops[i]?).map (·.op):Option Op)with
  |some (.store ..)=>Y
  |_=>I
 |_,_=>I
def LA(f:ZW)(g:Ω):Bool:=g.frame.fn==f
end
section
def sz3(ds:List bG)(r:Ω):Ω×List Nat×List (List R):=(r,(r.frame::r.callers).map λfr=>fr.tmps.size,ZR (λd fr=>d.l.map λp=>fr.tmps.getD p.1 undef) ds (r.frame::r.callers))
def sg3(d:bG)(ds:List bG)(r:Ω):Ω×List Nat×List (List R):=(G (d.fr r.frame.tmps)<|ck ds r.callers,(d::ds).map (·.n),(d::ds).map λd=>d.l.map Z4)
def Sg(d:bG)(ds:List bG)(d':bG)(ds':List bG):Prop:=∀g,bj d ds g->bZ P0 I 200 (bj d' ds') g
def Sf(v:R)(d:bG)(ds:List bG)(d':bG)(ds':List bG):Prop:=∀g,bj d ds g->bZ P0 I 200 (bj d' ds') (fin v g)
def Sg.of{d b ds a}(stop)(h:∀F,sz3 (b::a) (bN P0 I stop 200<|SG d ds F)=sg3 b a (bN P0 I stop 200<|SG d ds F)):Sg d ds b a:=bj.QF stop 200 (λf=>(wV.three<|h f).1) (λf=>(wV.three<|h f).2.1) (λf=>(wV.three<|h f).2.2)
def Sf.of{v d b ds a}(stop)(h:∀F,sz3 (b::a) (bN P0 I stop 200<|fin v<|SG d ds F)=sg3 b a (bN P0 I stop 200<|fin v<|SG d ds F)):Sf v d ds b a:=bj.F3 v stop 200 (λf=>(wV.three<|h f).1) (λf=>(wV.three<|h f).2.1) (λf=>(wV.three<|h f).2.2)
structure WP where
 wg:Zr
 gb:Zr
 cb:Zr
 lk:Zr
 eb:Zr
 ib:Zr
variable(p:WP)(v e o:Int)
def WP.l(p:WP):List (Nat×R):=[pv 0 p.wg,pv 1 p.gb,pv 2 p.cb,pv 3 p.lk,pv 4 p.eb,pv 5 p.ib]
def WP.tx(p:WP):Array R:=#[Ψ (Z p.wg),Ψ<|Z p.gb,Ψ<|Z p.cb,Ψ<|Z p.lk,Ψ<|Z p.eb,Ψ<|Z p.ib]
def bB:WP:=⟨a0,a0,a0,a0,a0,a0⟩
def fB(ds:List ZX):bG:={fn:=P0.funcs.size,n:=0,T:=[],l:=[],defers:=ds,mode:=.panicking [goexitEntry]}
def aZ(p:WP):ZX:={target:=.fn (.func 212) #[],args:=#[Ψ (Z p.wg)]}
def cT(p:WP):ZX:={target:=.fn (.func 215) #[],args:=#[Ψ (Z p.lk)]}
def vA(p:WP):ZX:={target:=.fn (.func 211) p.tx,args:=#[]}
def fW(p:WP)(T:List ZY)(ex:List (Nat×R))(ds:List ZX):bG:={fn:=211,n:=15,T,l:=ex++p.l,defers:=ds,kind:=.deferred}
def kz(p:WP)(T:List ZY)(ds:List ZX):bG:={fn:=211,n:=15,T,l:=p.l,defers:=ds,mode:=.returning,kind:=.deferred}
def fL(p:WP)(T:List ZY):bG:={fn:=214,n:=6,T,l:=[pv 0 p.lk]}
def fI(p:WP)(T:List ZY)(ex:List (Nat×R)):bG:={fn:=250,n:=13,T,l:=ex++[pv 0 p.lk]}
def fU(p:WP)(T:List ZY):bG:={fn:=215,n:=6,T,l:=[pv 0 p.lk],kind:=.deferred}
def fJ(p:WP)(T:List ZY)(ex:List (Nat×R)):bG:={fn:=251,n:=21,T,l:=ex++[pv 0 p.lk]}
def fV(p:WP)(T:List ZY)(ex:List (Nat×R))(v:Int):bG:={fn:=274,n:=43,T,l:=ex++[pv 0 p.lk,jv 1 v]}
def fS(p:WP)(T:List ZY)(l:List (Nat×R)):bG:={fn:=272,n:=139,T,l:=l}
def kG(d:bG)(ds:List bG)(stop:Ω->Bool):Ω:=bN P0 I stop 200<|SG d ds λ_ _=>undef
def dG(d:bG)(ds:List bG)(v:R)(stop:Ω->Bool):Ω:=bN P0 I stop 200<|fin v<|SG d ds λ_ _=>undef
def aK(g:Ω):List ZY:=g.frame.todo
def cH(i:Nat)(g:Ω):List ZY:=match g.callers[i]? with|some fr=>fr.todo|none=>[]
def tw7:=aK<|kG (fB [vA bB]) []<|ah 211 7
def LB:=aK<|dG (fW bB tw7 [] [aZ bB]) [fB []] (Ψ<|Z a0)<|ah 211 8
def SH:=dG (fW bB LB [pv 7 a0] [aZ bB]) [fB []] (.agg #[])<|LA 213
def QG:=cH 0 SH
def Gl:=dG (fW bB QG [] [aZ bB]) [fB []] (Ξ ZN 0)<|ah 250 2
def ti2:=aK Gl
def QH:=cH 0 Gl
def acl:=cH 1 Gl
noncomputable abbrev Po:List bG:=[fL bB QH,fW bB acl [] [aZ bB],fB []]
def Ks:=aK<|dG (fI bB ti2 []) Po (.tuple #[])<|ah 250 6
def ti7:=aK<|dG (fI bB Ks []) Po (.bool Y)<|ah 250 7
def aa9:=dG (fI bB Ks []) Po (.bool I)<|ah 272 13
def SI:=cH 0 aa9
def ti9:=aK<|dG (fI bB ti7 []) Po (.tuple #[])<|ah 250 9
def LC:=aK<|dG (fI bB ti9 []) Po (Ψ<|Z a0)<|ah 250 10
def D9:=aK<|dG (fI bB LC []) Po (.tuple #[])<|ah 211 11
def LD:=aK<|dG (fW bB D9 [] [cT bB,aZ bB]) [fB []] (.slice (Z a0) 1 1)<|ah 211 12
def LE:=aK<|dG (fW bB LD [] [cT bB,aZ bB]) [fB []] (Ξ ZN 0)<|ah 211 14
def Gm:=aK<|dG (fW bB LE [] [cT bB,aZ bB]) [fB []] (Ψ<|Z a0)<|eh 211
def SJ:=dG (fW bB Gm [] [cT bB,aZ bB]) [fB []] undef<|ah 251 6
def tj6:=aK SJ
def vB:=cH 0 SJ
def kA:=cH 1 SJ
noncomputable abbrev yw:List bG:=[fU bB vB,kz bB kA [aZ bB],fB []]
def tj8:=aK<|dG (fJ bB tj6 []) yw (Ξ Δ 0)<|ah 251 8
def tj9:=aK<|dG (fJ bB tj8 [pv 7 a0]) yw (Ψ<|Z a0)<|ah 251 9
def LF:=aK<|dG (fJ bB tj9 []) yw (.tuple #[])<|ah 251 10
def LG:=aK<|dG (fJ bB LF []) yw (.tuple #[])<|ah 251 14
def SK:=aK<|dG (fJ bB LG []) yw (Ξ Δ 0)<|aC 251 16
def A5:=aK<|kG (fJ bB SK [bv 16 I,jv 2 0]) yw<|ah 251 20
def gUs:=kG (fJ bB SK [bv 16 Y,jv 2 0]) yw<|aC 274 8
def SM:=aK gUs
def eN:=cH 0 gUs
def P8:=aK<|kG (fV bB SM [bv 8 I] 0) (fJ bB eN []::yw)<|aC 274 12
def SN:=aK<|kG (fV bB P8 [bv 12 I] 0) (fJ bB eN []::yw)<|ah 274 42
def Gn:=aK<|kG (fV bB P8 [bv 12 Y] 0) (fJ bB eN []::yw)<|ah 274 14
def LH:=aK<|kG (fV bB Gn [jv 4 0] 0) (fJ bB eN []::yw)<|ah 274 18
def P9:=aK<|kG (fV bB LH [bv 17 I,jv 4 0] 0) (fJ bB eN []::yw)<|aC 274 21
def Ea:=aK<|kG (fV bB P9 [bv 21 I,jv 4 0] 0) (fJ bB eN []::yw)<|ah 274 30
def SO:=aK<|dG (fV bB Ea [] 0) (fJ bB eN []::yw) (.bool Y)<|ah 274 34
def acm:=aK<|dG (fV bB Ea [] 0) (fJ bB eN []::yw) (.bool I)<|ah 274 38
def QI:=dG (fJ bB A5 []) yw (.tuple #[])<|ah 210 12
def LI:=aK QI
def vC:=cH 0 QI
noncomputable abbrev dH (p:WP):List bG:=[fU p vB,kz p kA [aZ p],fB []]
noncomputable abbrev oV (p:WP) (e:Int):List bG:=[fL p QH,fW p acl [iv 6 e] [aZ p],fB []]
def LJ:Sg (fB [vA p]) [] (fW p tw7 [] [aZ p]) [fB []]:=Sg.of (ah 211 7) λ_=>by kernel_rfl
def aba(g0):Sf (Ψ<|Z g0) (fW p tw7 [] [aZ p]) [fB []] (fW p LB [pv 7 g0] [aZ p]) [fB []]:=Sf.of (ah 211 8) λ_=>by kernel_rfl
def abb(g0 c g)(h:bj (fW p LB [pv 7 g0] [aZ p]) [fB []] g):bZ P0 I 200 (λg'=>∃a,bj (fW p QG [] [aZ p]) [fB []] (G a.head! a.tail)/\a≠[]/\g'={frame:=Frame.enter P0 213 #[Ψ (Z g0),c] .normal,callers:=a,status:=.running,dying:=κ}) (fin c g):=by
 obtain⟨F,rfl⟩:=h;refine bZ.run (LA 213) 200 ⟨(bN P0 I (LA 213) 200<|fin c<|SG (fW p LB [pv 7 g0] [aZ p]) [fB []] F).callers,bj.of (by kernel_rfl) (by kernel_rfl)<|by kernel_rfl,?_,?_⟩;have e:(bN P0 I (LA 213) 200<|fin c<|SG (fW p LB [pv 7 g0] [aZ p]) [fB []] F).callers.length=2:=by kernel_rfl
 intro h;rw[h]at e;cases e
 kernel_rfl
def abc:Sf (Ξ ZN e) (fW p QG [] [aZ p]) [fB []] (fI p ti2 []) (oV p e):=Sf.of (ah 250 2) λ_=>by kernel_rfl
def abd:Sf (.tuple #[]) (fI p ti2 []) (oV p e) (fI p Ks [pv 5 p.lk]) (oV p e):=Sf.of (ah 250 6) λ_=>by kernel_rfl
def akN:Sf (.bool Y) (fI p Ks [pv 5 p.lk]) (oV p e) (fI p ti7 []) (oV p e):=Sf.of (ah 250 7) λ_=>by kernel_rfl
def akO:Sf (.bool I) (fI p Ks [pv 5 p.lk]) (oV p e) (fS p Lb [pv 0 p.lk,iv 2 0,bv 3 I,bv 4 I,iv 5 0,pv 12 p.lk]) (fI p SI []::(oV p e)):=Sf.of (ah 272 13) λ_=>by kernel_rfl
def abe:Sf (.tuple #[]) (fI p ti7 []) (oV p e) (fI p ti9 [pv 8 p.lk]) (oV p e):=Sf.of (ah 250 9) λ_=>by kernel_rfl
def abf:Sf (Ψ<|Z p.lk) (fI p ti9 [pv 8 p.lk]) (oV p e) (fI p LC [pv 9 p.lk]) (oV p e):=Sf.of (ah 250 10) λ_=>by kernel_rfl
def SQ:Sf (.tuple #[]) (fI p LC [pv 9 p.lk]) (oV p e) (fW p D9 [iv 6 e] [cT p,aZ p]) [fB []]:=Sf.of (ah 211 11) λ_=>by kernel_rfl
def afz(l):Sf (.tuple #[]) (fS p F9 l) (fI p SI []::(oV p e)) (fW p D9 [iv 6 e] [cT p,aZ p]) [fB []]:=Sf.of (ah 211 11) λ_=>by kernel_rfl
def SR(v):Sf (v) (fW p D9 [iv 6 e] [cT p,aZ p]) [fB []] (fW p LD [(11,v),iv 6 e] [cT p,aZ p]) [fB []]:=Sf.of (ah 211 12) λ_=>by kernel_rfl
def SS(i v):Sf (Ξ ZN i) (fW p LD [(11,v),iv 6 e] [cT p,aZ p]) [fB []] (fW p LE [(11,v),iv 12 i,iv 13 e] [cT p,aZ p]) [fB []]:=Sf.of (ah 211 14) λ_=>by kernel_rfl
def ST(v i d):Sf (d) (fW p LE [(11,v),(12,i),iv 13 e] [cT p,aZ p]) [fB []] (fW p Gm [(14,d),iv 13 e] [cT p,aZ p]) [fB []]:=Sf.of (eh 211) λ_=>by kernel_rfl
def SU(d):Sf (undef) (fW p Gm [(14,d),iv 13 e] [cT p,aZ p]) [fB []] (fJ p tj6 [pv 5 p.lk]) (dH p):=Sf.of (ah 251 6) λ_=>by kernel_rfl
def abg(v):Sf (v) (fJ p tj6 [pv 5 p.lk]) (dH p) (fJ p tj8 [pv 7 p.lk]) (dH p):=Sf.of (ah 251 8) λ_=>by kernel_rfl
def abh:Sf (Ψ<|Z p.lk) (fJ p tj8 [pv 7 p.lk]) (dH p) (fJ p tj9 [pv 8 p.lk]) (dH p):=Sf.of (ah 251 9) λ_=>by kernel_rfl
def abi:Sf (.tuple #[]) (fJ p tj9 [pv 8 p.lk]) (dH p) (fJ p LF []) (dH p):=Sf.of (ah 251 10) λ_=>by kernel_rfl
def SV:Sf (.tuple #[]) (fJ p LF []) (dH p) (fJ p LG [pv 13 p.lk]) (dH p):=Sf.of (ah 251 14) λ_=>by kernel_rfl
def SW:Sf (Ξ Δ v) (fJ p LG [pv 13 p.lk]) (dH p) (fJ p SK [bv 16 (v !=0),jv 2 v]) (dH p):=Sf.of (aC 251 16) λ_=>by kernel_rfl
def akP:Sg (fJ p SK [bv 16 I,jv 2 v]) (dH p) (fJ p A5 []) (dH p):=Sg.of (ah 251 20) λ_=>by kernel_rfl
def akQ:Sg (fJ p SK [bv 16 Y,jv 2 v]) (dH p) (fV p SM [bv 8 (decide<|bits .and Δ (Θ Δ<|v+1) 1=0)] v) (fJ p eN []::(dH p)):=Sg.of (aC 274 8) λ_=>by kernel_rfl
def abj:Sg (fV p SM [bv 8 I] v) (fJ p eN []::(dH p)) (fV p P8 [bv 12 (decide<|bits .and Δ v 4=0)] v) (fJ p eN []::(dH p)):=Sg.of (aC 274 12) λ_=>by kernel_rfl
def SX:Sg (fV p P8 [bv 12 I] v) (fJ p eN []::(dH p)) (fV p SN [pv 41 (p.lk.add 1)] v) (fJ p eN []::(dH p)):=Sg.of (ah 274 42) λ_=>by kernel_rfl
def SY:Sg (fV p P8 [bv 12 Y] v) (fJ p eN []::(dH p)) (fV p Gn [jv 4 v] v) (fJ p eN []::(dH p)):=Sg.of (ah 274 14) λ_=>by kernel_rfl
def SZ:Sg (fV p Gn [jv 4 o] v) (fJ p eN []::(dH p)) (fV p LH [bv 17 (decide<|o.fdiv 8=0),jv 4 o] v) (fJ p eN []::(dH p)):=Sg.of (ah 274 18) λ_=>by kernel_rfl
def abk:Sg (fV p LH [bv 17 Y,jv 4 o] v) (fJ p eN []::(dH p)) (fV p P9 [bv 21 Y,jv 4 o] v) (fJ p eN []::(dH p)):=Sg.of (aC 274 21) λ_=>by kernel_rfl
def abl:Sg (fV p LH [bv 17 I,jv 4 o] v) (fJ p eN []::(dH p)) (fV p P9 [bv 21 (bits .and Δ o 7 !=0),jv 4 o] v) (fJ p eN []::(dH p)):=Sg.of (aC 274 21) λ_=>by kernel_rfl
def Gp:Sg (fV p P9 [bv 21 Y,jv 4 o] v) (fJ p eN []::(dH p)) (fJ p A5 []) (dH p):=Sg.of (ah 251 20) λ_=>by kernel_rfl
def acR:Sg (fV p P9 [bv 21 I,jv 4 o] v) (fJ p eN []::(dH p)) (fV p Ea [pv 27 p.lk,jv 28 o,jv 29<|bits .or Δ (Θ Δ<|o-8) 2]<|bits .or Δ (Θ Δ<|o-8) 2) (fJ p eN []::(dH p)):=Sg.of (ah 274 30) λ_=>by kernel_rfl
def abm(a):Sf (.bool Y) (fV p Ea [pv 27 p.lk,jv 28 o,jv 29 a] a) (fJ p eN []::(dH p)) (fV p SO [pv 33 (p.lk.add 1)] a) (fJ p eN []::(dH p)):=Sf.of (ah 274 34) λ_=>by kernel_rfl
def abn(a):Sf (.bool I) (fV p Ea [pv 27 p.lk,jv 28 o,jv 29 a] a) (fJ p eN []::(dH p)) (fV p acm [pv 37 p.lk] a) (fJ p eN []::(dH p)):=Sf.of (ah 274 38) λ_=>by kernel_rfl
def adn:Sf (Ξ Δ o) (fV p acm [pv 37 p.lk] v) (fJ p eN []::(dH p)) (fV p Gn [jv 4 o] v) (fJ p eN []::(dH p)):=Sf.of (ah 274 14) λ_=>by kernel_rfl
def S7:Sf (.tuple #[]) (fV p SO [pv 33 (p.lk.add 1)] v) (fJ p eN []::(dH p)) (fJ p A5 []) (dH p):=Sf.of (ah 251 20) λ_=>by kernel_rfl
def S9:Sf (.tuple #[]) (fV p SN [pv 41 (p.lk.add 1)] v) (fJ p eN []::(dH p)) (fJ p A5 []) (dH p):=Sf.of (ah 251 20) λ_=>by kernel_rfl
end
section
variable(p:WP)(v n m:Int)
def rE(g:Ω):Bool:=match g.frame.mode with|.returning=>Y|_=>I
def fD(p:WP)(T:List ZY):bG:={fn:=212,n:=4,T,l:=[pv 0 p.wg],kind:=.deferred}
def dK:ZX:={target:=.fn (.func 237) #[],args:=#[]}
def fA(p:WP)(T:List ZY)(ex:List (Nat×R))(ds:List ZX):bG:={fn:=210,n:=117,T,l:=ex++[pv 0 p.wg,iv 1<|-1],defers:=ds}
def wR(p:WP)(T:List ZY)(ds:List ZX):bG:={fn:=210,n:=117,T,l:=[],defers:=ds,mode:=.returning}
def fM(p:WP)(f:ZW)(n:Nat)(T:List ZY)(ex:List (Nat×R)):bG:={fn:=f,n,T,l:=ex++[pv 0 p.wg]}
noncomputable abbrev yE:List bG:=[fD bB vC,kz bB kA [],fB []]
def LM:=aK<|dG (fA bB LI [pv 11 a0] []) yE (Ψ<|Z a0)<|ah 210 13
def LN:=aK<|dG (fA bB LM [] []) yE (.tuple #[])<|ah 210 14
def QJ:=dG (fA bB LN [] []) yE (.tuple #[])<|ah 242 9
def Cy:=aK QJ
def LO:=cH 0 QJ
def Ta:=aK<|dG (fM bB 242 10 Cy []) (fA bB LO [bv 4 I] [dK]::yE) (Ξ Z0 0)<|ah 210 48
def Gq:=aK<|kG (fA bB Ta [bv 47 I,(6,Ξ Z0 0),bv 4 I] [dK]) yE<|aC 210 74
abbrev P':List (Nat×R):=[(6,Ξ Z0 0),bv 4 I,jv 7 0,(8,Ξ .u32 0)]
def LP:=aK<|kG (fA bB Gq (bv 74 I::P') [dK]) yE<|ah 210 79
def Eb:=aK<|kG (fA bB LP (bv 78 I::P') [dK]) yE<|ah 210 92
def uo:=aK<|kG (fA bB Eb (bv 91 I::P') [dK]) yE<|aC 210 94
def akR:=kG (fA bB uo (bv 94 Y::P') [dK]) yE rE
def tgr:=aK akR
def gLd:=kG (fA bB uo (bv 94 I::P') [dK]) yE<|ah 244 6
def Cz:=aK gLd
def LQ:=cH 0 gLd
def A6:=aK<|dG (fM bB 244 7 Cz []) (fA bB LQ [(6,Ξ Z0 0),bv 4 I,(8,Ξ .u32 0)] [dK]::yE) (Ξ Z0 0)<|aC 210 100
def gSt:=kG (fA bB A6 [bv 100 I,bv 4 I,(8,Ξ .u32 0)] [dK]) yE<|ah 245 8
def CA:=aK gSt
def CB:=cH 0 gSt
def oW:=aK<|dG (fM bB 245 9 CA []) (fA bB CB [bv 4 I,(8,Ξ .u32 0)] [dK]::yE) (.tuple #[])<|aC 210 110
def Gr:=aK<|kG (fA bB oW [bv 110 Y,(8,Ξ .u32 0)] [dK]) yE<|ah 210 116
def abo:=kG (fA bB oW [bv 110 I,(8,Ξ .u32 0)] [dK]) yE rE
def Tb:=aK abo
noncomputable abbrev cy (p:WP):List bG:=[fD p vC,kz p kA [],fB []]
abbrev gY(v:Int)(n:Int)(m:Int):List (Nat×R):=[(6,Ξ Z0 v),bv 4 I,jv 7 n,(8,Ξ .u32 m)]
def Tc:Sf (.tuple #[]) (fJ p A5 []) [fU p vB,kz p kA [aZ p],fB []] (fA p LI [pv 11 p.wg] []) (cy p):=Sf.of (ah 210 12) λ_=>by kernel_rfl
def Td:Sf (Ψ<|Z p.wg) (fA p LI [pv 11 p.wg] []) (cy p) (fA p LM [pv 12 p.wg] []) (cy p):=Sf.of (ah 210 13) λ_=>by kernel_rfl
def Te:Sf (.tuple #[]) (fA p LM [pv 12 p.wg] []) (cy p) (fA p LN [] []) (cy p):=Sf.of (ah 210 14) λ_=>by kernel_rfl
def Tf:Sf (.tuple #[]) (fA p LN [] []) (cy p) (fM p 242 10 Cy [pv 7 p.wg,(8,Ξ Z0 18446744069414584320)]) (fA p LO [bv 4 I] [dK]::(cy p)):=Sf.of (ah 242 9) λ_=>by kernel_rfl
def LR:Sf (Ξ Z0 v) (fM p 242 10 Cy [pv 7 p.wg,(8,Ξ Z0 18446744069414584320)]) (fA p LO [bv 4 I] [dK]::(cy p)) (fA p Ta [bv 47 (bits .and Z0 v 2147483648 !=0),(6,Ξ Z0 v),bv 4 I] [dK]) (cy p):=Sf.of (ah 210 48) λ_=>by kernel_rfl
def abp:Sg (fA p Ta [bv 47 I,(6,Ξ Z0 v),bv 4 I] [dK]) (cy p) (fA p Gq [bv 74 (decide<|Θ Δ (v.fdiv 4294967296)<0),(6,Ξ Z0 v),bv 4 I,jv 7<|Θ Δ<|v.fdiv 4294967296,(8,Ξ .u32<|Θ .u32<|bits .and Z0 v 2147483647)] [dK]) (cy p):=Sg.of (aC 210 74) λ_=>by kernel_rfl
def Tg:Sg (fA p Gq (bv 74 I::gY v n m) [dK]) (cy p) (fA p LP (bv 78 (m !=0)::gY v n m) [dK]) (cy p):=Sg.of (ah 210 79) λ_=>by kernel_rfl
def abq:Sg (fA p LP (bv 78 Y::gY v n m) [dK]) (cy p) (fA p Eb (bv 91 (decide<|n>0)::gY v n m) [dK]) (cy p):=Sg.of (ah 210 92) λ_=>by kernel_rfl
def abr:Sg (fA p LP (bv 78 I::gY v n m) [dK]) (cy p) (fA p Eb (bv 91 (decide<|n>0)::gY v n m) [dK]) (cy p):=Sg.of (ah 210 92) λ_=>by kernel_rfl
def abs:Sg (fA p Eb (bv 91 Y::gY v n m) [dK]) (cy p) (fA p uo (bv 94 Y::gY v n m) [dK]) (cy p):=Sg.of (aC 210 94) λ_=>by kernel_rfl
def abt:Sg (fA p Eb (bv 91 I::gY v n m) [dK]) (cy p) (fA p uo (bv 94 (decide<|m=0)::gY v n m) [dK]) (cy p):=Sg.of (aC 210 94) λ_=>by kernel_rfl
def Gs:Sg (fA p uo (bv 94 Y::gY v n m) [dK]) (cy p) (wR p tgr [dK]) (cy p):=Sg.of (rE) λ_=>by kernel_rfl
def Th:Sg (fA p uo (bv 94 I::gY v n m) [dK]) (cy p) (fM p 244 7 Cz [pv 5 p.wg]) (fA p LQ [(6,Ξ Z0 v),bv 4 I,(8,Ξ .u32 m)] [dK]::(cy p)):=Sg.of (ah 244 6) λ_=>by kernel_rfl
def LS(x):Sf (Ξ Z0 x) (fM p 244 7 Cz [pv 5 p.wg]) (fA p LQ [(6,Ξ Z0 v),bv 4 I,(8,Ξ .u32 m)] [dK]::(cy p)) (fA p A6 [bv 100 (x !=v),bv 4 I,(8,Ξ .u32 m)] [dK]) (cy p):=Sf.of (aC 210 100) λ_=>by kernel_rfl
def LT:Sg (fA p A6 [bv 100 I,bv 4 I,(8,Ξ .u32 m)] [dK]) (cy p) (fM p 245 9 CA [pv 6 p.wg,(7,Ξ Z0 0)]) (fA p CB [bv 4 I,(8,Ξ .u32 m)] [dK]::(cy p)):=Sg.of (ah 245 8) λ_=>by kernel_rfl
def LU:Sf (.tuple #[]) (fM p 245 9 CA [pv 6 p.wg,(7,Ξ Z0 0)]) (fA p CB [bv 4 I,(8,Ξ .u32 m)] [dK]::(cy p)) (fA p oW [bv 110 (m !=0),(8,Ξ .u32 m)] [dK]) (cy p):=Sf.of (aC 210 110) λ_=>by kernel_rfl
def LW:Sg (fA p oW [bv 110 I,(8,Ξ .u32 m)] [dK]) (cy p) (wR p Tb [dK]) (cy p):=Sg.of (rE) λ_=>by kernel_rfl
def LX:Sg (fA p oW [bv 110 Y,(8,Ξ .u32 m)] [dK]) (cy p) (fA p Gr [pv 115 (p.wg.add 1),(8,Ξ .u32 m)] [dK]) (cy p):=Sg.of (ah 210 116) λ_=>by kernel_rfl
def LY:Sf (.tuple #[]) (fA p Gr [pv 115 (p.wg.add 1),(8,Ξ .u32 m)] [dK]) (cy p) (fA p oW [bv 110 ((Θ .u32<|m-1) !=0),(8,Ξ .u32<|Θ .u32<|m-1)] [dK]) (cy p):=Sf.of (aC 210 110) λ_=>by kernel_rfl
end
section
def bI(t:ZK)(x:R):Sem Next:=do pure (.value<|<-Instr.loadAt t x)
def gh(t:ZK)(a x:R):Sem Next:=do Instr.storeAt t a x;pure .skip
def iC(s d:ZK)(x:R):Sem Next:=do pure (.value<|<-convert s d x)
def l9(t:ZK)(x i:R):Sem Next:=do pure (.value<|<-Instr.indexAt t x i)
def mp(P:φ)(t:ZK)(b:Bool):Prop:=∀w es,(isAgg t).runT P w es=(.ok b w,es)
def dt(P:φ)(t:ZK)(n:Nat):Prop:=∀w es,(sizeOf t).runT P w es=(.ok n w,es)
def bR(P:φ)(f:ZW)(q:Bool):Prop:=(P.funcs[f]?).any (·.norace)=q
section
variable{P:φ}{main:Bool}{g:Ω}{t:ZK}{w w':ZS}{ad:Zr}{v u:R}{q:Bool}
def mp.run{b}(h:mp P t b)(w):(isAgg t).run P w=.ok b w:=by
 have:=h w #[]
 simp_all
def mp.events{b}(h:mp P t b)(w es):(isAgg t).events P w es=es:=by simp
def dt.run{n}(h:dt P t n)(w):(sizeOf t).run P w=.ok n w:=by
 have:=h w #[]
 simp_all
def dt.events{n}(h:dt P t n)(w es):(sizeOf t).events P w es=es:=by simp
def rF(f e)(b:∀g,e.loc≠.mark (ω g))(a:bR P f q):seen P f #[e]=if q&&!e.sync then #[]else #[e]:=by
 rw[seen_def];unfold bR at a;simp only[Zl,seenStep]
 grind
def du(h:dl g=Z (bI t<|Ψ<|Z ad))(a:mp P t I)(hc:w.cell? ad=Z v)(b:bR P g.frame.fn q):
 stepG P main g w=.go (fin v g) w (if q then #[]else #[⟨.cell ad,I,I⟩]):=by
 obtain⟨_,_,_,k,_⟩:=bU (P:=P) (w:=w) (w':=w) (es:=#[⟨.cell ad,I,I⟩]) h;rw[k v];rw[rF (q:=q) _ _ (λg h=>by cases h) b];cases q<;>rfl
 rw[ι];unfold bI Instr.loadAt Instr.sureAddr loadVar;simp[a.run,a.events,hc,ψ,η,Zy]
def jp{v2}(h:dl g=Z (bI t<|Ψ<|Z ad))(b:mp P t Y)(hs:dt P t 2)(hc:w.cell? (ad.add 0)=Z v)(a:w.cell? (ad.add 1)=Z v2)(c:bR P g.frame.fn I):
 stepG P main g w=.go (fin (.agg #[v,v2]) g) w #[⟨.cell<|ad.add 0,I,I⟩,⟨.cell<|ad.add 1,I,I⟩]:=by
 obtain⟨_,_,_,k,_⟩:=bU (P:=P) (w:=w) (w':=w) (es:=#[⟨.cell<|ad.add 0,I,I⟩,⟨.cell<|ad.add 1,I,I⟩]) h;rw[k (.agg #[v,v2])];rw[seen_def];unfold bR at c;simp[seenStep,c];rw[ι];unfold bI Instr.loadAt Instr.sureAddr loadVar loadCells;simp[b.run,b.events,hs.run,hs.events,loadCellsFrom,hc,a,ψ,η,Zy]
def iS(h:dl g=Z (gh t (Ψ<|Z ad) u))(hs:dt P t 1)(c:u.cells=#[u])(a:u.oneCell'=Y)(hc:w.cell? (ad.add 0)=Z v)(hz:w.frozen? (ad.add 0)=I)(b:bR P g.frame.fn I):
 stepG P main g w=.go (fin undef g) (w.setCell (ad.add 0) u) #[⟨.cell<|ad.add 0,Y,I⟩]:=by
 obtain⟨_,_,_,_,k,_⟩:=bU (P:=P) (w:=w) (w':=w.setCell (ad.add 0) u) (es:=#[⟨.cell<|ad.add 0,Y,I⟩]) h;rw[k];rw[rF (q:=I) _ _ (λg h=>by cases h) b];rfl;rw[ι];unfold gh Instr.storeAt Instr.sureAddr storeVar;simp[hs.run,hs.events,c,storeCells,hc,hz,ψ,η,ZD P w _ _ u .plain a,ZH P w _ u .plain a]
def iD{s d e}(h:dl g=Z (iC s d<|Ψ<|Z ad))(hs:P.underlying s=Z (.pointer e))(hd:P.underlying d=Z .unsafePointer)(hz:(P.info? e).map (λi=>decide<|i.size=0)=Z I)(hc:w.cell? ad=Z v):
 stepG P main g w=.go (fin (Ψ<|Z ad) g) w #[]:=by
 obtain⟨_,_,_,k,_⟩:=bU (P:=P) (main:=main) (w:=w) (w':=w) (es:=(iC s d<|Ψ<|Z ad).events P w #[]) h;have c:(iC s d<|Ψ<|Z ad).events P w #[]=#[]:=by unfold iC;obtain⟨l,n,a,f,j⟩:=World.shape?_of_cell? hc;obtain⟨i,hi,b⟩:=Z8.1 hz;simp[convert,Conv.unsafePointer,Conv.seenAt,viewAt,cellsIn,sizeOf,typeInfo,ZJ hs,ZJ hd,hi,by simpa using b,a,by omega,ψ,η]
 rw[k (Ψ<|Z ad),c,seen_none];rw[ι];unfold iC;simp[(run_convert_to_unsafe hs hd hz hc),ψ]
def Ec{k e}{i n m:Nat}(h:dl g=Z (l9 t (.slice (Z ad) n m)<|.int k i))(b:P.underlying t=Z (.slice e))(hs:dt P e 1)(hi:i<n):
 stepG P main g w=.go (fin (Ψ<|Z<|ad.add i) g) w #[]:=by
 obtain⟨_,_,_,d,_⟩:=bU (P:=P) (main:=main) (w:=w) (w':=w) (es:=(l9 t (.slice (Z ad) n m)<|.int k i).events P w #[]) h;have c:(i:Int)<n:=by omega
 have a:(l9 t (.slice (Z ad) n m)<|.int k i).events P w #[]=#[]:=by
  unfold l9 Instr.indexAt;simp[asIntOf,ZJ b,hi,hs.run,ψ,η]
  try (intro h;omega)
 rw[d (Ψ<|Z<|ad.add i),a,seen_none];rw[ι];unfold l9 Instr.indexAt;simp[asIntOf,ZJ b,hi,hs.run,ψ]
def wY{f}(m)(k:∀g,m≠ω g)(b:Ext P f (λ_=>do mark m;pure ζ) q){fr cs ds}(a:fr.mode=.returning)(hd:fr.defers={target:=.fn (.func f) #[],args:=#[]}::ds):
 stepG P main (G fr cs) w=.go (G {fr with defers:=ds} cs) w #[⟨.mark m,I,Y⟩]:=by
 obtain⟨fn,i,d,h3,h4,h5,n⟩:=b.ex;obtain⟨c,j,todo,defers,mode,kind,o⟩:=fr;dsimp only at a hd;subst a hd;have l:(Zw (.fn (.func f) #[]) #[]).runT P w #[]=(.ok (.value ζ) w,#[⟨.mark<|ω f,I,Y⟩]++#[⟨.mark m,I,Y⟩]):=by
  have e:Zw (.fn (.func f) #[]) #[]=Γ f #[]:=by unfold Zw;rfl
  rw[e,ι,ZV i d h3 h4 h5,ZP i d h3 h4 h5];simp[ψ]
 unfold stepG G;dsimp only;unfold unwind;dsimp only;unfold Zn;dsimp only;rw[l];have hs:seen P c (#[⟨.mark (ω f),I,Y⟩]++#[⟨.mark m,I,Y⟩])=#[⟨.mark m,I,Y⟩]:=seen_entry _ _ _ (by intro x b;simp at b;subst b;exact⟨rfl,λg h=>k g (by cases h;rfl)⟩)
 simp only[Bool.false_and,Bool.false_eq_true,if_false,hs,ξ];rfl
def Ed{fr}(a:P.funcs[fr.fn]?=κ)(b:fr.mode=.panicking [goexitEntry])(hd:fr.defers=[])(c:fr.todo=[]):stepG P I (G fr []) w=.go {G fr []with status:=.finished} w #[]:=by
 unfold stepG G;dsimp only;rw[b];unfold unwind;rw[hd,b];dsimp only;have hc:fr.catches P=I:=by unfold Frame.catches;rw[a,c]
 simp only[hc,Bool.false_eq_true,if_false];rfl
end
end
end Ph
namespace Ph
open Go
section
structure Wd where
 L:Bool
 W:Bool
 S:Bool
 c:Nat
def fT:Bool->Bool->Bool->Nat
 |false,I,I=>0
 |true,I,I=>1
 |false,Y,I=>2
 |true,Y,I=>3
 |false,I,Y=>4
 |true,I,Y=>5
 |false,Y,Y=>6
 |true,Y,Y=>7
def Wd.lo(x:Wd):Nat:=fT x.L x.W x.S
def Wd.n(x:Wd):Nat:=8*x.c+x.lo
def Wd.z(x:Wd):Int:=(x.n:Int)
def Wd.ok(x:Wd):Prop:=x.c<268435455
def Ti:∀L W S,fT L W S<8:=by decide
def Wd.mD(x:Wd):x.lo<8:=Ti _ _ _
def CC(c k d m)(b:k<8)(a:m<8):(8*c+k)&&&(8*d+m)=8*(c&&&d)+(k&&&m):=by
 apply Zq;intro i;have h3:(8:Nat)=2^3:=by decide
 rw[h3]at b a;rw[Zj,h3,υ _ b,υ _ a,υ _<|Nat.and_lt_two_pow _ a];split<;>simp[Zj]
def Tj(c k m)(b:k<8)(a:m<8):(8*c+k)|||m=8*c+(k|||m):=by
 apply Zq;intro i;have h3:8=2^3:=by decide
 rw[h3]at b a;rw[Zg,h3,υ _ b,υ _<|Nat.or_lt_two_pow (by omega) a];split
 simp[Zg];rename_i h;have:m.testBit i=I:=Nat.testBit_lt_two_pow<|Nat.lt_of_lt_of_le a<|Nat.pow_le_pow_right (by decide)<|by omega
 simp[this]
section
variable{x:Wd}
def Wd.Tk(h:x.ok):x.n<2^31:=by have:=x.mD;unfold Wd.ok at h;unfold Wd.n;omega
def Wd.fH(h:x.ok)(m:Nat)(a:m<8):bits .and Δ x.z (m:Int)=((x.lo&&&m:Nat):Int):=by
 unfold Wd.z;rw[(bits_nat Δ 31 (by decide) wraps_i32 x.n m (Wd.Tk h)<|by omega).1];unfold Wd.n;have:=CC x.c x.lo 0 m x.mD a
 grind
def Wd.vD(h:x.ok)(m:Nat)(a:m<8):bits .or Δ x.z (m:Int)=((8*x.c+(x.lo|||m):Nat):Int):=by unfold Wd.z;rw[(bits_nat Δ 31 (by decide) wraps_i32 x.n m (Wd.Tk h)<|by omega).2];unfold Wd.n;rw[Tj _ _ _ x.mD a]
def Wd.vE(h:x.ok):bits .andNot Δ x.z 2=({x with W:=I}:Wd).z:=by
 have b:=Wd.Tk h;have e1:bits .andNot Δ x.z 2=IntKind.i32.wrap ((ZM 32 x.z&&&~~~(ZM 32 2)).toNat:Int):=rfl;have e3:(ZM 32 x.z).toNat=x.n:=by unfold Wd.z;rw[BitVec.ofInt_natCast,BitVec.toNat_ofNat];exact Nat.mod_eq_of_lt (by omega)
 have hc:x.c&&&536870911=x.c:=by have:=Nat.and_two_pow_sub_one_eq_mod x.c 29;rw[(by decide:(2:Nat)^29-1=536870911)]at this;rw[this];unfold Wd.ok at h;omega
 rw[e1,BitVec.toNat_and,(by decide:(~~~(ZM 32 2)).toNat=8*536870911+5),e3];unfold Wd.n;rw[CC _ _ _ _ x.mD (by decide),hc];have a:x.lo&&&5=({x with W:=I}:Wd).lo:=(by decide:∀L W S:Bool,fT L W S&&&5=fT L I S) _ _ _;rw[a];have hb:=({x with W:=I}:Wd).mD;unfold Wd.ok at h;rw[wraps_i32 _ (by omega) (by omega)];rfl
def Wd.Tl(h:x.ok):decide (bits .and Δ x.z 5=1)=(x.L&&!x.S):=by rw[show 5=((5:Nat):Int)from rfl,Wd.fH h 5<|by simp];exact(by decide:∀L W S:Bool,(decide<|((fT L W S&&&5:Nat):Int)=1)=(L&&!S)) _ _ _
def Wd.Tm(h:x.ok):decide (bits .and Δ x.z 5=0)=(!x.L&&!x.S):=by rw[show 5=((5:Nat):Int)from rfl,Wd.fH h 5<|by simp];exact(by decide:∀L W S:Bool,(decide<|((fT L W S&&&5:Nat):Int)=0)=(!L&&!S)) _ _ _
def Wd.Tn(h:x.ok):(bits .and Δ x.z 5 !=0)=(x.L||x.S):=by rw[show 5=((5:Nat):Int)from rfl,Wd.fH h 5<|by simp];exact(by decide:∀L W S:Bool,((((fT L W S&&&5:Nat):Int) !=0))=(L||S)) _ _ _
def Wd.A7(h:x.ok):decide (bits .and Δ x.z 4=0)=!x.S:=by rw[show 4=((4:Nat):Int)from rfl,Wd.fH h 4<|by simp];exact(by decide:∀L W S:Bool,(decide<|((fT L W S&&&4:Nat):Int)=0)=!S) _ _ _
def Wd.To(h:x.ok):(bits .and Δ x.z 4 !=0)=x.S:=by rw[show 4=((4:Nat):Int)from rfl,Wd.fH h 4<|by simp];exact(by decide:∀L W S:Bool,((((fT L W S&&&4:Nat):Int) !=0))=S) _ _ _
def Wd.Gt(h:x.ok):decide (bits .and Δ x.z 2=0)=!x.W:=by rw[show 2=((2:Nat):Int)from rfl,Wd.fH h 2<|by simp];exact(by decide:∀L W S:Bool,(decide<|((fT L W S&&&2:Nat):Int)=0)=!W) _ _ _
def Wd.Gu(h:x.ok):(bits .and Δ x.z 1 !=0)=x.L:=by rw[show 1=((1:Nat):Int)from rfl,Wd.fH h 1<|by simp];exact(by decide:∀L W S:Bool,((((fT L W S&&&1:Nat):Int) !=0))=L) _ _ _
def Wd.Tp(h:x.ok):(bits .and Δ x.z 3 !=0)=(x.L||x.W):=by rw[show 3=((3:Nat):Int)from rfl,Wd.fH h 3<|by simp];exact(by decide:∀L W S:Bool,((((fT L W S&&&3:Nat):Int) !=0))=(L||W)) _ _ _
def Wd.Tq(h:x.ok):(bits .and Δ x.z 7 !=0)=(x.L||x.W||x.S):=by rw[show 7=((7:Nat):Int)from rfl,Wd.fH h 7<|by simp];exact(by decide:∀L W S:Bool,((((fT L W S&&&7:Nat):Int) !=0))=(L||W||S)) _ _ _
def Wd.or1(h:x.ok):bits .or Δ x.z 1=({x with L:=Y}:Wd).z:=by
 rw[show 1=((1:Nat):Int)from rfl,Wd.vD h 1<|by simp];have:x.lo|||1=({x with L:=Y}:Wd).lo:=(by decide:∀L W S:Bool,fT L W S|||1=fT Y W S) _ _ _
 rw[this];rfl
def Wd.or2(h:x.ok):bits .or Δ x.z 2=({x with W:=Y}:Wd).z:=by
 rw[show 2=((2:Nat):Int)from rfl,Wd.vD h 2<|by simp];have:x.lo|||2=({x with W:=Y}:Wd).lo:=(by decide:∀L W S:Bool,fT L W S|||2=fT L Y S) _ _ _
 rw[this];rfl
def Wd.or4(h:x.ok):bits .or Δ x.z 4=({x with S:=Y}:Wd).z:=by
 rw[show 4=((4:Nat):Int)from rfl,Wd.vD h 4<|by simp];have:x.lo|||4=({x with S:=Y}:Wd).lo:=(by decide:∀L W S:Bool,fT L W S|||4=fT L W Y) _ _ _
 rw[this];rfl
def Wd.LZ(x:Wd):x.z.fdiv 8=(x.c:Int):=by
 have:=x.mD;unfold Wd.z Wd.n
 grind
def Wd.nK(x:Wd):x.z=8*(x.c:Int)+(x.lo:Int):=by rfl
def wrap_small{z}(h0:-2147483648<=z)(a:z<2147483648):IntKind.i32.wrap z=z:=by rw[IntKind.wrap_i32];omega
def Wd.lN(h:x.ok):0<=x.z/\x.z<2147483640:=by have:=x.mD;unfold Wd.ok at h;rw[Wd.nK];omega
def Wd.abu(h:x.ok):IntKind.i32.wrap (x.z+8)=({x with c:=x.c+1}:Wd).z:=by
 have:=Wd.lN h;rw[wrap_small (by omega) (by omega),Wd.nK,Wd.nK];have:({x with c:=x.c+1}:Wd).lo=x.lo:=rfl
 grind
def Wd.Tr(h:x.ok)(hc:0<x.c):IntKind.i32.wrap (x.z-8)=({x with c:=x.c-1}:Wd).z:=by
 have:=Wd.lN h;rw[wrap_small (by omega) (by omega),Wd.nK,Wd.nK];have:({x with c:=x.c-1}:Wd).lo=x.lo:=rfl
 grind
def Wd.Gv(h:x.ok)(a:x.L=Y):IntKind.i32.wrap (x.z+-1)=({x with L:=I}:Wd).z:=by
 have:=Wd.lN h;rw[wrap_small (by omega) (by omega),Wd.nK,Wd.nK];obtain⟨L,W,S,c⟩:=x;have:=(by decide:∀W S:Bool,fT Y W S=fT I W S+1) W S;unfold Wd.lo
 grind
def Wd.Ts(h:x.ok)(a:x.L=I)(hc:0<x.c):IntKind.i32.wrap (x.z+-7)=({x with L:=Y,c:=x.c-1}:Wd).z:=by
 have:=Wd.lN h;rw[wrap_small (by omega) (by omega),Wd.nK,Wd.nK];obtain⟨L,W,S,c⟩:=x;have:=(by decide:∀W S:Bool,fT Y W S=fT I W S+1) W S;unfold Wd.lo
 grind
def Wd.L0(h:x.ok)(a:x.L=I)(b:x.S=Y)(hc:0<x.c):IntKind.i32.wrap (x.z+-11)=({x with L:=Y,S:=I,c:=x.c-1}:Wd).z:=by
 have:=Wd.lN h;rw[wrap_small (by omega) (by omega),Wd.nK,Wd.nK];obtain⟨L,W,S,c⟩:=x;have:=(by decide:∀W:Bool,fT Y W I+3=fT I W Y) W;unfold Wd.lo
 grind
def Wd.CE{x y:Wd}(h:x.z=y.z):x=y:=by
 rw[Wd.nK,Wd.nK]at h;have i:=x.mD;have g:=y.mD;obtain⟨L,W,S,c⟩:=x;obtain⟨b,d,a,f⟩:=y;have hc:c=f:=by dsimp only at h;omega
 subst hc;have e:({L,W,S,c}:Wd).lo=({L:=b,W:=d,S:=a,c}:Wd).lo:=by dsimp only at h;omega
 revert e
 cases L<;>cases W<;>cases S<;>cases b<;>cases d<;>cases a<;>simp[Wd.lo,fT]
def Wd.Tt(x:Wd):(x.z !=0)=(x.L||x.W||x.S||decide (x.c≠0)):=by
 rw[((by decide:∀L W S:Bool,(L||W||S)=decide (fT L W S≠0)) x.L x.W x.S)];have e:(x.z !=0)=decide (x.z≠0):=by by_cases h:x.z=0<;>simp[h]
 rw[e,<-Bool.decide_or,decide_eq_decide,Wd.nK];have:x.lo=fT x.L x.W x.S:=rfl;omega
end
end
section
deriving instance DecidableEq for Wd
structure Lc where
 aV:Int
 old:Wd
 it:Int
 sv:Bool
 aw:Bool
inductive St where
 |w7|w8|pv
 |ld|l0|r0
 |sq (x:Lc)|c1 (x:Lc)|ds (x:Lc)|r1 (x:Lc)|c2 (x:Lc)|r3 (x:Lc)
 |t1 (x:Lc)|s1 (x:Lc)|t2 (x:Lc)|r2 (x:Lc)|a1 (x:Lc)
 |le (f:Bool)|cv (f:Bool)|la (f:Bool)
 |e1|e2|e3|e4|u1|uv|ur|ud|u0
 |uc (o:Wd)|ux|us|uh|ue
 |gv|gr|gd|ga|gl|gs|gm|gn|gx|fin
structure Sh where
 mu:Wd
 ms:Nat
 k:Nat
 wt:Nat
 ws:Nat
def Wd.zero:Wd:=⟨I,I,I,0⟩
def iH(o:Wd):Wd:=if o.S then o else {o with L:=Y}
def y9(o:Wd):Wd:=if o.L||o.S then {iH o with c:=o.c+1}else iH o
def wZ(x:Lc):Wd:=if x.sv&&x.old.L then {y9 x.old with S:=Y}else y9 x.old
def iT(x:Lc):Wd:=if x.aw then {wZ x with W:=I}else wZ x
def hd(x:Lc):St:=if x.old.L&&!x.old.S then .sq x else .c2 x
def k8(o:Wd):St:=if decide (o.c=0)||o.L||o.W||o.S then .ue else .uc o
def oY(x:Lc)(m:Wd):Wd:=if !x.sv||decide (x.old.c=1)then {m with L:=Y,S:=I,c:=m.c-1}else {m with L:=Y,c:=m.c-1}
def Nx(s:St)(h:Sh)(s':St)(h':Sh):Prop:=
 match s with
 |.w7|.w8|.pv|.fin=>False
 |.ld=>s'=.l0/\h'=h
 |.l0=>(h.mu=Wd.zero/\s'=.le Y/\h'={h with mu:=⟨Y,I,I,0⟩})\/(h.mu≠Wd.zero/\s'=.r0/\h'=h)
 |.r0=>s'=hd ⟨0,h.mu,0,I,I⟩/\h'=h
 |.sq x=>h'=h/\(s'=.c2 x\/(x.it<4/\s'=if !x.aw&&!x.old.W&&decide (x.old.c≠0)then .c1 x else .ds x))
 |.c1 x=>(h.mu=x.old/\s'=.ds {x with aw:=Y}/\h'={h with mu:={x.old with W:=Y}})\/(h.mu≠x.old/\s'=.ds x/\h'=h)
 |.ds x=>s'=.r1 {x with it:=x.it+1}/\h'=h
 |.r1 x|.r3 x=>s'=hd {x with old:=h.mu}/\h'=h
 |.c2 x=>(h.mu=x.old/\h'={h with mu:=iT x}/\s'=if !x.old.L&&!x.old.S then .le I else if x.aV=0 then .t1 x else .s1 x)\/(h.mu≠x.old/\s'=.r3 x/\h'=h)
 |.t1 x=>h'=h/\∃t,s'=.s1 {x with aV:=t}
 |.s1 x=>0<h.ms/\h'={h with ms:=h.ms-1}/\s'=if x.sv then .r2 x else .t2 x
 |.t2 x=>h'=h/\∃b,s'=.r2 {x with sv:=b}
 |.r2 x=>h'=h/\s'=if h.mu.S then .a1 {x with old:=h.mu}else hd {x with old:=h.mu,it:=0,aw:=Y}
 |.a1 x=>s'=.le I/\h'={h with mu:=oY x h.mu}
 |.le f=>s'=.cv f/\h'=h
 |.cv f=>s'=.la f/\h'=h
 |.la _=>s'=.e1/\h'=h
 |.e1=>s'=.e2/\h'=h
 |.e2=>s'=.e3/\h'=h
 |.e3=>s'=.e4/\h'=h
 |.e4=>s'=.u1/\h'=h
 |.u1=>s'=.uv/\h'=h
 |.uv=>s'=.ur/\h'=h
 |.ur=>s'=.ud/\h'=h
 |.ud=>s'=.u0/\h'=h
 |.u0=>h'={h with mu:={h.mu with L:=I}}/\s'=if h.mu.S then .uh else k8 {h.mu with L:=I}
 |.uc o=>(h.mu=o/\s'=.us/\h'={h with mu:={o with W:=Y,c:=o.c-1}})\/(h.mu≠o/\s'=.ux/\h'=h)
 |.ux=>s'=k8 h.mu/\h'=h
 |.us|.uh=>s'=.ue/\h'={h with ms:=h.ms+1}
 |.ue=>s'=.gv/\h'=h
 |.gv=>s'=.gr/\h'=h
 |.gr=>s'=.gd/\h'=h
 |.gd=>s'=.ga/\h'=h
 |.ga=>h'={h with k:=h.k-1}/\s'=if h.k=1/\h.wt=1 then .gl else .gn
 |.gl=>s'=.gs/\h'=h
 |.gs=>s'=.gm/\h'={h with k:=0,wt:=0}
 |.gm=>s'=.gn/\h'={h with ws:=h.ws+1}
 |.gn=>s'=.gx/\h'=h
 |.gx=>s'=.fin/\h'=h
def nO:St->Nat
 |.le _|.cv _|.la _|.e1|.e2|.e3|.e4|.u1|.uv|.ur|.ud|.u0=>1
 |_=>0
def nA:St->Nat
 |.sq x|.c1 x|.ds x|.r1 x|.c2 x|.r3 x=>if x.aw then 1 else 0
 |_=>0
def nT:St->Nat
 |.t2 _|.r2 _=>1
 |_=>0
def nQ:St->Nat
 |.t1 _|.s1 _=>1
 |_=>0
def nH:St->Nat
 |.a1 _=>1
 |_=>0
def nU:St->Nat
 |.us=>1
 |_=>0
def nV:St->Nat
 |.uh=>1
 |_=>0
def nC:St->Nat
 |.uc _|.ux=>1
 |_=>0
def nG:St->Nat
 |.gl|.gs|.gm|.gn|.gx|.fin=>0
 |_=>1
def nL:St->Nat
 |.gl|.gs=>1
 |_=>0
def ia(m:Wd)(ms O A T Q H U V C:Nat):Prop:=
 (if m.L then O=1 else O=0)/\(m.L=I->m.W=I->m.S=I->0<m.c->0<C)/\
 (m.S=I->(if m.W then A+T+U+ms=1 else A+T+U+ms=0)/\m.c+U+ms=Q/\H=0/\V=0)/\
 (m.S=Y->m.W=I/\A=0/\U=0/\O+V+ms+T+H=1/\m.c=Q+T+H/\0<m.c)
def aaA(h:Sh):St->Prop
 |.sq x=>x.old.L=Y/\x.old.S=I/\(x.aw=Y->x.old.W=Y)/\(x.sv=Y->x.aw=Y)/\0<=x.it/\x.it<=4
 |.c1 x=>x.old.L=Y/\x.old.S=I/\x.old.W=I/\x.aw=I/\(x.sv=Y->x.aw=Y)/\0<=x.it/\x.it<4
 |.ds x=>(x.sv=Y->x.aw=Y)/\0<=x.it/\x.it<4
 |.r1 x|.r3 x=>(x.sv=Y->x.aw=Y)/\0<=x.it/\x.it<=4
 |.c2 x=>(x.aw=Y->x.old.W=Y)/\(x.sv=Y->x.aw=Y)/\0<=x.it/\x.it<=4
 |.a1 x=>h.mu.S=Y/\x.old.S=Y/\x.old.L=I/\x.old.W=I/\0<x.old.c/\x.old.c<=h.mu.c
 |.uc o=>o.L=I/\o.W=I/\o.S=I/\0<o.c
 |_=>True
def pV(h:Sh)(s:St)(RO RA RT RQ RH RU RV RC:Nat):Prop:=ia h.mu h.ms (RO+nO s) (RA+nA s) (RT+nT s) (RQ+nQ s) (RH+nH s) (RU+nU s) (RV+nV s)<|RC+nC s
def pV.same{h s s' c g RT f d b a RC}(i:pV h s c g RT f d b a RC)(e:nO s'=nO s/\nA s'=nA s/\nT s'=nT s/\nQ s'=nQ s/\nH s'=nH s/\nU s'=nU s/\nV s'=nV s/\nC s'=nC s):pV h s' c g RT f d b a RC:=by unfold pV;rw[e.1,e.2.1,e.2.2.1,e.2.2.2.1,e.2.2.2.2.1,e.2.2.2.2.2.1,e.2.2.2.2.2.2.1,e.2.2.2.2.2.2.2];exact i
def qI(x):nO (hd x)=0/\nA (hd x)=(if x.aw then 1 else 0)/\nT (hd x)=0/\nQ (hd x)=0/\nH (hd x)=0/\nU (hd x)=0/\nV (hd x)=0/\nC (hd x)=0:=by unfold hd;split<;>exact⟨rfl,rfl,rfl,rfl,rfl,rfl,rfl,rfl⟩
def vF{h x}(a:x.aw=Y->x.old.W=Y)(b:x.sv=Y->x.aw=Y)(h3:0<=x.it/\x.it<=4):aaA h (hd x):=by
 unfold hd;split
 rename_i hb;simp at hb;exact⟨hb.1,hb.2,a,b,h3⟩;trivial
def ya(o):nO (k8 o)=0/\nA (k8 o)=0/\nT (k8 o)=0/\nQ (k8 o)=0/\nH (k8 o)=0/\nU (k8 o)=0/\nV (k8 o)=0/\nC (k8 o)=(if decide (o.c=0)||o.L||o.W||o.S then 0 else 1):=by unfold k8;split<;>exact⟨rfl,rfl,rfl,rfl,rfl,rfl,rfl,rfl⟩
def CF{h}(o):aaA h (k8 o):=by
 unfold k8;split
 trivial;rename_i hb;simp at hb;exact⟨hb.1.1.2,hb.1.2,hb.2,by omega⟩
section
variable{h h':Sh}{s s':St}{RO RA RT RQ RH RU RV RC:Nat}
def pV.woken(a:pV h s RO RA RT RQ RH RU RV RC)(b:0<nA s):h.mu.W=Y/\h.mu.S=I:=by
 obtain⟨⟨L,W,S,c⟩,ms,k,wt,ws⟩:=h;unfold pV ia at a;obtain _|_:=S
 grind
 have:=(a.2.2.2 rfl).2.1;omega
def core(a:pV h s RO RA RT RQ RH RU RV RC)(i:aaA h s)(e:Nx s h s' h'):pV h' s' RO RA RT RQ RH RU RV RC/\aaA h' s':=by
 cases s with
 |w7=>exact e.elim
 |w8=>exact e.elim
 |pv=>exact e.elim
 |fin=>exact e.elim
 |ld=>obtain⟨rfl,rfl⟩:=e;exact⟨a,trivial⟩
 |l0=>
  obtain⟨f,rfl,rfl⟩|⟨f,rfl,rfl⟩:=e
  refine⟨?_,trivial⟩;unfold pV ia at a⊢;rw[f]at a;simp[Wd.zero,nO,nA,nT,nQ,nH,nU,nV,nC]at a⊢;omega;exact⟨a,trivial⟩
 |r0=>obtain⟨rfl,rfl⟩:=e;exact⟨a.same<|qI _,vF (by simp) (by simp)<|by simp⟩
 |sq x=>
  obtain⟨f,g,h3,h4,h5,j⟩:=i;obtain⟨rfl,rfl|⟨hi,rfl⟩⟩:=e;exact⟨a,h3,h4,h5,j⟩;split
  ·rename_i hb;simp only[Bool.and_eq_true,Bool.not_eq_true',decide_eq_true_eq]at hb;exact⟨a,f,g,hb.1.2,hb.1.1,h4,h5,hi⟩
  exact⟨a,h4,h5,hi⟩
 |c1 x=>
  obtain⟨f,g,h3,h4,h5,j,p⟩:=i;obtain⟨e1,rfl,rfl⟩|⟨e1,rfl,rfl⟩:=e
  refine⟨?_,by simp[aaA];omega⟩;unfold pV ia at a⊢;rw[e1]at a;simp[f,g,h3,h4,nO,nA,nT,nQ,nH,nU,nV,nC]at a⊢;omega;exact⟨a,h5,j,p⟩
 |ds x=>obtain⟨f,g,h3⟩:=i;obtain⟨rfl,rfl⟩:=e;exact⟨a,f,by dsimp only;omega,by dsimp only;omega⟩
 |r1 x=>obtain⟨f,g⟩:=i;obtain⟨rfl,rfl⟩:=e;refine⟨a.same<|qI _,vF (λl=>?_) f g⟩;exact(a.woken (by simp only[nA];rw[if_pos l];exact Zs)).1
 |r3 x=>obtain⟨f,g⟩:=i;obtain⟨rfl,rfl⟩:=e;refine⟨a.same<|qI _,vF (λl=>?_) f g⟩;exact(a.woken (by simp only[nA];rw[if_pos l];exact Zs)).1
 |c2 x=>
  obtain⟨f,g,h3⟩:=i;obtain⟨e1,rfl,rfl⟩|⟨e1,rfl,rfl⟩:=e
  ·obtain⟨aV,⟨L,W,S,c⟩,it,sv,aw⟩:=x;refine⟨?_,by split<;>(try split)<;>trivial⟩;unfold pV ia at a⊢;rw[e1]at a;dsimp only at a f g⊢;by_cases hw:aV=0<;>cases L<;>cases W<;>cases S<;>cases sv<;>cases aw<;>
    simp[hw,iT,wZ,y9,iH,nO,nA,nT,nQ,nH,nU,nV,nC]at a f g⊢<;>(try omega)
  exact⟨a,g,h3⟩
 |t1 x=>obtain⟨rfl,t,rfl⟩:=e;exact⟨a,trivial⟩
 |s1 x=>obtain⟨f,rfl,rfl⟩:=e;refine⟨?_,by split<;>trivial⟩;unfold pV ia at a⊢;obtain⟨⟨L,W,S,c⟩,ms,k,wt,ws⟩:=h;dsimp only at a f⊢;cases hs:x.sv<;>cases L<;>cases W<;>cases S<;>simp[hs,nO,nA,nT,nQ,nH,nU,nV,nC]at a⊢<;>omega
 |t2 x=>obtain⟨rfl,b,rfl⟩:=e;exact⟨a,trivial⟩
 |r2 x=>
  obtain⟨rfl,rfl⟩:=e;obtain⟨⟨L,W,S,c⟩,ms,k,wt,ws⟩:=h';dsimp only;cases S with
  |true=>unfold pV ia at a⊢;cases L<;>cases W<;>simp[nO,nA,nT,nQ,nH,nU,nV,nC,aaA]at a⊢<;>omega
  |false=>
   have n:W=Y:=by
    unfold pV ia at a;cases W<;>simp[nO,nA,nT,nQ,nH,nU,nV,nC]at a⊢
    try omega
   subst n;refine⟨?_,vF (by simp) (by simp)<|by simp⟩;have d:=qI {x with old:=⟨L,Y,I,c⟩,it:=0,aw:=Y};unfold pV ia at a⊢;simp only[Bool.false_eq_true,if_false];rw[d.1,d.2.1,d.2.2.1,d.2.2.2.1,d.2.2.2.2.1,d.2.2.2.2.2.1,d.2.2.2.2.2.2.1,d.2.2.2.2.2.2.2];cases L<;>simp[nO,nA,nT,nQ,nH,nU,nV,nC]at a⊢<;>omega
 |a1 x=>
  obtain⟨f,g,h3,h4,h5,j⟩:=i;obtain⟨rfl,rfl⟩:=e;refine⟨?_,trivial⟩;obtain⟨⟨L,W,S,c⟩,ms,k,wt,ws⟩:=h;dsimp only at f j;subst f;unfold pV ia at a⊢;unfold oY;dsimp only at a⊢;split
  cases L<;>cases W<;>simp[nO,nA,nT,nQ,nH,nU,nV,nC]at a⊢<;>omega
  rename_i hb;simp only[Bool.or_eq_true,Bool.not_eq_true',decide_eq_true_eq,not_or]at hb;cases L<;>cases W<;>simp[nO,nA,nT,nQ,nH,nU,nV,nC]at a⊢<;>omega
 |u0=>
  obtain⟨rfl,rfl⟩:=e;obtain⟨⟨L,W,S,c⟩,ms,k,wt,ws⟩:=h;dsimp only;have m:L=Y:=by unfold pV ia at a;cases L<;>simp[nO]at a⊢
  subst m;obtain _|_:=S
  refine⟨?_,CF _⟩;have d:=ya ⟨I,W,I,c⟩;unfold pV ia at a⊢;simp only[Bool.false_eq_true,if_false];rw[d.1,d.2.1,d.2.2.1,d.2.2.2.1,d.2.2.2.2.1,d.2.2.2.2.2.1,d.2.2.2.2.2.2.1,d.2.2.2.2.2.2.2];cases W<;>by_cases hc:c=0<;>simp[nO,nA,nT,nQ,nH,nU,nV,nC,hc]at a⊢<;>omega
  refine⟨?_,trivial⟩;unfold pV ia at a⊢;cases W<;>simp[nO,nA,nT,nQ,nH,nU,nV,nC]at a⊢<;>omega
 |uc o=>
  obtain⟨f,g,h3,h4⟩:=i;obtain⟨e1,rfl,rfl⟩|⟨e1,rfl,rfl⟩:=e
  refine⟨?_,trivial⟩;unfold pV ia at a⊢;rw[e1]at a;simp[f,g,h3,nO,nA,nT,nQ,nH,nU,nV,nC]at a⊢;omega;exact⟨a,trivial⟩
 |ux=>obtain⟨rfl,rfl⟩:=e;refine⟨?_,CF _⟩;obtain⟨⟨L,W,S,c⟩,ms,k,wt,ws⟩:=h';have d:=ya ⟨L,W,S,c⟩;unfold pV ia at a⊢;dsimp only at a⊢;rw[d.1,d.2.1,d.2.2.1,d.2.2.2.1,d.2.2.2.2.1,d.2.2.2.2.2.1,d.2.2.2.2.2.2.1,d.2.2.2.2.2.2.2];cases L<;>cases W<;>cases S<;>by_cases hc:c=0<;>simp[nO,nA,nT,nQ,nH,nU,nV,nC,hc]at a⊢<;>omega
 |us=>obtain⟨rfl,rfl⟩:=e;refine⟨?_,trivial⟩;obtain⟨⟨L,W,S,c⟩,ms,k,wt,ws⟩:=h;unfold pV ia at a⊢;cases L<;>cases W<;>cases S<;>simp[nO,nA,nT,nQ,nH,nU,nV,nC]at a⊢<;>omega
 |uh=>obtain⟨rfl,rfl⟩:=e;refine⟨?_,trivial⟩;obtain⟨⟨L,W,S,c⟩,ms,k,wt,ws⟩:=h;unfold pV ia at a⊢;cases L<;>cases W<;>cases S<;>simp[nO,nA,nT,nQ,nH,nU,nV,nC]at a⊢<;>omega
 |ga=>obtain⟨rfl,rfl⟩:=e;split<;>exact⟨a,trivial⟩
 |_=>obtain⟨rfl,rfl⟩:=e;exact⟨a,trivial⟩
def yc{t}(i:pV h s RO RA RT RQ RH RU RV RC)(f:aaA h s)(b:Nx s h s' h')(e:aaA h t)(k:nH t<=RH):aaA h' t:=by
 cases t with
 |a1 x=>
  obtain⟨a,j,h3,h4,h5,g⟩:=e;have l:1<=RH:=k
  suffices d:h'.mu.S=Y/\h.mu.c<=h'.mu.c from⟨d.1,j,h3,h4,h5,Nat.le_trans g d.2⟩
  have m:=(i.2.2.2 a);cases s with
  |w7=>exact b.elim
  |w8=>exact b.elim
  |pv=>exact b.elim
  |fin=>exact b.elim
  |l0=>
   obtain⟨e1,rfl,rfl⟩|⟨e1,rfl,rfl⟩:=b
   rw[e1]at a;cases a;exact⟨a,.refl⟩
  |c1 y=>
   obtain⟨e1,rfl,rfl⟩|⟨e1,rfl,rfl⟩:=b
   rw[e1,f.2.1]at a;cases a;exact⟨a,.refl⟩
  |c2 y=>
   obtain⟨e1,rfl,rfl⟩|⟨e1,rfl,rfl⟩:=b
   rw[e1]at a⊢;obtain⟨aV,⟨L,W,S,c⟩,it,sv,aw⟩:=y;dsimp only at a;subst a;cases L<;>cases sv<;>cases aw<;>simp[iT,wZ,y9,iH]
   exact⟨a,.refl⟩
  |uc o=>
   obtain⟨e1,rfl,rfl⟩|⟨e1,rfl,rfl⟩:=b
   rw[e1,f.2.2.1]at a;cases a;exact⟨a,.refl⟩
  |a1 y=>exfalso;have:nH (.a1 y)=1:=rfl;omega
  |u0=>exfalso;have:nO .u0=1:=rfl;omega
  |s1 y=>obtain⟨e1,rfl,rfl⟩:=b;exact⟨a,.refl⟩
  |sq y=>obtain⟨rfl,_⟩:=b;exact⟨a,.refl⟩
  |t1 y=>obtain⟨rfl,_⟩:=b;exact⟨a,.refl⟩
  |t2 y=>obtain⟨rfl,_⟩:=b;exact⟨a,.refl⟩
  |_=>obtain⟨rfl,rfl⟩:=b;exact⟨a,.refl⟩
 |_=>exact e
def phi:St->Nat
 |.w7|.w8|.pv|.ld|.l0|.r0=>12
 |.sq x|.c1 x|.ds x|.r1 x|.c2 x|.r3 x=>if x.aw then 8 else 10
 |.t1 _|.s1 _=>7
 |.t2 _|.r2 _=>9
 |.a1 _=>8
 |.le _|.cv _|.la _|.e1|.e2|.e3|.e4|.u1|.uv|.ur|.ud|.u0=>6
 |.uc _|.ux|.uh=>5
 |.us=>4
 |_=>0
def rk(m:Wd):St->Nat
 |.w7=>103
 |.w8=>102
 |.pv=>101
 |.ld=>100
 |.l0=>99
 |.r0=>98
 |.sq x=>5*(4-x.it).toNat+5+if x.old=m then 0 else 41
 |.c1 x=>5*(4-x.it).toNat+4+if x.old=m then 0 else 41
 |.ds x=>5*(4-x.it).toNat+3
 |.r1 x=>5*(4-x.it).toNat+6
 |.c2 x=>1+if x.old=m then 0 else 41
 |.r3 x=>5*(4-x.it).toNat+6
 |.t1 _=>3
 |.s1 _=>2
 |.t2 _=>2
 |.r2 _=>1
 |.a1 _=>1
 |.le _=>15
 |.cv _=>14
 |.la _=>13
 |.e1=>12
 |.e2=>11
 |.e3=>10
 |.e4=>9
 |.u1=>8
 |.uv=>7
 |.ur=>6
 |.ud=>5
 |.u0=>4
 |.uc o=>if o=m then 1 else 4
 |.ux=>3
 |.us|.uh=>1
 |.ue=>30
 |.gv=>29
 |.gr=>28
 |.gd=>27
 |.ga=>26
 |.gl=>25
 |.gs=>24
 |.gm=>23
 |.gn=>22
 |.gx=>21
 |.fin=>0
def vG(x):phi (hd x)=if x.aw then 8 else 10:=by unfold hd;split<;>rfl
def QK(x):rk x.old (hd x)<=5*(4-x.it).toNat+5:=by
 unfold hd;split
 simp[rk];simp[rk]
def lower(g:pV h s RO RA RT RQ RH RU RV RC)(d:aaA h s)(a:Nx s h s' h'):phi s'+3*h'.ms<phi s+3*h.ms\/(h'.mu=h.mu/\h'.ms=h.ms/\phi s'=phi s/\rk h.mu s'<rk h.mu s):=by
 cases s with
 |w7=>exact a.elim
 |w8=>exact a.elim
 |pv=>exact a.elim
 |fin=>exact a.elim
 |l0=>
  obtain⟨e1,rfl,rfl⟩|⟨e1,rfl,rfl⟩:=a
  left;simp[phi];right;exact⟨rfl,rfl,rfl,by simp[rk]⟩
 |r0=>obtain⟨rfl,rfl⟩:=a;left;rw[vG];simp[phi]
 |sq x=>
  obtain⟨c,e,h3,h4,h5,f⟩:=d;obtain⟨rfl,rfl|⟨hi,rfl⟩⟩:=a;right;refine⟨rfl,rfl,rfl,?_⟩;simp only[rk];omega;right;split
  refine⟨rfl,rfl,rfl,?_⟩;simp only[rk];omega;refine⟨rfl,rfl,rfl,?_⟩;simp only[rk];omega
 |c1 x=>
  obtain⟨c,e,h3,h4,h5,f,i⟩:=d;obtain⟨e1,rfl,rfl⟩|⟨e1,rfl,rfl⟩:=a
  left;simp[phi,h4];right;refine⟨rfl,rfl,rfl,?_⟩;simp only[rk];omega
 |ds x=>obtain⟨c,e,h3⟩:=d;obtain⟨rfl,rfl⟩:=a;right;refine⟨rfl,rfl,rfl,?_⟩;simp only[rk];omega
 |r1 x=>obtain⟨rfl,rfl⟩:=a;right;refine⟨rfl,rfl,?_,?_⟩;rw[vG];rfl;have:=QK {x with old:=h'.mu};simp only[rk]at this⊢;omega
 |r3 x=>obtain⟨rfl,rfl⟩:=a;right;refine⟨rfl,rfl,?_,?_⟩;rw[vG];rfl;have:=QK {x with old:=h'.mu};simp only[rk]at this⊢;omega
 |c2 x=>
  obtain⟨c,e,h3,h4⟩:=d;obtain⟨e1,rfl,rfl⟩|⟨e1,rfl,rfl⟩:=a
  left;dsimp only;split
  simp only[phi];split<;>omega;split<;>(simp only[phi];split<;>omega)
  right;refine⟨rfl,rfl,rfl,?_⟩;simp only[rk];rw[if_neg (λh=>e1 h.symm)];omega
 |t1 x=>obtain⟨rfl,t,rfl⟩:=a;right;exact⟨rfl,rfl,rfl,by simp[rk]⟩
 |s1 x=>obtain⟨c,rfl,rfl⟩:=a;left;dsimp only;split<;>(simp only[phi];omega)
 |t2 x=>obtain⟨rfl,b,rfl⟩:=a;right;exact⟨rfl,rfl,rfl,by simp[rk]⟩
 |r2 x=>
  obtain⟨rfl,rfl⟩:=a;left;split
  simp[phi];rw[vG];simp[phi]
 |a1 x=>obtain⟨rfl,rfl⟩:=a;left;simp[phi]
 |u0=>
  obtain⟨rfl,rfl⟩:=a;left;dsimp only;split
  simp[phi];unfold k8;split<;>simp[phi]
 |uc o=>
  obtain⟨e1,rfl,rfl⟩|⟨e1,rfl,rfl⟩:=a
  left;simp[phi];right;refine⟨rfl,rfl,rfl,?_⟩;simp only[rk];rw[if_neg (λh=>e1 h.symm)];omega
 |ux=>
  obtain⟨rfl,rfl⟩:=a;unfold k8;split
  left;simp[phi];right;exact⟨rfl,rfl,rfl,by simp[rk]⟩
 |us=>obtain⟨rfl,rfl⟩:=a;left;simp only[phi];omega
 |uh=>obtain⟨rfl,rfl⟩:=a;left;simp only[phi];omega
 |ga=>obtain⟨rfl,rfl⟩:=a;right;split<;>exact⟨rfl,rfl,rfl,by simp[rk]⟩
 |_=>obtain⟨rfl,rfl⟩:=a;right;exact⟨rfl,rfl,rfl,by simp[rk]⟩
end
def Gw{m Q}(h:ia m 0 0 0 0 Q 0 0 0 0):Q=0:=by obtain⟨L,W,S,c⟩:=m;unfold ia at h;cases L<;>cases W<;>cases S<;>simp at h⊢<;>omega
open Go.ConcN (sumTo upd sumTo_upd)
def cnt(n:Nat)(F:St->Nat)(st:Nat->St):Nat:=sumTo n λi=>F<|st i
def lO{n F st i}(hi:i<n)(s'):cnt n F (upd st i s')+F (st i)=cnt n F st+F s':=sumTo_upd st s' F hi
theorem gj{F:St->Nat}{st:Nat->St}{i:Nat}:∀{n:Nat},i<n->F (st i)<=cnt n F st
 |0,h=>by omega
 |n+1,h=>by
  have e:cnt (n+1) F st=cnt n F st+F (st n):=rfl;obtain a|b:=Nat.lt_or_ge i n
  have:=gj (F:=F) (st:=st) a;omega
  grind
structure GI(n:Nat)(st:Nat->St)(h:Sh):Prop where
 Ee:ia h.mu h.ms (cnt n nO st) (cnt n nA st) (cnt n nT st) (cnt n nQ st) (cnt n nH st) (cnt n nU st) (cnt n nV st) (cnt n nC st)
 loc:∀i,i<n->aaA h (st i)
section
variable{n:Nat}{st:Nat->St}{h h':Sh}{i:Nat}{s':St}
def GI.inv(G:GI n st h)(hi:i<n):pV h (st i) (cnt n nO st-nO (st i)) (cnt n nA st-nA (st i)) (cnt n nT st-nT (st i)) (cnt n nQ st-nQ (st i)) (cnt n nH st-nH (st i)) (cnt n nU st-nU (st i)) (cnt n nV st-nV (st i)) (cnt n nC st-nC (st i)):=by unfold pV;simp only[(λF=>Nat.sub_add_cancel (gj hi):∀F:St->Nat,cnt n F st-F (st i)+F (st i)=cnt n F st)];exact G.Ee
def GI.step(G:GI n st h)(hi:i<n)(f:Nx (st i) h s' h'):GI n (upd st i s') h':=by
 obtain⟨c1,c2⟩:=core (G.inv hi) (G.loc i hi) f;have e:∀F:St->Nat,cnt n F (upd st i s')=cnt n F st-F (st i)+F s':=λF=>by have d:=lO (F:=F) (st:=st) hi s';have b:=gj (F:=F) (st:=st) hi;omega
 refine⟨?_,λj c=>?_⟩;unfold pV at c1;simp only[e];exact c1;by_cases a:j=i
 ·subst a;simp only[upd,if_true];exact c2
 simp only[upd,if_neg a];refine yc (G.inv hi) (G.loc i hi) f (G.loc j c) ?_;have d:=lO (F:=nH) (st:=st) hi .fin;have b:nH (upd st i .fin j)<=cnt n nH (upd st i .fin):=gj c;simp only[upd,if_neg a]at b;have:nH .fin=0:=rfl;unfold upd at d b;omega
def meas(n:Nat)(st:Nat->St)(h:Sh):Nat:=(cnt n phi st+3*h.ms)*(n*104+1)+cnt n (rk h.mu) st
def abv(m s)(a:aaA h s):rk m s<=103:=by
 cases s with
 |sq x=>obtain⟨c,b,h3,h4,h5,d⟩:=a;simp only[rk];split<;>omega
 |c1 x=>obtain⟨c,b,h3,h4,h5,d,e⟩:=a;simp only[rk];split<;>omega
 |ds x=>obtain⟨c,b,h3⟩:=a;simp only[rk];omega
 |r1 x=>obtain⟨c,b,h3⟩:=a;simp only[rk];omega
 |r3 x=>obtain⟨c,b,h3⟩:=a;simp only[rk];omega
 |c2 x=>simp only[rk];split<;>omega
 |uc o=>simp only[rk];split<;>omega
 |_=>simp[rk]
theorem mV{F:St->Nat}{c:Nat}:∀{n:Nat},(∀i,i<n->F (st i)<=c) ->cnt n F st<=n*c
 |0,_=>by simp[cnt,sumTo]
 |n+1,h=>by
  have e:cnt (n+1) F st=cnt n F st+F (st n):=rfl;have a:=mV (n:=n) λi hi=>h i (by omega)
  grind
def GI.lower(G:GI n st h)(hi:i<n)(c:Nx (st i) h s' h'):meas n (upd st i s') h'<meas n st h:=by
 have b:=lO (F:=phi) (st:=st) hi s';have a:=gj (F:=phi) (st:=st) hi;obtain h1|⟨h1,h2,h3,h4⟩:=Ph.lower (G.inv hi) (G.loc i hi) c
 have e:cnt n (rk h'.mu) (upd st i s')<=n*103:=mV λj d=>abv _ _<|(G.step hi c).loc j d;unfold meas;have:=Nat.mul_le_mul_right (n*104+1) (by omega:cnt n phi (upd st i s')+3*h'.ms+1<=cnt n phi st+3*h.ms)
 grind
 have e:=lO (F:=rk h.mu) (st:=st) hi s';unfold meas
 grind
end
end
end Ph
namespace Ph
open Go Go.Conc
section
section
variable{p:WP}{T T':List ZY}{l l':List (Nat×R)}{ds:List bG}{g:Ω}
def lift(a:∀cs g,At 272 139 T l cs g->bZ P0 I 150 (At 272 139 T' l' cs) g)(h:bj (fS p T l) ds g):bZ P0 I 150 (bj (fS p T' l') ds) g:=by obtain⟨cs,b,F,rfl⟩:=h.open rfl rfl rfl;exact(a _ _ b).mono .refl λg c=>At.close c
def fN{v}(a:∀cs g,At 272 139 T l cs g->bZ P0 I 150 (At 272 139 T' l' cs) (fin v g))(h:bj (fS p T l) ds g):bZ P0 I 150 (bj (fS p T' l') ds) (fin v g):=by obtain⟨cs,b,F,rfl⟩:=h.open rfl rfl rfl;exact(a _ _ b).mono .refl λg c=>At.close c
end
def LK(p:WP)(e:Int):List bG:=[fL p QH,fW p acl [iv 6 e] [aZ p],fB []]
def SL(p:WP)(e:Int):List bG:=fI p SI []::LK p e
def UL(p:WP):List bG:=[fU p vB,kz p kA [aZ p],fB []]
def US(p:WP):List bG:=fJ p eN []::UL p
def DK(p:WP):List bG:=[fD p vC,kz p kA [],fB []]
def KX(p:WP)(x:Lc):List (Nat×R):=K p.lk x.aV x.old.z x.it x.sv x.aw
def delta(x:Lc):Int:=if !x.sv||decide (x.old.c=1)then-11 else-7
def bh(p:WP)(e:Int)(s:St)(g:Ω):Prop:=
 match s with
 |.ld=>bj (fI p ti2 []) (LK p e) g
 |.l0=>bj (fI p Ks [pv 5 p.lk]) (LK p e) g
 |.r0=>bj (fS p Lb [pv 0 p.lk,iv 2 0,bv 3 I,bv 4 I,iv 5 0,pv 12 p.lk]) (SL p e) g
 |.sq x=>bj (fS p P7 (iv 18 x.it::bv 17 Y::KX p x)) (SL p e) g
 |.c1 x=>bj (fS p A2 (bv 33 Y::pv 36 p.lk::jv 37 x.old.z::jv 39 (bits .or Δ x.old.z 2)::KX p x)) (SL p e) g
 |.ds x=>bj (fS p qq<|KX p x) (SL p e) g
 |.r1 x=>bj (fS p Sb (pv 47 p.lk::KX p x)) (SL p e) g
 |.c2 x=>bj (fS p mU (pv 77 p.lk::jv 78 x.old.z::(79,Ξ Δ (iT x).z)::KX p x)) (SL p e) g
 |.r3 x=>bj (fS p F6 (pv 133 p.lk::KX p x)) (SL p e) g
 |.t1 x=>∃lf,bj (fS p Sc (bv 8 lf::KX p x)) (SL p e) g
 |.s1 x=>∃lf,bj (fS p A3 (pv 91 (p.lk.add 1)::bv 92 lf::KX p x)) (SL p e) g
 |.t2 x=>bj (fS p Sd (bv 95 I::KX p x)) (SL p e) g/\x.sv=I
 |.r2 x=>bj (fS p ul (pv 103 p.lk::KX p x)) (SL p e) g
 |.a1 x=>bj (fS p um (pv 128 p.lk::jv 129 (delta x)::KX p x)) (SL p e) g
 |.le Y=>bj (fI p ti7 []) (LK p e) g
 |.le I=>∃x,bj (fS p xZ<|KX p x) (SL p e) g
 |.cv Y=>bj (fI p ti9 [pv 8 p.lk]) (LK p e) g
 |.cv I=>∃x,bj (fS p Cx (pv 136 p.lk::KX p x)) (SL p e) g
 |.la Y=>bj (fI p LC [pv 9 p.lk]) (LK p e) g
 |.la I=>∃x,bj (fS p F9 (pv 137 p.lk::KX p x)) (SL p e) g
 |.e1=>bj (fW p D9 [iv 6 e] [cT p,aZ p]) [fB []] g
 |.u1=>bj (fJ p tj6 [pv 5 p.lk]) (UL p) g
 |.uv=>bj (fJ p tj8 [pv 7 p.lk]) (UL p) g
 |.ur=>bj (fJ p tj9 [pv 8 p.lk]) (UL p) g
 |.ud=>bj (fJ p LF []) (UL p) g
 |.u0=>bj (fJ p LG [pv 13 p.lk]) (UL p) g
 |.uc o=>∃nw,nw=bits .or Δ (Θ Δ<|o.z-8) 2/\bj (fV p Ea [pv 27 p.lk,jv 28 o.z,jv 29 nw] nw) (US p) g
 |.ux=>∃nw,bj (fV p acm [pv 37 p.lk] nw) (US p) g
 |.us=>∃nw,bj (fV p SO [pv 33 (p.lk.add 1)] nw) (US p) g
 |.uh=>∃nw,bj (fV p SN [pv 41 (p.lk.add 1)] nw) (US p) g
 |.ue=>bj (fJ p A5 []) (UL p) g
 |.gv=>bj (fA p LI [pv 11 p.wg] []) (DK p) g
 |.gr=>bj (fA p LM [pv 12 p.wg] []) (DK p) g
 |.gd=>bj (fA p LN [] []) (DK p) g
 |.ga=>bj (fM p 242 10 Cy [pv 7 p.wg,(8,Ξ Z0 18446744069414584320)]) (fA p LO [bv 4 I] [dK]::DK p) g
 |.gl=>bj (fM p 244 7 Cz [pv 5 p.wg]) (fA p LQ [(6,Ξ Z0 1),bv 4 I,(8,Ξ .u32 1)] [dK]::DK p) g
 |.gs=>bj (fM p 245 9 CA [pv 6 p.wg,(7,Ξ Z0 0)]) (fA p CB [bv 4 I,(8,Ξ .u32 1)] [dK]::DK p) g
 |.gm=>bj (fA p Gr [pv 115 (p.wg.add 1),(8,Ξ .u32 1)] [dK]) (DK p) g
 |.gn=>bj (wR p tgr [dK]) (DK p) g\/bj (wR p Tb [dK]) (DK p) g
 |.gx=>bj (fB []) [] g
 |_=>False
section
variable{p:WP}{e:Int}{g:Ω}{x:Lc}
def bZ.le{P main S n k g}(h:bZ P main n S g)(a:n<=k):bZ P main k S g:=h.mono a λ_ h=>h
def Tu(h:x.old.ok):(iH x.old).z=if x.old.S then x.old.z else bits .or Δ x.old.z 1:=by
 unfold iH;split
 rfl;exact(Wd.or1 h).symm
def L6{o}(h:o.ok):(iH o).ok:=by unfold iH;split<;>exact h
def vH(o):(iH o).c=o.c/\(iH o).W=o.W:=by unfold iH;split<;>exact⟨rfl,rfl⟩
def Gx(o):(y9 o).W=o.W/\(y9 o).c<=o.c+1:=by
 unfold y9;split
 exact⟨(vH o).2,.refl⟩;exact⟨(vH o).2,by rw[(vH o).1];omega⟩
def Gy(x):(wZ x).W=x.old.W/\(wZ x).c<=x.old.c+1:=by unfold wZ;split<;>exact Gx _
def CG(hb:x.old.c+2<268435455)(hw:x.aw=Y->x.old.W=Y)(h:bj (fS p D8 (bv 52 (!x.old.S)::jv 7 x.old.z::KX p x)) (SL p e) g):bZ P0 I 600 (bh p e<|.c2 x) g:=by
 have o:x.old.ok:=by unfold Wd.ok;omega
 have s:(y9 x.old).ok:=by have:=(Gx x.old).2;unfold Wd.ok;omega
 have q:(wZ x).ok:=by have:=(Gy x).2;unfold Wd.ok;omega
 have u:bZ P0 I 150 (bj (fS p qr (bv 57 (x.old.L||x.old.S)::(7,Ξ Δ (iH x.old).z)::KX p x))<|SL p e) g:=by
  rw[Tu o,<-Wd.Tn o];cases hS:x.old.S with
  |true=>rw[hS]at h;exact lift (λcs g h=>Su p.lk x.aV x.old.z x.it x.sv x.aw cs g h) h
  |false=>rw[hS]at h;exact lift (λcs g h=>Ss p.lk x.aV x.old.z x.it x.sv x.aw cs g h) h
 have l:∀g,bj (fS p xY (bv 71 I::(7,Ξ Δ (wZ x).z)::K p.lk x.aV x.old.z x.it x.sv Y)) (SL p e) g->x.aw=Y->bZ P0 I 150 (bh p e<|.c2 x) g:=by
  intro g a d;have e1:(iT x).z=bits .andNot Δ (wZ x).z 2:=by unfold iT;rw[if_pos d,Wd.vE q]
  show bZ P0 I 150 (bj (fS p mU (pv 77 p.lk::jv 78 x.old.z::(79,Ξ Δ (iT x).z)::KX p x))<|SL p e) g;unfold KX;rw[d,e1];exact lift (λcs g h=>Sv p.lk x.aV x.old.z x.it (wZ x).z x.sv cs g h) a
 have m:x.aw=Y->decide (bits .and Δ (wZ x).z 2=0)=I:=by intro d;rw[Wd.Gt q,(Gy x).1,hw d];rfl
 have j:∀g,bj (fS p mU (pv 77 p.lk::jv 78 x.old.z::(79,Ξ Δ (wZ x).z)::K p.lk x.aV x.old.z x.it x.sv I)) (SL p e) g->x.aw=I->bh p e (.c2 x) g:=by
  intro g a d;have e1:iT x=wZ x:=by unfold iT;rw[d];rfl
  show bj (fS p mU (pv 77 p.lk::jv 78 x.old.z::(79,Ξ Δ (iT x).z)::KX p x)) (SL p e) g;unfold KX;rw[d,e1];exact a
 have r:∀g,bj (fS p xX (bv 65 x.old.L::(7,Ξ Δ (y9 x.old).z)::K p.lk x.aV x.old.z x.it Y x.aw)) (SL p e) g->x.sv=Y->bZ P0 I 300 (bh p e<|.c2 x) g:=by
  intro g a f;have e2:(wZ x).z=if x.old.L then bits .or Δ (y9 x.old).z 4 else(y9 x.old).z:=by
   unfold wZ;rw[f,Bool.true_and];split
   exact(Wd.or4 s).symm;rfl
  cases d:x.aw with
  |true=>
   rw[d]at a;refine bZ.trans (n:=150) (k:=150) (S:=bj (fS p xY (bv 71 I::(7,Ξ Δ (wZ x).z)::K p.lk x.aV x.old.z x.it x.sv Y))<|SL p e) ?_ λg a=>l g a d;rw[f];cases hL:x.old.L with
   |true=>
    rw[hL]at a;have b:=lift (λcs g h=>Lq p.lk x.aV x.old.z x.it (y9 x.old).z Y cs g h) a;have i:bits .or Δ (y9 x.old).z 4=(wZ x).z:=by rw[e2,hL];rfl
    rw[i,m d]at b;exact b
   |false=>
    rw[hL]at a;have b:=lift (λcs g h=>Ls p.lk x.aV x.old.z x.it (y9 x.old).z Y cs g h) a;have i:(y9 x.old).z=(wZ x).z:=by rw[e2,hL];rfl
    rw[i,m d]at b;exact b
  |false=>
   rw[d]at a;refine bZ.mono (n:=150) (S:=bj (fS p mU (pv 77 p.lk::jv 78 x.old.z::(79,Ξ Δ (wZ x).z)::K p.lk x.aV x.old.z x.it x.sv I))<|SL p e) ?_ (by omega) λg a=>j g a d;rw[f,e2];cases hL:x.old.L with
   |true=>rw[hL]at a;exact lift (λcs g h=>Lp p.lk x.aV x.old.z x.it (y9 x.old).z Y cs g h) a
   |false=>rw[hL]at a;exact lift (λcs g h=>Lr p.lk x.aV x.old.z x.it (y9 x.old).z Y cs g h) a
 refine bZ.le (bZ.trans (n:=150) (k:=450) u λg a=>?_) (by omega);have t:(y9 x.old).z=if x.old.L||x.old.S then Θ Δ ((iH x.old).z+8)else(iH x.old).z:=by
  unfold y9;split
  rw[Wd.abu (L6 o),(vH x.old).1];rfl
 cases f:x.sv with
 |true=>
  refine bZ.le (bZ.trans (n:=150) (k:=300) (S:=bj (fS p xX (bv 65 x.old.L::(7,Ξ Δ (y9 x.old).z)::K p.lk x.aV x.old.z x.it Y x.aw))<|SL p e) ?_ λg a=>r g a f) (by omega);unfold KX at a;rw[f]at a;rw[<-Wd.Gu o,t];cases hf:(x.old.L||x.old.S)with
  |true=>rw[hf]at a;exact lift (λcs g h=>Ln p.lk x.aV x.old.z x.it (iH x.old).z x.aw cs g h) a
  |false=>rw[hf]at a;exact lift (λcs g h=>Lo p.lk x.aV x.old.z x.it (iH x.old).z x.aw cs g h) a
 |false=>
  have v:wZ x=y9 x.old:=by unfold wZ;rw[f];rfl
  unfold KX at a;rw[f]at a;cases d:x.aw with
  |true=>
   refine bZ.le (bZ.trans (n:=150) (k:=150) (S:=bj (fS p xY (bv 71 I::(7,Ξ Δ (wZ x).z)::K p.lk x.aV x.old.z x.it x.sv Y))<|SL p e) ?_ λg a=>l g a d) (by omega);rw[d]at a;rw[f];cases hf:(x.old.L||x.old.S)with
   |true=>
    rw[hf]at a;have b:=lift (λcs g h=>Gb p.lk x.aV x.old.z x.it (iH x.old).z cs g h) a;have i:Θ Δ ((iH x.old).z+8)=(wZ x).z:=by rw[v,t,hf];rfl
    rw[i,m d]at b;exact b
   |false=>
    rw[hf]at a;have b:=lift (λcs g h=>Gd p.lk x.aV x.old.z x.it (iH x.old).z cs g h) a;have i:(iH x.old).z=(wZ x).z:=by rw[v,t,hf];rfl
    rw[i,m d]at b;exact b
  |false=>
   refine bZ.mono (n:=150) (S:=bj (fS p mU (pv 77 p.lk::jv 78 x.old.z::(79,Ξ Δ (wZ x).z)::K p.lk x.aV x.old.z x.it x.sv I))<|SL p e) ?_ (by omega) λg a=>j g a d;rw[d]at a;rw[f,v,t];cases hf:(x.old.L||x.old.S)with
   |true=>rw[hf]at a;exact lift (λcs g h=>Ga p.lk x.aV x.old.z x.it (iH x.old).z cs g h) a
   |false=>rw[hf]at a;exact lift (λcs g h=>Gc p.lk x.aV x.old.z x.it (iH x.old).z cs g h) a
def qJ(hb:x.old.c+2<268435455)(hw:x.aw=Y->x.old.W=Y)(h:bj (fS p A1<|KX p x) (SL p e) g):bZ P0 I 900 (bh p e<|hd x) g:=by
 have b:x.old.ok:=by unfold Wd.ok;omega
 refine bZ.le (bZ.trans (k:=750) (lift (λcs g h=>Li p.lk x.aV x.old.z x.it x.sv x.aw cs g h) h) λg a=>?_) (by omega);rw[Wd.Tl b]at a;unfold hd;cases hf:(x.old.L&&!x.old.S)with
 |true=>rw[hf]at a;exact bZ.le (lift (λcs g h=>Se p.lk x.aV x.old.z x.it x.sv x.aw cs g h) a) (by omega)
 |false=>rw[hf]at a;refine bZ.le (bZ.trans (n:=150) (k:=600) (lift (λcs g h=>Si p.lk x.aV x.old.z x.it x.sv x.aw cs g h) a) λg a=>?_) (by omega);rw[Wd.A7 b]at a;exact CG hb hw a
end
end
end Ph
namespace Ph
open Go Go.Conc
open Go.ConcM (muA msA MuAt ShAt Eff BookOK book_nil book_dis book_en book_one book_rw book_sem)
open Go.ConcR (stA smA WgAt mk)
section
def dU(h:Sh):Go.ConcM.Sh:={mu:=h.mu.z,ms:=(h.ms:Int),wg:=(h.k:Int)*4294967296+(h.wt:Int),ws:=(h.ws:Int)}
def deaf:St->Nat
 |.l0|.r0|.sq _|.c1 _|.ds _|.r1 _|.c2 _|.r3 _|.t1 _|.s1 _|.t2 _|.r2 _|.a1 _|.le _=>1
 |.u0|.uc _|.ux|.us|.uh|.ue=>1
 |.ga|.gl|.gs|.gm|.gn=>1
 |_=>0
def EvS(Mu Wg:Nat)(s s':St)(es:Array Event):Prop:=
 match s with
 |.la _=>es=#[mk (.acquire<|muA Mu)]
 |.ur=>es=#[mk (.releaseMerge<|muA Mu)]
 |.gr=>es=#[mk (.releaseMerge<|stA Wg)]
 |_=>BookOK Mu Wg (deaf s) (deaf s') es
def Out(tM tW:ZK)(Mu Wg:Nat)(p:WP)(e:Int)(s:St)(h:Sh)(g:Ω)(w:ZS):Prop:=∃s' h' g' w' es,Nx s h s' h'/\stepG P0 I g w=.go g' w' es/\ShAt tM tW Mu Wg w' (dU h')/\Eff Mu Wg w w'/\EvS Mu Wg s s' es/\bZ P0 I 2000 (bh p e s') g'
def qK(x):deaf (hd x)=1:=by unfold hd;split<;>rfl
def yd(o):deaf (k8 o)=1:=by unfold k8;split<;>rfl
def abw:bR P0 251 Y:=by rfl
def CH:bR P0 272 Y:=by rfl
def abx:bR P0 274 Y:=by rfl
def akT:mp P0 21 I:=λw a=>by kernel_rfl
def bj.cg{d ds g}(h:bj d ds g):g.frame.fn=d.fn:=by obtain⟨F,rfl⟩:=h;rfl
def bj.ye{p T l a ds g}(b:∀F,∀q∈a,cO l F q.1=q.2)(h:bj (fS p T l) ds g):bj (fS p T a) ds g:=by
 obtain⟨F,rfl⟩:=h;refine⟨λi=>match i with|0=>cO l (F 0)|i+1=>F<|i+1,?_⟩;unfold SG fS bG.fr;rw[rB a _ (b<|F 0)]
section
variable{tM tW:ZK}{Mu Wg:Nat}{p:WP}{e:Int}{s:St}{h:Sh}{g:Ω}{w:ZS}{x:Lc}
def aby(hw:ShAt tM tW Mu Wg w (dU h))(hs:bh p e .ld g):Out tM tW Mu Wg p e .ld h g w:=by exact⟨.l0,h,_,w,_,⟨rfl,rfl⟩,mC .disable (λg h=>by cases h) F2 (bj.head (λF=>by kernel_rfl) g hs:dl g=Z (Γ 236 #[])),hw,Eff.refl w,book_dis 0,(abd p e g hs).le<|by omega⟩
def abz(a:p.lk=muA Mu)(b:Mu≠Wg)(hw:ShAt tM tW Mu Wg w (dU h))(hs:bh p e .l0 g):Out tM tW Mu Wg p e .l0 h g w:=by
 have c:dl g=Z (Γ 271 #[Ψ (Z p.lk),Ξ Δ 0,Ξ Δ 1]):=bj.head (λF=>by kernel_rfl) g hs;by_cases hz:h.mu=Wd.zero
 have hc:w.cell? p.lk=Z (Ξ Δ 0):=by rw[a,hw.1.cellSt];show Z (Ξ IntKind.i32 h.mu.z)=_;rw[hz];rfl
 refine⟨.le Y,{h with mu:=⟨Y,I,I,0⟩},_,_,_,.inl ⟨hz,rfl,rfl⟩,nJ xV c hc (by rw[a];exact hw.1.thaw 0),?_,Eff.set _ _<|.inl (by rw[a];rfl),?_,(akN p e g hs).le<|by omega⟩;rw[a];exact hw.setMu b 1;exact book_rw 0 _<|.inl (by rw[a];rfl)
 ·have hc:w.cell? p.lk=Z (Ξ Δ h.mu.z):=by rw[a,hw.1.cellSt];rfl
  refine⟨.r0,h,_,_,_,.inr ⟨hz,rfl,rfl⟩,kY xV c hc (by rw[a];exact hw.1.thaw 0) λd=>hz<|Wd.CE (by rw[d];rfl),hw,Eff.refl w,?_,(akO p e g hs).le<|by omega⟩;exact book_one 0 _ _<|.inl (by rw[a];rfl)
def look{f}(a:p.lk=muA Mu)(hw:ShAt tM tW Mu Wg w (dU h))(c:dl g=Z (bI 21<|Ψ<|Z p.lk))(d:bR P0 f Y)(b:g.frame.fn=f):stepG P0 I g w=.go (fin (Ξ Δ h.mu.z) g) w #[]:=by
 have hc:w.cell? p.lk=Z (Ξ Δ h.mu.z):=by rw[a,hw.1.cellSt];rfl
 exact du c akT hc (by rw[b];exact d)
def abA(a:p.lk=muA Mu)(hb:h.mu.c+2<268435455)(hw:ShAt tM tW Mu Wg w (dU h))(hs:bh p e .r0 g):Out tM tW Mu Wg p e .r0 h g w:=by refine⟨_,h,_,w,_,⟨rfl,rfl⟩,look a hw (bj.head (λF=>by kernel_rfl) g hs) CH<|bj.cg hs,hw,Eff.refl w,?_,?_⟩;show BookOK Mu Wg 1 (deaf<|hd _) _;rw[qK];exact book_nil 1;exact bZ.le (bZ.trans (n:=150) (k:=1850) (fN (λcs g d=>Lh p.lk h.mu.z cs g d) hs) λg b=>bZ.le (qJ (x:=⟨0,h.mu,0,I,I⟩) hb (by simp) b)<|by omega) (by omega)
def abB(hb:x.old.c+2<268435455)(t:aaA h (.sq x))(hw:ShAt tM tW Mu Wg w (dU h))(hs:bh p e (.sq x) g):Out tM tW Mu Wg p e (.sq x) h g w:=by
 obtain⟨y,v,h3,h4,h5,u⟩:=t;have j:x.old.ok:=by unfold Wd.ok;omega
 obtain⟨b,o,i,q,r⟩:=D7 (P:=P0) (main:=I) (w:=w) akH (bj.head (λF=>by kernel_rfl) g hs:dl g=Z (Γ 280 #[Ξ ZN x.it]));have m:ShAt tM tW Mu Wg o (dU h)/\Eff Mu Wg w o:=by
  obtain rfl|rfl:=q
  exact⟨hw,Eff.refl _⟩;exact⟨hw,Eff.asked _⟩
 have f:bj (fS p P7 (iv 18 x.it::bv 17 Y::KX p x)) (SL p e) g:=hs;obtain _|_:=b
 refine⟨.c2 x,h,_,o,_,⟨rfl,.inl rfl⟩,i,m.1,m.2,book_nil 1,?_⟩;refine bZ.le (bZ.trans (n:=150) (k:=600) (fN (λcs g h=>Sj p.lk x.aV x.old.z x.it x.sv x.aw cs g h) f) λg a=>?_) (by omega);rw[Wd.A7 j]at a;exact CG hb h3 a;have hi:x.it<4:=by apply Classical.byContradiction;intro h;exact absurd (r<|by omega) (by simp)
 refine⟨_,h,_,o,_,⟨rfl,.inr ⟨hi,rfl⟩⟩,i,m.1,m.2,?_,?_⟩;show BookOK Mu Wg 1 (deaf (if _ then _ else _)) _;split<;>exact book_nil 1
 cases ha:x.aw with
 |true=>simp only[Bool.not_true,Bool.false_and,Bool.false_eq_true,if_false];have d:=f;unfold KX at d;rw[ha]at d;show bZ P0 I 2000 (bj (fS p qq<|KX p x)<|SL p e) _;unfold KX;rw[ha];exact bZ.le (fN (λcs g h=>Lj p.lk x.aV x.old.z x.it x.sv cs g h) d) (by omega)
 |false=>
  have d:=f;unfold KX at d;rw[ha]at d;refine bZ.le (bZ.trans (n:=150) (k:=450) (fN (λcs g h=>Lk p.lk x.aV x.old.z x.it x.sv cs g h) d) λg a=>?_) (by omega);rw[Wd.Gt j]at a;have l:∀g,bj (fS p qq<|K p.lk x.aV x.old.z x.it x.sv I) (SL p e) g->bh p e (.ds x) g:=by intro g a;show bj (fS p qq<|KX p x) (SL p e) g;unfold KX;rw[ha];exact a
  cases hW:x.old.W with
  |true=>rw[hW]at a;simp only[Bool.not_true,Bool.and_false,Bool.false_and,Bool.false_eq_true,if_false];exact bZ.mono (lift (λcs g h=>Sk p.lk x.aV x.old.z x.it x.sv cs g h) a) (by omega) λg a=>l g a
  |false=>
   rw[hW]at a;refine bZ.le (bZ.trans (n:=150) (k:=150) (lift (λcs g h=>Sl p.lk x.aV x.old.z x.it x.sv cs g h) a) λg a=>?_) (by omega);rw[Wd.LZ]at a;have s:((x.old.c:Int) !=0)=decide (x.old.c≠0):=by
    by_cases hc:x.old.c=0
    simp[hc];have:¬((x.old.c:Int)=0):=by omega
    simp[hc,this]
   rw[s]at a;simp only[Bool.not_false,Bool.true_and];cases hc:decide (x.old.c≠0)with
   |true=>rw[hc]at a;simp only[if_true];show bZ P0 I 150 (bj (fS p A2 (bv 33 Y::pv 36 p.lk::jv 37 x.old.z::jv 39 (bits .or Δ x.old.z 2)::KX p x))<|SL p e) _;unfold KX;rw[ha];exact lift (λcs g h=>So p.lk x.aV x.old.z x.it x.sv cs g h) a
   |false=>rw[hc]at a;simp only[Bool.false_eq_true,if_false];exact bZ.mono (lift (λcs g h=>Sn p.lk x.aV x.old.z x.it x.sv cs g h) a) (by omega) λg a=>l g a
def abC(b:p.lk=muA Mu)(k:Mu≠Wg)(hb:x.old.c+2<268435455)(m:aaA h (.c1 x))(hw:ShAt tM tW Mu Wg w (dU h))(hs:bh p e (.c1 x) g):Out tM tW Mu Wg p e (.c1 x) h g w:=by
 obtain⟨r,o,h3,h4,h5,n,s⟩:=m;have j:x.old.ok:=by unfold Wd.ok;omega
 have l:dl g=Z (Γ 271 #[Ψ (Z p.lk),Ξ Δ x.old.z,Ξ Δ<|bits .or Δ x.old.z 2]):=bj.head (λF=>by kernel_rfl) g hs;have a:bj (fS p A2 (bv 33 Y::pv 36 p.lk::jv 37 x.old.z::jv 39 (bits .or Δ x.old.z 2)::KX p x)) (SL p e) g:=hs;have hc:w.cell? p.lk=Z (Ξ Δ h.mu.z):=by rw[b,hw.1.cellSt];rfl
 have hz:w.frozen? p.lk=I:=by rw[b];exact hw.1.thaw 0
 unfold KX at a;rw[h4]at a;replace a:bj (fS p A2 (bv 33 Y::K p.lk x.aV x.old.z x.it x.sv I)) (SL p e) g:=bj.ye (λF q i=>by simp only[K,List.mem_cons,List.not_mem_nil,or_false]at i;obtain rfl|rfl|rfl|rfl|rfl|rfl|rfl:=i<;>rfl) a
 by_cases f:h.mu=x.old
 rw[f]at hc;have d:=nJ (P:=P0) (main:=I) xV l hc hz;rw[Wd.or2 j]at d;refine⟨.ds {x with aw:=Y},{h with mu:={x.old with W:=Y}},_,_,_,.inl ⟨f,rfl,rfl⟩,d,?_,Eff.set _ _<|.inl (by rw[b];rfl),book_rw 0 _<|.inl (by rw[b];rfl),?_⟩;rw[b];exact hw.setMu k _;exact bZ.le (fN (λcs g h=>Sp p.lk x.aV x.old.z x.it x.sv cs g h) a) (by omega);refine⟨.ds x,h,_,_,_,.inr ⟨f,rfl,rfl⟩,kY xV l hc hz λi=>f<|Wd.CE i,hw,Eff.refl w,book_one 0 _ _<|.inl (by rw[b];rfl),?_⟩;show bZ P0 I 2000 (bj (fS p qq<|KX p x)<|SL p e) _;unfold KX;rw[h4];exact bZ.le (fN (λcs g h=>Sq p.lk x.aV x.old.z x.it x.sv cs g h) a) (by omega)
def abD(b:aaA h (.ds x))(hw:ShAt tM tW Mu Wg w (dU h))(hs:bh p e (.ds x) g):Out tM tW Mu Wg p e (.ds x) h g w:=by
 obtain⟨d,c,h3⟩:=b;refine⟨.r1 {x with it:=x.it+1},h,_,w,_,⟨rfl,rfl⟩,vz akI (bj.head (λF=>by kernel_rfl) g hs:dl g=Z (Γ 281 #[])),hw,Eff.refl w,book_nil 1,?_⟩;have e1:Θ ZN (x.it+1)=x.it+1:=by rw[IntKind.wrap_i64];omega
 have a:=fN (λcs g h=>Ll p.lk x.aV x.old.z x.it x.sv x.aw cs g h) hs;rw[e1]at a;exact bZ.le a (by omega)
def abE(a:p.lk=muA Mu)(hb:h.mu.c+2<268435455)(d:x.aw=Y->h.mu.W=Y)(hw:ShAt tM tW Mu Wg w (dU h))(hs:bh p e (.r1 x) g):Out tM tW Mu Wg p e (.r1 x) h g w:=by refine⟨_,h,_,w,_,⟨rfl,rfl⟩,look a hw (bj.head (λF=>by kernel_rfl) g hs) CH<|bj.cg hs,hw,Eff.refl w,?_,?_⟩;show BookOK Mu Wg 1 (deaf<|hd _) _;rw[qK];exact book_nil 1;exact bZ.le (bZ.trans (n:=150) (k:=1850) (fN (λcs g f=>Lm p.lk x.aV x.old.z x.it h.mu.z x.sv x.aw cs g f) hs) λg b=>bZ.le (qJ (x:={x with old:=h.mu}) hb d b)<|by omega) (by omega)
def abF(a:p.lk=muA Mu)(hb:h.mu.c+2<268435455)(d:x.aw=Y->h.mu.W=Y)(hw:ShAt tM tW Mu Wg w (dU h))(hs:bh p e (.r3 x) g):Out tM tW Mu Wg p e (.r3 x) h g w:=by refine⟨_,h,_,w,_,⟨rfl,rfl⟩,look a hw (bj.head (λF=>by kernel_rfl) g hs) CH<|bj.cg hs,hw,Eff.refl w,?_,?_⟩;show BookOK Mu Wg 1 (deaf<|hd _) _;rw[qK];exact book_nil 1;exact bZ.le (bZ.trans (n:=150) (k:=1850) (fN (λcs g f=>Ge p.lk x.aV x.old.z x.it h.mu.z x.sv x.aw cs g f) hs) λg b=>bZ.le (qJ (x:={x with old:=h.mu}) hb d b)<|by omega) (by omega)
def abG(b:p.lk=muA Mu)(j:Mu≠Wg)(hb:x.old.c+2<268435455)(hw:ShAt tM tW Mu Wg w (dU h))(hs:bh p e (.c2 x) g):Out tM tW Mu Wg p e (.c2 x) h g w:=by
 have i:x.old.ok:=by unfold Wd.ok;omega
 have l:dl g=Z (Γ 271 #[Ψ (Z p.lk),Ξ Δ x.old.z,Ξ Δ (iT x).z]):=bj.head (λF=>by kernel_rfl) g hs;have hc:w.cell? p.lk=Z (Ξ Δ h.mu.z):=by rw[b,hw.1.cellSt];rfl
 have hz:w.frozen? p.lk=I:=by rw[b];exact hw.1.thaw 0
 by_cases f:h.mu=x.old
 rw[f]at hc;refine⟨_,{h with mu:=iT x},_,_,_,.inl ⟨f,rfl,rfl⟩,nJ xV l hc hz,?_,Eff.set _ _<|.inl (by rw[b];rfl),?_,?_⟩;rw[b];exact hw.setMu j _;show BookOK Mu Wg 1 (deaf (if _ then _ else _)) _;split
 exact book_rw 0 _<|.inl (by rw[b];rfl);split<;>exact book_rw 0 _<|.inl (by rw[b];rfl)
 refine bZ.le (bZ.trans (n:=150) (k:=300) (fN (λcs g h=>Sw p.lk x.aV x.old.z x.it (iT x).z x.sv x.aw cs g h) hs) λg a=>?_) (by omega);rw[Wd.Tm i]at a;cases hf:(!x.old.L&&!x.old.S)with
 |true=>rw[hf]at a;simp only[if_true];exact bZ.mono (lift (λcs g h=>Sy p.lk x.aV x.old.z x.it x.sv x.aw cs g h) a) (by omega) λg a=>⟨x,a⟩
 |false=>
  rw[hf]at a;simp only[Bool.false_eq_true,if_false];refine bZ.trans (n:=150) (k:=150) (lift (λcs g h=>Sz p.lk x.aV x.old.z x.it x.sv x.aw cs g h) a) λg a=>?_;by_cases d:x.aV=0
  rw[if_pos d];rw[(by simp[d]:decide (x.aV=0)=Y)]at a;exact bZ.mono (lift (λcs g h=>SA p.lk x.aV x.old.z x.it x.sv x.aw (x.aV !=0) cs g h) a) (by omega) λg a=>⟨_,a⟩;rw[if_neg d];rw[(by simp[d]:decide (x.aV=0)=I)]at a;exact bZ.mono (lift (λcs g h=>SD p.lk x.aV x.old.z x.it x.sv x.aw (x.aV !=0) cs g h) a) (by omega) λg a=>⟨_,a⟩
 refine⟨.r3 x,h,_,_,_,.inr ⟨f,rfl,rfl⟩,kY xV l hc hz λm=>f<|Wd.CE m,hw,Eff.refl w,book_one 0 _ _<|.inl (by rw[b];rfl),?_⟩;exact bZ.le (fN (λcs g h=>Sx p.lk x.aV x.old.z x.it (iT x).z x.sv x.aw cs g h) hs) (by omega)
def abH(hw:ShAt tM tW Mu Wg w (dU h))(hs:bh p e (.t1 x) g):Out tM tW Mu Wg p e (.t1 x) h g w:=by obtain⟨a,hs⟩:=hs;refine⟨_,h,_,_,_,⟨rfl,(w.os.mono+w.tick:Nat),rfl⟩,uk aa3 (bj.head (λF=>by kernel_rfl) g hs:dl g=Z (Γ 283 #[])),hw,Eff.later w,book_nil 1,?_⟩;exact bZ.mono (fN (λcs g h=>Lt p.lk x.aV x.old.z x.it ((w.os.mono+w.tick:Nat):Int) x.sv x.aw a cs g h) hs) (by omega) λg b=>⟨a,b⟩
def A8(a:p.lk=muA Mu)(h0:h.ms=0)(hw:ShAt tM tW Mu Wg w (dU h))(hs:bh p e (.s1 x) g):stepG P0 I g w=.go {g with status:=.blocked} w #[]:=by
 obtain⟨b,hs⟩:=hs;have e1:p.lk.add 1=msA Mu:=by rw[a];rfl
 refine xU aa4 (bj.head (λF=>by kernel_rfl) g hs:dl g=Z (Γ 284 #[Ψ (Z<|p.lk.add 1),.bool b,Ξ ZN 2])) rfl ?_;rw[e1,hw.1.cellSm];show Z (Ξ IntKind.u32 (h.ms:Int))=_;rw[h0];rfl
def abI(c:p.lk=muA Mu)(a:Mu≠Wg)(h0:0<h.ms)(hw:ShAt tM tW Mu Wg w (dU h))(hs:bh p e (.s1 x) g):Out tM tW Mu Wg p e (.s1 x) h g w:=by
 obtain⟨b,hs⟩:=hs;have e1:p.lk.add 1=msA Mu:=by rw[c];rfl
 have hc:w.cell? (p.lk.add 1)=Z (Ξ .u32 (h.ms:Int)):=by rw[e1,hw.1.cellSm];rfl
 refine⟨_,{h with ms:=h.ms-1},_,_,_,⟨h0,rfl,rfl⟩,P6 (P:=P0) (main:=I) aa4 (bj.head (λF=>by kernel_rfl) g hs:dl g=Z (Γ 284 #[Ψ (Z<|p.lk.add 1),.bool b,Ξ ZN 2])) rfl hc (by omega) (by rw[e1];exact hw.1.thaw 1),?_,Eff.set _ _<|.inl (by rw[e1];rfl),?_,?_⟩;rw[e1];have:=hw.setMs a<|(h.ms:Int) -1;unfold dU at this⊢;dsimp only at this⊢;rw[<-(by omega:(h.ms:Int) -1=((h.ms-1:Nat):Int))];exact this;show BookOK Mu Wg 1 (deaf (if _ then _ else _)) _;split<;>exact book_sem 0 _<|.inl (by rw[e1];rfl)
 cases hsv:x.sv with
 |true=>simp only[if_true];unfold KX at hs;rw[hsv]at hs;show bZ P0 I 2000 (bj (fS p ul (pv 103 p.lk::KX p x))<|SL p e) _;unfold KX;rw[hsv];exact bZ.le (fN (λcs g h=>SF p.lk x.aV x.old.z x.it x.aw b cs g h) hs) (by omega)
 |false=>simp only[Bool.false_eq_true,if_false];unfold KX at hs;rw[hsv]at hs;refine bZ.mono (fN (λcs g h=>SE p.lk x.aV x.old.z x.it x.aw b cs g h) hs) (by omega) λg d=>⟨?_,hsv⟩;unfold KX;rw[hsv];exact d
def abJ(hw:ShAt tM tW Mu Wg w (dU h))(hs:bh p e (.t2 x) g):Out tM tW Mu Wg p e (.t2 x) h g w:=by obtain⟨hs,a⟩:=hs;refine⟨_,h,_,_,_,⟨rfl,decide<|Θ ZN (((w.os.mono+w.tick:Nat):Int) -x.aV)>1000000,rfl⟩,uk aa3 (bj.head (λF=>by kernel_rfl) g hs:dl g=Z (Γ 283 #[])),hw,Eff.later w,book_nil 1,?_⟩;unfold KX at hs;rw[a]at hs;exact bZ.le (fN (λcs g h=>Lu p.lk x.aV x.old.z x.it ((w.os.mono+w.tick:Nat):Int) x.aw cs g h) hs) (by omega)
def abK(f:p.lk=muA Mu)(hb:h.mu.c+2<268435455)(o:h.mu.S=I->h.mu.W=Y)(l:h.mu.S=Y->h.mu.L=I/\h.mu.W=I/\0<h.mu.c)(hw:ShAt tM tW Mu Wg w (dU h))(hs:bh p e (.r2 x) g):Out tM tW Mu Wg p e (.r2 x) h g w:=by
 have d:h.mu.ok:=by unfold Wd.ok;omega
 refine⟨_,h,_,w,_,⟨rfl,rfl⟩,look f hw (bj.head (λF=>by kernel_rfl) g hs) CH<|bj.cg hs,hw,Eff.refl w,?_,?_⟩;show BookOK Mu Wg 1 (deaf (if _ then _ else _)) _;split
 exact book_nil 1;rw[qK];exact book_nil 1;refine bZ.le (bZ.trans (n:=150) (k:=1200) (fN (λcs g b=>Gf p.lk x.aV x.old.z x.it h.mu.z x.sv x.aw cs g b) hs) λg a=>?_) (by omega);rw[Wd.To d]at a;cases hS:h.mu.S with
 |false=>rw[hS]at a;simp only[Bool.false_eq_true,if_false];refine bZ.le (bZ.trans (n:=150) (k:=900) (lift (λcs g b=>Lv p.lk x.aV h.mu.z x.it x.sv x.aw cs g b) a) λg a=>?_) (by omega);exact qJ (x:={x with old:=h.mu,it:=0,aw:=Y}) hb (λ_=>o hS) a
 |true=>
  obtain⟨m,i,hc⟩:=l hS;rw[hS]at a;simp only[if_true];refine bZ.le (bZ.trans (n:=150) (k:=600) (lift (λcs g b=>Lw p.lk x.aV h.mu.z x.it x.sv x.aw cs g b) a) λg a=>?_) (by omega);have e3:(bits .and Δ h.mu.z 3 !=0)=I:=by rw[Wd.Tp d,m,i];rfl
  rw[e3]at a;refine bZ.le (bZ.trans (n:=150) (k:=300) (lift (λcs g b=>Lx p.lk x.aV h.mu.z x.it x.sv x.aw cs g b) a) λg a=>?_) (by omega);have e4:decide (h.mu.z.fdiv 8=0)=I:=by rw[Wd.LZ];simp;omega
  rw[e4]at a;show bZ P0 I 300 (bj (fS p um (pv 128 p.lk::jv 129 (delta {x with old:=h.mu})::KX p {x with old:=h.mu}))<|SL p e) g;unfold KX delta;dsimp only;cases hsv:x.sv with
  |false=>rw[hsv]at a;simp only[Bool.not_false,Bool.true_or,if_true];exact bZ.le (lift (λcs g b=>Gg p.lk x.aV h.mu.z x.it x.aw cs g b) a) (by omega)
  |true=>
   rw[hsv]at a;refine bZ.le (bZ.trans (n:=150) (k:=150) (lift (λcs g b=>Gh p.lk x.aV h.mu.z x.it x.aw cs g b) a) λg a=>?_) (by omega);have j:decide (h.mu.z.fdiv 8=1)=decide (h.mu.c=1):=by rw[Wd.LZ,decide_eq_decide];omega
   rw[j]at a;simp only[Bool.not_true,Bool.false_or];cases hc1:decide (h.mu.c=1)with
   |true=>rw[hc1]at a;exact lift (λcs g b=>Ly p.lk x.aV h.mu.z x.it Y x.aw cs g b) a
   |false=>rw[hc1]at a;exact lift (λcs g b=>Lz p.lk x.aV h.mu.z x.it Y x.aw cs g b) a
def abL(a:p.lk=muA Mu)(f:Mu≠Wg)(hb:h.mu.c+2<268435455)(i:h.mu.L=I)(k:h.mu.S=Y)(h3:0<h.mu.c)(hw:ShAt tM tW Mu Wg w (dU h))(hs:bh p e (.a1 x) g):Out tM tW Mu Wg p e (.a1 x) h g w:=by
 have d:h.mu.ok:=by unfold Wd.ok;omega
 have hc:w.cell? p.lk=Z (Ξ Δ h.mu.z):=by rw[a,hw.1.cellSt];rfl
 have b:=qF (P:=P0) (main:=I) aa2 (bj.head (λF=>by kernel_rfl) g hs:dl g=Z (Γ 273 #[Ψ (Z p.lk),Ξ Δ<|delta x])) hc (by rw[a];exact hw.1.thaw 0);have e1:Θ Δ (h.mu.z+delta x)=(oY x h.mu).z:=by
  unfold delta oY;split
  rw[Wd.L0 d i k h3];rw[Wd.Ts d i h3]
 rw[e1]at b;refine⟨.le I,{h with mu:=oY x h.mu},_,_,_,⟨rfl,rfl⟩,b,?_,Eff.set _ _<|.inl (by rw[a];rfl),book_rw 0 _<|.inl (by rw[a];rfl),?_⟩;rw[a];exact hw.setMu f _;exact bZ.mono (fN (λcs g j=>Gi p.lk x.aV x.old.z x.it (oY x h.mu).z (delta x) x.sv x.aw cs g j) hs) (by omega) λg l=>⟨x,l⟩
end
end
section
def abM:P0.underlying 323=Z (.pointer 247):=by kernel_rfl
def yf:P0.underlying 219=Z .unsafePointer:=by kernel_rfl
def QL:P0.underlying 288=Z (.pointer 255):=by kernel_rfl
def abN:(P0.info? 247).map (λi=>decide<|i.size=0)=Z I:=by kernel_rfl
def QM:(P0.info? 255).map (λi=>decide<|i.size=0)=Z I:=by kernel_rfl
def Gz(p g)(h:bj (wR p tgr []) [fD p vC,kz p kA [],fB []] g):bZ P0 I 200 (bj (fB []) []) g:=bj.QF never 200 (λF=>by kernel_rfl) (λF=>by kernel_rfl) (λF=>by kernel_rfl) g h
def CJ(p g)(h:bj (wR p Tb []) [fD p vC,kz p kA [],fB []] g):bZ P0 I 200 (bj (fB []) []) g:=bj.QF never 200 (λF=>by kernel_rfl) (λF=>by kernel_rfl) (λF=>by kernel_rfl) g h
section
variable{tM tW:ZK}{Mu Wg:Nat}{p:WP}{e:Int}{s:St}{h:Sh}{g:Ω}{w:ZS}{x:Lc}{f:Bool}
def abO(hw:ShAt tM tW Mu Wg w (dU h))(hs:bh p e (.le f) g):Out tM tW Mu Wg p e (.le f) h g w:=by
 obtain _|_:=f
 obtain⟨x,hs⟩:=hs;refine⟨.cv I,h,_,w,_,⟨rfl,rfl⟩,mC .enable (λg h=>by cases h) tw (bj.head (λF=>by kernel_rfl) g hs:dl g=Z (Γ 237 #[])),hw,Eff.refl w,book_en 0,?_⟩;exact bZ.mono (fN (λcs g h=>Gj p.lk x.aV x.old.z x.it x.sv x.aw cs g h) hs) (by omega) λg a=>⟨x,a⟩;exact⟨.cv Y,h,_,w,_,⟨rfl,rfl⟩,mC .enable (λg h=>by cases h) tw (bj.head (λF=>by kernel_rfl) g hs:dl g=Z (Γ 237 #[])),hw,Eff.refl w,book_en 0,(abe p e g hs).le<|by omega⟩
def vI(a:p.lk=muA Mu)(hw:ShAt tM tW Mu Wg w (dU h))(b:dl g=Z (iC 323 219<|Ψ<|Z p.lk)):stepG P0 I g w=.go (fin (Ψ<|Z p.lk) g) w #[]:=iD b abM yf abN (by rw[a];exact hw.1.cellSt)
def abP(a:p.lk=muA Mu)(hw:ShAt tM tW Mu Wg w (dU h))(hs:bh p e (.cv f) g):Out tM tW Mu Wg p e (.cv f) h g w:=by
 obtain _|_:=f
 obtain⟨x,hs⟩:=hs;refine⟨.la I,h,_,w,_,⟨rfl,rfl⟩,vI a hw<|bj.head (λF=>by kernel_rfl) g hs,hw,Eff.refl w,book_nil 0,?_⟩;exact bZ.mono (fN (λcs g h=>Gk p.lk x.aV x.old.z x.it x.sv x.aw cs g h) hs) (by omega) λg b=>⟨x,b⟩;exact⟨.la Y,h,_,w,_,⟨rfl,rfl⟩,vI a hw<|bj.head (λF=>by kernel_rfl) g hs,hw,Eff.refl w,book_nil 0,(abf p e g hs).le<|by omega⟩
def abQ(b:p.lk=muA Mu)(hw:ShAt tM tW Mu Wg w (dU h))(hs:bh p e (.la f) g):Out tM tW Mu Wg p e (.la f) h g w:=by
 have a:(#[⟨.mark<|.acquire p.lk,I,Y⟩]:Array Event)=#[mk (.acquire<|muA Mu)]:=by rw[b];rfl
 obtain _|_:=f
 obtain⟨x,hs⟩:=hs;exact⟨.e1,h,_,w,_,⟨rfl,rfl⟩,kZ .acquire (λ_ g h=>by cases h) La<|bj.head (λF=>by kernel_rfl) g hs,hw,Eff.refl w,a,(afz p e _ g hs).le<|by omega⟩;exact⟨.e1,h,_,w,_,⟨rfl,rfl⟩,kZ .acquire (λ_ g h=>by cases h) La<|bj.head (λF=>by kernel_rfl) g hs,hw,Eff.refl w,a,(SQ p e g hs).le<|by omega⟩
def abR(a:p.lk=muA Mu)(hw:ShAt tM tW Mu Wg w (dU h))(hs:bh p e .u1 g):Out tM tW Mu Wg p e .u1 h g w:=by exact⟨.uv,h,_,w,_,⟨rfl,rfl⟩,look a hw (bj.head (λF=>by kernel_rfl) g hs) abw<|bj.cg hs,hw,Eff.refl w,book_nil 0,(abg p _ g hs).le<|by omega⟩
def abS(a:p.lk=muA Mu)(hw:ShAt tM tW Mu Wg w (dU h))(hs:bh p e .uv g):Out tM tW Mu Wg p e .uv h g w:=by exact⟨.ur,h,_,w,_,⟨rfl,rfl⟩,vI a hw<|bj.head (λF=>by kernel_rfl) g hs,hw,Eff.refl w,book_nil 0,(abh p g hs).le<|by omega⟩
def abT(a:p.lk=muA Mu)(hw:ShAt tM tW Mu Wg w (dU h))(hs:bh p e .ur g):Out tM tW Mu Wg p e .ur h g w:=by
 have b:(#[⟨.mark<|.releaseMerge p.lk,I,Y⟩]:Array Event)=#[mk (.releaseMerge<|muA Mu)]:=by rw[a];rfl
 exact⟨.ud,h,_,w,_,⟨rfl,rfl⟩,kZ .releaseMerge (λ_ g h=>by cases h) aa1<|bj.head (λF=>by kernel_rfl) g hs,hw,Eff.refl w,b,(abi p g hs).le<|by omega⟩
def abU(hw:ShAt tM tW Mu Wg w (dU h))(hs:bh p e .ud g):Out tM tW Mu Wg p e .ud h g w:=by exact⟨.u0,h,_,w,_,⟨rfl,rfl⟩,mC .disable (λg h=>by cases h) F2 (bj.head (λF=>by kernel_rfl) g hs:dl g=Z (Γ 236 #[])),hw,Eff.refl w,book_dis 0,(SV p g hs).le<|by omega⟩
def yh{o v}(hb:o.c+2<268435455)(hs:bj (fV p Gn [jv 4 o.z] v) (US p) g):bZ P0 I 600 (bh p e<|k8 o) g:=by
 have b:o.ok:=by unfold Wd.ok;omega
 refine bZ.trans (n:=200) (k:=400) (SZ p v o.z g hs) λg a=>?_;have e1:decide (o.z.fdiv 8=0)=decide (o.c=0):=by rw[Wd.LZ,decide_eq_decide];omega
 rw[e1]at a;unfold k8;cases hc:decide (o.c=0)with
 |true=>rw[hc]at a;exact bZ.trans (n:=200) (k:=200) (abk p v o.z g a) λg a=>Gp p v o.z g a
 |false=>
  rw[hc]at a;simp only[Bool.false_or];refine bZ.trans (n:=200) (k:=200) (abl p v o.z g a) λg a=>?_;rw[Wd.Tq b]at a;cases hf:(o.L||o.W||o.S)with
  |true=>rw[hf]at a;simp only[if_true];exact Gp p v o.z g a
  |false=>rw[hf]at a;exact bZ.mono (acR p v o.z g a) .refl λg a=>⟨_,rfl,a⟩
def abV(b:p.lk=muA Mu)(m:Mu≠Wg)(hb:h.mu.c+2<268435455)(q:h.mu.L=Y)(hw:ShAt tM tW Mu Wg w (dU h))(hs:bh p e .u0 g):Out tM tW Mu Wg p e .u0 h g w:=by
 have d:h.mu.ok:=by unfold Wd.ok;omega
 have hc:w.cell? p.lk=Z (Ξ Δ h.mu.z):=by rw[b,hw.1.cellSt];rfl
 have j:=qF (P:=P0) (main:=I) aa2 (bj.head (λF=>by kernel_rfl) g hs:dl g=Z (Γ 273 #[Ψ (Z p.lk),Ξ Δ<|-1])) hc (by rw[b];exact hw.1.thaw 0);rw[Wd.Gv d q]at j;refine⟨_,{h with mu:={h.mu with L:=I}},_,_,_,⟨rfl,rfl⟩,j,?_,Eff.set _ _<|.inl (by rw[b];rfl),?_,?_⟩;rw[b];exact hw.setMu m _;show BookOK Mu Wg 1 (deaf (if _ then _ else _)) _;split
 exact book_rw 0 _<|.inl (by rw[b];rfl);rw[yd];exact book_rw 0 _<|.inl (by rw[b];rfl);have l:({h.mu with L:=I}:Wd).ok:=d;refine bZ.le (bZ.trans (n:=200) (k:=1400) (SW p ({h.mu with L:=I}:Wd).z g hs) λg a=>?_) (by omega);rw[Wd.Tt]at a;cases hf:(I||h.mu.W||h.mu.S||decide (h.mu.c≠0))with
 |false=>
  have i:bj (fJ p SK [bv 16 I,(2,Ξ Δ ({h.mu with L:=I}:Wd).z)]) (UL p) g:=by have:=hf;rw[this]at a;exact a
  simp only[Bool.false_or,Bool.or_eq_false_iff,decide_eq_false_iff_not,Decidable.not_not]at hf;rw[hf.1.2];simp only[Bool.false_eq_true,if_false];have e1:k8 {h.mu with L:=I}=.ue:=by
   unfold k8;have:decide (({h.mu with L:=I}:Wd).c=0)=Y:=by simpa using hf.2
   rw[this];rfl
  rw[e1];exact bZ.le (akP p _ g i) (by omega)
 |true=>
  have i:bj (fJ p SK [bv 16 Y,(2,Ξ Δ ({h.mu with L:=I}:Wd).z)]) (UL p) g:=by have:=hf;rw[this]at a;exact a
  refine bZ.trans (n:=200) (k:=1200) (akQ p _ g i) λg a=>?_;have e1:Θ Δ (({h.mu with L:=I}:Wd).z+1)=h.mu.z:=by have a1:=Wd.Gv d q;have s:=Wd.lN d;rw[wrap_small (by omega) (by omega)]at a1;rw[<-a1,wrap_small (by omega)<|by omega];omega
  have e2:decide (bits .and Δ h.mu.z 1=0)=I:=by have:=Wd.Gu d;rw[q]at this;simpa using this
  rw[e1,e2]at a;refine bZ.trans (n:=200) (k:=1000) (abj p _ g a) λg a=>?_;rw[Wd.A7 l]at a;have f:=a;cases hS:h.mu.S with
  |true=>rw[hS]at f;simp only[if_true];exact bZ.mono (SX p _ g f) (by omega) λg a=>⟨_,a⟩
  |false=>have r:({h.mu with L:=I}:Wd).z=({h.mu with L:=I}:Wd).z:=rfl;rw[hS]at f;simp only[Bool.false_eq_true,if_false];refine bZ.le (bZ.trans (n:=200) (k:=600) (SY p _ g f) λg a=>?_) (by omega);have:=yh (e:=e) (o:=(⟨I,h.mu.W,h.mu.S,h.mu.c⟩:Wd)) hb a;exact this
def abW{o}(a:p.lk=muA Mu)(j:Mu≠Wg)(hb:o.c+2<268435455)(q:aaA h (.uc o))(hw:ShAt tM tW Mu Wg w (dU h))(hs:bh p e (.uc o) g):Out tM tW Mu Wg p e (.uc o) h g w:=by
 obtain⟨s,r,h3,h4⟩:=q;have i:o.ok:=by unfold Wd.ok;omega
 have d:({o with c:=o.c-1}:Wd).ok:=by unfold Wd.ok;dsimp only;omega
 obtain⟨b,k,hs⟩:=hs;have m:dl g=Z (Γ 271 #[Ψ (Z p.lk),Ξ Δ o.z,Ξ Δ b]):=bj.head (λF=>by kernel_rfl) g hs;have hc:w.cell? p.lk=Z (Ξ Δ h.mu.z):=by rw[a,hw.1.cellSt];rfl
 have hz:w.frozen? p.lk=I:=by rw[a];exact hw.1.thaw 0
 by_cases f:h.mu=o
 rw[f]at hc;refine⟨.us,{h with mu:={o with W:=Y,c:=o.c-1}},_,_,_,.inl ⟨f,rfl,rfl⟩,nJ xV m hc hz,?_,Eff.set _ _<|.inl (by rw[a];rfl),book_rw 0 _<|.inl (by rw[a];rfl),?_⟩;rw[a,(by rw[k,Wd.Tr i h4,Wd.or2 d]:b=({o with W:=Y,c:=o.c-1}:Wd).z)];exact hw.setMu j _;exact bZ.mono (abm p o.z b g hs) (by omega) λg l=>⟨b,l⟩;refine⟨.ux,h,_,_,_,.inr ⟨f,rfl,rfl⟩,kY xV m hc hz λn=>f<|Wd.CE n,hw,Eff.refl w,book_one 0 _ _<|.inl (by rw[a];rfl),?_⟩;exact bZ.mono (abn p o.z b g hs) (by omega) λg l=>⟨b,l⟩
def abX(a:p.lk=muA Mu)(hb:h.mu.c+2<268435455)(hw:ShAt tM tW Mu Wg w (dU h))(hs:bh p e .ux g):Out tM tW Mu Wg p e .ux h g w:=by obtain⟨d,hs⟩:=hs;refine⟨_,h,_,w,_,⟨rfl,rfl⟩,look a hw (bj.head (λF=>by kernel_rfl) g hs) abx<|bj.cg hs,hw,Eff.refl w,?_,?_⟩;show BookOK Mu Wg 1 (deaf<|k8 _) _;rw[yd];exact book_nil 1;exact bZ.le (bZ.trans (n:=200) (k:=600) (adn p d h.mu.z g hs) λg b=>yh hb b) (by omega)
def aek(b:p.lk=muA Mu)(a:Mu≠Wg)(c:h.ms<1000)(hw:ShAt tM tW Mu Wg w (dU h)):ShAt tM tW Mu Wg (w.setCell (p.lk.add 1)<|Ξ .u32<|IntKind.u32.wrap<|(h.ms:Int)+1) (dU {h with ms:=h.ms+1}):=by
 have e1:p.lk.add 1=msA Mu:=by rw[b];rfl
 have e2:IntKind.u32.wrap (h.ms+1)=(h.ms+1:Nat):=by rw[ZI];omega
 rw[e1,e2];exact hw.setMs a _
def abY(a:p.lk=muA Mu)(b:Mu≠Wg)(c:h.ms<1000)(hw:ShAt tM tW Mu Wg w (dU h))(hs:bh p e .us g):Out tM tW Mu Wg p e .us h g w:=by
 obtain⟨d,hs⟩:=hs;have e1:p.lk.add 1=msA Mu:=by rw[a];rfl
 have hc:w.cell? (p.lk.add 1)=Z (Ξ .u32 (h.ms:Int)):=by rw[e1,hw.1.cellSm];rfl
 exact⟨.ue,{h with ms:=h.ms+1},_,_,_,⟨rfl,rfl⟩,vy aa5 (bj.head (λF=>by kernel_rfl) g hs:dl g=Z (Γ 286 #[Ψ (Z<|p.lk.add 1),.bool I,Ξ ZN 2])) rfl hc (by rw[e1];exact hw.1.thaw 1),aek a b c hw,Eff.set _ _<|.inl (by rw[e1];rfl),book_sem 0 _<|.inl (by rw[e1];rfl),(S7 p d g hs).le<|by omega⟩
def abZ(a:p.lk=muA Mu)(b:Mu≠Wg)(c:h.ms<1000)(hw:ShAt tM tW Mu Wg w (dU h))(hs:bh p e .uh g):Out tM tW Mu Wg p e .uh h g w:=by
 obtain⟨d,hs⟩:=hs;have e1:p.lk.add 1=msA Mu:=by rw[a];rfl
 have hc:w.cell? (p.lk.add 1)=Z (Ξ .u32 (h.ms:Int)):=by rw[e1,hw.1.cellSm];rfl
 exact⟨.ue,{h with ms:=h.ms+1},_,_,_,⟨rfl,rfl⟩,vy aa5 (bj.head (λF=>by kernel_rfl) g hs:dl g=Z (Γ 286 #[Ψ (Z<|p.lk.add 1),.bool Y,Ξ ZN 2])) rfl hc (by rw[e1];exact hw.1.thaw 1),aek a b c hw,Eff.set _ _<|.inl (by rw[e1];rfl),book_sem 0 _<|.inl (by rw[e1];rfl),(S9 p d g hs).le<|by omega⟩
def ab0(hw:ShAt tM tW Mu Wg w (dU h))(hs:bh p e .ue g):Out tM tW Mu Wg p e .ue h g w:=by exact⟨.gv,h,_,w,_,⟨rfl,rfl⟩,mC .enable (λg h=>by cases h) tw (bj.head (λF=>by kernel_rfl) g hs:dl g=Z (Γ 237 #[])),hw,Eff.refl w,book_en 0,(Tc p g hs).le<|by omega⟩
def ab1(a:p.wg=stA Wg)(hw:ShAt tM tW Mu Wg w (dU h))(hs:bh p e .gv g):Out tM tW Mu Wg p e .gv h g w:=by exact⟨.gr,h,_,w,_,⟨rfl,rfl⟩,iD (bj.head (λF=>by kernel_rfl) g hs) QL yf QM (by rw[a];exact hw.2.cellSt),hw,Eff.refl w,book_nil 0,(Td p g hs).le<|by omega⟩
def ab2(a:p.wg=stA Wg)(hw:ShAt tM tW Mu Wg w (dU h))(hs:bh p e .gr g):Out tM tW Mu Wg p e .gr h g w:=by
 have b:(#[⟨.mark<|.releaseMerge p.wg,I,Y⟩]:Array Event)=#[mk (.releaseMerge<|stA Wg)]:=by rw[a];rfl
 exact⟨.gd,h,_,w,_,⟨rfl,rfl⟩,kZ .releaseMerge (λ_ g h=>by cases h) aa1<|bj.head (λF=>by kernel_rfl) g hs,hw,Eff.refl w,b,(Te p g hs).le<|by omega⟩
def ab3(hw:ShAt tM tW Mu Wg w (dU h))(hs:bh p e .gd g):Out tM tW Mu Wg p e .gd h g w:=by exact⟨.ga,h,_,w,_,⟨rfl,rfl⟩,mC .disable (λg h=>by cases h) F2 (bj.head (λF=>by kernel_rfl) g hs:dl g=Z (Γ 236 #[])),hw,Eff.refl w,book_dis 0,(Tf p g hs).le<|by omega⟩
def ab4(b:p.wg=stA Wg)(l:Mu≠Wg)(y:0<h.k)(s:h.k<1073741824)(i:h.wt<=1)(hw:ShAt tM tW Mu Wg w (dU h))(hs:bh p e .ga g):Out tM tW Mu Wg p e .ga h g w:=by
 have u:dl g=Z (Γ 268 #[Ψ (Z p.wg),Ξ Z0 18446744069414584320]):=bj.head (λF=>by kernel_rfl) g hs;have hc:w.cell? p.wg=Z (Ξ Z0<|(h.k:Int)*4294967296+(h.wt:Int)):=by rw[b,hw.2.cellSt];rfl
 have c:=qF (P:=P0) (main:=I) aa6 u hc (by rw[b];exact hw.2.thaw 0);have ev:IntKind.u64.wrap ((h.k:Int)*4294967296+(h.wt:Int)+18446744069414584320)=((h.k-1:Nat):Int)*4294967296+(h.wt:Int):=by rw[IntKind.wrap_u64];omega
 rw[ev]at c;refine⟨_,{h with k:=h.k-1},_,_,_,⟨rfl,rfl⟩,c,?_,Eff.set _ _<|.inr (by rw[b];rfl),?_,?_⟩;rw[b];exact hw.setWg l _;show BookOK Mu Wg 1 (deaf (if _ then _ else _)) _;split<;>exact book_rw 0 _<|.inr (by rw[b];rfl)
 refine bZ.le (bZ.trans (n:=200) (k:=1200) (LR p _ g hs) λg a=>?_) (by omega);have t:=Go.ConcN.st_flag (h.k-1) h.wt (by omega) i;have o:=Go.ConcN.st_waiters (h.k-1) h.wt (by omega) i;have x:(((h.k-1:Nat):Int)*4294967296+(h.wt:Int)).fdiv 4294967296=((h.k-1:Nat):Int):=by rw[Int.fdiv_eq_ediv_of_nonneg _ (by decide)];omega
 have r:Θ Δ ((h.k-1:Nat):Int)=((h.k-1:Nat):Int):=wrap_small (by omega) (by omega);have v:Θ .u32 (h.wt:Int)=(h.wt:Int):=by rw[ZI];omega
 rw[t]at a;refine bZ.trans (n:=200) (k:=1000) (abp p _ g a) λg a=>?_;rw[x,r,o,v]at a;have e1:decide (((h.k-1:Nat):Int)<0)=I:=decide_eq_false (by omega);rw[e1]at a;refine bZ.trans (n:=200) (k:=800) (Tg p _ _ _ g a) λg a=>?_;have m:bZ P0 I 200 (bj (fA p Eb [bv 91 (decide<|((h.k-1:Nat):Int)>0),(6,Ξ Z0<|((h.k-1:Nat):Int)*4294967296+(h.wt:Int)),bv 4 I,jv 7 ((h.k-1:Nat):Int),(8,Ξ .u32 (h.wt:Int))] [dK])<|DK p) g:=by
  cases hq:((h.wt:Int) !=0)with
  |true=>rw[hq]at a;exact abq p _ _ _ g a
  |false=>rw[hq]at a;exact abr p _ _ _ g a
 refine bZ.trans (n:=200) (k:=600) m λg a=>?_;by_cases f:h.k=1
 have e2:decide (((h.k-1:Nat):Int)>0)=I:=decide_eq_false (by omega);rw[e2]at a;refine bZ.trans (n:=200) (k:=400) (abt p _ _ _ g a) λg a=>?_;by_cases j:h.wt=1
 rw[if_pos ⟨f,j⟩];have e3:decide ((h.wt:Int)=0)=I:=decide_eq_false (by omega);rw[e3]at a;have d:=Th p _ _ _ g a;have e4:((h.k-1:Nat):Int)*4294967296+(h.wt:Int)=1:=by omega
 have q:(h.wt:Int)=1:=by omega
 rw[e4,q]at d;exact bZ.le d (by omega);rw[if_neg (λh=>j h.2)];have e3:decide ((h.wt:Int)=0)=Y:=decide_eq_true (by omega);rw[e3]at a;exact bZ.mono (Gs p _ _ _ g a) (by omega) λg a=>.inl a;rw[if_neg (λh=>f h.1)];have e2:decide (((h.k-1:Nat):Int)>0)=Y:=decide_eq_true (by omega);rw[e2]at a;refine bZ.le (bZ.trans (n:=200) (k:=200) (abs p _ _ _ g a) λg a=>?_) (by omega);exact bZ.mono (Gs p _ _ _ g a) (by omega) λg a=>.inl a
def ab5(a:p.wg=stA Wg)(d:h.k=0)(b:h.wt=1)(hw:ShAt tM tW Mu Wg w (dU h))(hs:bh p e .gl g):Out tM tW Mu Wg p e .gl h g w:=by
 have hc:w.cell? p.wg=Z (Ξ Z0 1):=by rw[a,hw.2.cellSt];show Z (Ξ IntKind.u64<|(h.k:Int)*4294967296+(h.wt:Int))=_;rw[d,b];rfl
 refine⟨.gs,h,_,w,_,⟨rfl,rfl⟩,rD Sa (bj.head (λF=>by kernel_rfl) g hs) hc,hw,Eff.refl w,book_one 0 _ _<|.inr (by rw[a];rfl),?_⟩;exact bZ.le (bZ.trans (n:=200) (k:=200) (LS p 1 1 1 g hs) λg c=>LT p 1 g c) (by omega)
def ab6(a:p.wg=stA Wg)(b:Mu≠Wg)(hw:ShAt tM tW Mu Wg w (dU h))(hs:bh p e .gs g):Out tM tW Mu Wg p e .gs h g w:=by
 have hc:=hw.2.cellSt;rw[<-a]at hc;refine⟨.gm,{h with k:=0,wt:=0},_,_,_,⟨rfl,rfl⟩,RX akJ (bj.head (λF=>by kernel_rfl) g hs:dl g=Z (Γ 270 #[Ψ (Z p.wg),Ξ Z0 0])) hc (by rw[a];exact hw.2.thaw 0),?_,Eff.set _ _<|.inr (by rw[a];rfl),book_one 0 _ _<|.inr (by rw[a];rfl),?_⟩;have d:dU {h with k:=0,wt:=0}={dU h with wg:=0}:=by unfold dU;simp
 rw[a,d];exact hw.setWg b 0;exact bZ.le (bZ.trans (n:=200) (k:=200) (LU p 1 g hs) λg c=>LX p 1 g c) (by omega)
def ab7(b:p.wg=stA Wg)(c:Mu≠Wg)(d:h.ws<1000)(hw:ShAt tM tW Mu Wg w (dU h))(hs:bh p e .gm g):Out tM tW Mu Wg p e .gm h g w:=by
 have e1:p.wg.add 1=smA Wg:=by rw[b];rfl
 have hc:w.cell? (p.wg.add 1)=Z (Ξ .u32 (h.ws:Int)):=by rw[e1,hw.2.cellSm];rfl
 have e2:IntKind.u32.wrap ((h.ws:Int)+1)=((h.ws+1:Nat):Int):=by rw[ZI];omega
 refine⟨.gn,{h with ws:=h.ws+1},_,_,_,⟨rfl,rfl⟩,vy akK (bj.head (λF=>by kernel_rfl) g hs:dl g=Z (Γ 247 #[Ψ (Z<|p.wg.add 1),.bool I,Ξ ZN 0])) rfl hc (by rw[e1];exact hw.2.thaw 1),?_,Eff.set _ _<|.inr (by rw[e1];rfl),book_sem 0 _<|.inr (by rw[e1];rfl),?_⟩;rw[e1,e2];exact hw.setWs c _;refine bZ.le (bZ.trans (n:=200) (k:=200) (LY p 1 g hs) λg a=>?_) (by omega);rw[(by decide:Θ .u32 ((1:Int) -1)=0)]at a;exact bZ.mono (LW p 0 g a) (by omega) λg a=>.inr a
def ab8(hw:ShAt tM tW Mu Wg w (dU h))(hs:bh p e .gn g):Out tM tW Mu Wg p e .gn h g w:=by
 obtain hs|hs:=hs
 obtain⟨F,rfl⟩:=hs;exact⟨.gx,h,_,w,_,⟨rfl,rfl⟩,wY .enable (λg h=>by cases h) tw rfl rfl,hw,Eff.refl w,book_en 0,(Gz p _ ⟨F,rfl⟩).le<|by omega⟩;obtain⟨F,rfl⟩:=hs;exact⟨.gx,h,_,w,_,⟨rfl,rfl⟩,wY .enable (λg h=>by cases h) tw rfl rfl,hw,Eff.refl w,book_en 0,(CJ p _ ⟨F,rfl⟩).le<|by omega⟩
def QN(hs:bh p e .gx g):stepG P0 I g w=.go {g with status:=.finished} w #[]:=by obtain⟨F,rfl⟩:=hs;exact Ed rfl rfl rfl rfl
end
end
end Ph
