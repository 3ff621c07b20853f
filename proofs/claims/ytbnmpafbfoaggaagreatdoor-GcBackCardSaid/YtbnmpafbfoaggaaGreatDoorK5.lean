/- A part of the proof of GcBack; no conditions. -/
import Derived.Test.YtbnmpafbfoaggaaGreatDoorK0
import GoSem.Step
import Derived.StepT
import Derived.Laws.Sem
import Derived.Conc.Events
import Derived.KernelRfl
import Derived.Conc.Listed
import Derived.Conc.LoneCalls
import Derived.Conc.Beside
import Derived.Conc.MuSpec
import Derived.Conc.Own
import Derived.Conc.AtomicLaws2
import Derived.Conc.ClockLaws
import Derived.Conc.MarkLaws
import Derived.Test.YtbnmpafbfoaggaaGreatDoorProg
import Derived.Laws.LoneSync
import Derived.Laws.BitsLemmas
import Derived.Laws.Bits64
import Derived.Conc.CrowdBase
import Derived.Conc.MuStops
import Derived.Conc.WgArith
set_option linter.defProp false
set_option linter.unusedVariables false
set_option linter.unusedSimpArgs false
set_option maxRecDepth 100000
set_option maxHeartbeats 16000000
noncomputable section
open Bool renaming false->Y,true->Z
open Option renaming some->R,none->φ,map_eq_some_iff->ZY,isSome_some->Zj
open Go renaming Goroutine->Ω,Program->Ξ,Value->Θ,callFunc->Γ,behindNumber->χ,World->ξ,FuncId->Z8,TypeId->Z4,typeInfo->Z0,Sem->ZU,numberAt->ZT,zeroValue->ZM,Deferred->ZF,invoke->Zz,Item->Zw,byteOf->Zk,run_callFunc_extern->Zf,callDeferred->Zd,Addr->Y',doReturn->Y9,cellAtBytes->Y5,resolve->Y4,Tables->YW,tryRecover->YU,asAddr->YN,viewAt->YM,run_underlying->YK,run_store->YH,Obj->YE,byteOfCell->YD,execOp->YB,events_store->Yu,events_load->Yn,loadVar->Yl,Machine->Yk,Func->Yh,storeCells->Yg,storeVar->Yf,callMethod->Yd,tryRecoverLoop->Yc,unwind->Yb,Next->X5,findLabel->XW,askRoom->XT,exitTo->XS,results->XR
open Go.Value renaming pointer->Ψ,int->Δ,slice->ZL
open Go.IntKind renaming wrap->ω,i32->ψ,u64->Zn,i64->YX,wrap_u32->YJ
open Go.Builtin renaming firstCells->υ,zeroCells->θ,unsafeAdd_->ZW,mayShare->Zt,holdsCells->YV,lenOf->Yw,ssaWrapNilChk_->Yr,nextslicecap->Ym,delete_->XY,append_->XX,copy_->XK
open Go.Sem renaming run->ο,run_bind->μ,runT->ZX,bind->ZO,runT_eq->ZK,runT_bind'->Zh,run_bind'->Za,runT_fst->YG
open Go.Mark renaming extern->κ
open List renaming mem_cons->ι,contains_iff_mem->Z2,zipWith->Y2,range_succ->Yy,mem_cons_of_mem->X8,mem_iff_getElem->X7,mem_singleton->XV,push_toArray->XO
open Go.Result renaming andThen->η,andThen_ok->Z1,evThen->ZI
open Go.GStep renaming after->ζ
open Go.Extern.Sync renaming semacquire->ε,semrelease->ZP,count->ZD,nothing->Yt,canSpin->Ys,none_->Yo
open Go.World renaming shape?->Z9,setCell->ZH,viewStore->XN
open Nat renaming testBit_two_pow_mul_add->ZV,le_refl->ZS,zero_add->Zs,le_trans->Y0,lt_of_lt_of_le->YO,one_pos->X1,eq_of_testBit_eq->X0,eq_zero_or_pos->XP
open Go.stepG renaming exec->ZR,apply->ZB,oper->X3
open Go.Deferred renaming ofValue->ZQ
open Go.Conc renaming mem_ofEvents->ZN,events_callFunc_extern->YS,Deaf_other->YA,canSpin_eq->Ya,mem_seen->X4,semEvents->XU,step_solo_go->XQ
open Go.Extern.Race renaming marked->ZJ,none_->ZE
open Go.Instr renaming getLoop->ZG,takeDeferred->ZC,endLoop->Zo,enterLoop->Zm,sureAddr->Zi,indexAt->Ze,loadAt->Y7,checkKey->YZ,endRound->YY,storeAt->YR,yield->Ye,sliceBounds->XZ,makeSlice->XM
open Pure renaming pure->ZA
open Go.MemAct renaming ofEvent->Zy,touch?->Zr
open Go.Op renaming intArith->Zx,equalIn->Zg,stringOp->Yv,eqGuardIn->X9,intBits->XL,addrMod->XJ
open Go.Extern.OsHooks renaming nano->Zv
open Prod renaming snd->Zu
open Go.Extern.Atomic renaming casT->Zq,read->Zp,update->Zc,none_->Y8,storeT->Yz,loadT->Yx
open Option.some renaming injEq->Zl,inj->Yj
open Go.Extern.ReflectliteValue renaming set->Zb,method->Yq,elem->Yp
open Go.Extern renaming findNext->Y6,find->YF
open Go.Region renaming wanted->YT
open Go.Goroutine renaming canRun->YQ,callers->Yi,frame->X6
open BitVec renaming ofInt->YP
open List.cons renaming injEq->YL
open Go.Question renaming forced->YI
namespace Go.Proofs.YtbnmpafbfoaggaaGreatDoor
namespace gO
open Go
section
def eY{α:Type}:Result α->ξ
 |.ok _ w=>w
 |.halt _ w=>w
def bE:YE:=.view ⟨0,0,R 0⟩ 0
def mL(b:Nat)(u w:ξ):Prop:=(∃c e,(∃f,u.heap[b]?=R (.cells #[] e f))/\∃f,w.heap[b]?=R (.cells c e f))\/u.heap[b]?=R bE
structure Rel(ok:YE->Prop)(N:Nat)(S:Nat->Prop)(k:Nat)(u w:ξ):Prop where
 ans:∀j q,j<k->w.tape (w.drawn+j) q=u.tape (u.drawn+j) q
 size:w.heap.size=u
 same:∀b,¬S b->w.heap[b]?=u.heap[b]?
 mask:∀b,S b->mL b u w
 high:∀b,S b->N<=b
 env:w.os.env=u.os.env
 safe:∀(b:Nat) o,u.heap[b]?=R o->ok o
def jG(S:Nat->Prop)(B:Nat)(e:Event):Prop:=
 match e.loc with
 |.cell a=>¬S a.block/\a.block<B
 |.obj r=>¬S r/\r<B
 |.mark .noRoom=>True
 |.mark (.extern _)=>True
 |.output=>True
 |_=>False
def jG.mono{S B B' e}(h:jG S B e)(hb:B<=B'):jG S B' e:=by
 obtain⟨loc,wr,b⟩:=e;cases loc with
 |cell a=>exact⟨h.1,YO h.2 hb⟩
 |obj r=>exact⟨h.1,YO h.2 hb⟩
 |output=>exact h
 |goroutines=>exact h
 |mark m=>cases m<;>first|exact h|trivial
structure kE(S:Nat->Prop)(u u' w w':ξ):Prop where
 tape:w'.tape=w.tape
 os:w'.os=w.os
 output:w'.output=w.output
 drawn:w'.drawn+u.drawn=w.drawn+u'.drawn
 Cl:u'.tape=u.tape
 still:∀b,b<w.heap.size->S b->w'.heap[b]?=w.heap[b]?
def kE.refl{S}(u w):kE S u u w w:=⟨rfl,rfl,rfl,by omega,rfl,λ_ _ _=>rfl⟩
def kE.trans{S u d a w w' c}(h:kE S u d w w')(h':kE S d a w' c):kE S u a w c:=⟨h'.tape.trans h.tape,h'.os.trans h.os,h'.output.trans h.output,by have:=h.drawn;have:=h'.drawn;omega,h'.Cl.trans h.Cl,λb hb hs=>by have e:=h.still b hb hs;rw[Array.getElem?_eq_getElem hb]at e;rw[h'.still b (Array.getElem?_eq_some_iff.1 e).1 hs,h.still b hb hs]⟩
def Fy{α}(x:Ask α)(u:ξ):u.drawn<=(u.ask x).2.drawn/\(u.ask x).2.heap=u.heap:=by
 induction x generalizing u with
 |done a=>exact⟨ZS _,rfl⟩
 |ask b range k c=>
  simp only[World.ask]
  grind
def Fz(c)(u:ξ):u.drawn<=(u.sys c).2.drawn/\(u.sys c).2.heap=u.heap:=by
 have h:=Fy (Kernel.perform c u.os) u;unfold World.sys
 grind
def td{P}{u c:ξ}{a v at_ l}(h:u.farStore P a v at_=.ok (c,l)):c.drawn=u.drawn/\c.heap.size=u:=by
 unfold World.farStore at h;split at h
 ·split at h
  ·rename_i r b;cases h
   unfold XN at b;simp only[bind,Except.bind,pure,Except.pure]at b
   repeat' split at b
   all_goals first|(cases b;done)|(cases b;simp)
  cases h
 cases h
def bY{α}(P)(x:ZU α)(u):u.drawn<=(eY<|x.run P u).drawn/\u.heap.size<=(eY<|x.run P u).heap.size:=by
 induction x generalizing u with
 |pure a=>exact⟨ZS _,.refl⟩
 |load m a k b=>
  simp only[ο];split
  exact b _ _;split
  ·exact b _ _
  exact⟨ZS _,.refl⟩
 |store m a v k b=>
  have d:u.drawn<=(eY (match u a with
   |some _=>if u.frozen? a then Result.halt (.unsupported<|.unsafePointer "a write to bytes that a string shares") u else k.run P (u.setCell a v)
   |none=>match u.farStore P a v (m==.atomic)with
    |.ok (w,_)=>k.run P w
    |.error h=>.halt h u)).drawn/\u.heap.size<=(eY (match u a with
   |some _=>if u.frozen? a then Result.halt (.unsupported<|.unsafePointer "a write to bytes that a string shares") u else k.run P (u.setCell a v)
   |none=>match u.farStore P a v (m==.atomic)with
    |.ok (w,_)=>k.run P w
    |.error h=>.halt h u)).heap.size:=by
   split
   split
   ·exact⟨ZS _,.refl⟩
   have:=b<|u.setCell a v;simpa[ZH]using this;split
   ·rename_i e;have h:=td e;have:=b ‹ξ›;omega
   exact⟨ZS _,.refl⟩
  cases v<;>first|(simp only[ο];exact d)|(simp only[ο,eY];exact⟨ZS _,.refl⟩)
 |new o k b=>simp only[ο];have:=b u {u with heap:=u.heap.push o};simp only[Array.size_push]at this;exact⟨this.1,by omega⟩
 |shape r k b=>simp only[ο];exact b _ _
 |freeze a n k b=>simp only[ο];have:=b<|u.freeze a n;unfold World.freeze at this⊢;split at this<;>simp_all
 |frozen a k b=>simp only[ο];exact b _ _
 |getObj r k b=>
  simp only[ο];split
  exact⟨ZS _,.refl⟩;exact b _ _;exact⟨ZS _,.refl⟩
 |setObj r o k b=>
  simp only[ο];split
  exact⟨ZS _,.refl⟩;have:=b {u with heap:=u.heap.setIfInBounds r o};simpa using this;exact⟨ZS _,.refl⟩
 |choose q k b=>
  simp only[ο]
  grind
 |sys c k b=>simp only[ο];have h:=Fz c u;have:=b (u.sys c).1 (u.sys c).2;rw[h.2]at this;exact⟨Y0 h.1 this.1,this.2⟩
 |program k b=>simp only[ο];exact b _ _
 |mark m k b=>simp only[ο];exact b _
 |halt h=>exact⟨ZS _,.refl⟩
section
variable(ok:YE->Prop)(N:Nat)(S:Nat->Prop)(P Q:Ξ)
def kF{α:Type}(k:Nat)(u w:ξ)(y:ZU α):Result α->Prop
 |.ok a u'=>u'.drawn<=u.drawn+k->∃(w':ξ) (es':Array Event),(∀es,y.runT Q w es=(.ok a w',es++es'))/\Rel ok N S (u.drawn+k-u'.drawn) u' w'/\kE S u u' w w'/\∀e∈es',jG S u' e
 |.halt (.panic v) u'=>u'.drawn<=u.drawn+k->∃(w':ξ) (es':Array Event),(∀es,y.runT Q w es=(.halt (.panic v) w',es++es'))/\Rel ok N S (u.drawn+k-u'.drawn) u' w'/\kE S u u' w w'/\∀e∈es',jG S u' e
 |.halt .goexit u'=>u'.drawn<=u.drawn+k->False
 |.halt _ _=>True
variable{β:Type}{u1:ξ}{α:Type}
def bO{α:Type}(x y:ZU α):Prop:=∀k u w,Rel ok N S k u w->kF ok N S Q k u w y (x.run P u)
variable{ok N S P Q}
def bO.pure(a:α):bO ok N S P Q (.pure a) (.pure a):=by intro k u w h _;exact⟨w,#[],λb=>by simp,by rw[show u.drawn+k-u.drawn=k by omega];exact h,.refl _ _,by simp⟩
def bO.panic(v):bO ok N S P Q (.halt (.panic v):ZU α) (.halt<|.panic v):=by intro k u w h _;exact⟨w,#[],λa=>by simp,by rw[show u.drawn+k-u.drawn=k by omega];exact h,.refl _ _,by simp⟩
def bO.stop{x y:ZU α}(h:∀u,∃r b,x.run P u=.halt r b/\(∀v,r≠.panic v)/\r≠.goexit):bO ok N S P Q x y:=by intro k u w _;obtain⟨r,b,e,a⟩:=h u;rw[e];cases r<;>first|trivial|exact absurd rfl (a.1 _)|exact absurd rfl a.2
def bO.bind{x y}{f g:α->ZU β}(h:bO ok N S P Q x y)(q:∀a,bO ok N S P Q (f a)<|g a):bO ok N S P Q (x.bind f) (y.bind g):=by
 intro k u w B;have m:=h k u w B;rw[Za];cases hx:x.run P u with
 |ok a u1=>
  rw[hx]at m;simp only[Z1];have t:=bY P (f a) u1;have n:=bY P x u;rw[hx]at n;simp only[eY]at n;have fin:∀u2,eY ((f a).run P u1)=u2->u2.drawn<=u.drawn+k->∃(d:ξ) (c:Array Event),(∀o,y.runT Q w o=(.ok a d,o++c))/\Rel ok N S (u.drawn+k-u1.drawn) u1 d/\kE S u u1 w d/\(∀e∈c,jG S u1 e)/\u1.heap.size<=u2/\u1.drawn<=u2.drawn:=by intro u2 e2 hd;rw[e2]at t;obtain⟨d,c,r1,r2,r3,r4⟩:=m (by omega);exact⟨d,c,r1,r2,r3,r4,t.2,t.1⟩
  cases hf2:(f a).run P u1 with
  |ok b u2=>
   intro hd;obtain⟨d,c,r1,r2,r3,r4,r5,r6⟩:=fin u2 (by rw[hf2];rfl) hd;have j:=q a _ u1 d r2;rw[hf2]at j;obtain⟨z,l,q1,A,p,r⟩:=j (by omega);refine⟨z,c++l,λo=>?_,?_,r3.trans p,?_⟩;rw[Zh,r1];simp only;rw[q1,Array.append_assoc];rw[show u.drawn+k-u2.drawn=u1.drawn+(u.drawn+k-u1.drawn) -u2.drawn by omega];exact A;intro e i;obtain i|i:=Array.mem_append.1 i
   exact(r4 e i).mono r5;exact r e i
  |halt s u2=>
   cases s with
   |panic v=>
    intro hd;obtain⟨d,c,r1,r2,r3,r4,r5,r6⟩:=fin u2 (by rw[hf2];rfl) hd;have j:=q a _ u1 d r2;rw[hf2]at j;obtain⟨z,l,q1,A,p,r⟩:=j (by omega);refine⟨z,c++l,λo=>?_,?_,r3.trans p,?_⟩;rw[Zh,r1];simp only;rw[q1,Array.append_assoc];rw[show u.drawn+k-u2.drawn=u1.drawn+(u.drawn+k-u1.drawn) -u2.drawn by omega];exact A;intro e i;obtain i|i:=Array.mem_append.1 i
    exact(r4 e i).mono r5;exact r e i
   |goexit=>intro hd;obtain⟨d,c,r1,r2,r3,r4,r5,r6⟩:=fin u2 (by rw[hf2];rfl) hd;have j:=q a _ u1 d r2;rw[hf2]at j;exact j (by omega)
   |_=>trivial
 |halt s u1=>
  rw[hx]at m;simp only[Result.andThen_halt];cases s with
  |panic v=>intro hd;obtain⟨d,c,r1,r2,r3,r4⟩:=m hd;exact⟨d,c,λo=>by rw[Zh,r1],r2,r3,r4⟩
  |goexit=>exact m
  |_=>trivial
def ip{x y:ZU α}{f g:α->ZU β}{k u w a}(s:x.run P u=.ok a u1)(r:kF ok N S Q k u w y (.ok a u1))(m:∀w1,Rel ok N S (u.drawn+k-u1.drawn) u1 w1->kF ok N S Q (u.drawn+k-u1.drawn) u1 w1 (g a) ((f a).run P u1)):kF ok N S Q k u w (y.bind g) ((x.bind f).run P u):=by
 rw[Za,s];simp only[Z1];have j:=bY P (f a) u1;have fin:∀u2,eY ((f a).run P u1)=u2->u2.drawn<=u.drawn+k->∃(w1:ξ) (c:Array Event),(∀i,y.runT Q w i=(.ok a w1,i++c))/\Rel ok N S (u.drawn+k-u1.drawn) u1 w1/\kE S u u1 w w1/\(∀e∈c,jG S u1 e)/\u1.heap.size<=u2/\u1.drawn<=u2.drawn:=by intro u2 e2 hd;rw[e2]at j;obtain⟨w1,c,r1,r2,r3,r4⟩:=r (by omega);exact⟨w1,c,r1,r2,r3,r4,j.2,j.1⟩
 cases hf2:(f a).run P u1 with
 |ok b u2=>
  intro hd;obtain⟨w1,c,r1,r2,r3,r4,r5,r6⟩:=fin u2 (by rw[hf2];rfl) hd;have h3:=m w1 r2;rw[hf2]at h3;obtain⟨n,h,q1,p,o,l⟩:=h3 (by omega);refine⟨n,c++h,λi=>?_,?_,r3.trans o,?_⟩;rw[Zh,r1];simp only;rw[q1,Array.append_assoc];rw[show u.drawn+k-u2.drawn=u1.drawn+(u.drawn+k-u1.drawn) -u2.drawn by omega];exact p;intro e d;obtain d|d:=Array.mem_append.1 d
  exact(r4 e d).mono r5;exact l e d
 |halt q u2=>
  cases q with
  |panic v=>
   intro hd;obtain⟨w1,c,r1,r2,r3,r4,r5,r6⟩:=fin u2 (by rw[hf2];rfl) hd;have h3:=m w1 r2;rw[hf2]at h3;obtain⟨n,h,q1,p,o,l⟩:=h3 (by omega);refine⟨n,c++h,λi=>?_,?_,r3.trans o,?_⟩;rw[Zh,r1];simp only;rw[q1,Array.append_assoc];rw[show u.drawn+k-u2.drawn=u1.drawn+(u.drawn+k-u1.drawn) -u2.drawn by omega];exact p;intro e d;obtain d|d:=Array.mem_append.1 d
   exact(r4 e d).mono r5;exact l e d
  |goexit=>intro hd;obtain⟨w1,c,r1,r2,r3,r4,r5,r6⟩:=fin u2 (by rw[hf2];rfl) hd;have h3:=m w1 r2;rw[hf2]at h3;exact h3 (by omega)
  |_=>trivial
def bO.bind'{x y}{f g:α->ZU β}(h:bO ok N S P Q x y)(b:∀a,bO ok N S P Q (f a)<|g a):bO ok N S P Q (x>>=f) (y>>=g):=h.bind b
def bO.pure'(a:α):bO ok N S P Q (ZA a) (ZA a):=.pure a
def bO.program{k j:Ξ->ZU α}(h:bO ok N S P Q (k P) (j Q)):bO ok N S P Q (.program k) (.program j):=h
def bO.choose{α}(q){k j:Nat->ZU α}(h:∀n,bO ok N S P Q (k n)<|j n):bO ok N S P Q (.choose q k) (.choose q j):=by
 intro n u w b;simp only[ο];split
 rename_i m;have:=h 0 n u w b;have e:∀c,(Sem.choose q j).runT Q w c=(j 0).runT Q w c:=λc=>by simp only[ZX,m,if_true]
 revert this
 cases (k 0).run P u with
 |ok a g=>simp only[kF,e];exact id
 |halt p g=>cases p<;>simp only[kF,e]<;>exact id
 rename_i m;have f:=bY P (k<|q.cut<|u.tape u.drawn q) {u with drawn:=u.drawn+1};have e:0<n->∀c,(Sem.choose q j).runT Q w c=(j<|q.cut<|u.tape u.drawn q).runT Q {w with drawn:=w.drawn+1} c:=λd c=>by have:=b.ans 0 q d;simp only[Nat.add_zero]at this;simp only[ZX,m,this];rfl
 have step:0<n->kF ok N S Q (n-1) {u with drawn:=u.drawn+1} {w with drawn:=w.drawn+1} (j<|q.cut<|u.tape u.drawn q) ((k<|q.cut<|u.tape u.drawn q).run P {u with drawn:=u.drawn+1}):=λd=>h _ (n-1) _ _ ⟨λi r hi=>by have:=b.ans (i+1) r (by omega);simpa[Nat.add_assoc,Nat.add_comm 1 i]using this,b.size,b.same,b.mask,b.high,b.env,b.safe⟩
 revert step f
 cases (k<|q.cut<|u.tape u.drawn q).run P {u with drawn:=u.drawn+1}with
 |ok a g=>
  intro f step hd;simp only[eY]at f;have d:0<n:=by omega
  obtain⟨o,l,r1,r2,r3,r4⟩:=step d (by simp only;omega);refine⟨o,l,λc=>by rw[e d,r1],?_,⟨r3.tape,r3.os,r3.output,by have:=r3.drawn;simp only at this;omega,r3.Cl,r3.still⟩,r4⟩;rw[show u.drawn+n-g.drawn=u.drawn+1+(n-1) -g.drawn by omega];exact r2
 |halt p g=>
  cases p with
  |panic v=>
   intro f step hd;simp only[eY]at f;have d:0<n:=by omega
   obtain⟨o,l,r1,r2,r3,r4⟩:=step d (by simp only;omega);refine⟨o,l,λc=>by rw[e d,r1],?_,⟨r3.tape,r3.os,r3.output,by have:=r3.drawn;simp only at this;omega,r3.Cl,r3.still⟩,r4⟩;rw[show u.drawn+n-g.drawn=u.drawn+1+(n-1) -g.drawn by omega];exact r2
  |goexit=>intro f step hd;simp only[eY]at f;exact step (by omega) (by simp only;omega)
  |_=>intros;trivial
structure xt(ok:YE->Prop):Prop where
 cells:∀c e f,ok (.cells c e f)
 view:∀a t,ok (.view a t) ->a.spot.isSome=Z
def qR{w:ξ}{a v}(h:w a=R v):∃c e f,w.heap[a.block]?=R (.cells c e f)/\a.spot.isSome=Y/\c[a.off]?=R v:=by
 unfold World.cell? at h
 grind
def Rel.cell{k u w}(h:Rel ok N S k u w){a v}(i:u a=R v):w a=R v/\¬S a.block/\a.block<u:=by
 obtain⟨c,e,f,d,j,h3⟩:=qR i;have g:¬S a.block:=by
  intro hs;obtain⟨_,l,⟨_,b⟩,_⟩|b:=h.mask _ hs
  grind
  rw[d]at b;cases b
 refine⟨?_,g,?_⟩;unfold World.cell?;rw[h.same _ g,d];simp[j,h3];exact(Array.getElem?_eq_some_iff.1 d).1
def Rel.heap{k u w}(h:Rel ok N S k u w){r o}(a:u.heap[r]?=R o)(j:∀c e f,o≠.cells c e f)(g:o≠bE):w.heap[r]?=R o/\¬S r/\r<u:=by
 have b:¬S r:=by
  intro hs;obtain⟨_,i,⟨_,d⟩,_⟩|d:=h.mask _ hs
  grind
  grind
 exact⟨(h.same _ b).trans a,b,(Array.getElem?_eq_some_iff.1 a).1⟩
def kL(w:ξ)(a s):(∀v,w.noCell a s≠.panic v)/\w.noCell a s≠.goexit:=by unfold World.noCell;split<;>simp
def seen_spot(P)(w:ξ)(x t k b)(hs:x.spot.isSome=Z):w.seen P x t k b=.error "memory seen as another type: a place without cells":=by unfold World.seen;rw[if_pos (by grind)];rfl
def xb(b:xt ok){k u w}(h:Rel ok N S k u w)(P a at_):∃e,u.farLoad P a at_=.error e/\(∀v,e≠.panic v)/\e≠.goexit:=by
 unfold World.farLoad;split
 rename_i x t c;have e:u.viewLoad P x t a at_=.error "memory seen as another type: a place without cells":=by unfold World.viewLoad;rw[seen_spot _ _ _ _ _ _ (b.view _ _<|h.safe _ _ c)];rfl
 simp_all
 exact⟨_,rfl,kL _ _ _⟩
def vf(c:xt ok){k u w}(h:Rel ok N S k u w)(P a v at_):∃e,u.farStore P a v at_=.error e/\(∀v,e≠.panic v)/\e≠.goexit:=by
 unfold World.farStore;split
 rename_i x t d;have e:∃s,u.viewStore P x t a v at_=.error s:=by
  unfold XN;rw[seen_spot _ _ _ _ _ _ (c.view _ _<|h.safe _ _ d)];by_cases b:(!tight P P.depth t)=Z
  exact⟨_,by rw[if_pos b];rfl⟩;exact⟨_,by rw[if_neg b];rfl⟩
 obtain⟨s,e⟩:=e;rw[e];exact⟨_,rfl,by simp⟩;exact⟨_,rfl,kL _ _ _⟩
def bT{k u w}{y:ZU α}{e a}(h:(∀v,e≠.panic v)/\e≠.goexit):kF ok N S Q k u w y (.halt e a):=by cases e<;>first|trivial|exact absurd rfl (h.1 _)|exact absurd rfl h.2
def u4{k u w w1 y z ev}{r:Result α}(hz:∀es,y.runT Q w es=z.runT Q w1 (es.push ev))(hd:u1.drawn=u.drawn)(j:kE S u u1 w w1)(d:jG S u1 ev)(g:u1.heap.size<=(eY r).heap.size)(h:kF ok N S Q k u1 w1 z r):kF ok N S Q k u w y r:=by
 cases r with
 |ok a m=>
  intro i;obtain⟨f,c,r1,r2,r3,r4⟩:=h (by omega);refine⟨f,#[ev]++c,λes=>?_,by rw[hd]at r2;exact r2,j.trans r3,λe b=>?_⟩;rw[hz,r1,<-Array.append_assoc];simp;obtain b|b:=Array.mem_append.1 b
  ·rw[Array.mem_singleton.1 b];exact d.mono g
  exact r4 e b
 |halt l m=>
  cases l with
  |panic v=>
   intro i;obtain⟨f,c,r1,r2,r3,r4⟩:=h (by omega);refine⟨f,#[ev]++c,λes=>?_,by rw[hd]at r2;exact r2,j.trans r3,λe b=>?_⟩;rw[hz,r1,<-Array.append_assoc];simp;obtain b|b:=Array.mem_append.1 b
   ·rw[Array.mem_singleton.1 b];exact d.mono g
   exact r4 e b
  |goexit=>exactλi=>h (by omega)
  |_=>trivial
def jH{k u w w1 y z}{r:Result α}(hz:∀es,y.runT Q w es=z.runT Q w1 es)(hd:u1.drawn=u.drawn)(e:kE S u u1 w w1)(h:kF ok N S Q k u1 w1 z r):kF ok N S Q k u w y r:=by
 cases r with
 |ok a g=>intro d;obtain⟨c,b,r1,r2,r3,r4⟩:=h (by omega);exact⟨c,b,λes=>by rw[hz,r1],by rw[hd]at r2;exact r2,e.trans r3,r4⟩
 |halt f g=>
  cases f with
  |panic v=>intro d;obtain⟨c,b,r1,r2,r3,r4⟩:=h (by omega);exact⟨c,b,λes=>by rw[hz,r1],by rw[hd]at r2;exact r2,e.trans r3,r4⟩
  |goexit=>exactλd=>h (by omega)
  |_=>trivial
def bO.load(i:xt ok)(m a){k j:Θ->ZU α}(h:∀v,bO ok N S P Q (k v)<|j v):bO ok N S P Q (.load m a k) (.load m a j):=by
 intro n u w b;simp only[ο];split
 rename_i v d;obtain⟨l,g,h3⟩:=b.cell d;refine u4 (ev:=⟨.cell a,Y,m==.atomic⟩) (λo=>by simp only[ZX,l]) rfl (.refl _ _) ⟨g,h3⟩ (bY P (k v) u).2<|h v n u w b;obtain⟨e,f,c⟩:=xb i b P a<|m==.atomic;simp only[f];exact bT c
def xf{k u w}(b:Rel ok N S k u w){a}(c:¬S a.block):w.frozen? a=u.frozen? a:=by unfold World.frozen?;rw[b.same _ c]
def Rel.setCell(h:xt ok){k u w}(d:Rel ok N S k u w)(a v)(i:¬S a.block):Rel ok N S k (u.setCell a v) (w.setCell a v):=by
 refine⟨d.ans,by simp[ZH,d.size],λb hb=>?_,λb hb=>?_,d.high,d.env,λb o c=>?_⟩;simp only[ZH,Array.getElem?_modify,d.same b hb];have f:a.block≠b:=λe=>i<|e▸hb;have:=d.mask b hb;simpa only[mL,ZH,Array.getElem?_modify,f,if_false]using this;simp only[ZH,Array.getElem?_modify]at c;split at c
 rename_i j;cases hu:u.heap[b]? with
 |none=>rw[hu]at c;cases c
 |some g=>rw[hu]at c;simp at c;have:=d.safe b g hu;cases g<;>simp only at c<;>subst c<;>first|exact h.cells _ _ _|exact this
 exact d.safe b o c
def bO.store(o:xt ok){α}(m a v){k j:ZU α}(h:bO ok N S P Q k j):bO ok N S P Q (.store m a v k) (.store m a v j):=by
 intro n u w d;have i:(∀l,v≠.agg l) ->(∀l,v≠.tuple l) ->kF ok N S Q n u w (.store m a v j) ((Sem.store m a v k).run P u):=by
  intro p q;have e1:(Sem.store m a v k).run P u=match u a with
   |some _=>if u.frozen? a then .halt (.unsupported<|.unsafePointer "a write to bytes that a string shares") u else k.run P (u.setCell a v)
   |none=>match u.farStore P a v (m==.atomic)with
    |.ok (w,_)=>k.run P w
    |.error h=>.halt h u:=by
   cases v<;>first|rfl|exact absurd rfl (p _)|exact absurd rfl<|q _
  rw[e1];split
  rename_i v0 y;obtain⟨r,c,h3⟩:=d.cell y;split
  exact bT (by simp);rename_i t;have g:¬w.frozen? a=Z:=by rw[xf d c];exact t
  refine u4 (u1:=u.setCell a v) (w1:=w.setCell a v) (z:=j) (ev:=⟨.cell a,Z,m==.atomic⟩) (λA=>?_) rfl ⟨rfl,rfl,rfl,rfl,rfl,λb _ hs=>by have f:a.block≠b:=λe=>c<|e▸hs;simp only[ZH,Array.getElem?_modify,f,if_false]⟩ ⟨c,by simpa[ZH]using h3⟩ (bY P k (u.setCell a v)).2 (h n _ _ (d.setCell o a v c))
  cases v<;>first|(simp only[ZX,r,g];rfl)|exact absurd rfl (p _)|exact absurd rfl<|q _
  obtain⟨e,x,s⟩:=vf o d P a v<|m==.atomic;simp only[x];exact bT s
 cases v with
 |agg _=>exact bT (by simp)
 |tuple _=>exact bT (by simp)
 |_=>exact i (by simp) (by simp)
def Rel.push{k u w}(a:Rel ok N S k u w)(o)(j:ok o):Rel ok N S k {u with heap:=u.heap.push o} {w with heap:=w.heap.push o}:=by
 refine⟨a.ans,by simp[a.size],λb hb=>?_,λb hb=>?_,a.high,a.env,λb i c=>?_⟩;simp only[Array.getElem?_push,a.size,a.same b hb];have d:=a.mask b hb;have f:b<u:=by obtain⟨_,_,⟨_,e⟩,_⟩|e:=d<;>exact(Array.getElem?_eq_some_iff.1 e).1
 have g:¬b=u:=by omega
 have h:¬b=w:=by have:=a.size;omega
 simpa only[mL,Array.getElem?_push,g,h,if_false]using d;simp only[Array.getElem?_push]at c;split at c
 grind
 exact a.safe b i c
def bO.new(o)(c:ok o){k j:Nat->ZU α}(h:∀r,bO ok N S P Q (k r)<|j r):bO ok N S P Q (.new o k) (.new o j):=by
 intro n u w a;exact jH (u1:={u with heap:=u.heap.push o}) (w1:={w with heap:=w.heap.push o}) (λe=>by simp only[ZX,a.size]) rfl ⟨rfl,rfl,rfl,rfl,rfl,λb hb _=>by
  have d:¬b=w:=by omega
  simp only[Array.getElem?_push,d,if_false]⟩ (h _ n _ _ (a.push o c))
def vg{α:Type}(P:Ξ)(x:ZU α):Prop:=∀u,∃r u',x.run P u=.halt r u'/\(∀v,r≠.panic v)/\r≠.goexit
def bO.getObj(r){k j:YE->ZU α}(f:vg P (k bE))(h:∀o,ok o->¬S r->bO ok N S P Q (k o) (j o)):bO ok N S P Q (.getObj r k) (.getObj r j):=by
 intro n u w b;simp only[ο];split
 trivial;rename_i o l c;by_cases a:o=bE
 subst a;obtain⟨m,q,e,g⟩:=f u;rw[e];exact bT g;obtain⟨i,d,h3⟩:=b.heap c l a;refine u4 (u1:=u) (w1:=w) (z:=j o) (ev:=⟨.obj r,Y,o.isChan⟩) (λp=>?_) rfl (.refl _ _) ⟨d,h3⟩ (bY P (k o) u).2<|h o (b.safe _ _ c) d n u w b;simp only[ZX,i];trivial
def Rel.setObj{k u w}(a:Rel ok N S k u w)(r o)(h:ok o)(f:¬S r):Rel ok N S k {u with heap:=u.heap.setIfInBounds r o} {w with heap:=w.heap.setIfInBounds r o}:=by
 refine⟨a.ans,by simp[a.size],λb hb=>?_,λb hb=>?_,a.high,a.env,λb g c=>?_⟩;simp only[Array.getElem?_setIfInBounds,a.size,a.same b hb];have d:r≠b:=λe=>f<|e▸hb;have:=a.mask b hb;simpa only[mL,Array.getElem?_setIfInBounds,d,if_false]using this;simp only[Array.getElem?_setIfInBounds]at c;split at c
 grind
 exact a.safe b g c
def bO.setObj{α}(r o)(g:ok o)(c:¬S r){k j:ZU α}(h:bO ok N S P Q k j):bO ok N S P Q (.setObj r o k) (.setObj r o j):=by
 intro n u w f;simp only[ο];split
 trivial;rename_i i m a;refine u4 (u1:={u with heap:=u.heap.setIfInBounds r o}) (w1:={w with heap:=w.heap.setIfInBounds r o}) (z:=j) (ev:=⟨.obj r,Z,o.isChan⟩) (λl=>?_) rfl ⟨rfl,rfl,rfl,rfl,rfl,λb _ hs=>by
  have d:r≠b:=λe=>c<|e▸hs;simp only[Array.getElem?_setIfInBounds,d,if_false]⟩ ⟨c,by simpa using ((Array.getElem?_eq_some_iff.1 a).1)⟩
  (by have:=(bY P k {u with heap:=u.heap.setIfInBounds r o}).2;simpa using this) (h n _ _<|f.setObj r o g c)
 simp only[ZX,((f.same _ c).trans a)];trivial
def bO.mark{α}(m)(a:m=.noRoom\/∃f,m=.extern f){k j:ZU α}(h:bO ok N S P Q k j):bO ok N S P Q (.mark m k) (.mark m j):=by intro n u w b;refine u4 (ev:=⟨.mark m,Y,Z⟩) (λc=>by simp only[ZX]) rfl (.refl _ _) ?_ (bY P k u).2<|h n u w b;obtain rfl|⟨f,rfl⟩:=a<;>trivial
def bO.env{α}{k j:SysRet->ZU α}(h:∀l,bO ok N S P Q (k<|.strings l)<|j<|.strings l):bO ok N S P Q (.sys .env k) (.sys .env j):=by intro n u w a;have e:∀x:ξ,x.sys .env=(.strings x.os.env,x):=λx=>rfl;refine u4 (ev:=⟨.output,Z,Y⟩) (λb=>by simp only[ZX,e,a.env]) rfl (.refl _ _) trivial (bY P _ u).2<|h _ n u w a
end
end
section
structure Ctx where
 ok:YE->Prop
 S:Nat->Prop
 T:YW
 F:Array Yh
 G:Array Yh
 K0:xt ok
 map:∀es c,ok (.map es c)
 mapIter:∀m a b c,ok (.mapIter m a b c)
 stringIter:∀s p,ok (.stringIter s p)
 number:∀a b,ok (.number a b)
 tX:Code->Prop
 okF:Z8->Prop
 loop:∀l,ok (.loop l)↔okF l.fn/\tX l.assign/\tX l.body/\∀j,l.pending=R j->tX j
 deferred:∀d,ok (.deferred d)↔d=φ\/d=R []
def Ctx.P(c:Ctx):Ξ:=⟨c.T,c.F⟩
def Ctx.Q(c:Ctx):Ξ:=⟨c.T,c.G⟩
def TT(c:Ctx){α:Type}(x:ZU α):Prop:=bO c.ok c.T.globals.size c.S c.P c.Q x x
section
variable{c:Ctx}
def bX{α}(a:α):TT c (ZA a):=bO.pure' a
def ae{e b x}{f:e->ZU b}(h:TT c x)(d:∀a,TT c<|f a):TT c (x>>=f):=bO.bind' h d
def FA{d b x}{f:d->b}(h:TT c x):TT c (Functor.map f x):=bO.bind h λa=>bO.pure<|f a
def qA{α}{x:ZU α}(h:vg c.P x):TT c x:=bO.stop h
def aI{a p}[Decidable p]{x y:ZU a}(h:p->TT c x)(h':¬p->TT c y):TT c (if p then x else y):=by grind
def ch{α}(s):TT c (stuck s:ZU α):=bO.stop λu=>⟨_,u,rfl,by simp⟩
def dl{α}(x):TT c (unsupported x:ZU α):=bO.stop λu=>⟨_,u,rfl,by simp⟩
def vm{α}(v):TT c (goPanic v:ZU α):=bO.panic v
def Cm(a m):TT c (load a m):=bO.load c.K0 m a λv=>bO.pure v
def FB(a v m):TT c (store a v m):=bO.store c.K0 m a v<|bO.pure ()
def pP(q):TT c (choose q):=bO.choose q λn=>bO.pure n
def kM(o)(h:c.ok o):TT c (newObj o):=bO.new o h λr=>bO.pure r
def te:TT c (mark .noRoom):=bO.mark _ (.inl rfl)<|bO.pure ()
def tg(f):TT c (mark<|.extern f):=bO.mark _ (.inr ⟨f,rfl⟩)<|bO.pure ()
def qS{α}{f:Ξ->ZU α}(h:bO c.ok c.T.globals.size c.S c.P c.Q (f c.P) (f c.Q)):TT c (program>>=f):=bO.program h
def aM{α}{f:Ξ->ZU α}(e:f c.Q=f c.P)(h:TT c (f c.P)):TT c (program>>=f):=qS (by rw[e];exact h)
def dg{α}(r){f:YE->ZU α}(a:vg c.P (f bE))(h:∀o,c.ok o->¬c.S r->TT c (f o)):TT c (getObj r>>=f):=bO.getObj r a h
def eG(r o)(h:c.ok o)(a:¬c.S r):TT c (setObj r o):=bO.setObj r o h a<|bO.pure ()
def cl{a P}(s):vg P (stuck s:ZU a):=λu=>⟨_,u,rfl,by simp⟩
def f8{c a P x}{f:c->ZU a}(h:vg P x):vg P (x>>=f):=by intro u;obtain⟨r,d,e,b⟩:=h u;exact⟨r,d,by rw[μ,e];rfl,b⟩
def bF(t):TT c (Z0 t):=by
 refine aM rfl ?_;split
 exact bX _;exact ch _
def aN(t):TT c (underlying t):=by
 refine aM rfl ?_;split
 exact bX _;exact ch _
def qT(n):TT c (cutType n):=by
 refine aM rfl ?_;split
 exact bX _;exact ch _
def cS(t):TT c (ZM t):=by
 refine ae (bF t) λi=>?_;split
 exact bX _;exact dl _
def cX(t):TT c (sizeOf t):=ae (bF t) λ_=>bX _
def xg(t):TT c (isAgg t):=by refine ae (aN t) λd=>?_;split<;>exact bX _
def Av(t):TT c (typeStr t):=by refine ae (bF t) λi=>aI (λ_=>dl _) λ_=>bX _
theorem jc(a:Y'):∀(n i:Nat) (acc:Array Θ),TT c (loadCellsFrom a i n acc)
 |0,_,_=>bX _
 |n+1,i,acc=>ae (Cm _ _) λv=>jc a n (i+1)<|acc.push v
def nu(a n):TT c (loadCells a n):=jc a n 0 #[]
theorem eQ(a:Y'):∀(vs:List Θ) (i:Nat),TT c (Yg a vs i)
 |[],_=>bX _
 |_::vs,i=>ae (FB _ _ _) λ_=>eQ a vs<|i+1
def fa(t a):TT c (Yl t a):=by refine ae (xg t) λb=>aI (λ_=>?_) λ_=>Cm _ _;exact ae (cX t) λn=>ae (nu a n) λ_=>bX _
def iL(t a v):TT c (Yf t a v):=by
 refine ae (cX t) λn=>?_;split
 exact ae (ch _) λ_=>eQ _ _ _;exact eQ _ _ _
def lH(e cs):TT c (newRow e cs):=ae (kM _<|c.K0.cells _ _ _) λ_=>bX _
def iq(t v):TT c (newVar t v):=lH _ _
def oC(t):TT c (elemOf t):=by
 refine ae (aN t) λd=>?_;split
 exact bX _;exact ch _
def ij(t cs off):TT c (part t cs off):=by
 refine ae (xg t) λb=>aI (λ_=>ae (cX t) λn=>bX _) λ_=>?_;split
 exact bX _;exact ch _
def jI(v):TT c (asIntOf v):=by
 unfold asIntOf;split
 exact bX _;exact dl _;exact ch _
def jd(v):TT c (asInt v):=ae (jI v) λ_=>bX _
def lI(v):TT c (asBool v):=by
 unfold asBool;split
 exact bX _;exact ch _
def QC(v):TT c (asString v):=by
 unfold asString;split
 exact bX _;exact ch _
def FC(v):TT c (asAgg v):=by
 unfold asAgg;split
 exact bX _;exact ch _
def aO{α}(e):TT c (runtimePanic e:ZU α):=by
 refine aM rfl ?_;cases e with
 |typeAssertion i d a m=>exact ae (oC _) λ_=>ae (iq _ _) λ_=>vm _
 |panicNil=>exact ae (oC _) λ_=>ae (iq _ _) λ_=>vm _
 |_=>exact vm _
def iw{α}(k x y b):TT c (boundsPanic k x y b:ZU α):=by exact aI (λ_=>ae (FA<|pP _) λ_=>aO _) λ_=>ae (bX _) λ_=>aO _
def lJ(v):TT c (YN v):=by
 unfold YN;split
 exact bX _;exact aO _;exact ch _
def qU(n):TT c (XT n):=by exact aI (λ_=>te) λ_=>bX _
def pT{α}(s):TT c (panicString s:ZU α):=by exact aM rfl<|vm _
end
section
variable(T:YW)(F G:Array Yh)
theorem eZ:∀(n t b:Nat),YD ⟨T,G⟩ n t b=YD ⟨T,F⟩ n t b
 |0,_,_=>rfl
 |n+1,t,b=>by
  simp only[YD,eZ n]
  try rfl
theorem mM:∀(n t u:Nat),(⟨T,G⟩:Ξ).alikeButTags n t u=(⟨T,F⟩:Ξ).alikeButTags n t u
 |0,_,_=>rfl
 |n+1,t,u=>by simp only[Program.alikeButTags,mM n]
def iM(t:Nat):(⟨T,G⟩:Ξ).packed t=(⟨T,F⟩:Ξ).packed t:=by
 simp only[Program.packed,Program.packedAs,mM T F G]
 try rfl
theorem ie:∀(n t:Nat),(⟨T,G⟩:Ξ).methodsOfAPack n t=(⟨T,F⟩:Ξ).methodsOfAPack n t
 |0,_=>rfl
 |n+1,t=>by
  simp only[Program.methodsOfAPack,ie n,iM T F G]
  try rfl
theorem je:∀(n t:Nat),(⟨T,G⟩:Ξ).namesPacked n t=(⟨T,F⟩:Ξ).namesPacked n t
 |0,_=>rfl
 |n+1,t=>by
  simp only[Program.namesPacked,je n,iM T F G]
  try rfl
def oE(t:Nat):(⟨T,G⟩:Ξ).stoodInHeld t=(⟨T,F⟩:Ξ).stoodInHeld t:=by
 simp only[Program.stoodInHeld,Program.stoodInAs,mM T F G]
 try rfl
theorem jf:∀(n t:Nat),(⟨T,G⟩:Ξ).eqGuardType n t=(⟨T,F⟩:Ξ).eqGuardType n t
 |0,_=>rfl
 |n+1,t=>by
  simp only[Program.eqGuardType,jf n]
  try rfl
end
section
variable{c:Ctx}
def kN{α}(r)(b:¬c.S r){f:Option (Z4×Nat) ->ZU α}(h:∀s,TT c<|f s):TT c (shape r>>=f):=by
 intro k u w a;have e:w.shape? r=u.shape? r:=by unfold Z9;rw[a.same _ b]
 refine jH (λd=>?_) rfl (.refl _ _)<|h _ k u w a
 simp_all
def qV{α}(r)(d:¬c.S r){f:YE->ZU α}(h:∀o,c.ok o->TT c (f o)):TT c (getObj r>>=f):=by
 intro k u w b;show kF _ _ _ _ _ _ _ (Sem.getObj r λo=>(Sem.pure o).bind f) ((Sem.getObj r λo=>(Sem.pure o).bind f).run c.P u);simp only[ο,ZO];split
 trivial;rename_i o g a;refine u4 (ev:=⟨.obj r,Y,o.isChan⟩) (λe=>?_) rfl (.refl _ _) ⟨d,(Array.getElem?_eq_some_iff.1 a).1⟩ (bY c.P (f o) u).2<|h o (b.safe _ _ a) k u w b;simp only[ZX,((b.same _ d).trans a)];trivial
def tY(r)(a:¬c.S r):TT c (YM r):=by refine kN r a λs=>aI (λ_=>bX _) λ_=>?_;refine qV r a λo _=>?_;split<;>exact bX _
def DL(a)(b:¬c.S a.block):TT c (noView a):=by exact ae (tY _ b) λ_=>aI (λ_=>dl _) λ_=>bX _
def cW(p:Ξ)(a:Y')(e:Z4):ZU Nat:=
 if p.cellsOf e=0 then pure 0 else match YD p p.depth e (a.off %p.cellsOf e)with
  |some b=>pure<|a.off/p.cellsOf e*p.bytesOf e+b
  |none=>stuck "byteOf: no such cell"
def oF(a e):cW c.Q a e=cW c.P a e:=by unfold cW;simp only[Ctx.Q,eZ c.T c.F c.G];rfl
def qW(a e):TT c (cW c.P a e):=by
 refine aI (λ_=>bX _) λ_=>?_;split
 exact bX _;exact ch _
def qX(p w a)(hs:a.spot=φ)(e m)(b:w.shape? a.block=R (e,m))(es):
 (Zk a).runT p w es=(cW p a e).runT p w es:=by
 unfold Zk cW noView YM program shape;simp only[hs,bind,ZO,ZX,b,Zj,if_true,ZA,Option.isSome_none,Bool.false_eq_true,if_false]
 grind
def fq(a):TT c (Zk a):=by
 cases hs:a.spot with
 |some s=>unfold Zk;simp only[hs];exact bX _
 |none=>
  by_cases d:c.S a.block
  intro k u w f;obtain⟨cs,e,⟨j,b⟩,i,g⟩|b:=f.mask _ d
  have e1:u.shape? a.block=R (e,0):=by simp[Z9,b]
  have r1:(Zk a).run c.P u=(cW c.P a e).run c.P u:=by rw[<-YG c.P (Zk a) u #[],<-YG c.P (cW c.P a e) u #[],qX _ _ _ hs _ _ e1]
  rw[r1];exact jH (z:=cW c.P a e) (u1:=u) (w1:=w) (λh=>by rw[qX _ _ _ hs _ _ (by simp[Z9,g]:w.shape? a.block=R (e,cs.size)) h,oF]) rfl (.refl _ _)<|qW (c:=c) a e k u w f;have e1:u.shape? a.block=φ:=by simp[Z9,b,bE]
  have r1:(Zk a).run c.P u=.halt (.unsupported<|.unsafePointer "memory seen as another type") u:=by unfold Zk noView YM program shape getObj stuck unsupported;simp[hs,bind,ZO,ο,e1,b,ZA,bE]
  rw[r1];exact bT (by simp);unfold Zk;simp only[hs];refine aM ?_<|ae (DL a d) λ_=>kN _ d λs=>?_;simp only[Ctx.Q,Ctx.P,eZ c.T c.F c.G];rfl;split
  refine aI (λ_=>bX _) λ_=>?_;split
  exact bX _;exact ch _;exact ch _
def DM(a m b):TT c (partAt a m b):=by exact ae (fq _) λ_=>ae (fq _) λ_=>bX _
def Ah(a f):TT c (fieldPlace a f):=by exact ae (cX _) λ_=>aI (λ_=>DM _ _ _) λ_=>bX _
end
end
section
section
variable{c:Ctx}
attribute [simp] ae FA bX ch dl vm aO iw pT qU aN bF cX cS jI jd lJ FC lI QC ij fa iL iq lH nu eQ Cm FB pP oC Ah xg qT Av
theorem Cn{a b:Type}{f:a->ZU b}(h:∀x,TT c<|f x):∀l:List a,TT c (l.mapM f)
 |[]=>bX _
 |x::l=>by rw[List.mapM_cons];exact ae (h x) λ_=>ae (Cn h l) λ_=>bX _
def xh{a b:Type}{f:a->ZU b}(h:∀x,TT c<|f x)(l:Array a):TT c (l.mapM f):=by rw[Array.mapM_eq_mapM_toList];exact FA<|Cn h _
@[simp] def gT (v):TT c (Zi v):=by unfold Zi;split<;>simp
@[simp] def DN(t v):TT c (Y7 t v):=by simp[Y7]
@[simp] def Aw(t a v):TT c (YR t a v):=by simp[YR]
@[simp] def Ay (s v f):TT c (Instr.fieldAt s v f):=by repeat' (first|(simp)|(refine ae ?_ λ_=>?_)|split)
@[simp] def Az (t x i):TT c (Ze t x i):=by
  unfold Ze
  repeat' (first|assumption|(simp)|(with_reducible first|refine ae ?_ λ_=>?_|apply FA|refine aI (λ_=>?_) λ_=>?_)|split|dsimp only)
@[simp] def th (x y b):TT c (Instr.sliceBound x y b):=by repeat' (first|(simp)|(refine ae ?_ λ_=>?_)|split)
@[simp] def kO (s len a l h m):TT c (XZ s len a l h m):=by
  unfold XZ
  repeat' (first|(simp)|(refine ae ?_ λ_=>?_)|split)
@[simp] def FD (t x l h m):TT c (Instr.slice t x l h m):=by repeat' (first|(simp)|(refine ae ?_ λ_=>?_)|split)
@[simp] def AA (t x l h m):TT c (Instr.sliceAt t x l h m):=by repeat' (first|(simp)|(refine ae ?_ λ_=>?_)|split)
@[simp] def FE (t x i):TT c (Instr.index t x i):=by repeat' (first|(simp)|(refine ae ?_ λ_=>?_)|split)
@[simp] def FF (t x f):TT c (Instr.field t x f):=by repeat' (first|(simp)|(refine ae ?_ λ_=>?_)|split)
@[simp] def AB (x i):TT c (Instr.extract x i):=by
  unfold Instr.extract
  repeat' (first|(simp)|split)
@[simp] def FH(t):TT c (Instr.alloc t Z<|.tuple #[]):=by simp[Instr.alloc]
@[simp] def R2(t v):TT c (Instr.box t v):=by simp[Instr.box]
@[simp] def FI (t a):TT c (Instr.build t a):=by repeat' (first|(simp)|(refine xh (λ_=>?_) _)|(refine ae ?_ λ_=>?_)|split)
@[simp] def tj (t len a):TT c (Instr.buildSlice t len a):=by repeat' (first|assumption|(simp)|(first|refine ae ?_ λ_=>?_|apply FA|refine aI (λ_=>?_) λ_=>?_)|split|dsimp only)
@[simp] def vh (t l k):TT c (XM t l k):=by
  unfold XM
  repeat' (first|assumption|(simp)|(first|refine ae ?_ λ_=>?_|apply FA|refine aI (λ_=>?_) λ_=>?_)|split|dsimp only)
@[simp] def AC (t r):TT c (Instr.makeMap t r):=by
  unfold Instr.makeMap
  repeat' (first|(simp;done)|exact kM _ (c.map _ _)|(refine ae ?_ λ_=>?_)|split)
@[simp] def oG (t x):TT c (Instr.makeInterface t x):=by repeat' (first|(simp)|(refine ae ?_ λ_=>?_)|split)
@[simp] def xi(f a b):TT c (Instr.makeFunc f a b):=by simp[Instr.makeFunc]
@[simp] def FJ (o x):TT c (Op.unary o x):=by unfold Op.unary Zx XL;split<;>simp
@[simp] def xj (x):TT c (Instr.panic x):=by
  unfold Instr.panic Instr.panicnil
  repeat' (first|(simp;done)|exact bO.env λ_=>bO.pure _|(refine aM rfl ?_)|(refine ae ?_ λ_=>?_)|split)
@[simp] def tk (x t a k):TT c (Instr.typeAssert x t a k):=by repeat' (first|(simp)|(refine ae ?_ λ_=>?_)|split)
@[simp] def xk (x):TT c (Yw x):=by unfold Yw;split<;>simp
@[simp] def Ai (s n x):TT c (υ s n x):=by unfold υ;split<;>simp
@[simp] def K4 (a t x):TT c (XK a t x):=by
  unfold XK
  repeat' (first|(simp)|(refine ae ?_ λ_=>?_)|split)
@[simp] def R3 (a t x):TT c (Builtin.cap_ a t x):=by
  unfold Builtin.cap_
  repeat' (first|(simp)|(refine dg _ (cl _) λ_ _ _=>?_)|(refine ae ?_ λ_=>?_)|split)
@[simp] def R4 (a t x):TT c (Builtin.len_ a t x):=by
  unfold Builtin.len_
  repeat' (first|(simp)|(refine dg _ (cl _) λ_ _ _=>?_)|(refine ae ?_ λ_=>?_)|split)
@[simp] def K5 (x y):TT c (Builtin.min2 x y):=by
  unfold Builtin.min2 Yv
  repeat' (first|(simp)|split)
@[simp] def K6 (x y):TT c (Builtin.max2 x y):=by
  unfold Builtin.max2 Yv
  repeat' (first|(simp)|split)
end
end
section
section
variable{c:Ctx}
def aU{α}(t){f:TypeDesc->ZU α}(h:∀d,c.P.underlying t=R d->TT c (f d)):TT c (underlying t>>=f):=by
 unfold underlying;rw[bind_assoc];refine aM rfl ?_;cases hd:c.P.underlying t with
 |some d=>exact h d hd
 |none=>exact qA<|f8<|cl _
def oH{α}(t){f:TypeInfo->ZU α}(h:∀i,c.P.info? t=R i->TT c (f i)):TT c (Z0 t>>=f):=by
 unfold Z0;rw[bind_assoc];refine aM rfl ?_;cases hd:c.P.info? t with
 |some d=>exact h d hd
 |none=>exact qA<|f8<|cl _
def Co(t:Z4)(a b:Y'):ZU Bool:=do
 let(a,b):=((<-χ a).1,(<-χ b).1)
 if a.block==b.block&&a.block<(<-program).globals.size then return (<-Zk a)==(<-Zk b)
 let .named "sync.copyChecker" _:=(<-Z0 t).desc|unsupported .addressObserved
 if a==b then pure Z else unsupported .addressObserved
def mN(t:Z4)(a b:Y'):ZU Bool:=do
 if a.block==b.block&&a.block<(<-program).globals.size then return (<-Zk a)==(<-Zk b)
 let .named "sync.copyChecker" _:=(<-Z0 t).desc|unsupported .addressObserved
 if a==b then pure Z else unsupported .addressObserved
def ft(T:YW)(t:Z4):Prop:=∀F i u,(⟨T,F⟩:Ξ).info? t=R i->i.desc≠.named "sync.copyChecker" u
variable(t:Z4)(P:Ξ)(u:ξ)(a b:Y')
def oI(b:ft c.T t)(x:ZU Bool):TT c (do
 let .named "sync.copyChecker" _:=(<-Z0 t).desc|unsupported .addressObserved
 x):=by
 refine oH t λi hi=>?_;split
 rename_i u a;exact absurd a<|b _ _ _ hi;simp
def mO(b:ft c.T t)(x:ZU Bool):vg c.P (do
 let .named "sync.copyChecker" _:=(<-Z0 t).desc|unsupported .addressObserved
 x):=by
 intro u;unfold Z0 program stuck unsupported;simp only[bind,ZO,ο];cases hi:c.P.info? t with
 |none=>exact⟨_,u,rfl,by simp⟩
 |some i=>
  simp only[ZA,ZO];split
  rename_i u a;exact absurd a<|b _ _ _ hi;simp
def DO(d:ft c.T t)(a b):TT c (mN t a b):=by refine aM rfl<|aI (λ_=>?_) λ_=>oI t d _;exact ae (fq _) λ_=>ae (fq _) λ_=>bX _
def xm(d:ft c.T t)(a b)(h:a.block≠b.block\/c.T.globals.size<=a.block):vg c.P (mN t a b):=by
 intro u;have hc:¬((a.block==b.block&&decide (a.block<c.P.globals.size))=Z):=by
  show¬((a.block==b.block&&decide (a.block<c.T.globals.size))=Z)
  grind
 have e:(mN t a b).run c.P u=(do
  let .named "sync.copyChecker" _:=(<-Z0 t).desc|unsupported .addressObserved
  if a==b then pure Z else unsupported .addressObserved:ZU Bool).run c.P u:=by
  unfold mN program;simp only[bind,ZO,ο,hc,Bool.false_eq_true,if_false]
 rw[e];exact mO t d _ u
def dR(r):(∃a,(ZT r).run P u=.ok a u)\/∃e,(ZT r).run P u=.halt e u/\(∀v,e≠.panic v)/\e≠.goexit:=by
 unfold ZT shape getObj;simp only[bind,ZO,ο];split
 simp;simp only[ο];split
 simp;split<;>exact .inl ⟨_,rfl⟩
 simp
def gG{u r}(h:u.heap[r]?=R bE):(ZT r).run P u=.ok φ u:=by unfold ZT shape getObj;simp[ο,h,bE]
def jg:(χ a).run P u=((ZT a.block).run P u).andThen λx w=>.ok (x.getD (a,Y)) w:=by unfold χ;simp
def xn:Co t a b=χ a>>=λx=>χ b>>=λy=>mN t x.1 y.1:=rfl
def qY(g:ft c.T t)(a b u)(h:(u.heap[a.block]?=R bE/\c.T.globals.size<=a.block)\/(u.heap[b.block]?=R bE/\c.T.globals.size<=b.block)):
 ∃e i,(Co t a b).run c.P u=.halt e i/\(∀v,e≠.panic v)/\e≠.goexit:=by
 rw[xn,μ,jg];obtain⟨k,e1⟩|⟨e,e1,d⟩:=dR c.P u a.block
 rw[e1];simp only[Z1];rw[μ,jg];obtain⟨j,e2⟩|⟨e,e2,d⟩:=dR c.P u b.block
 rw[e2];simp only[Z1];refine xm t g _ _ ?_ u;obtain⟨h,f⟩|⟨h,f⟩:=h
 rw[gG c.P h]at e1;cases e1
 exact .inr f;rw[gG c.P h]at e2
 grind
 rw[e2];exact⟨_,_,rfl,d⟩;rw[e1];exact⟨_,_,rfl,d⟩
def gH(r){k u w}(d:Rel c.ok c.T.globals.size c.S k u w)(h:¬(c.S r/\u.heap[r]?=R bE)):
 kF c.ok c.T.globals.size c.S c.Q k u w (ZT r) ((ZT r).run c.P u):=by
 by_cases b:c.S r
 obtain⟨cs,e,⟨j,f⟩,i,g⟩|f:=d.mask r b
 ·have e1:∀a,(ZT r).runT c.P u a=(.ok φ u,a):=λa=>by unfold ZT shape;simp only[bind,ZO,ZX,Z9,f,Zj,if_true,ZA]
  have e2:∀a,(ZT r).runT c.Q w a=(.ok φ w,a):=λa=>by unfold ZT shape;simp only[bind,ZO,ZX,Z9,g,Zj,if_true,ZA]
  rw[<-YG c.P _ u #[],e1]
  exactλ_=>⟨w,#[],λa=>by rw[e2];simp,by rw[show u.drawn+k-u.drawn=k by omega];exact d,.refl _ _,by simp⟩
 ·exact absurd ⟨b,f⟩ h
 refine(?_:TT c (ZT r)) k u w d;unfold ZT;refine kN r b λs=>aI (λ_=>bX _) λ_=>?_;refine qV r b λo _=>?_;split<;>exact bX _
def FK(j:ft c.T t)(a b):TT c (Co t a b):=by
 intro k u w q;by_cases p:c.S a.block/\u.heap[a.block]?=R bE
 obtain⟨e,z,l,i⟩:=qY (c:=c) t j a b u<|.inl ⟨p.2,q.high _ p.1⟩;rw[l];exact bT i;by_cases hb:c.S b.block/\u.heap[b.block]?=R bE
 obtain⟨e,z,l,i⟩:=qY (c:=c) t j a b u<|.inr ⟨hb.2,q.high _ hb.1⟩;rw[l];exact bT i;have g:∀(d:Y') (n:ξ),Rel c.ok c.T.globals.size c.S k u n->¬(c.S d.block/\u.heap[d.block]?=R bE) ->∀{s:Type} (f:Y'×Bool->ZU s),(∀x,TT c<|f x) ->kF c.ok c.T.globals.size c.S c.Q k u n (χ d>>=f) ((χ d>>=f).run c.P u):=by
  intro d n m hd s f A;have h0:=gH (c:=c) d.block m hd;have h:(χ d>>=f)=(ZT d.block).bind λx=>f (x.getD (d,Y)):=by unfold χ;rw[bind_assoc];rfl
  rw[h];obtain⟨v,e1⟩|⟨e,e1,o⟩:=dR c.P u d.block
  rw[e1]at h0;exact ip e1 h0 λr r1=>A _ _ _ _ r1;rw[Za,e1];exact bT o
 have h0:=gH (c:=c) a.block q p;have h:Co t a b=(ZT a.block).bind λx=>χ b>>=λy=>mN t (x.getD (a,Y)).1 y.1:=by
  rw[xn]
  conv=>lhs;unfold χ
  rw[bind_assoc];rfl
 rw[h];obtain⟨v,e1⟩|⟨e,e1,o⟩:=dR c.P u a.block
 rw[e1]at h0;refine ip e1 h0 λr r1=>?_;rw[show u.drawn+k-u.drawn=k by omega]at r1⊢;exact g b r r1 hb _ λx=>DO t j _ _;rw[Za,e1];exact bT o
def Scalar(T:YW)(t:Z4):Prop:=(⟨T,#[]⟩:Ξ).underlying t=R .bool\/(⟨T,#[]⟩:Ξ).underlying t=R .string\/(∃k,(⟨T,#[]⟩:Ξ).underlying t=R (.int k))/\ft T t
def iN(f:Scalar c.T t)(x y):∀d,TT c (Zg d t x y)
 |0=>dl _
 |d+1=>by
  unfold Zg;refine aU t λe b=>?_;have a:(⟨c.T,#[]⟩:Ξ).underlying t=R e:=b;obtain h|h|⟨⟨k,h⟩,hn⟩:=f
  rw[h]at a;cases a;dsimp only;split<;>first|exact bX _|exact ch _|contradiction
  rw[h]at a;cases a;dsimp only;split<;>first|exact bX _|exact ch _|contradiction
  rw[h]at a;cases a;dsimp only;split<;>first|contradiction|exact bX _|exact ch _|exact dl _|exact aI (λ_=>bX _) (λ_=>ch _)|exact FK t hn _ _
def Flat(T:YW)(t:Z4):Prop:=Scalar T t\/∃fs,(⟨T,#[]⟩:Ξ).underlying t=R (.struct fs)/\∀f∈fs,Scalar T f.type
theorem xp{e d:Type}{f:e->d->ZU (ForInStep d)}:∀(l:List e) (b:d),(∀a∈l,∀b,TT c<|f a b) ->TT c (forIn l b f)
 |[],b,_=>bX _
 |x::l,b,h=>by
  rw[List.forIn_cons];refine ae (h x (by simp) b) λr=>?_;cases r with
  |done b=>exact bX _
  |yield b=>exact xp l b λa g=>h a (by grind)
def oJ{e d:Type}{f}(l:Array e)(b:d)(h:∀a∈l,∀b,TT c<|f a b):TT c (forIn l b f):=by rw[<-Array.forIn_toList];exact xp _ _ λa g=>h a (by grind)
def kt(k:Flat c.T t)(x y):∀d,TT c (Zg d t x y)
 |0=>dl _
 |d+1=>by
  obtain k|⟨fs,h,hf⟩:=k
  exact iN t k x y _;unfold Zg;refine aU t λe m=>?_;have i:(⟨c.T,#[]⟩:Ξ).underlying t=R e:=m;rw[h]at i;cases i;have loop:∀(g a:Array Θ),TT c (do
   for f in fs do
    if f.name≠ "_"then
     if !(<-Zg d f.type (<-part f.type g f.offset) (<-part f.type a f.offset))then return Y
   pure Z:ZU Bool):=by
   intro g a;refine ae (oJ _ _ λf l b=>?_) λr=>?_;refine aI (λ_=>?_) λ_=>bX _;refine ae (ij _ _ _) λ_=>ae (ij _ _ _) λ_=>ae (iN _ (hf f l) _ _ _) λ_=>?_;exact aI (λ_=>bX _) λ_=>bX _;obtain⟨r1,r2⟩:=r;cases r1<;>exact bX _
  dsimp only;split<;>first|contradiction|skip
  rename_i j g a n;cases n
  refine aM (by rw[show c.Q.stoodInHeld t=c.P.stoodInHeld t from oE c.T c.F c.G t]) ?_;refine aI (λ_=>ae (dl _) λ_=>loop g a) λ_=>loop g a;exact ch _
end
end
section
def ig{α:Type}(P:Ξ)(x:ZU α)(u:ξ):Prop:=∃r u',x.run P u=.halt r u'/\(∀v,r≠.panic v)/\r≠.goexit
def bz{a P u}(x):ig P (unsupported x:ZU a) u:=⟨_,u,rfl,by simp⟩
def dr{c a P x}{f:c->ZU a}{u}(h:ig P x u):ig P (x>>=f) u:=by obtain⟨r,d,e,b⟩:=h;exact⟨r,d,by rw[μ,e];rfl,b⟩
def cP{d b P x}{f:d->ZU b}{u u1 a}(e:x.run P u=.ok a u1)(h:ig P (f a) u1):ig P (x>>=f) u:=by obtain⟨r,i,g,c⟩:=h;exact⟨r,i,by rw[μ,e];exact g,c⟩
def fc{c:Ctx}{b k u w}{x y:ZU b}(h:ig c.P x u):kF c.ok c.T.globals.size c.S c.Q k u w y (x.run c.P u):=by obtain⟨r,d,e,a⟩:=h;rw[e];exact bT a
def xq{d c P x}{f:d->ZU c}{u}(h:(∃a,x.run P u=.ok a u)\/ig P x u)(b:∀a,ig P (f a) u):ig P (x>>=f) u:=by
 obtain⟨a,e⟩|h:=h
 exact cP e<|b a;exact dr h
section
variable{c:Ctx}
def KB(P v u):(∃a,(asInt v).run P u=.ok a u)\/ig P (asInt v) u:=by
 cases v with
 |int k n=>exact .inl ⟨n,rfl⟩
 |pointer a=>cases a with
  |none=>exact .inr ⟨_,u,rfl,by simp⟩
  |some a=>exact .inr ⟨_,u,rfl,by simp⟩
 |_=>exact .inr ⟨_,u,rfl,by simp⟩
def jh(P u r):(shape r).run P u=.ok (u.shape? r) u:=rfl
def kP(P u):program.run P u=.ok P u:=rfl
def xu(P){u r}(h:u.heap[r]?=R bE):(YM r).run P u=.ok (R (⟨0,0,R 0⟩,0)) u:=by unfold YM shape getObj;simp[ο,Z9,h,bE]
def AD(P){u r e}(h:u.shape? r=R e):(YM r).run P u=.ok φ u:=by unfold YM shape getObj;simp[ο,h]
def mP{u:ξ}{r}(h:u.heap[r]?=R bE):u.shape? r=φ:=by simp[Z9,h,bE]
def yO(P u a y t)(h:u.heap[a.block]?=R bE):ig P (ZW #[] t #[Ψ (R a),y]) u:=by
 refine xq (KB P y u) λn=>?_;dsimp only;by_cases h0:n=0
 rw[if_pos h0];refine cP (xu P h) ?_;exact dr<|bz _;rw[if_neg h0];by_cases b:n<0
 rw[if_pos b];exact dr<|bz _;rw[if_neg b];refine cP (jh P u a.block) ?_;rw[mP h];exact bz _
def xy(P){u r e}(h:u.shape? r=R e)(es):(YM r).runT P u es=(.ok φ u,es):=by unfold YM shape getObj;simp only[bind,ZO,ZX,h,ZA,Zj,if_true]
def AE{b k u w y}{a:b}(d:Rel c.ok c.T.globals.size c.S k u w)(h:∀es,y.runT c.Q w es=(.ok a w,es)):kF c.ok c.T.globals.size c.S c.Q k u w y (.ok a u):=λ_=>⟨w,#[],λes=>by rw[h];simp,by rw[show u.drawn+k-u.drawn=k by omega];exact d,.refl _ _,by simp⟩
def oK(p d e off n):Y5 p d e 0 off n=φ:=by
 unfold Y5;dsimp only;split
 rfl;obtain _|b:=YD p d e<|off %p.cellsOf e
 rfl
 grind
theorem ku(T:YW)(F G:Array Yh):∀(n t b:Nat),cellOfByte ⟨T,G⟩ n t b=cellOfByte ⟨T,F⟩ n t b
 |0,_,_=>rfl
 |n+1,t,b=>by
  simp only[cellOfByte,ku T F G n]
  try rfl
def oL(c:Ctx)(d e m off:Nat)(n):Y5 c.Q d e m off n=Y5 c.P d e m off n:=by unfold Y5;simp only[Ctx.Q,eZ c.T c.F c.G,ku c.T c.F c.G];rfl
def vj(a y t):TT c (ZW #[] t #[Ψ (R a),y]):=by
 intro k u w i;by_cases h:c.S a.block
 obtain⟨cs,e,⟨C,d⟩,F,l⟩|d:=i.mask _ h
 ·have e1:u.shape? a.block=R (e,0):=by simp[Z9,d]
  have e2:w.shape? a.block=R (e,cs.size):=by simp[Z9,l]
  revert k u w
  intro k u w i d l e1 e2;unfold ZW;obtain⟨n,m⟩|v:=KB c.P y u
  have o:=jd (c:=c) y k u w i;rw[m]at o;refine ip m o λq r1=>?_;dsimp only;have j:∃b f,q.heap[a.block]?=R (.cells b e f):=by
   obtain⟨b,D,⟨G,g⟩,A,r⟩|g:=r1.mask _ h
   rw[d]at g;cases g
   exact⟨b,A,r⟩;rw[d]at g;cases g
  obtain⟨b,E,j⟩:=j;by_cases h0:n=0
  rw[if_pos h0];refine ip (AD c.P e1) (AE r1 λz=>xy c.Q (e:=(e,b.size)) (by simp[Z9,j]) z) λB r2=>?_;exact bX (c:=c) _ _ u B r2;rw[if_neg h0];refine fc ?_;by_cases h3:n<0
  rw[if_pos h3];exact dr<|bz _;rw[if_neg h3];refine cP (jh c.P u a.block) ?_;rw[e1];refine cP (kP c.P u) ?_;rw[Nat.zero_div,oK];exact bz _;exact fc<|dr v
 exact fc<|yO _ _ _ _ _ d;refine(?_:TT c _) k u w i;unfold ZW;refine ae (jd _) λn=>?_;dsimp only;refine aI (λ_=>ae (tY _ h) λ_=>aI (λ_=>ae (dl _) λ_=>bX _) λ_=>bX _) λ_=>?_;have rest:TT c (shape a.block>>=λx=>match x with
  |some (e,cells)=>program>>=λp=>match Y5 p p.depth e (cells/p.cellsOf e) a.off n with
    |some off=>pure<|Value.pointer<|R {block:=a.block,off:=off,spot:=a.spot}
    |none=>unsupported<|Unsupported.unsafePointer "Add"
  |x=>unsupported (Unsupported.unsafePointer "Add")):=by
  refine kN _ h λs=>?_;split
  refine aM ?_ ?_
  ·rw[oL c];rfl
  split
  ·exact bX _
  exact dl _;exact dl _
 exact aI (λ_=>ae (dl _) λ_=>rest) λ_=>rest
def lK{α}(d){f:Y'×Bool->ZU α}(h:∀x,TT c<|f x)(hd:∀u,u.heap[d.block]?=R bE->c.T.globals.size<=d.block->ig c.P (f (d,Y)) u):TT c (χ d>>=f):=by
 intro k u w b;have g:(χ d>>=f)=(ZT d.block).bind λx=>f (x.getD (d,Y)):=by unfold χ;rw[bind_assoc];rfl
 rw[g];by_cases a:c.S d.block/\u.heap[d.block]?=R bE
 exact fc<|cP (gG c.P a.2)<|hd u a.2<|b.high _ a.1;have h0:=gH d.block b a;obtain⟨l,e1⟩|⟨e,e1,i⟩:=dR c.P u d.block
 rw[e1]at h0;exact ip e1 h0 λj r1=>h _ _ _ _ r1;rw[Za,e1];exact bT i
def xz(a l):TT c (asNumber a l):=ae (kM _<|c.number _ _) λ_=>bX _
def eR(x y t):TT c (ZW #[] t #[x,y]):=by
 cases x with
 |pointer a=>
  obtain _|a:=a
  refine ae (jd _) λn=>?_;exact aI (λ_=>dl _) λ_=>aI (λ_=>ae (dl _) λ_=>dl _) λ_=>dl _;exact vj a y t
 |_=>exact ch _
def kQ(t x y):TT c (movedNumber t x y):=by
 refine aU t λd _=>?_;dsimp only;have a:TT c (match x with
  |Ψ (R n)=>χ n>>=λz=>ZW #[] t #[Ψ (R z.1),y]>>=λv=>match v with
   |Ψ (R b)=>asNumber b z.2
   |v=>pure v
  |_=>ZW #[] t #[x,y]):=by
  split
  refine lK _ (λz=>ae (eR _ _ _) λv=>?_) λu h _=>?_
  ·split
   ·exact xz _ _
   exact bX _
  exact dr<|yO _ _ _ _ _ h;exact eR _ _ _
 refine aI (λ_=>ae (dl _) λ_=>?_) λ_=>?_<;>exact a
def qi(t x y):TT c (movedPointer t x y):=by
 unfold movedPointer;dsimp only;split
 rename_i a;intro k u w f;by_cases b:c.S a.block/\u.heap[a.block]?=R bE
 refine fc<|cP (gG c.P b.2) ?_;rw[if_neg (by simp)];exact yO _ _ _ _ _ b.2;have h0:=gH (c:=c) a.block f b;obtain⟨h,e1⟩|⟨e,e1,d⟩:=dR c.P u a.block
 rw[e1]at h0;refine ip e1 h0 λg r1=>?_;refine(?_:TT c _) _ _ _ r1;exact aI (λ_=>ae (dl _) λ_=>eR _ _ _) λ_=>eR _ _ _;refine fc<|dr ⟨_,_,e1,d⟩;exact eR _ _ _
def nv(a b):TT c (Op.twoPlaces a b):=by have rest:TT c (Zk a>>=λx=>Zk b>>=λy=>pure (x,y)):=ae (fq _) λ_=>ae (fq _) λ_=>bX _;exact aI (λ_=>ae (dl _) λ_=>rest) λ_=>rest
def kw(a b u)(h:a.block≠b.block\/c.T.globals.size<=a.block):ig c.P (Op.twoPlaces a b) u:=by
 refine cP (kP _ _) ?_;rw[if_pos];exact dr<|bz _;obtain h|h:=h
 ·grind
 have:c.P.globals.size<=a.block:=h;simp[this]
def JG{α}(a b){f:Y'->Y'->ZU α}(g:∀x y,TT c<|f x y)(hd:∀x y u,x.block≠y.block\/c.T.globals.size<=x.block->ig c.P (f x y) u):TT c (χ a>>=λx=>χ b>>=λy=>f x.1 y.1):=by
 refine lK a (λx=>lK b (λy=>g _ _) λu h j=>?_) λu h j=>?_
 grind
 unfold χ;rw[bind_assoc];refine xq ?_ λd=>?_;obtain⟨d,e⟩|⟨r,e,i⟩:=dR c.P u b.block
 ·exact .inl ⟨d,e⟩
 exact .inr ⟨r,u,e,i⟩
 grind
def AF(k a b):TT c (χ a>>=λx=>χ b>>=λy=>Op.addrSub k x.1 y.1):=JG a b (λ_ _=>ae (nv _ _) λ_=>bX _) λx y u h=>dr<|kw x y u h
def AG(op a b):TT c (χ a>>=λx=>χ b>>=λy=>Op.addrCmp op x.1 y.1):=by refine JG a b (λ_ _=>ae (nv _ _) λ_=>?_) λx y u h=>dr<|kw x y u h;dsimp only;split<;>first|exact bX _|exact dl _
def vl{α}(r){f:Option (Z4×Nat) ->ZU α}(h:∀s,TT c<|f s)(j:∀u,ig c.P (f φ) u)(hs:∀e m n,f (R (e,m))=f (R (e,n))):TT c (shape r>>=f):=by
 by_cases b:c.S r
 intro k u w d;obtain⟨cs,e,⟨o,a⟩,l,g⟩|a:=d.mask r b
 have e1:u.shape? r=R (e,0):=by simp[Z9,a]
 refine jH (w1:=w) (λi=>?_) rfl (.refl _ _)<|h _ k u w d;show(Sem.shape r λs=>(Sem.pure s).bind f).runT c.Q w i=_;simp only[ZX,e1,(by simp[Z9,g]:w.shape? r=R (e,cs.size)),ZO,hs e cs.size 0];refine fc<|cP (jh c.P u r) ?_;rw[mP a];exact j u;exact kN r b h
def xA(k a n):TT c (XJ k a n):=by
 refine vl _ (λs=>?_) (λu=>bz _) λe m n=>rfl;split
 refine ae (bF _) λi=>?_;exact aI (λ_=>ae (dl _) λ_=>ae (fq _) λ_=>bX _) λ_=>ae (fq _) λ_=>bX _;simp
def tn(k a n u)(h:u.heap[a.block]?=R bE):ig c.P (XJ k a n) u:=by refine cP (jh c.P u _) ?_;rw[mP h];exact bz _
def AH(k a n):TT c (χ a>>=λx=>XJ k x.1 n):=lK a (λ_=>xA _ _ _) λu h _=>tn _ _ _ _ h
def xB(o k x y):TT c (Zx o k x y):=by unfold Zx;split<;>first|exact bX _|exact ch _
def DP(o k x y):TT c (Op.intDiv o k x y):=by refine aI (λ_=>aO _) λ_=>?_;split<;>first|exact bX _|exact ch _
def AI(o k x y):TT c (XL o k x y):=by unfold XL;split<;>first|exact bX _|exact ch _
def DQ(o x y):TT c (Op.intCmp o x y):=by unfold Op.intCmp;split<;>first|exact bX _|exact ch _
def FL(o k x j y):TT c (Op.shift o k x j y):=by refine aI (λ_=>aO _) λ_=>?_;split<;>first|exact bX _|exact ch _
def G4(o k x y):TT c (Op.floatArith o k x y):=by
 unfold Op.floatArith;have rest:∀r:Option Nat,TT c (match r with
  |some r=>pure<|Value.float k r
  |none=>do pure (Value.float k (<-choose (Question.nanBits k x y)))):=by
  intro r;split
  simp;simp
 split<;>first|exact ae (bX _) λ_=>rest _|exact ae (ch _) λ_=>rest _
def pC(o k x y):TT c (Op.floatCmp o k x y):=by unfold Op.floatCmp;split<;>first|exact bX _|exact ch _
def xC(o x y):TT c (Yv o x y):=by unfold Yv;split<;>first|exact bX _|exact ch _|exact aI (λ_=>dl _) λ_=>bX _
def tp(s b k):TT c (Conv.floatToInt s b k):=by
 unfold Conv.floatToInt;split
 exact aI (λ_=>bX _) λ_=>ae (pP _) λ_=>bX _;simp
def qj(s b k):TT c (Conv.floatToFloat s b k):=by repeat' (first|assumption|exact bX _|exact ch _|exact pP _|(refine ae ?_ λ_=>?_)|(refine aI (λ_=>?_) λ_=>?_)|split|dsimp only)
def AJ(o k x y):TT c (Op.Complex.arith o k x y):=by refine ae (G4 _ _ _ _) λv=>?_;split<;>first|exact bX _|exact ch _
def FM(o k x y):TT c (Op.Complex.cmp o k x y):=ae (pC _ _ _ _) λ_=>lI _
def DR(s x k):TT c (Op.Complex.conv s x k):=by refine aI (λ_=>bX _) λ_=>ae (qj _ _ _) λv=>?_;split<;>first|exact bX _|exact ch _
def vp(o k a b d e):TT c (Op.complexOp o k a b d e):=by
 unfold Op.complexOp Op.Complex.product Op.Complex.quotient Op.Complex.corrected Op.Complex.add Op.Complex.sub Op.Complex.mul Op.Complex.quo
 repeat' (first|assumption|exact bX _|exact ch _|(with_reducible exact AJ _ _ _ _)|(with_reducible exact FM _ _ _ _)|(with_reducible exact DR _ _ _)|(with_reducible refine ae ?_ λ_=>?_)|(with_reducible refine aI (λ_=>?_) λ_=>?_)|split|dsimp only)
def ji(o t x y)(h:o=.eql\/o=.neq->TT c (Op.equal t x y)):TT c (binOp o t x y):=by
 unfold binOp;split
 all_goals first
  |exact FL _ _ _ _ _
  |exact xC _ _ _
  |exact kQ _ _ _
  |exact AF _ _ _
  |exact AG _ _ _
  |exact AH _ _ _
  |exact dl _
  |exact ch _
  |exact ae (h<|.inl rfl) λ_=>bX _
  |exact ae (h<|.inr rfl) λ_=>bX _
  |skip
 ·refine aI (λ_=>ch _) λ_=>?_;split<;>first|exact xB _ _ _ _|exact DP _ _ _ _|exact AI _ _ _ _|exact DQ _ _ _
 refine aI (λ_=>ch _) λ_=>?_;split<;>first|exact G4 _ _ _ _|exact pC _ _ _ _
 exact aI (λ_=>ch _) λ_=>vp _ _ _ _ _ _;refine ae (aN _) λd=>?_;exact aI (λ_=>qi _ _ _) λ_=>kQ _ _ _
def fE(t x y)(h:(x=.nilIface\/y=.nilIface)\/x=ZL φ 0 0\/y=ZL φ 0 0\/x=.nilFunc\/y=.nilFunc\/x=.map φ\/y=.map φ):∀d,TT c (Zg d t x y)
 |0=>dl _
 |d+1=>by unfold Zg;refine aU t λe b=>?_;dsimp only;obtain(rfl|rfl)|rfl|rfl|rfl|rfl|rfl|rfl:=h<;>split<;>first|exact bX _|exact ch _|exact dl _|(rename_i a;cases a;done)|simp_all
def ii(t)(f:Scalar c.T t)(x y):∀d,TT c (X9 d t x y)
 |0=>dl _
 |d+1=>by refine aU t λe b=>?_;have a:(⟨c.T,#[]⟩:Ξ).underlying t=R e:=b;obtain h|h|⟨⟨k,h⟩,_⟩:=f<;>(rw[h]at a;cases a;exact bX _)
def iO(t)(i:Flat c.T t)(x y):∀d,TT c (X9 d t x y)
 |0=>dl _
 |d+1=>by
  obtain i|⟨fs,h,hf⟩:=i
  exact ii t i x y _;unfold X9;refine aU t λe k=>?_;have a:(⟨c.T,#[]⟩:Ξ).underlying t=R e:=k;rw[h]at a;cases a;dsimp only;split<;>first|contradiction|skip
  rename_i g n m l;cases l
  refine ae (oJ _ _ λf j b=>?_) λr=>?_;refine aI (λ_=>?_) λ_=>bX _;refine ae (ij _ _ _) λ_=>ae (ij _ _ _) λ_=>ae (ii _ (hf f j) _ _ _) λ_=>?_;exact aI (λ_=>bX _) λ_=>bX _;obtain⟨r1,r2⟩:=r;cases r1<;>exact bX _
  exact bX _
def iy(op t x y a b)(h:Flat c.T t\/((x matches .const _)||(y matches .const _))=Z/\((∀v,a≠.agg v)\/∀v,b≠.agg v)):TT c (eqGuard op t x y a b):=by
 unfold eqGuard;refine aI (λ_=>bX _) λ_=>?_;split
 refine aI (λ_=>bX _) λd=>?_;obtain h|h:=h
 exact ae (iO t h _ _ _) λb=>aI (λ_=>dl _) λ_=>bX _;exact absurd h.1 d;obtain h|h:=h
 ·refine aM ?_ (aM ?_<|aI (λ_=>bX _) λ_=>?_)
  ·simp only[Ctx.Q,Ctx.P,jf c.T c.F c.G];rfl
  rfl;exact ae (iO t h _ _ _) λb=>aI (λ_=>dl _) λ_=>bX _
 grind
 exact bX _
end
end
section
section
variable{c:Ctx}
def cK{d b}(a){f:d->ZU b}(h:TT c (f a)):TT c (pure a>>=f):=by grind
def gJ{b a}(s){f:b->ZU a}:TT c (stuck s>>=f):=qA<|f8<|cl _
def AK(b a x j k)(hs:(⟨c.T,#[]⟩:Ξ).underlying b=R (.int j))(hd:(⟨c.T,#[]⟩:Ξ).underlying a=R (.int k)):TT c (convert b a x):=by
 unfold convert;refine aU b λe f=>aU a λl d=>?_;have i:=f.symm.trans hs;have g:=d.symm.trans hd;cases i
 cases g
 split<;>first|contradiction|exact bX _|exact dl _|exact tp _ _ _|skip
 all_goals (rename_i h;cases h)
theorem oM{e d:Type}{f:d->e->ZU d}(h:∀b a,TT c<|f b a):∀(l:List e) (b:d),TT c (l.foldlM f b)
 |[],b=>bX _
 |x::l,b=>by exact ae (h _ _) λ_=>oM h l _
def R5(a t xs):TT c (Builtin.max_ a t xs):=by
 unfold Builtin.max_;split
 simp;exact oM (λ_ _=>K6 _ _) _ _
def R6(a t xs):TT c (Builtin.min_ a t xs):=by
 unfold Builtin.min_;split
 simp;exact oM (λ_ _=>K5 _ _) _ _
def iz(b t)(f:Scalar c.T t)(v):∀d,TT c (YZ b d t v)
 |0=>dl _
 |d+1=>by refine aU t λe g=>?_;have a:(⟨c.T,#[]⟩:Ξ).underlying t=R e:=g;obtain h|h|⟨⟨k,h⟩,_⟩:=f<;>(rw[h]at a;cases a;exact bX _)
def iP(b t)(i:Flat c.T t)(v):∀d,TT c (YZ b d t v)
 |0=>dl _
 |d+1=>by
  obtain i|⟨fs,h,hf⟩:=i
  exact iz b t i v _
  ·unfold YZ;refine aU t λe k=>?_;have a:(⟨c.T,#[]⟩:Ξ).underlying t=R e:=k;rw[h]at a;cases a;split<;>first|contradiction|skip
   rename_i g m l;cases l
   refine ae (oJ _ _ λf j b=>?_) λ_=>bX _;exact aI (λ_=>ae (ij _ _ _) λ_=>ae (iz _ _ (hf f j) _ _) λ_=>bX _) λ_=>bX _
   all_goals first|exact ch _|exact bX _
theorem mz(t:Z4)(a:Flat c.T t)(k:Θ):∀(es:List MapEntry) (i:Nat),TT c (Instr.findAsking t k es i)
 |[],_=>bX _
 |e::es,i=>by exact ae (kt t a _ _ _) λ_=>aI (λ_=>bX _) λ_=>mz t a k es _
def mQ(t)(a:Flat c.T t)(k es):TT c (Instr.findKey t k es):=by
 refine ae (aN _) λd=>?_;split
 simp;exact mz t a _ _ _
def qk(a b):TT c (Instr.keyThatStays a b):=by exact aI (λ_=>bX _) λ_=>ae (pP _) λ_=>bX _
def kR(T:YW)(t:Z4):Prop:=∀k e,(⟨T,#[]⟩:Ξ).underlying t=R (.map k e) ->Flat T k
variable(t:Z4)(x:Θ)(P:Ξ)
def DS(h:kR c.T t)(x i b):TT c (Instr.lookup t x i b):=by
 unfold Instr.lookup;refine aU t λd hd=>?_;split
 rename_i e a;have g:=h e a hd;have rest:∀f:Array MapEntry,TT c (do
  YZ f.isEmpty 10000 e i
  let(v,ok)<-match<-Instr.findKey e i f.toList with
   |some (_,v)=>pure (v,Z)
   |none=>pure (<-ZM a,Y)
  pure (if b then .tuple #[v,.bool ok]else v):ZU Θ):=by
  intro f;refine ae (iP _ _ g _ _) λ_=>ae (mQ _ g _ _) λr=>?_;dsimp only;split
  exact ae (bX _) λ_=>bX _;exact ae (cS _) λ_=>ae (bX _) λ_=>bX _
 dsimp only;split
 exact ae (bX _) λ_=>rest _;refine dg _ ?_ λo j k=>?_
 ·exact f8<|cl _
 split
 ·exact ae (bX _) λ_=>rest _
 exact ae (ch _) λ_=>rest _;exact ae (ch _) λ_=>rest _;exact ch _
def ny(g:kR c.T t)(m k v):TT c (Instr.mapUpdate t m k v):=by
 unfold Instr.mapUpdate;refine aU t λd hd=>?_;split
 rename_i b a;have e:=g b a hd;split
 exact aO _;refine dg _ (cl _) λo h f=>?_;split
 refine ae (iP _ _ e _ _) λ_=>ae (mQ _ e _ _) λr=>?_;split
 exact ae (qk _ _) λ_=>eG _ _ (c.map _ _) f;exact eG _ _ (c.map _ _) f;exact ch _;exact ch _;exact ch _
def DT(a)(h:∀t,a[0]?=R t->kR c.T t)(t xs):TT c (XY a t xs):=by
 unfold XY;split
 rename_i mt m k h3;refine aU _ λd hd=>?_;split
 rename_i e b;have f:=(h mt (by simp only[Prod.mk.injEq]at h3;exact h3.1)) e b hd;dsimp only;split
 exact ae (iP _ _ f _ _) λ_=>bX _;refine dg _ (f8<|cl _) λo i g=>?_;split
 refine ae (iP _ _ f _ _) λ_=>ae (mQ _ f _ _) λr=>?_;split<;>exact ae (eG _ _ (c.map _ _) g) λ_=>bX _
 exact ae (ch _) λ_=>bX _;exact ae (ch _) λ_=>bX _;exact ch _;exact ch _
def FO:TT c (Instr.range t x):=by
 refine ae (aN _) λd=>?_;dsimp only;split
 exact cK _<|ae (kM _<|c.stringIter _ _) λ_=>bX _;exact cK _<|ae (kM _<|c.mapIter _ _ _ _) λ_=>bX _;refine dg _ (f8<|cl _) λo b a=>?_;split
 exact cK _<|ae (kM _<|c.mapIter _ _ _ _) λ_=>bX _;exact gJ _;exact gJ _
def K7(it b t):TT c (Instr.next it b t):=by
 unfold Instr.next;dsimp only;split
 ·rename_i r x;refine dg _ (cl _) λo g d=>?_;split
  refine aI (λ_=>?_) λ_=>bX _;exact ae (eG _ _ (c.stringIter _ _) d) λ_=>bX _;exact bX _
  ·refine dg _ (cl _) λj f e=>?_;split
   ·rename_i i a h
    try dsimp only
    refine aI (λ_=>ae (dl _) λ_=>?_) λ_=>?_
    all_goals
     refine ae (pP _) λn=>?_;split
     exact ae (eG _ _ (c.mapIter _ _ _ _) d) λ_=>bX _;exact bX _;exact ch _
   exact ch _
  exact ch _
 exact ch _
def FP(it):TT c (Instr.entry it):=by
 unfold Instr.entry;split
 ·refine dg _ (cl _) λo d e=>?_;split
  ·split
   ·refine dg _ (cl _) λf b a=>?_;split
    ·try dsimp only
     refine aI (λ_=>ae (dl _) λ_=>?_) λ_=>?_
     all_goals
      split
      exact bX _;exact dl _
    exact ch _
   exact ch _
  exact ch _
 exact ch _
def jj(a n u):∃b,(YV a n).run P u=.ok b u:=by unfold YV;rw[μ,jh];simp only[Z1];split<;>exact⟨_,rfl⟩
def AL(a u):(frozen a).run P u=.ok (u.frozen? a) u:=rfl
def qZ(size c n base x u):∃b,(Zt size c n base x).run P u=.ok b u:=by
 unfold Zt;have rest:∀d:Bool,∃b,(if(!d)=Z then pure Z else match x with
  |ZL (R b) a a_1=>do pure (!(<-YV b (n*size))||base.any (·.block==b.block))
  |x=>pure Y:ZU Bool).run P u=.ok b u:=by
  intro d;split
  exact⟨_,rfl⟩;split
  ·rename_i b _ _;obtain⟨z,e⟩:=jj P b (n*size) u;rw[μ,e];exact⟨_,rfl⟩
  exact⟨_,rfl⟩
 dsimp only;obtain _|a:=base
 rw[pure_bind];exact rest Z;obtain⟨z,e⟩:=jj P a (c*size) u;dsimp only;rw[μ,e];simp only[Z1];obtain _|_:=z
 exact rest Y;show∃b,(frozen (a.add<|c/2*size)>>=_).run P u=_;rw[μ,AL];simp only[Z1];rw[pure_bind];exact rest _
def DU(a t xs):TT c (XX a t xs):=by
 unfold XX;split
 rename_i p s x q;refine ae (aN _) λd=>?_;split
 rename_i h;split
 rename_i base f j;refine ae (cX _) λsize=>?_;have o:∀(bP:Bool) (n g:Nat),TT c (do
  XT (g*(<-Z0 h).bytes)
  let old<-υ size f (.slice base f j)
  let new<-(if !bP then υ size n x
   else if n*size=0 then pure #[]
   else do pure (θ (<-ZM h).cells n):ZU (Array Θ))
  let rest:=θ (<-ZM h).cells<|g-(f+n)
  pure (ZL (R (<-newRow h (old++new++rest))) (f+n) g):ZU Θ):=by
  intro bP n g;refine ae (bF _) λ_=>ae (qU _) λ_=>ae (Ai _ _ _) λ_=>ae ?_ λ_=>ae (cS _) λ_=>ae (lH _ _) λ_=>bX _;exact aI (λ_=>Ai _ _ _) λ_=>aI (λ_=>bX _) λ_=>ae (cS _) λ_=>bX _
 have rest:∀(bP:Bool) (n:Nat),TT c (do
  if f+n<=j then
   let new<-(if !bP then υ size n x
    else if n*size=0 then pure #[]
    else do pure (θ (<-ZM h).cells n):ZU (Array Θ))
   if let R a:=base then Yg (a.add<|f*size) new.toList
   pure (.slice base (f+n) j)
  else
   if((f+n:Nat):Int)>IntKind.i64.max/\(bP\/(<-Z0 h).bytes=0)then runtimePanic (.error "growslice: len out of range")
   if Ym (f+n) j*(<-Z0 h).bytes>2^48 then(if bP then runtimePanic (.error "growslice: len out of range")else do
    if !(<-Zt size f n base x)then mark .noRoom
    unsupported (.resourceLimit "append: a slice or a string whose bytes no memory bears"))
   let g<-choose (.appendCap (f+n) j h)
   XT (g*(<-Z0 h).bytes)
   let old<-υ size f (.slice base f j)
   let new<-(if !bP then υ size n x
    else if n*size=0 then pure #[]
    else do pure (θ (<-ZM h).cells n):ZU (Array Θ))
   let rest:=θ (<-ZM h).cells<|g-(f+n)
   pure (ZL (R (<-newRow h (old++new++rest))) (f+n) g):ZU Θ):=by
  intro bP n;have m:TT c (do
   let g<-choose (.appendCap (f+n) j h)
   XT (g*(<-Z0 h).bytes)
   let old<-υ size f (.slice base f j)
   let new<-(if !bP then υ size n x
    else if n*size=0 then pure #[]
    else do pure (θ (<-ZM h).cells n):ZU (Array Θ))
   let rest:=θ (<-ZM h).cells<|g-(f+n)
   pure (ZL (R (<-newRow h (old++new++rest))) (f+n) g):ZU Θ):=ae (pP _) λk=>o bP n k
  have dead:vg c.P (do
   if !(<-Zt size f n base x)then mark .noRoom
   unsupported (.resourceLimit "append: a slice or a string whose bytes no memory bears"):ZU Unit):=by
   intro u;obtain⟨b,e⟩:=qZ c.P size f n base x u;refine cP e ?_;dsimp only;split
   exact cP (u1:=u) (a:=()) rfl<|bz _;exact bz _
  refine aI (λ_=>?_) λ_=>?_;refine ae ?_ λnew=>?_
  ·exact aI (λ_=>Ai _ _ _) λ_=>aI (λ_=>bX _) λ_=>ae (cS _) λ_=>bX _
  dsimp only;split
  exact ae (eQ _ _ _) λ_=>bX _;exact bX _;refine ae (bF _) λi=>?_;dsimp only;refine aI (λ_=>ae (aO _) λ_=>?_) λ_=>?_<;>
   refine ae (bF _) λi=>aI (λ_=>ae (aI (λ_=>aO _) λ_=>qA dead) λ_=>m) λ_=>m
 have num:∀bP:Bool,TT c (do
  let n<-if bP then do
      let l:=IntKind.i64.wrap<|<-asInt x
      if l<0 then runtimePanic (.error "makeslice: len out of range")
      if l*(<-Z0 h).bytes>2^48 then
       let made<-choose (.extern "append.ofMake.carriedOut" 2)
       runtimePanic (.error (if made==1 then "makeslice: len out of range"else "growslice: len out of range"))
      pure l.toNat
   else Yw x
  if f+n<=j then
   let new<-(if !bP then υ size n x
    else if n*size=0 then pure #[]
    else do pure (θ (<-ZM h).cells n):ZU (Array Θ))
   if let R a:=base then Yg (a.add<|f*size) new.toList
   pure (.slice base (f+n) j)
  else
   if((f+n:Nat):Int)>IntKind.i64.max/\(bP\/(<-Z0 h).bytes=0)then runtimePanic (.error "growslice: len out of range")
   if Ym (f+n) j*(<-Z0 h).bytes>2^48 then(if bP then runtimePanic (.error "growslice: len out of range")else do
    if !(<-Zt size f n base x)then mark .noRoom
    unsupported (.resourceLimit "append: a slice or a string whose bytes no memory bears"))
   let g<-choose (.appendCap (f+n) j h)
   XT (g*(<-Z0 h).bytes)
   let old<-υ size f (.slice base f j)
   let new<-(if !bP then υ size n x
    else if n*size=0 then pure #[]
    else do pure (θ (<-ZM h).cells n):ZU (Array Θ))
   let rest:=θ (<-ZM h).cells<|g-(f+n)
   pure (ZL (R (<-newRow h (old++new++rest))) (f+n) g):ZU Θ):=by
  intro bP;dsimp only;refine aI (λ_=>ae (jd _) λl=>?_) λ_=>ae (xk _) λn=>rest bP n;refine aI (λ_=>ae (aO _) λ_=>?_) λ_=>?_<;>
   refine ae (bF _) λi=>aI (λ_=>ae (pP _) λ_=>ae (aO _) λ_=>?_) λ_=>?_<;>
    exact ae (bX _) λn=>rest bP n
 obtain _|r:=a[1]?
 exact ae (bX _) λz=>num z;exact ae (aN _) λ_=>ae (bX _) λz=>num z;exact ch _;exact ch _;exact ch _
end
end
section
section
variable{c:Ctx}
def iA{α}(l){f:Loop->ZU α}(h:∀r,c.ok (.loop r) ->¬c.S l->TT c (f r)):TT c (ZG l>>=f):=by
 unfold ZG;rw[bind_assoc];refine dg _ (f8<|cl _) λo b a=>?_;split
 grind
 exact gJ _
def vq(fn tmps e a b ar)(f:c.okF fn)(g:c.tX a)(hb:c.tX b):TT c (Zm fn tmps e a b ar):=by
 have rest:∀(d:Nat) (m:List ZF),TT c (do pure (<-newObj (.loop {state:=.ready,pending:=φ,fn,tmps,params:=e,assign:=a,body:=b,defers:=d}),m):ZU (Nat×List ZF)):=λd m=>ae (kM _<|(c.loop _).2 ⟨f,g,hb,λj h=>by cases h⟩) λ_=>bX _
 obtain _|l:=ar
 exact ae (kM _<|(c.deferred _).2<|.inr rfl) λr=>cK _<|rest _ _;exact iA l λr k i=>cK _<|rest _ _
def FQ(l args):TT c (Ye l args):=by refine iA l λr b a=>?_;exact aI (λ_=>ae (ch _) λ_=>bX _) λ_=>bX _
def tq(l):TT c (Instr.beginRound l):=by refine iA l λr a b=>ae (eG _ _ ((c.loop _).2 ⟨((c.loop _).1 a).1,((c.loop _).1 a).2.1,((c.loop _).1 a).2.2.1,((c.loop _).1 a).2.2.2⟩) b) λ_=>?_;split<;>first|exact bX _|exact aO _
def xD(l j)(b:∀x,j=R x->c.tX x):TT c (YY l j):=by refine iA l λr a d=>ae (eG _ _ ((c.loop _).2 ⟨((c.loop _).1 a).1,((c.loop _).1 a).2.1,((c.loop _).1 a).2.2.1,b⟩) d) λ_=>bX _
def AM(l):TT c (Zo l):=by refine iA l λr a b=>?_;have rest:TT c (do setObj l (.loop {r with state:=.exhausted});pure r.pending:ZU (Option Code)):=ae (eG _ _ ((c.loop _).2 ⟨((c.loop _).1 a).1,((c.loop _).1 a).2.1,((c.loop _).1 a).2.2.1,((c.loop _).1 a).2.2.2⟩) b) λ_=>bX _;exact aI (λ_=>ae (aO _) λ_=>rest) λ_=>rest
def qn(b):TT c (ZC b):=by
 refine dg _ (cl _) λo d a=>?_;split
 exact ae (eG _ _ ((c.deferred _).2<|.inl rfl) a) λ_=>bX _;simp
def kS(t)(x:Place):TT c (x.get t):=by
 cases x with
 |val v=>exact bX _
 |var a=>exact fa _ _
theorem jk:∀(l:List FieldStep) (t:Z4) (x:Place),TT c (follow l t x)
 |[],t,x=>bX _
 |s::rest,t,x=>by
  unfold follow;refine ae (aN _) λd=>?_;split
  split
  ·refine aI (λ_=>?_) λ_=>?_
   ·exact ae (kS _ _) λ_=>ae (lJ _) λ_=>ae (Ah _ _) λ_=>jk rest _ _
   split
   ·exact ae (Ah _ _) λ_=>jk rest _ _
   exact ae (ij _ _ _) λ_=>jk rest _ _;exact ch _
  exact ch _;exact ch _
def tr(a t p x y):TT c (Yr a t #[p,strVal x,strVal y]):=by
 unfold Yr strVal;cases p with
 |pointer q=>
  cases q with
  |some q=>exact bX _
  |none=>repeat' (first|assumption|(with_reducible first|exact bX _|exact ch _|exact dl _|exact aO _|exact pP _|exact aN _|exact bF _)|(refine ae ?_ λ_=>?_)|(with_reducible refine aI (λ_=>?_) λ_=>?_)|split|dsimp only)
 |_=>exact ch _
def mA(t x p w):TT c (receiverAt t x p w):=by repeat' (first|assumption|(with_reducible first|exact bX _|exact ch _|exact kS _ _|exact tr _ _ _ _ _|exact fa _ _|exact lJ _|exact aN _)|(refine ae ?_ λ_=>?_)|split|dsimp only)
def NA(t v path p):TT c (receiverVia t v path p):=by exact ae (jk _ _ _) λ_=>mA _ _ _ _
theorem tZ:∀(n:Nat) (t:Z4) (v:Θ) (name:String),TT c (method n t v name)
 |0,_,_,_=>dl _
 |n+1,t,v,name=>by
  refine ae (bF _) λi=>?_;split
  refine ae (jk _ _ _) λr=>?_;dsimp only;split
  refine ae (kS _ _) λv=>?_;split
  exact tZ n _ _ _;exact aO _;exact ch _;exact ae (mA _ _ _ _) λ_=>bX _;exact ch _
theorem iB:∀(l:List FieldStep) (t:Z4) (x:Option Θ),TT c (followBlind l t x)
 |[],t,x=>bX _
 |s::rest,t,x=>by
  refine ae (aN _) λd=>?_;split
  split
  ·split<;>first|exact bX _|exact iB rest _ _|exact ch _|exact ae (ij _ _ _) λ_=>iB rest _ _
  exact ch _;exact ch _
theorem KC:∀(n:Nat) (t:Z4) (v:Θ) (name:String),TT c (nilAhead n t v name)
 |0,_,_,_=>bX _
 |n+1,t,v,name=>by
  refine ae (bF _) λi=>?_;split
  refine ae (iB _ _ _) λr=>?_;split
  exact bX _;split<;>first|exact bX _|exact ch _|exact KC n _ _ _|skip
  refine ae (aN _) λd=>?_;split<;>exact bX _
  exact ch _
def jJ(c:Ctx):Prop:=∀f args,TT c (Γ f args)
def mB(hc:jJ c)(r name args):TT c (Yd r name args):=by
 unfold Yd;split
 refine aM rfl<|ae (tZ _ _ _ _) λx=>hc _ _;simp;simp
def jl(T:YW)(b:Builtin)(a:Array Z4):Prop:=
 match b with
 |.append|.cap|.copy|.len|.max|.min|.recover|.panic=>True
 |.delete=>∀t,a[0]?=R t->kR T t
 |_=>False
def AN(b a t cs args)(h:jl c.T b a):TT c (builtin b a t cs args):=by
 unfold builtin;cases b<;>first
  |exact False.elim h
  |exact ae (DU _ _ _) λ_=>bX _
  |exact ae (R3 _ _ _) λ_=>bX _
  |exact ae (K4 _ _ _) λ_=>bX _
  |exact ae (R4 _ _ _) λ_=>bX _
  |exact ae (R5 _ _ _) λ_=>bX _
  |exact ae (R6 _ _ _) λ_=>bX _
  |exact ae (DT _ h _ _) λ_=>bX _
  |exact ae (xj _) λ_=>bX _
  |exact bX _
def nz(T:YW):Target->Prop
 |.builtin b a _ _=>jl T b a
 |_=>True
def jm(hc:jJ c)(t args)(h:nz c.T t):TT c (Zz t args):=by
 unfold Zz;split
 exact aO _;exact AN _ _ _ _ _ h;exact hc _ _;split
 ·exact mB hc _ _ _
 exact ch _;split
 ·refine ae (aN _) λd=>?_;exact mB hc _ _ _
 exact ch _;split
 ·exact ae (NA _ _ _ _) λ_=>hc _ _
 exact ch _;exact FQ _ _;exact ch _;exact bX _
def AP(f args):TT c (ZQ f args):=by unfold ZQ;split<;>first|exact bX _|exact ch _
def AS(a k t):TT c (Y4 a k t):=by
 unfold Y4;split
 simp;simp;exact AP _ _
end
end
section
structure bu where
 flat:List Z4
 ints:List Z4
 maps:List Z4
structure bu.Sound(T:YW)(L:bu):Prop where
 flat:∀t∈L.flat,Flat T t
 ints:∀t∈L.ints,∃k,(⟨T,#[]⟩:Ξ).underlying t=R (.int k)
 maps:∀t∈L.maps,kR T t
def nD:Operand->Bool
 |.const .nilIface=>Z
 |.const (ZL φ 0 0)=>Z
 |_=>Y
def AT(L:bu)(k:Call):Bool:=
 match k.callee with
 |.builtin b=>match b with
  |.append|.cap|.copy|.len|.max|.min|.recover=>Z
  |.delete=>match k.argTypes[0]? with
   |some t=>L.maps.contains t
   |none=>Z
  |_=>Y
 |_=>Z
def AU(L:bu):Op->Bool
 |.ready _|.waits _|.makeChan ..|.sliceToArrayPointer ..|.entryStore ..|.mapEntry ..|.go _|.send ..|.recv ..|.select ..=>Y
 |.binOp op t x y _=>!(op matches .eql|.neq)||L.flat.contains t||nD x||nD y
 |.convert s d _=>L.ints.contains s&&L.ints.contains d
 |.lookup t ..|.mapUpdate t ..|.insert t ..=>L.maps.contains t
 |.call k=>AT L k
 |.defer k=>match k.callee with
  |.builtin _=>Y
  |_=>Z
 |_=>Z
section
variable{c:Ctx}{L:bu}{T:YW}
def nE{x}(h:nD x=Z):x=.const .nilIface\/x=.const (ZL φ 0 0):=by
 unfold nD at h
 grind
def DV(f:L.Sound c.T){b:Operand->Θ}(a:∀v,b (.const v)=v)(op t x y u)(h:AU L (.binOp op t x y u)=Z):
 TT c (do eqGuard op t x y (b x) (b y);binOp op t (b x) (b y)):=by
 simp only[AU,Bool.or_eq_true]at h;obtain((h|h)|h)|h:=h
 ·refine ae ?_ λ_=>ji _ _ _ _ λe=>?_
  ·cases op<;>first|(simp at h;done)|exact bX _
  obtain rfl|rfl:=e<;>simp at h
 have d:=f.flat t<|Z2.1 h;exact ae (iy _ _ _ _ _ _<|.inl d) λ_=>ji _ _ _ _ λ_=>kt _ d _ _ _;obtain rfl|rfl:=nE h<;>rw[a]
 ·exact ae (iy _ _ _ _ _ _<|.inr ⟨rfl,.inl<|by simp⟩) λ_=>ji _ _ _ _ λ_=>fE _ _ _ (by simp) _
 exact ae (iy _ _ _ _ _ _<|.inr ⟨rfl,.inl<|by simp⟩) λ_=>ji _ _ _ _ λ_=>fE _ _ _ (by simp) _;obtain rfl|rfl:=nE h<;>rw[a]
 ·exact ae (iy _ _ _ _ _ _<|.inr ⟨by cases x<;>rfl,.inr<|by simp⟩) λ_=>ji _ _ _ _ λ_=>fE _ _ _ (by simp) _
 exact ae (iy _ _ _ _ _ _<|.inr ⟨by cases x<;>rfl,.inr<|by simp⟩) λ_=>ji _ _ _ _ λ_=>fE _ _ _ (by simp) _
def xE(v:Θ):TT c (match v with
 |Ψ φ|.nilIface|.nilFunc=>runtimePanic .nilDeref
 |.func (.method name) first captured=>
  match(first[0]?:Option Θ)with
  |some .nilIface=>runtimePanic .nilDeref
  |some (.iface t w)=>do
   if(<-nilAhead ((<-program).types.size+Made.depth) t w name) !=R Y then
    unsupported (.noEntry "op/nilCheck.the method's receiver behind this interface value is a nil pointer, or cannot be seen to be none, and the arguments act or may panic (ledger 612)")
   pure (.value<|.func (.method name) first captured)
  |_=>pure<|.value<|.func (.method name) first captured
 |x=>pure (.value x):ZU X5):=by
 split
 simp;exact aO _;exact aO _;split
 ·exact aO _
 refine aM rfl<|ae (KC _ _ _ _) λr=>?_;exact aI (λ_=>ae (dl _) λ_=>bX _) λ_=>bX _;exact bX _;exact bX _
def kT(d:L.Sound c.T){b args a}(h:AT L ⟨.builtin b,args,a⟩=Z):jl c.T b a:=by
 unfold AT at h;cases b<;>first|trivial|(cases h)|skip
 intro t e;simp only[e]at h;exact d.maps t<|Z2.1 h
def kU{f args P u a d}(h:(ZQ f args).run P u=.ok d a):nz T d.target:=by
 unfold ZQ at h;split at h
 cases h;trivial
 cases h;trivial
 cases h
def Cp(hc:jJ c)(a f)(args:Array Operand):TT c (do let d<-ZQ (a f) (args.map a);Zz d.target d.args):=by
 unfold ZQ;split
 exact cK _<|jm hc _ _ trivial;exact cK _<|jm hc _ _ trivial;exact gJ _
def DW(q:L.Sound c.T)(hc:jJ c){ρ}(z:∀v,ρ (.const v)=v)(o)(h:AU L o.op=Z):TT c (YB ρ o):=by
 obtain⟨C,op,B,pos,after,guard⟩:=o;unfold YB;dsimp only at h⊢;cases op with
 |move x=>exact bX _
 |assign x=>exact bX _
 |pick a b d=>exact ae (lI _) λ_=>bX _
 |alloc e=>exact ae (FH _) λ_=>bX _
 |box e x=>exact ae (R2 _ _) λ_=>bX _
 |build t E=>exact ae (FI _ _) λ_=>bX _
 |buildSlice t n E=>exact ae (tj _ _ _) λ_=>bX _
 |insert t m k x=>exact ae (ny _ (q.maps t<|Z2.1 h) _ _ _) λ_=>bX _
 |load t a=>exact ae (DN _ _) λ_=>bX _
 |store t a x=>exact ae (Aw _ _ _) λ_=>bX _
 |ready g=>cases h
 |waits g=>cases h
 |nilCheck x=>exact xE _
 |binOp op t x y u=>exact ae (DV q z _ _ _ _ _ h) λ_=>bX _
 |unOp o t x=>exact ae (FJ _ _) λ_=>bX _
 |convert s d x=>simp only[AU,Bool.and_eq_true]at h;obtain⟨k,D⟩:=q.ints s<|Z2.1 h.1;obtain⟨j,F⟩:=q.ints d<|Z2.1 h.2;exact ae (AK _ _ _ _ _ D F) λ_=>bX _
 |sliceToArrayPointer d x=>cases h
 |makeInterface t x=>exact ae (oG _ _) λ_=>bX _
 |makeFunc f a b=>exact ae (xi _ _ _) λ_=>bX _
 |makeMap t r=>exact ae (AC _ _) λ_=>bX _
 |makeChan t s=>cases h
 |makeSlice t l k=>exact ae (vh _ _ _) λ_=>bX _
 |slice t x l G m=>exact ae (AA _ _ _ _ _) λ_=>bX _
 |fieldAddr t x f=>exact ae (Ay _ _ _) λ_=>bX _
 |field t x f=>exact ae (FF _ _ _) λ_=>bX _
 |indexAddr t x i=>exact ae (Az _ _ _) λ_=>bX _
 |index t x i=>exact ae (FE _ _ _) λ_=>bX _
 |lookup t x i ok=>exact ae (DS _ (q.maps t<|Z2.1 h) _ _ _) λ_=>bX _
 |mapUpdate t m k x=>exact ae (ny _ (q.maps t<|Z2.1 h) _ _ _) λ_=>bX _
 |mapEntry t m k=>cases h
 |entryStore t m s x=>cases h
 |range t x=>exact ae (FO _ _) λ_=>bX _
 |next it s=>exact ae (K7 _ _ _) λ_=>bX _
 |entry it=>exact ae (FP _) λ_=>bX _
 |typeAssert x t a ok=>exact ae (tk _ _ _ _) λ_=>bX _
 |extract t i=>exact ae (AB _ _) λ_=>bX _
 |call k=>
  dsimp only;unfold Y4;obtain⟨p,A,w⟩:=k;cases p with
  |value f=>exact Cp hc ρ _ _
  |invoke r m=>exact cK _<|jm hc _ _ trivial
  |builtin b=>exact cK _<|jm hc _ _<|kT q h
 |go k=>cases h
 |defer k=>exact ae (AS _ _ _) λ_=>bX _
 |panic x=>exact ae (xj _) λ_=>bX _
 |send a b=>cases h
 |recv a b d=>cases h
 |select a b=>cases h
end
end
section
section
variable{c:Ctx}
open Go.Extern.Rtype
def iQ(h):TT c (ofHandle h):=by refine aM rfl ?_;split<;>first|exact bX _|exact ch _
def t9(t):TT c (handle t):=aM rfl<|bX _
def lL(s t):TT c (noPack s t):=by exact aM (by rw[show c.Q.packed t=c.P.packed t from iM c.T c.F c.G t])<|aI (λ_=>dl _) λ_=>bX _
def dF(s t):TT c (noPackMethods s t):=by refine aM ?_<|aM rfl<|aI (λ_=>dl _) λ_=>bX _;simp only[Ctx.Q,ie c.T c.F c.G];rfl
def re(s t):TT c (noPackNamed s t):=by refine aM ?_<|aM rfl<|aI (λ_=>dl _) λ_=>bX _;simp only[Ctx.Q,je c.T c.F c.G];rfl
def rh(t):TT c (spelt t):=ae (re _ _) λ_=>Av _
def jn(t):TT c (under t):=by
 refine ae (bF _) λi=>?_;split
 simp;simp
def qB(t):TT c (kind t):=by refine ae (jn _) λi=>?_;dsimp only;split<;>first|exact bX _|exact ch _
def ri(t):TT c (hasName t):=by refine ae (bF _) λi=>?_;split<;>exact bX _
def xF(t):TT c (elem? t):=by refine ae (jn _) λi=>?_;split<;>exact bX _
def i6(t v):TT c (implements t v):=by
 refine ae (dF _ _) λ_=>ae (dF _ _) λ_=>ae (jn _) λ_=>ae (jn _) λ_=>?_;split
 simp;simp;simp
def fY(t v):TT c (directlyAssignable t v):=by
 unfold directlyAssignable;have rest:TT c (do
  let(t,ti)<-under t
  let(v,vi)<-under v
  match ti.desc,vi.desc with
  |.chan _ e,.chan .both e'=>pure<|t==v||e==e'
  |_,_=>pure (t==v):ZU Bool):=by
  refine ae (jn _) λ_=>ae (jn _) λ_=>?_;dsimp only;split<;>exact bX _
 exact aI (λ_=>bX _) λ_=>ae (ri _) λ_=>ae (ri _) λ_=>aI (λ_=>bX _) λ_=>rest
open Go.Extern.ReflectliteType in
def oN(t):TT c (toType t):=ae (qT _) λ_=>ae (t9 _) λ_=>bX _
open Go.Extern.ReflectliteType in
def mR(v):TT c (ofRtype v):=by
 cases v with
 |agg cs=>
  obtain⟨l⟩:=cs
  match l with
  |[]=>exact ch _
  |[h]=>exact ae (iQ _) λ_=>ae (lL _ _) λ_=>bX _
  |_::_::_=>exact ch _
 |_=>exact ch _
open Go.Extern.ReflectliteType in
def DX(args):TT c (typeOf args):=by
 obtain⟨l⟩:=args
 match l with
 |[]=>exact ch _
 |[h]=>cases h with
  |nilIface=>exact bX _
  |iface t v=>exact oN t
  |_=>exact ch _
 |_::_::_=>exact ch _
open Go.Extern.ReflectliteType in
def xG(f)(a:∀t,TT c (f t))(args):TT c (Go.Extern.ReflectliteType.method f args):=by
 obtain⟨l⟩:=args
 match l with
 |[]=>exact ch _
 |[h]=>exact ae (mR _) λ_=>a _
 |_::_::_=>exact ch _
open Go.Extern.ReflectliteType in
def DY(t):TT c (elem t):=by
 refine ae (xF _) λe=>?_;split
 exact oN _;exact ae (rh _) λ_=>pT _
open Go.Extern.ReflectliteType in
def pE(s f)(a:∀t u,TT c (f t u))(args):TT c (relation s f args):=by
 obtain⟨l⟩:=args
 match l with
 |[]=>exact ch _
 |[h]=>exact ch _
 |[h,i]=>cases i with
  |nilIface=>exact pT _
  |iface t v=>exact ae (mR _) λ_=>ae (mR _) λ_=>ae (a _ _) λ_=>bX _
  |_=>exact ch _
 |_::_::_::_=>exact ch _
open Go.Extern.ReflectliteType in
def rj(u t):TT c (implements_ u t):=by refine ae (qB _) λ_=>?_;have rest:TT c (do noPackMethods "Implements" t;noPack "Implements" u;implements u t:ZU Bool):=ae (dF _ _) λ_=>ae (lL _ _) λ_=>i6 _ _;exact aI (λ_=>ae (pT _) λ_=>rest) λ_=>rest
open Go.Extern.ReflectliteType in
def qo(u t):TT c (assignableTo u t):=by
 have rest:TT c (do pure ((<-directlyAssignable u t)||(<-implements u t)):ZU Bool):=by exact ae (fY _ _) λ_=>ae (i6 _ _) λ_=>bX _
 exact aI (λ_=>ae (dF _ _) λ_=>ae (dF _ _) λ_=>rest) λ_=>rest
open Go.Extern.ReflectliteType in
def PF(f)(a:∀t,TT c (f t))(args):TT c (abiMethod f args):=by
 obtain⟨l⟩:=args
 match l with
 |[]=>exact ch _
 |[h]=>exact ae (iQ _) λ_=>ae (lL _ _) λ_=>a _
 |_::_::_=>exact ch _
end
section
variable{c:Ctx}
open Go.Extern.ReflectliteValue
def QE(t a f):TT c (mk t a f):=ae (t9 _) λ_=>ae (qB _) λ_=>bX _
def ua(v):TT c (unpack v):=by
 unfold unpack;split
 simp;exact ae (iq _ _) λ_=>QE _ _ _;simp
def d8{α}(s k):TT c (valueError s k:ZU α):=ae (qT _) λ_=>ae (oC _) λ_=>ae (iq _ _) λ_=>vm _
def pF(v):TT c (partsAny v):=by
 unfold partsAny;cases v with
 |agg cs=>
  obtain⟨l⟩:=cs
  match l with
  |[]=>exact ch _
  |[_]=>exact ch _
  |[_,_]=>exact ch _
  |[h,p,f]=>
   cases f with
   |int k n=>
    cases k with
    |u64=>
     have d:∀m:Int,(match m with|0=>False|_=>True) ->TT c (partsAny<|.agg #[h,p,Δ Zn m]):=by
      intro m b;cases p with
      |pointer a=>
       obtain _|a:=a
       cases m with
       |ofNat k=>cases k with
        |zero=>cases b
        |succ k=>exact ch _
       |negSucc k=>exact ch _
       cases m with
       |ofNat k=>cases k with
        |zero=>cases b
        |succ k=>exact ae (iQ _) λ_=>bX _
       |negSucc k=>exact ae (iQ _) λ_=>bX _
      |_=>
       cases m with
       |ofNat k=>cases k with
        |zero=>cases b
        |succ k=>exact ch _
       |negSucc k=>exact ch _
     cases n with
     |ofNat k=>cases k with
      |zero=>exact bX _
      |succ k=>exact d (.ofNat<|k+1) trivial
     |negSucc k=>exact d (.negSucc k) trivial
    |_=>exact ch _
   |_=>exact ch _
  |_::_::_::_::_=>exact ch _
 |_=>exact ch _
def rl(v):TT c (parts v):=by
 refine ae (pF _) λr=>?_;split
 exact ae (lL _ _) λ_=>bX _;simp
def pG(z f)(hz:TT c z)(b:∀t a n k,TT c<|f t a n k)(args):TT c (Yq z f args):=by
 obtain⟨l⟩:=args
 match l with
 |[]=>exact ch _
 |[h]=>
  refine ae (rl _) λr=>?_
  grind
 |_::_::_=>exact ch _
def NB(z f)(hz:TT c z)(b:∀t a n k,TT c<|f t a n k)(args):TT c (methodAny z f args):=by
 obtain⟨l⟩:=args
 match l with
 |[]=>exact ch _
 |[h]=>
  refine ae (pF _) λr=>?_
  grind
 |_::_::_=>exact ch _
def AV(t a n k):TT c (isNil t a n k):=by
 have rest:TT c (do match<-Yl t a with
  |.chan φ|.nilFunc|.nilIface|.map φ|Ψ φ|ZL φ _ _=>pure<|.bool Z
  |_=>pure (.bool Y):ZU Θ):=by
  refine ae (fa _ _) λv=>?_;split<;>exact bX _
 exact aI (λ_=>ae (d8 _ _) λ_=>rest) λ_=>rest
def DZ(t a n k):TT c (Yp t a n k):=by
 have rest:TT c (do match k,<-Yl t a,<-Extern.Rtype.elem? t with
  |20,i,_=>unpack i
  |22,Ψ φ,_=>pure zeroV
  |22,Ψ (R p),R e=>mk e p flagAddr
  |_,_,_=>valueError "reflectlite.Value.Elem" k:ZU Θ):=by
  refine ae (fa _ _) λv=>ae (xF _) λe=>?_;split
  exact ua _;exact bX _;exact QE _ _ _;exact d8 _ _
 exact aI (λ_=>ae (d8 _ _) λ_=>rest) λ_=>rest
def FT(args):TT c (Zb args):=by
 unfold Zb;obtain⟨l⟩:=args
 match l with
 |[]=>exact ch _
 |[_]=>exact ch _
 |[v,x]=>
  refine ae (rl _) λr=>ae (rl _) λq=>?_;split
  have rest:∀d a e b,TT c (do
   let f<-Yl e b
   if<-Extern.Rtype.directlyAssignable d e then Yf d a f
   else if<-Extern.Rtype.implements d e then
    if(<-Extern.Rtype.kind e)==20 then
     match f with
     |.nilIface=>unsupported<|.noEntry "extern/reflectlite: a nil value of one interface type handed on as a value of another"
     |_=>Yf d a f
    else Yf d a (.iface e f)
   else panicString ("reflectlite.Set: value of type "++(<-Extern.Rtype.spelt e)++ " is not assignable to type "++(<-Extern.Rtype.spelt d))
   pure (.tuple #[]):ZU Θ):=by
   intro d a e b;refine ae (fa _ _) λf=>ae (fY _ _) λ_=>aI (λ_=>ae (iL _ _ _) λ_=>bX _) λ_=>?_;refine ae (i6 _ _) λ_=>aI (λ_=>?_) λ_=>?_;refine ae (qB _) λ_=>aI (λ_=>?_) λ_=>ae (iL _ _ _) λ_=>bX _;split
   exact ae (dl _) λ_=>bX _;exact ae (iL _ _ _) λ_=>bX _;exact ae (rh _) λ_=>ae (rh _) λ_=>ae (pT _) λ_=>bX _
  exact aI (λ_=>ae (dl _) λ_=>rest _ _ _ _) λ_=>rest _ _ _ _;exact dl _
 |_::_::_::_=>exact ch _
end
structure vt(c:Ctx)(fn:Yh):Prop where
 name:(fn.name== "runtime.NumGoroutine")=Y
 body:fn.body.isNone=Z
 next:Y6 fn=φ
 row:∃e,YF fn=R e/\∀args,TT c (e args)
structure xH(fn:Yh):Prop where
 name:(fn.name== "runtime.NumGoroutine")=Y
 body:fn.body.isNone=Z
 next:Y6 fn=φ
 row:YF fn=φ
 init:(fn.name.endsWith ".init"&&!fn.name.startsWith "("&&!fn.name.startsWith "gosem.")=Y
inductive gV(c:Ctx):Option Yh->Option Yh->Prop where
 |none:gV c φ φ
 |oO (f g:Yh) (hf:f.body.isNone=Y) (hg:g.body.isNone=Y) (nf:(f.name== "runtime.NumGoroutine")=Y) (ng:(g.name== "runtime.NumGoroutine")=Y):gV c (R f) (R g)
 |row (f:Yh) (h:vt c f):gV c (R f) (R f)
 |dead (f:Yh) (g:Option Yh) (h:xH f):gV c (R f) g
section
variable{c:Ctx}
def pH(h:∀f:Z8,gV c c.F[f]? c.G[f]?):jJ c:=by
 intro f b;unfold Γ;have i:c.P.funcs[f]?=c.F[f]?:=rfl;have j:c.Q.funcs[f]?=c.G[f]?:=rfl;refine qS ?_;rw[i,j];have a:=h f;generalize c.F[f]?=x at a⊢;generalize c.G[f]?=y at a⊢;cases a with
 |none=>exact ch _
 |oO f g a k m n=>dsimp only;rw[m,n,a,k];exact bX _
 |row fn h=>obtain⟨e,d,l⟩:=h.row;dsimp only;rw[h.name,h.body,h.next,d];exact ae (tg _) λ_=>ae (l _) λ_=>bX _
 |dead fn g h=>dsimp only;rw[h.name,h.body,h.next,h.row,h.init];exact bO.stop λu=>⟨_,u,rfl,by simp⟩
end
end
section
def Cq:Op->Bool
 |.defer _=>Z
 |_=>Y
def jK(L:bu)(r:Bool)(o:Oper):Bool:=AU L o.op&&!(r&&Cq o.op)
def be(L:bu):Bool->Code->Bool
 |r,.region _ ops _=>ops.all<|jK L r
 |r,.seq a b=>be L r a&&be L r b
 |r,.cond _ a b=>be L r a&&be L r b
 |r,.block _ b=>be L r b
 |r,.loop b=>be L r b
 |r,.scope b=>be L r b
 |_,.rangeFunc _ _ a b=>be L Z a&&be L Z b
 |_,_=>Z
def xI{L o}(h:jK L Z o=Z)(r):jK L r o=Z:=by
 unfold jK at h⊢
 grind
theorem dM{L:bu}:∀{k:Code} (r:Bool),be L Z k=Z->be L r k=Z
 |.region _ ops _,r,h=>by
  simp only[be,Array.all_eq_true]at h⊢
  exactλi hi=>xI (h i hi) r
 |.seq a b,r,h=>by simp only[be,Bool.and_eq_true]at h⊢;exact⟨dM r h.1,dM r h.2⟩
 |.cond _ a b,r,h=>by simp only[be,Bool.and_eq_true]at h⊢;exact⟨dM r h.1,dM r h.2⟩
 |.block _ b,r,h=>dM (k:=b) r h
 |.loop b,r,h=>dM (k:=b) r h
 |.scope b,r,h=>dM (k:=b) r h
 |.rangeFunc _ _ a b,r,h=>h
 |.skip,_,_=>rfl
 |.exit _,_,_=>rfl
 |.label _,_,_=>rfl
 |.goto _,_,_=>rfl
 |.ret,_,_=>rfl
 |.refuse _,_,_=>rfl
def dS(L:bu)(r:Bool):Zw->Bool
 |.code k|.inLoop k|.inScope k=>be L r k
 |.inRegion ops _=>ops.all<|jK L r
 |.inBlock _|.inRangeFunc _|.endRangeFunc _|.beginRound=>Z
 |.call ..|.extern ..=>Y
def nF(d:ZF):Bool:=
 match d.target with
 |.builtin ..|.coroexit _=>Y
 |_=>Z
structure ge(c:Ctx)(L:bu)(sp:Z8):Prop where
 pair:∀f:Z8,gV c c.F[f]? c.G[f]?
 same:∀f fn b,f≠sp->c.F[f]?=R fn->fn.body=R b->c.G[f]?=R fn/\be L Y b=Z
 inits:∀f fn b,c.F[f]?=R fn->fn.body=R b->c.T.inits.idxOf? f=φ
 R7:∀g,c.P.stepOf g=φ
 ahead:c.T.follows .staticDataAhead=Z
 tX:∀k,c.tX k↔be L Z k=Z
 okF:∀f,c.okF f↔f≠sp/\∃fn b,c.F[f]?=R fn/\fn.body=R b
 lists:L.Sound c.T
structure aJ(c:Ctx)(L:bu)(sp:Z8)(fr:Frame):Prop where
 fn:fr.fn≠sp/\∃f b,c.F[fr.fn]?=R f/\f.body=R b
 todo:∀i∈fr.todo,dS L fr.roundOf.isSome i=Z
 defers:∀d∈fr.defers,nF d=Z
 kind:fr.kind=.normal\/fr.kind=.deferred
section
variable{c:Ctx}{L:bu}{sp:Z8}{fr:Frame}
def aJ.finish(h:aJ c L sp fr)(v):aJ c L sp (fr.finish v):=by
 obtain⟨f,o,todo,defers,mode,kind,p⟩:=fr;obtain⟨g,e,h3,h4⟩:=h;unfold Frame.finish;split
 rename_i m i rest k d;dsimp only at d e;subst d;exact⟨g,λj n=>by
  obtain rfl|n:=ι.1 n
  exact e (.inRegion m (i::rest)) (by simp);exact e j (by simp[n]),h3,h4⟩
 rename_i l k d;dsimp only at d e;subst d;exact⟨g,λi hi=>by
  obtain rfl|hi:=ι.1 hi
  rfl;exact e i (by simp[hi]),h3,h4⟩
 rename_i k d;dsimp only at d e;subst d;exact⟨g,λi hi=>e i<|by simp[hi],h3,h4⟩;rename_i a b r s k d;dsimp only at d e;subst d;exact absurd (e (.call a b r s)<|by simp) (by simp[dS]);rename_i a b k d;dsimp only at d e;subst d;exact absurd (e (.extern a b)<|by simp) (by simp[dS]);exact⟨g,e,h3,h4⟩
def aJ.raise(h:aJ c L sp fr)(vs):aJ c L sp (fr.raise vs):=by unfold Frame.raise;split<;>exact⟨h.fn,h.todo,h.defers,h.kind⟩
theorem aJ.mode(h:aJ c L sp fr)(m:FrameMode):aJ c L sp {fr with mode:=m}:=⟨h.fn,h.todo,h.defers,h.kind⟩
def aJ.Cr(h:aJ c L sp fr)(t)(a:∀i∈t,dS L fr.roundOf.isSome i=Z):aJ c L sp {fr with todo:=t}:=⟨h.fn,a,h.defers,h.kind⟩
def aJ.qC(h:aJ c L sp fr)(t)(a:∀i∈t,nF i=Z):aJ c L sp {fr with defers:=t}:=⟨h.fn,h.todo,a,h.kind⟩
theorem eS:∀{fr:Frame} {cs:List Frame} {v:Θ} {cs':List Frame},(∀x∈cs,aJ c L sp x) ->YU fr cs=R (v,cs') ->∀x∈cs',aJ c L sp x
 |fr,[],v,cs',h,e=>by unfold YU at e;split at e<;>simp_all
 |fr,caller::rest,v,cs',h,e=>by
  unfold YU at e;split at e
  rename_i b hc;cases hc
  split at e
  cases e
  intro x a;obtain rfl|a:=ι.1 a
  exact(h caller<|by simp).mode _;exact h x (by simp[a]);cases e
  rename_i b hc;cases hc
  obtain⟨⟨v1,r1⟩,e1,e2⟩:=ZY.1 e;cases e2
  intro x a;obtain rfl|a:=ι.1 a
  exact h _ (by simp);exact eS (λy d=>h y<|by simp[d]) e1 x a;cases e
theorem pR:∀{l:Nat} {cs:List Frame} {v:Θ} {cs':List Frame},(∀x∈cs,aJ c L sp x) ->Yc l cs=R (v,cs') ->∀x∈cs',aJ c L sp x
 |l,[],v,cs',h,e=>by simp[Yc]at e
 |l,fr::rest,v,cs',h,e=>by
  obtain⟨⟨v1,r1⟩,e1,e2⟩:=ZY.1 e;cases e2
  have b:∀y∈rest,aJ c L sp y:=λy d=>h y (by simp[d]);intro x a;obtain rfl|a:=ι.1 a
  exact h _ (by simp);split at e1
  ·exact pR b e1 x a
  split at e1
  ·exact eS b e1 x a
  exact pR b e1 x a;exact pR b e1 x a
theorem oP{r:Bool}:∀{id:Nat} {k t:List Zw},(∀i∈k,dS L r i=Z) ->XS id k=R t->∀i∈t,dS L r i=Z
 |id,[],t,h,e=>by simp[XS]at e
 |id,i::k,t,h,e=>by
  have b:∀i∈k,dS L r i=Z:=λi hi=>h i (by simp[hi]);unfold XS at e;split at e
  rename_i a;cases a
  split at e
  cases e;exact b
  exact oP b e;rename_i a;cases a
  exact oP b e
  grind
theorem jL{r:Bool}:∀{b:Code} {l:Nat} {t:Code},be L r b=Z->XW b l=R t->be L r t=Z
 |.seq a b,l,t,h,e=>by
  simp only[be,Bool.and_eq_true]at h;unfold XW at e;split at e
  rename_i t1 c;cases e
  simp only[be,Bool.and_eq_true];exact⟨jL h.1 c,h.2⟩;exact jL h.2 e
 |.label l',l,t,h,e=>by
  unfold XW at e;split at e
  cases e;rfl
  cases e
 |.skip,_,_,_,e|.region _ _ _,_,_,_,e|.cond _ _ _,_,_,_,e|.block _ _,_,_,_,e|.loop _,_,_,_,e|.rangeFunc _ _ _ _,_,_,_,e|.exit _,_,_,_,e|.scope _,_,_,_,e|.goto _,_,_,_,e|.ret,_,_,_,e|.refuse _,_,_,_,e=>by simp[XW]at e
theorem oQ{r:Bool}:∀{l:Nat} {k t:List Zw},(∀i∈k,dS L r i=Z) ->gotoIn l k=R t->∀i∈t,dS L r i=Z
 |l,[],t,h,e=>by simp[gotoIn]at e
 |l,i::k,t,h,e=>by
  have c:∀i∈k,dS L r i=Z:=λi hi=>h i (by simp[hi]);unfold gotoIn at e;split at e
  rename_i body f a;cases a
  split at e
  rename_i rest hb;cases e
  have b:=h (.inScope body) (by simp);intro j d;obtain rfl|d:=ι.1 d
  exact jL b hb
  grind
  exact oQ c e;rename_i a;cases a
  exact oQ c e;rename_i a;cases a
end
end
section
def Yields{α:Type}(P:Ξ)(x:ZU α)(Φ:α->Prop):Prop:=∀u a u',x.run P u=.ok a u'->Φ a
section
variable{c:Ctx}{L:bu}{sp:Z8}
def aW{d c P x}{f:d->ZU c}{Φ}(h:∀a,Yields P (f a) Φ):Yields P (x>>=f) Φ:=by
 intro u b g e;rw[μ]at e;cases hx:x.run P u with
 |ok a u1=>rw[hx]at e;exact h a u1 b g e
 |halt r u1=>simp_all
def bQ{c P a Φ}(h:Φ a):Yields P (pure a:ZU c) Φ:=by
 intro u b d e
 simp_all
def iR{a P Φ}(r):Yields P (.halt r:ZU a) Φ:=by intro u b c e;cases e
def vu{a P Φ}(s):Yields P (stuck s:ZU a) Φ:=iR _
def cA{b P Φ}(e):Yields P (runtimePanic e:ZU b) Φ:=by
 refine aW λp=>?_;cases e with
 |typeAssertion i d a m=>exact aW λ_=>aW λ_=>iR _
 |panicNil=>exact aW λ_=>aW λ_=>iR _
 |_=>exact iR _
def eM(c:Ctx)(L:bu):X5->Prop
 |.value _|.skip|.recover=>True
 |.enter f _=>∃fn b,c.F[f]?=R fn/\fn.body=R b
 |.round _ f _ a b=>c.okF f/\be L Z a=Z/\be L Z b=Z
 |.defer d=>nF d=Z
 |_=>False
def i7(hF:ge c L sp)(f args):Yields c.P (Γ f args) (eM c L):=by
 intro u n l e;unfold Γ at e;rw[μ,kP]at e;simp only[Z1]at e;have d:=hF.pair f;rw[show c.P.funcs[f]?=c.F[f]? from rfl]at e;generalize j:c.F[f]?=x at d e;generalize c.G[f]?=y at d;cases d with
 |none=>cases e
 |oO fn g i o m q=>
  dsimp only at e;rw[m,i]at e;cases e
  cases hb:fn.body with
  |none=>rw[hb]at i;cases i
  |some b=>exact⟨fn,b,j,hb⟩
 |row fn h=>obtain⟨ex,k,p⟩:=h.row;dsimp only at e;rw[h.name,h.body,h.next,k]at e;exact(aW (Φ:=eM c L) λ_=>aW λx=>bQ (a:=Next.value x) trivial) u n l e
 |dead fn g h=>dsimp only at e;rw[h.name,h.body,h.next,h.row,h.init]at e;cases e
def kx(hF:ge c L sp)(r name args):Yields c.P (Yd r name args) (eM c L):=by
 unfold Yd;split
 exact aW λ_=>aW λ_=>i7 hF _ _;exact cA _;exact vu _
def vv(b a t cs args)(h:jl c.T b a):Yields c.P (builtin b a t cs args) (eM c L):=by
 cases b<;>first
  |exact False.elim h
  |exact aW λ_=>bQ trivial
  |exact bQ trivial
def ub(c:Ctx)(u:ξ):Prop:=∀(b:Nat) o,u.heap[b]?=R o->c.ok o
variable{u' u:ξ}{n:X5}
def pI{l r}(hs:ub c u)(e:(ZG l).run c.P u=.ok r u'):c.ok (.loop r)/\u'=u:=by
 unfold ZG getObj at e;simp only[bind,ZO,ο]at e;split at e
 cases e
 rename_i o b a;split at e
 cases e
 exact⟨hs _ _ a,rfl⟩;cases e
 cases e
def AW(hF:ge c L sp)(hs:ub c u){l args}(e:(Ye l args).run c.P u=.ok n u'):eM c L n:=by
 unfold Ye at e;rw[μ]at e;cases h:(ZG l).run c.P u with
 |halt r u1=>rw[h]at e;cases e
 |ok r u1=>
  rw[h]at e;have d:=(c.loop _).1 (pI hs h).1;have f:Yields c.P (do
   if args.size≠r.params.size then stuck "yield: the wrong number of arguments"
   pure (.round l r.fn ((r.params.zip args).foldl (λb (t,a)=>b.setIfInBounds t a) r.tmps) r.assign r.body)) (eM c L):=by
   split
   simp_all
   exact bQ ⟨d.1,(hF.tX _).1 d.2.1,(hF.tX _).1 d.2.2.1⟩
  exact f u1 n u' e
def kV(hF:ge c L sp)(hs:ub c u){t args}(b:nz c.T t)(a:∀x,t≠.coroexit x)(e:(Zz t args).run c.P u=.ok n u'):eM c L n:=by
 unfold Zz at e;split at e
 trivial;exact vv _ _ _ _ _ b u n u' e;exact i7 hF _ _ u n u' e;split at e
 ·exact kx hF _ _ _ u n u' e
 cases e
 split at e
 ·exact(aW λ_=>kx hF _ _ _) u n u' e
 cases e
 split at e
 ·exact(aW λ_=>i7 hF _ _) u n u' e
 cases e
 exact AW hF hs e;cases e
 exact absurd rfl<|a _
def kW{P a k t d}(e:(Y4 a k t).run P u=.ok d u'):u'=u/\(∀x,d.target≠.coroexit x)/\((∀b,k.callee≠.builtin b) ->nF d=Z):=by
 unfold Y4 at e;split at e
 rename_i b hb;cases e
 exact⟨rfl,by simp,λh=>absurd hb<|h _⟩;cases e
 exact⟨rfl,by simp,λ_=>rfl⟩;unfold ZQ at e;split at e<;>cases e<;>exact⟨rfl,by simp,λ_=>rfl⟩
def xJ(hF:ge c L sp)(hs:ub c u){q o}(h:AU L o.op=Z)(e:(YB q o).run c.P u=.ok n u'):eM c L n:=by
 obtain⟨B,op,l,pos,after,guard⟩:=o;unfold YB at e;dsimp only at h e;have i:∀{x:ZU Unit},(x>>=λa=>pure Next.skip).run c.P u=.ok n u'->eM c L n:=λe=>(aW (Φ:=eM c L) λ_=>bQ (a:=Next.skip) trivial) u n u' e;cases op with
 |call k=>
  dsimp only at e;rw[μ]at e;cases hd:(Y4 q k l).run c.P u with
  |halt r u1=>rw[hd]at e;cases e
  |ok d u1=>
   rw[hd]at e;obtain⟨rfl,A,_⟩:=kW hd;refine kV hF hs ?_ A e;unfold Y4 at hd;obtain⟨j,z,p⟩:=k;cases j with
   |value f=>exact kU hd
   |invoke r m=>cases hd;trivial
   |builtin b=>cases hd;exact kT hF.lists h
 |defer k=>
  dsimp only at e;rw[μ]at e;cases hd:(Y4 q k l).run c.P u with
  |halt r u1=>rw[hd]at e;cases e
  |ok d u1=>
   rw[hd]at e;obtain⟨rfl,A,y⟩:=kW hd;cases e
   refine y λb hb=>?_;simp only[AU,hb]at h;cases h
 |nilCheck x=>
  dsimp only at e;have y:Yields c.P (match q x with
  |Ψ φ|.nilIface|.nilFunc=>runtimePanic .nilDeref
  |.func (.method name) first captured=>
   match(first[0]?:Option Θ)with
   |some .nilIface=>runtimePanic .nilDeref
   |some (.iface t w)=>do
    if(<-nilAhead ((<-program).types.size+Made.depth) t w name) !=R Y then
     unsupported (.noEntry "op/nilCheck.the method's receiver behind this interface value is a nil pointer, or cannot be seen to be none, and the arguments act or may panic (ledger 612)")
    pure (.value<|.func (.method name) first captured)
   |_=>pure<|.value<|.func (.method name) first captured
  |x=>pure (.value x):ZU X5) (eM c L):=by
   split
   exact cA _;exact cA _;exact cA _;split
   ·exact cA _
   refine aW λ_=>aW λ_=>?_;dsimp only;split
   exact aW λ_=>bQ trivial;exact bQ trivial;exact bQ trivial;exact bQ trivial
  exact y u n u' e
 |move x=>cases e;trivial
 |assign x=>cases e;trivial
 |pick a b d=>exact(aW (Φ:=eM c L) λv=>bQ (a:=Next.value (if(v:Bool)=Z then q b else q d)) trivial) u n u' e
 |store t a x=>exact i e
 |mapUpdate t m k x=>exact i e
 |insert t m k x=>exact i e
 |go k=>cases h
 |send a b=>cases h
 |recv a b d=>cases h
 |select a b=>cases h
 |ready g=>cases h
 |entryStore t m s x=>cases h
 |_=>exact(λe=>(aW (Φ:=eM c L) λa=>bQ (a:=Next.value a) trivial) u n u' e) e
end
end
section
structure OkG(c:Ctx)(L:bu)(sp:Z8)(g:Ω):Prop where
 frame:aJ c L sp g.frame
 callers:∀x∈g.callers,aJ c L sp x
 dying:g.dying=φ
def After(c:Ctx)(L:bu)(sp:Z8)(g' g'':Ω):Prop:=
 (g''=g'/\OkG c L sp g')\/∃args kind cs,g'={frame:=Frame.enter c.P sp args kind,callers:=cs,status:=.running,dying:=φ}/\g''={frame:=Frame.enter c.Q sp args kind,callers:=cs,status:=.running,dying:=φ}/\
   ((kind=.normal\/kind=.deferred)/\cs≠[])/\∀x∈cs,aJ c L sp x
def Shape(g:Ω):Prop:=(∀d,g.dying=R d->d.calling=Y)/\(g.status=.running\/g.status=.blocked\/g.status=.waiting\/g.status=.finished)
def aL{fr cs}:Shape {frame:=fr,callers:=cs,status:=.running,dying:=φ}:=⟨(λd h=>by cases h),.inl rfl⟩
def c7(c:Ctx)(L:bu)(sp:Z8)(k:Nat)(u w:ξ)(s s':GStep):Prop:=
 match s with
 |.go g' u' _=>Shape g'/\(g'.status=.running->g'.dying=φ->u'.drawn<=u.drawn+k->
   ∃g'' w' es',s'=.go g'' w' es'/\After c L sp g' g''/\Rel c.ok c.T.globals.size c.S (u.drawn+k-u'.drawn) u' w'/\kE c.S u u' w w'/\(∀e∈es',jG c.S u' e)/\u.heap.size<=u')
 |.ended (.done v) u' _=>u'.drawn<=u.drawn+k->
   ∃w' es',s'=.ended (.done v) w' es'/\Rel c.ok c.T.globals.size c.S (u.drawn+k-u'.drawn) u' w'/\kE c.S u u' w w'/\(∀e∈es',jG c.S u' e)/\u.heap.size<=u'
 |.ended _ _ _=>True
 |_=>False
section
variable{c:Ctx}{L:bu}{sp:Z8}{fr:Frame}{cs:List Frame}{k:Nat}{u w:ξ}
def rp(h:aJ c L sp fr):(fr.kind==.early)=Y:=by obtain e|e:=h.kind<;>rw[e]<;>rfl
def rq(hF:ge c L sp){f fn b}(e:f≠sp)(a:c.F[f]?=R fn)(d:fn.body=R b)(args kd):Frame.enter c.Q f args kd=Frame.enter c.P f args kd:=by have:=(hF.same f fn b e a d).1;unfold Frame.enter;rw[show c.Q.funcs[f]?=R fn from this,show c.P.funcs[f]?=R fn from a]
def xK(hF:ge c L sp){f fn b}(e:f≠sp)(a:c.F[f]?=R fn)(d:fn.body=R b)(args){kd}(g:kd=.normal\/kd=.deferred):aJ c L sp (Frame.enter c.P f args kd):=by refine⟨⟨e,fn,b,a,d⟩,λi hi=>?_,by simp[Frame.enter],g⟩;unfold Frame.enter at hi⊢;rw[show c.P.funcs[f]?=R fn from a]at hi;simp only[Option.bind_some,d,XV]at hi;subst hi;exact(hF.same f fn b e a d).2
def pJ(hF:ge c L sp){f}(h:∃fn b,c.F[f]?=R fn/\fn.body=R b)(args){kd}(g:kd=.normal\/kd=.deferred)(a:∀x∈cs,aJ c L sp x)(e:cs≠[]):
 After c L sp {frame:=Frame.enter c.P f args kd,callers:=cs,status:=.running,dying:=φ} {frame:=Frame.enter c.Q f args kd,callers:=cs,status:=.running,dying:=φ}:=by
 obtain⟨fn,b,j,i⟩:=h;by_cases d:f=sp
 subst d;exact .inr ⟨args,kd,cs,rfl,rfl,⟨g,e⟩,a⟩;exact .inl ⟨by rw[rq hF d j i],xK hF d j i args g,a,rfl⟩
def xL{l f d a b kd}(hF:ge c L sp)(h:c.okF f/\be L Z a=Z/\be L Z b=Z)(e:kd=.normal\/kd=.deferred):aJ c L sp (Frame.round l f d a b kd):=by
 refine⟨(hF.okF f).1 h.1,λi hi=>?_,by simp[Frame.round],e⟩;simp only[Frame.round,ι,List.not_mem_nil,or_false]at hi;obtain rfl|rfl|rfl:=hi
 exact h.2.1;rfl;exact h.2.2
def cx{p f a B}(h:∀e∈a,jG c.S B e):∀e∈seen p f (#[]++a)++#[],jG c.S B e:=λe b=>h e (by have:=X4 b;simpa using this)
def dD{a p}{s:ZU a}{u r}(h:s.run p u=r):∃es,s.runT p u #[]=(r,es):=by simp_all
def afC{s}{n:X5}{b f}(g:kF c.ok c.T.globals.size c.S c.Q k u w s (.ok n b))(d:u.heap.size<=b.heap.size)(hd:b.drawn<=u.drawn+k):∃w' a,s.runT c.Q w #[]=(Result.ok n w',a)/\Rel c.ok c.T.globals.size c.S (u.drawn+k-b.drawn) b w'/\kE c.S u b w w'/\(∀e∈seen c.Q f a++#[],jG c.S b e)/\u.heap.size<=b.heap.size:=
 let⟨w',a,q1,q2,q3,q4⟩:=g hd
 ⟨w',#[]++a,q1 #[],q2,q3,cx q4,d⟩
def oR(hF:ge c L sp)(i:aJ c L sp fr)(q:∀x∈cs,aJ c L sp x){s}(hs:TT c s)(hR:Rel c.ok c.T.globals.size c.S k u w)(hn:∀n E,s.run c.P u=.ok n E->eM c L n):
 c7 c L sp k u w (ZB c.P Z fr cs φ s u) (ZB c.Q Z fr cs φ s w):=by
 have G:=hs k u w hR;have J:∀x∈fr::cs,aJ c L sp x:=λx B=>(ι.1 B).elim (λe=>e▸i)<|q x;cases B:s.run c.P u with
 |ok n E=>
  rw[B]at G;have C:=hn n E B;have D:u.heap.size<=E:=by have:=(bY c.P s u).2;rwa[B]at this
  obtain⟨O,N⟩:=dD B;unfold ZB;simp only[if_true,N,rp i,Bool.false_eq_true,if_false];have p:=afC (f:=fr.fn) G D;generalize (s).runT c.Q w #[]=r at p⊢;cases n with
  |value v=>refine⟨aL,λ_ _ hd=>?_⟩;obtain⟨A,o,rfl,t⟩:=p hd;exact⟨_,_,_,rfl,.inl ⟨rfl,i.finish v,q,rfl⟩,t⟩
  |skip=>refine⟨aL,λ_ _ hd=>?_⟩;obtain⟨A,o,rfl,t⟩:=p hd;exact⟨_,_,_,rfl,.inl ⟨rfl,i.finish undef,q,rfl⟩,t⟩
  |enter f F=>refine⟨aL,λ_ _ hd=>?_⟩;obtain⟨A,o,rfl,t⟩:=p hd;exact⟨_,_,_,rfl,pJ hF C F (.inl (by split<;>first|rfl|(rename_i d r s t K;exact absurd (i.todo (.call d Z r s) (by rw[K];simp))<|by simp[dS]))) J<|by simp,t⟩
  |round l f W a b=>refine⟨aL,λ_ _ hd=>?_⟩;obtain⟨A,o,rfl,t⟩:=p hd;exact⟨_,_,_,rfl,.inl ⟨rfl,xL hF C<|.inl rfl,J,rfl⟩,t⟩
  |defer d=>refine⟨aL,λ_ _ hd=>?_⟩;obtain⟨A,o,rfl,t⟩:=p hd;exact⟨_,_,_,rfl,.inl ⟨rfl,(i.qC (d::fr.defers) λx B=>(ι.1 B).elim (λe=>e▸C)<|i.defers x).finish undef,q,rfl⟩,t⟩
  |recover=>
   have z:c.P.follows .rangeFuncRecover=c.T.follows .rangeFuncRecover:=rfl;have j:c.Q.follows .rangeFuncRecover=c.T.follows .rangeFuncRecover:=rfl;cases hro:fr.roundOf with
   |none=>
    cases hq:YU fr cs with
    |none=>simp only[hro,hq];refine⟨aL,λ_ _ hd=>?_⟩;obtain⟨A,o,rfl,t⟩:=p hd;simp only[hro,hq];exact⟨_,_,_,rfl,.inl ⟨rfl,i.finish _,q,rfl⟩,t⟩
    |some y=>obtain⟨v,H⟩:=y;simp only[hro,hq];refine⟨aL,λ_ _ hd=>?_⟩;obtain⟨A,o,rfl,t⟩:=p hd;simp only[hro,hq];exact⟨_,_,_,rfl,.inl ⟨rfl,i.finish _,eS q hq,rfl⟩,t⟩
   |some l=>
    cases hfo:c.T.follows .rangeFuncRecover with
    |true=>
     cases hq:YU fr cs with
     |none=>simp only[hro,hq,z,j,hfo,if_true];refine⟨aL,λ_ _ hd=>?_⟩;obtain⟨A,o,rfl,t⟩:=p hd;simp only[hro,hq,z,j,hfo,if_true];exact⟨_,_,_,rfl,.inl ⟨rfl,i.finish _,q,rfl⟩,t⟩
     |some y=>obtain⟨v,H⟩:=y;simp only[hro,hq,z,j,hfo,if_true];refine⟨aL,λ_ _ hd=>?_⟩;obtain⟨A,o,rfl,t⟩:=p hd;simp only[hro,hq,z,j,hfo,if_true];exact⟨_,_,_,rfl,.inl ⟨rfl,i.finish _,eS q hq,rfl⟩,t⟩
    |false=>
     cases hq:Yc l cs with
     |none=>simp only[hro,hq,z,j,hfo,Bool.false_eq_true,if_false];refine⟨aL,λ_ _ hd=>?_⟩;obtain⟨A,o,rfl,t⟩:=p hd;simp only[hro,hq,z,j,hfo,Bool.false_eq_true,if_false];exact⟨_,_,_,rfl,.inl ⟨rfl,i.finish _,q,rfl⟩,t⟩
     |some y=>obtain⟨v,H⟩:=y;simp only[hro,hq,z,j,hfo,Bool.false_eq_true,if_false];refine⟨aL,λ_ _ hd=>?_⟩;obtain⟨A,o,rfl,t⟩:=p hd;simp only[hro,hq,z,j,hfo,Bool.false_eq_true,if_false];exact⟨_,_,_,rfl,.inl ⟨rfl,i.finish _,pR q hq,rfl⟩,t⟩
  |_=>exact C.elim
 |halt r E=>
  rw[B]at G;have D:u.heap.size<=E:=by have:=(bY c.P s u).2;rwa[B]at this
  obtain⟨O,N⟩:=dD B;unfold ZB;simp only[if_true,N,rp i,Bool.false_eq_true,if_false];cases r with
  |panic v=>refine⟨aL,λ_ _ hd=>?_⟩;obtain⟨A,o,q1,q2,q3,q4⟩:=G hd;rw[q1 #[]];exact⟨_,_,seen c.Q fr.fn (#[]++o)++#[],rfl,.inl ⟨rfl,i.raise _,q,rfl⟩,q2,q3,cx q4,D⟩
  |goexit=>exact⟨aL,λ_ _ hd=>(G hd).elim⟩
  |blocked=>exact⟨⟨(λd h=>by cases h),.inr<|.inl rfl⟩,λh=>by cases h⟩
  |waiting=>exact⟨⟨(λd h=>by cases h),.inr<|.inr<|.inl rfl⟩,λh=>by cases h⟩
  |exit n=>trivial
  |fatal m=>
   unfold endFatal dieOf;dsimp only;split
   exact⟨⟨(λd h=>by cases h;rfl),.inl rfl⟩,λ_ h=>by cases h⟩;trivial;trivial
  |throw m=>exact⟨⟨(λd h=>by cases h;rfl),.inl rfl⟩,λ_ h=>by cases h⟩
  |unsupported x=>
   cases x with
   |initOrder g=>unfold early;have X:c.P.follows .staticDataAhead=Z:=hF.ahead;simp only[X,hF.R7 g,Bool.not_true,Bool.false_eq_true,if_false];trivial
   |_=>trivial
  |stuck x=>trivial
def ik{p}[Decidable p]{a b a' d}(h:p->c7 c L sp k u w a a')(h':¬p->c7 c L sp k u w b d):c7 c L sp k u w (if p then a else b) (if p then a' else d):=by grind
def PG(hF:ge c L sp)(g:aJ c L sp fr)(j:∀x∈cs,aJ c L sp x){d}(hd:nF d=Z)(J:Rel c.ok c.T.globals.size c.S k u w):
 c7 c L sp k u w (Zd c.P fr cs φ d u) (Zd c.Q fr cs φ d w):=by
 unfold Zd;refine ik (λ_=>trivial) λ_=>?_;have G:nz c.T d.target:=by unfold nF at hd;cases h:d.target<;>rw[h]at hd<;>first|trivial|cases hd
 have C:∀x,d.target≠.coroexit x:=by intro x h;unfold nF at hd;rw[h]at hd;cases hd
 have A:=jm (pH hF.pair) d.target d.args G k u w J;have B:∀x∈fr::cs,aJ c L sp x:=λx p=>(ι.1 p).elim (λe=>e▸g)<|j x;cases p:(Zz d.target d.args).run c.P u with
 |ok n E=>
  rw[p]at A;have s:=kV hF J.safe G C p;have q:u.heap.size<=E:=by have:=(bY c.P (Zz d.target d.args) u).2;rwa[p]at this
  obtain⟨F,D⟩:=dD p;simp only[D];have o:=afC (f:=fr.fn) A q;generalize (Zz d.target d.args).runT c.Q w #[]=r at o⊢;cases n with
  |value v=>refine⟨aL,λ_ _ hd=>?_⟩;obtain⟨y,i,rfl,t⟩:=o hd;exact⟨_,_,_,rfl,.inl ⟨rfl,g,j,rfl⟩,t⟩
  |skip=>refine⟨aL,λ_ _ hd=>?_⟩;obtain⟨y,i,rfl,t⟩:=o hd;exact⟨_,_,_,rfl,.inl ⟨rfl,g,j,rfl⟩,t⟩
  |enter f z=>refine⟨aL,λ_ _ hd=>?_⟩;obtain⟨y,i,rfl,t⟩:=o hd;exact⟨_,_,_,rfl,pJ hF s z (.inr rfl) B<|by simp,t⟩
  |round l f H a b=>refine⟨aL,λ_ _ hd=>?_⟩;obtain⟨y,i,rfl,t⟩:=o hd;exact⟨_,_,_,rfl,.inl ⟨rfl,xL hF s<|.inr rfl,B,rfl⟩,t⟩
  |defer e=>refine⟨aL,λ_ _ hd=>?_⟩;obtain⟨y,i,rfl,t⟩:=o hd;exact⟨_,_,_,rfl,.inl ⟨rfl,g,j,rfl⟩,t⟩
  |recover=>
   cases hm:fr.mode<;>cases hq:YU fr cs<;>simp only[hm,hq]<;>refine⟨aL,λ_ _ hd=>?_⟩<;>obtain⟨y,i,rfl,t⟩:=o hd<;>simp only[hm,hq]<;>
    first
    |exact⟨_,_,_,rfl,.inl ⟨rfl,g,j,rfl⟩,t⟩
    |exact⟨_,_,_,rfl,.inl ⟨rfl,g,eS j hq,rfl⟩,t⟩
  |_=>exact s.elim
 |halt r E=>
  rw[p]at A;have q:u.heap.size<=E:=by have:=(bY c.P (Zz d.target d.args) u).2;rwa[p]at this
  obtain⟨F,D⟩:=dD p;simp only[D];cases r with
  |panic v=>refine⟨aL,λ_ _ hd=>?_⟩;obtain⟨y,i,q1,O,K,N⟩:=A hd;rw[q1 #[]];exact⟨_,_,seen c.Q fr.fn (#[]++i)++#[],rfl,.inl ⟨rfl,g.raise _,j,rfl⟩,O,K,cx N,q⟩
  |goexit=>exact⟨aL,λ_ _ hd=>(A hd).elim⟩
  |blocked=>exact⟨⟨(λd h=>by cases h),.inr<|.inl rfl⟩,λh=>by cases h⟩
  |waiting=>exact⟨⟨(λd h=>by cases h),.inr<|.inr<|.inl rfl⟩,λh=>by cases h⟩
  |exit n=>trivial
  |fatal m=>
   unfold endFatal dieOf;dsimp only;split
   exact⟨⟨(λd h=>by cases h;rfl),.inl rfl⟩,λ_ h=>by cases h⟩;trivial;trivial
  |throw m=>exact⟨⟨(λd h=>by cases h;rfl),.inl rfl⟩,λ_ h=>by cases h⟩
  |unsupported x=>trivial
  |stuck x=>trivial
def AX(fn a):TT c (XR fn a):=by
 refine ae (xh (λx=>?_) _) λb=>bX _;split
 simp;simp
def oS{u f b ds}(hs:ub c u)(e:(ZC b).run c.P u=.ok ds f):ds=[]:=by
 unfold ZC getObj setObj at e;simp only[bind,ZO,ο]at e;split at e
 cases e
 rename_i o g d;split at e
 rename_i a hc;have:=(c.deferred _).1<|hs _ _ d;simp only[ο]at e
 simp_all
 cases e
 cases e
end
end
section
section
variable{c:Ctx}{L:bu}{sp:Z8}{fr:Frame}{cs:List Frame}{k:Nat}{u w:ξ}
def ru{s s' u1 w1 q b}(z:u1.drawn<=u.drawn+k)(D:u.drawn<=u1.drawn)(r:kE c.S u u1 w w1)(t:∀e∈b,jG c.S u1 e)(i:u.heap.size<=u1)(h:c7 c L sp (u.drawn+k-u1.drawn) u1 w1 s s'):
 c7 c L sp k u w (ζ q s) (ζ b s'):=by
 cases s with
 |go C g A=>
  refine⟨h.1,λy x h3=>?_⟩;obtain⟨p,j,d,q1,B,l,n,m,f⟩:=h.2 y x (by omega);refine⟨p,j,b++d,by rw[q1];rfl,B,by rw[show u.drawn+k-g.drawn=u1.drawn+(u.drawn+k-u1.drawn) -g.drawn by omega];exact l,r.trans n,λe a=>?_,Y0 i f⟩;obtain a|a:=Array.mem_append.1 a
  exact(t e a).mono f;exact m e a
 |ended o g A=>
  cases o with
  |done v=>
   intro h3;obtain⟨j,d,q1,l,n,m,f⟩:=h (by omega);refine⟨j,b++d,by rw[q1];rfl,by rw[show u.drawn+k-g.drawn=u1.drawn+(u.drawn+k-u1.drawn) -g.drawn by omega];exact l,r.trans n,λe a=>?_,Y0 i f⟩;obtain a|a:=Array.mem_append.1 a
   exact(t e a).mono f;exact m e a
  |_=>trivial
 |_=>exact h.elim
def xM(hF:ge c L sp)(a:aJ c L sp fr)(g:∀x∈cs,aJ c L sp x)(v):
 (∃g',Shape g'/\(∀u,Y9 c.P Z fr cs φ v u=.go g' u)/\(∀u,Y9 c.Q Z fr cs φ v u=.go g' u)/\OkG c L sp g')\/
 ((∀u,Y9 c.P Z fr cs φ v u=.ended (.done v) u)/\∀u,Y9 c.Q Z fr cs φ v u=.ended (.done v) u):=by
 unfold Y9;obtain _|⟨caller,rest⟩:=cs
 right;dsimp only;obtain⟨hs,f,b,d,h⟩:=a.fn;have hi:=hF.inits _ f b d h;have i:c.P.inits.idxOf? fr.fn=φ:=hi;have j:c.Q.inits.idxOf? fr.fn=φ:=hi;obtain e|e:=a.kind<;>simp only[e,i,j,Bool.not_true,Bool.false_eq_true,if_false]<;>
  exact⟨λ_=>trivial,λ_=>trivial⟩
 have d:=g caller (by simp);have h:∀x∈rest,aJ c L sp x:=λx k=>g x (by simp[k]);left;dsimp only;obtain e|e:=a.kind<;>rw[e]<;>dsimp only
 exact⟨_,aL,λ_=>rfl,λ_=>rfl,d.finish v,h,rfl⟩;refine⟨_,aL,λ_=>rfl,λ_=>rfl,?_,h,rfl⟩;dsimp only;split
 split
 ·exact d.mode _
 exact d.mode _;exact d
def pK(hF:ge c L sp)(i:aJ c L sp fr)(l:∀x∈cs,aJ c L sp x)(v){u1:ξ}{f s'}(b:u.heap.size<=u1)(h:u1.drawn<=u.drawn+k->∃w1 a,s'=ζ a (Y9 c.Q Z fr cs φ v w1)/\Rel c.ok c.T.globals.size c.S (u.drawn+k-u1.drawn) u1 w1/\kE c.S u u1 w w1/\∀e∈a,jG c.S u1 e):
 c7 c L sp k u w (ζ f<|Y9 c.P Z fr cs φ v u1) s':=by
 obtain⟨o,h0,j,g,h3⟩|⟨j,g⟩:=xM hF i l v
 rw[j];refine⟨h0,λ_ _ hd=>?_⟩;obtain⟨w1,a,q1,n,m,d⟩:=h hd;exact⟨o,w1,a++#[],by rw[q1,g];rfl,.inl ⟨rfl,h3⟩,n,m,by simpa using d,b⟩;rw[j];intro hd;obtain⟨w1,a,q1,n,m,d⟩:=h hd;exact⟨w1,a++#[],by rw[q1,g];rfl,n,m,by simpa using d,b⟩
def rx{p f a B}(h:∀e∈a,jG c.S B e):∀e∈seen p f (#[]++a),jG c.S B e:=λe b=>h e (by have:=X4 b;simpa using this)
def ry(hF:ge c L sp)(e:aJ c L sp fr)(g:∀x∈cs,aJ c L sp x)(t:Rel c.ok c.T.globals.size c.S k u w):
 c7 c L sp k u w (Yb c.P Z fr cs φ u) (Yb c.Q Z fr cs φ w):=by
 unfold Yb;split
 rename_i block E ds m;have n:=qn (c:=c) block k u w t;cases a:(ZC block).run c.P u with
 |ok B o=>
  rw[a]at n;obtain⟨l,i⟩:=dD a;have q:=oS t.safe a;have j:u.heap.size<=o:=by have:=(bY c.P (ZC block) u).2;rwa[a]at this
  simp only[i];refine⟨aL,λ_ _ hd=>?_⟩;obtain⟨D,p,q1,C,z,A⟩:=n hd;rw[q1 #[]];exact⟨_,_,seen c.Q fr.fn (#[]++p)++#[],rfl,.inl ⟨rfl,e.qC _ (by subst q;exact(λx a=>e.defers x (by rw[m];simp[a]):∀x∈ds,nF x=Z)),g,rfl⟩,C,z,cx A,j⟩
 |halt r o=>obtain⟨l,i⟩:=dD a;simp only[i];trivial
 rename_i d ds m s;exact PG hF (e.qC ds λx a=>e.defers x (by rw[s];simp[a])) g (e.defers d (by rw[s];simp)) t;obtain⟨hs,f,b,G,J⟩:=e.fn;have H:c.P.funcs[fr.fn]?=R f:=G;have F:c.Q.funcs[fr.fn]?=R f:=(hF.same _ _ _ hs G J).1;split
 trivial;rename_i y K;have e1:fr.catches c.P=Y:=by unfold Frame.catches;rw[H]
 have e2:fr.catches c.Q=Y:=by unfold Frame.catches;rw[F]
 simp only[e1,e2,Bool.false_eq_true,if_false];obtain _|⟨caller,rest⟩:=cs
 dsimp only;refine ik (λ_=>⟨⟨(λd h=>by cases h),.inr<|.inr<|.inr rfl⟩,λh=>by cases h⟩) λ_=>?_;split
 exact⟨⟨(λd h=>by cases h;rfl),.inl rfl⟩,λ_ h=>by cases h⟩;trivial;trivial;exact⟨aL,λ_ _ hd=>⟨_,_,#[],rfl,.inl ⟨rfl,(g caller<|by simp).raise _,λx a=>g x<|by simp[a],rfl⟩,by rw[(by omega:u.drawn+k-u.drawn=k)];exact t,.refl _ _,by simp,.refl⟩⟩;rw[H,F];dsimp only;have n:=AX (c:=c) f fr.tmps k u w t;cases a:(XR f fr.tmps).run c.P u with
 |ok v o=>
  rw[a]at n;obtain⟨l,i⟩:=dD a;have j:u.heap.size<=o:=by have:=(bY c.P (XR f fr.tmps) u).2;rwa[a]at this
  simp only[i];refine pK hF e g v j λhd=>?_;obtain⟨D,p,q1,C,z,A⟩:=n hd;rw[q1 #[]];exact⟨D,_,rfl,C,z,rx A⟩
 |halt r o=>obtain⟨l,i⟩:=dD a;simp only[i];cases r<;>trivial
def AY(d:Rel c.ok c.T.globals.size c.S k u w){fr'}(a:aJ c L sp fr')(b:∀x∈cs,aJ c L sp x):
 c7 c L sp k u w (.go {frame:=fr',callers:=cs,status:=.running,dying:=φ} u) (.go {frame:=fr',callers:=cs,status:=.running,dying:=φ} w):=
 ⟨aL,λ_ _ hd=>⟨_,_,#[],rfl,.inl ⟨rfl,a,b,rfl⟩,by rw[show u.drawn+k-u.drawn=k by omega];exact d,.refl _ _,by simp,.refl⟩⟩
def xN(hF:ge c L sp){u d l j}(hs:ub c u)(e:(Zo l).run c.P u=.ok j d):∀x,j=R x->be L Z x=Z:=by
 unfold Zo at e;rw[μ]at e;cases h:(ZG l).run c.P u with
 |halt r u1=>rw[h]at e;cases e
 |ok r u1=>
  rw[h]at e;have b:=(c.loop _).1 (pI hs h).1;have f:Yields c.P (do
   if r.state==.busy then runtimePanic (.error "range function recovered a loop body panic and did not resume panicking")
   setObj l (.loop {r with state:=.exhausted})
   pure r.pending) (λj=>∀x,j=R x->be L Z x=Z):=by
   split
   exact aW λ_=>aW λ_=>bQ λx a=>(hF.tX _).1<|b.2.2.2 x a;exact aW λ_=>bQ λx a=>(hF.tX _).1<|b.2.2.2 x a
  exact f u1 j d e
def tu{P u f fn c g a b ar l m}(e:(Zm fn c g a b ar).run P u=.ok (l,m) f):
 f.drawn=u.drawn/\∀d∈m,nF d=Z:=by
 unfold Zm at e;obtain _|r:=ar
 cases e
 refine⟨rfl,λd hd=>?_⟩;simp only[XV]at hd;subst hd;rfl;simp only[ZG,getObj,newObj,bind,ZO,ο,ZA]at e;split at e
 cases e
 split at e
 ·simp only[ZO,ο]at e
  grind
 cases e
 cases e
def vx(p:Ξ)(fr:Frame)(callers:List Frame)(jump:Option Code)(w:ξ):GStep:=
 match fr.roundOf with
 |none=>if jump matches φ|some .ret then .go {frame:={fr with mode:=.returning},callers,status:=.running,dying:=φ} w else .ended (.stuck "exit, goto: no such block or label"<|fr.pos p) w
 |some l=>
  let(r,es):=(YY l jump).runT p w #[]
  ζ (seen p fr.fn es)<|match r with
  |.ok v w=>Y9 p Z fr callers φ v w
  |.halt _ w=>.ended (.stuck "range over a function: no such loop"<|fr.pos p) w
def lM(hF:ge c L sp)(a:aJ c L sp fr)(b:∀x∈cs,aJ c L sp x)(h:Rel c.ok c.T.globals.size c.S k u w)(j)(q:∀x,j=R x->c.tX x):
 c7 c L sp k u w (vx c.P fr cs j u) (vx c.Q fr cs j w):=by
 obtain⟨f,i,todo,defers,mode,kind,s⟩:=fr;unfold vx;cases s with
 |none=>dsimp only;exact ik (λ_=>AY h (a.mode .returning) b) λ_=>trivial
 |some l=>
  dsimp only;have m:=xD (c:=c) l j q k u w h;cases hx:(YY l j).run c.P u with
  |ok v n=>
   rw[hx]at m;obtain⟨d,e⟩:=dD hx;have g:u.heap.size<=n:=by have:=(bY c.P (YY l j) u).2;rwa[hx]at this
   simp only[e];refine pK hF a b v g λhd=>?_;obtain⟨p,z,q1,y,t,o⟩:=m hd;rw[q1 #[]];exact⟨p,_,rfl,y,t,rx o⟩
  |halt r n=>obtain⟨d,e⟩:=dD hx;simp only[e];trivial
def FU(hF:ge c L sp)(p:aJ c L sp fr)(A:∀x∈cs,aJ c L sp x)(F:Rel c.ok c.T.globals.size c.S k u w):
 c7 c L sp k u w (ZR c.P Z Z fr cs φ u) (ZR c.Q Z Z fr cs φ w):=by
 have hC:=pH hF.pair;have W:∀x:Code,(x=.ret\/(∃i,x=.exit i)\/∃i,x=.goto i) ->c.tX x:=λx q=>(hF.tX x).2 (by obtain rfl|⟨i,rfl⟩|⟨i,rfl⟩:=q<;>rfl);have to:∀(t:List Zw),(∀i∈t,dS L fr.roundOf.isSome i=Z) ->c7 c L sp k u w (.go {frame:={fr with todo:=t},callers:=cs,status:=.running,dying:=φ} u) (.go {frame:={fr with todo:=t},callers:=cs,status:=.running,dying:=φ} w):=λt ht=>AY F (p.Cr t ht) A
 have hok:=p.todo;obtain⟨f,h,todo,defers,mode,kind,B⟩:=fr;obtain _|⟨i,rest⟩:=todo
 exact lM hF p A F φ (by simp);have hi:=hok i (by simp);have K:∀x∈rest,dS L B.isSome x=Z:=λx q=>hok x (by simp[q]);have two:∀{x y:Zw},dS L B.isSome x=Z->dS L B.isSome y=Z->∀z∈x::y::rest,dS L B.isSome z=Z:=λh1 h2 z hz=>by
  obtain rfl|hz:=ι.1 hz
  exact h1;obtain rfl|hz:=ι.1 hz
  ·exact h2
  exact K z hz
 have one:∀{x:Zw},dS L B.isSome x=Z->∀z∈x::rest,dS L B.isSome z=Z:=λh1 z hz=>by
  obtain rfl|hz:=ι.1 hz
  exact h1;exact K z hz
 cases i with
 |code b=>
  cases b with
  |skip=>exact to rest K
  |region id C draw=>
   have g:=hi;obtain _|_:=draw
   exact to _<|one g;unfold ZR;simp only[Bool.not_true,Bool.false_eq_true,if_false];have J:=pP (c:=c) (.order f id) k u w F;cases q:(choose<|.order f id).run c.P u with
   |ok t E=>
    rw[q]at J;have D:u.heap.size<=E:=by have:=(bY c.P (choose<|.order f id) u).2;rwa[q]at this
    refine⟨aL,λ_ _ hd=>?_⟩;obtain⟨w',H,q1,O,q3,q4⟩:=J hd;rw[(by rw[<-YG c.Q _ w #[],q1 #[]]:(choose<|.order f id).run c.Q w=.ok t w')];exact⟨_,_,#[],rfl,.inl ⟨rfl,p.Cr _<|one (x:=.inRegion C<|Region.schedule (c.T.follows .mixedOrders) C t) g,A,rfl⟩,O,q3,by simp,D⟩
   |halt r E=>trivial
  |seq a b=>have g:(be L B.isSome a&&be L B.isSome b)=Z:=hi;rw[Bool.and_eq_true]at g;exact to _<|two g.1 g.2
  |cond x a b=>
   have g:(be L B.isSome a&&be L B.isSome b)=Z:=hi;rw[Bool.and_eq_true]at g;unfold ZR;dsimp only;split
   rename_i v _;obtain _|_:=v
   exact to _<|one g.2;exact to _<|one g.1;trivial
  |block id b=>exact to _<|two hi rfl
  |loop b=>exact to _<|two hi hi
  |rangeFunc x ps a b=>
   have g:(be L Z a&&be L Z b)=Z:=hi;rw[Bool.and_eq_true]at g;unfold ZR;dsimp only;have J:=vq (c:=c) f h ps a b B ((hF.okF f).2 p.fn) ((hF.tX _).2 g.1) ((hF.tX _).2 g.2) k u w F;cases q:(Zm f h ps a b B).run c.P u with
   |ok lm E=>
    obtain⟨l,m⟩:=lm;rw[q]at J;obtain⟨es0,X⟩:=dD q;have D:u.heap.size<=E:=by have:=(bY c.P (Zm f h ps a b B) u).2;rwa[q]at this
    obtain⟨hdr,hmk⟩:=tu q;obtain⟨w',H,q1,O,q3,q4⟩:=J (by omega);simp only[X,q1 #[]];have aiX:aJ c L sp ⟨f,h,.inRangeFunc l::rest,m++defers,mode,kind,B⟩:=(p.Cr _<|one (x:=.inRangeFunc l) rfl).qC (m++defers) λd hd=>(List.mem_append.1 hd).elim (hmk d)<|p.defers d
    refine ru (by omega) (by omega) q3 (rx q4) D ?_;refine oR hF aiX A ?_ O ?_;exact Cp hC (Frame.eval ⟨f,h,.inRangeFunc l::rest,m++defers,mode,kind,B⟩) x #[.const (.func (.yield l) #[] #[])];intro n u2 e;rw[μ]at e;cases hd:(Y4 (Frame.eval ⟨f,h,.inRangeFunc l::rest,m++defers,mode,kind,B⟩) {callee:=.value x,args:=#[.const (.func (.yield l) #[] #[])],argTypes:=#[]} 0).run c.P E with
    |halt r u3=>rw[hd]at e;cases e
    |ok d u3=>rw[hd]at e;obtain⟨rfl,hnx,_⟩:=kW hd;refine kV hF O.safe ?_ hnx e;unfold Y4 at hd;exact kU hd
   |halt r E=>obtain⟨es0,X⟩:=dD q;simp only[X];trivial
  |exit id=>
   unfold ZR;dsimp only;cases he:XS id rest with
   |none=>exact lM hF p A F (R<|.exit id) λx q=>by cases q;exact W _<|.inr<|.inl ⟨_,rfl⟩
   |some t=>exact to t<|oP K he
  |scope b=>exact to _<|two hi hi
  |label l=>exact to rest K
  |goto l=>
   unfold ZR;dsimp only;cases he:gotoIn l rest with
   |none=>exact lM hF p A F (R<|.goto l) λx q=>by cases q;exact W _<|.inr<|.inr ⟨_,rfl⟩
   |some t=>exact to t<|oQ K he
  |ret=>exact lM hF p A F (R .ret) λx q=>by cases q;exact W _<|.inl rfl
  |refuse why=>trivial
 |inBlock id=>exact to rest K
 |inLoop b=>exact to _<|two hi hi
 |inScope b=>exact to rest K
 |inRegion C todo=>
  obtain _|⟨i,is⟩:=todo
  exact to rest K;unfold ZR;dsimp only;have g:C.all (jK L B.isSome)=Z:=hi;refine ik (λ_=>?_) λ_=>AY F (p.finish undef) A;unfold X3;cases ho:C[i]? with
  |none=>simp only[Frame.oper?,ho];trivial
  |some o=>
   have G:jK L B.isSome o=Z:=by obtain⟨h1,h2⟩:=Array.getElem?_eq_some_iff.1 ho;rw[Array.all_eq_true]at g;have:=g i h1;rwa[h2]at this
   unfold jK at G;rw[Bool.and_eq_true]at G;have N:c7 c L sp k u w (ZB c.P Z ⟨f,h,.inRegion C (i::is)::rest,defers,mode,kind,B⟩ cs φ (YB (Frame.eval ⟨f,h,.inRegion C (i::is)::rest,defers,mode,kind,B⟩) o) u)
    (ZB c.Q Z ⟨f,h,.inRegion C (i::is)::rest,defers,mode,kind,B⟩ cs φ (YB (Frame.eval ⟨f,h,.inRegion C (i::is)::rest,defers,mode,kind,B⟩) o) w):=
    oR hF p A (DW hF.lists hC (λv=>rfl) o G.1) F λn E e=>xJ hF F.safe G.1 e
   simp only[Frame.oper?,ho];obtain _|l:=B
   exact N;cases hop:o.op with
   |defer kk=>rw[hop]at G;simp[Cq]at G
   |_=>exact N
 |inRangeFunc l=>trivial
 |endRangeFunc l=>
  unfold ZR;dsimp only;have J:=AM (c:=c) l k u w F;cases q:(Zo l).run c.P u with
  |ok j E=>
   rw[q]at J;obtain⟨es0,X⟩:=dD q;have D:u.heap.size<=E:=by have:=(bY c.P (Zo l) u).2;rwa[q]at this
   simp only[X];refine⟨aL,λ_ _ hd=>?_⟩;obtain⟨w',H,q1,O,q3,q4⟩:=J hd;rw[q1 #[]];refine⟨_,_,seen c.Q f (#[]++H)++#[],rfl,.inl ⟨rfl,p.Cr _ λz hz=>?_,A,rfl⟩,O,q3,cx q4,D⟩;obtain hz|hz:=List.mem_append.1 hz
   obtain _|b:=j
   simp at hz;simp at hz;subst hz;exact dM _<|(xN hF F.safe q) b rfl;exact K z hz
  |halt r E=>
   rw[q]at J;obtain⟨es0,X⟩:=dD q;have D:u.heap.size<=E:=by have:=(bY c.P (Zo l) u).2;rwa[q]at this
   simp only[X];cases r with
   |panic v=>refine⟨aL,λ_ _ hd=>?_⟩;obtain⟨w',H,q1,O,q3,q4⟩:=J hd;rw[q1 #[]];exact⟨_,_,seen c.Q f (#[]++H)++#[],rfl,.inl ⟨rfl,p.raise _,A,rfl⟩,O,q3,cx q4,D⟩
   |_=>trivial
 |beginRound=>
  unfold ZR;dsimp only;refine oR hF p A ?_ F ?_;obtain _|l:=B
  exact ae (ch _) λ_=>bX _;exact ae (tq l) λ_=>bX _
  exactλn E e=>(aW (Φ:=eM c L) λ_=>bQ (a:=Next.skip) trivial) u n E e
 |call d w r s=>cases hi
 |extern r a=>cases hi
def kX(hF:ge c L sp){g}(f:OkG c L sp g)(d:Rel c.ok c.T.globals.size c.S k u w):c7 c L sp k u w (stepG c.P Z g u) (stepG c.Q Z g w):=by
 obtain⟨fr,cs,st,dying,a⟩:=g;obtain⟨e,b,h3⟩:=f;subst h3;unfold stepG;dsimp only;cases hm:fr.mode with
 |run=>exact FU hF e b d
 |returning=>exact ry hF e b d
 |panicking h=>exact ry hF e b d
end
end
end gO
namespace gO
open Go Go.Conc
section
def Ends(P:Ξ)(Post:Θ->Array YE->Prop)(m:Yk):Prop:=∃n v w,runN P n m=.ended (.done v) w/\Post v w.heap
section
variable{P:Ξ}{Post:Θ->Array YE->Prop}{m m':Yk}
def Ends.next(h:Ends P Post m)(hs:step P m=.next m'):Ends P Post m':=by
 obtain⟨n,v,w,a,b⟩:=h;cases n with
 |zero=>simp[runN]at a
 |succ n=>simp only[runN,hs]at a;exact⟨n,v,w,a,b⟩
def Ends.run:∀{k} {m},Ends P Post m->runN P k m=.next m'->Ends P Post m'
 |0,m,h,hk=>by simp only[runN]at hk;cases hk;exact h
 |k+1,m,h,hk=>by
  simp only[runN]at hk;cases hs:step P m with
  |next m1=>rw[hs]at hk;exact(h.next hs).run hk
  |ended o w=>rw[hs]at hk;cases hk
def Ends.inv{I:Yk->Prop}(d:∀m,I m->(∃o w,step P m=.ended o w/\∀v,o≠.done v)\/∃a,step P m=.next a/\I a)(h:I m):¬Ends P Post m:=by
 rintro⟨n,v,w,b,c⟩
 induction n generalizing m with
 |zero=>simp[runN]at b
 |succ n e=>
  simp only[runN]at b
  grind
end
def FV(P:Ξ):Prop:=∀v t recv name,panicText P Y v=.call t recv name->∀w f args w',(Zz (.fn (.method name) #[]) #[.iface t recv]).run P w≠.ok (.enter f args) w'
def K8(g:Ω):Prop:=(g.status=.running/\∃d,g.dying=R d/\d.calling=Y)\/g.status=.blocked\/g.status=.waiting\/g.status=.finished
section
variable{P:Ξ}{Post:Θ->Array YE->Prop}
def endWith_ended(w b t o)(c:∀v,o≠.done v):∃a w' es,endWith w b t o=.ended a w' es/\∀v,a≠.done v:=by
 unfold endWith;dsimp only;split
 split
 ·grind
 simp
 grind
 simp
def D1(i:FV P)(fr d)(hd:d.calling=Y)(w):
 (∃o w' es,die P fr d w=.ended o w' es/\∀v,o≠.done v)\/∃g' w' es,die P fr d w=.go g' w' es/\K8 g':=by
 unfold die;split
 ·
  unfold writeOn;dsimp only;split
  exact .inl ⟨_,_,_,rfl,by simp⟩;split
  ·exact .inr ⟨_,_,_,rfl,.inl ⟨rfl,_,rfl,hd⟩⟩
  exact .inr ⟨_,_,_,rfl,.inr<|.inl rfl⟩;exact .inl ⟨_,_,_,rfl,by simp⟩;exact .inl ⟨_,_,_,rfl,by simp⟩
 split
 ·split
  ·exact .inr ⟨_,_,_,rfl,.inr<|.inl rfl⟩
  exact .inl<|endWith_ended _ _ _ _<|by simp
 dsimp only;split
 exact .inr ⟨_,_,_,rfl,.inl ⟨rfl,_,rfl,hd⟩⟩;split
 ·exact .inr ⟨_,_,_,rfl,.inl ⟨rfl,_,rfl,hd⟩⟩
 exact .inl ⟨_,_,_,rfl,by simp⟩;rename_i t a name g;cases hx:(Zz (.fn (.method name) #[]) #[.iface t a]).run P w with
 |ok n h=>
  obtain⟨c,e⟩:=dD hx;simp only[e];cases n with
  |enter f b=>exact absurd hx<|(i _ _ _ _ g w) f b h
  |value v=>
   cases v with
   |string s=>exact .inr ⟨_,_,_,rfl,.inl ⟨rfl,_,rfl,hd⟩⟩
   |_=>exact .inl ⟨_,_,_,rfl,by simp⟩
  |_=>exact .inl ⟨_,_,_,rfl,by simp⟩
 |halt r h=>
  obtain⟨c,e⟩:=dD hx;simp only[e];cases r with
  |panic v=>
   dsimp only;unfold endPrinting endThrow dieOf;dsimp only;split
   exact .inr ⟨_,_,_,rfl,.inl ⟨rfl,_,rfl,rfl⟩⟩;exact .inl ⟨_,_,_,rfl,by simp⟩
  |_=>exact .inl ⟨_,_,_,rfl,by simp⟩
 exact .inl ⟨_,_,_,rfl,by simp⟩
def cj{a w w' o es}(hs:a.status=.running)(h:stepG P Z a w=.ended o w' es):step P (solo a w)=.ended o w':=by rw[step,stepT_solo hs];have:=runT_many_ended (gs:=#[a]) (sl:=φ) (i:=0) rfl h;rw[show solo a w=crowd #[a] w φ from rfl,this]
def qp{a w}(hs:a.status=.blocked\/a.status=.waiting\/a.status=.finished):
 (∃o w',step P (solo a w)=.ended o w'/\∀v,o≠.done v)\/step P (solo a w)=.next (solo a w):=by
 have c:∀o:Outcome,(∀v,o≠.done v) ->∀t,∃b w',(match endWith w 2 t o with|.ended o w _=>Move.machine (.ended o w)|_=>.machine<|.ended (.stuck "" "") default)=.machine (.ended b w')/\∀v,b≠.done v:=by intro o f t;obtain⟨b,w',g,e,d⟩:=endWith_ended w 2 t o f;rw[e];exact⟨b,w',rfl,d⟩
 obtain hs|hs|hs:=hs
 left;obtain⟨b,w',e,d⟩:=c (.fatal "all goroutines are asleep - deadlock!") (by simp)<|bytes<| "fatal error: "++ "all goroutines are asleep - deadlock!"++ "\n";refine⟨b,w',?_,d⟩;have:move P (solo a w)=.machine (.ended b w'):=by rw[<-e];simp[move,ask,askOn,solo,runnable_eq,due,ahead,YQ,hs,Yy,choose,pure,ο,YI];rfl
 rw[step,stepT,this]
 ·right;have:move P (solo a w)=.machine (.next<|solo a w):=by simp[move,ask,askOn,solo,runnable_eq,due,ahead,YQ,hs,Yy,choose,pure,ο,YI]
  rw[step,stepT,this]
 left;obtain⟨b,w',e,d⟩:=c (.fatal "no goroutines (main called runtime.Goexit) - deadlock!") (by simp)<|bytes<| "fatal error: "++ "no goroutines (main called runtime.Goexit) - deadlock!"++ "\n";refine⟨b,w',?_,d⟩;have:move P (solo a w)=.machine (.ended b w'):=by rw[<-e];simp[move,ask,askOn,solo,runnable_eq,due,ahead,YQ,hs,Yy,choose,pure,ο,YI];rfl
 rw[step,stepT,this]
def AZ(j:FV P){g}(b:K8 g)(w):¬Ends P Post (solo g w):=by
 refine Ends.inv (I:=λm=>∃g w,m=solo g w/\K8 g) ?_ ⟨g,w,rfl,b⟩;rintro m ⟨g,w,rfl,b⟩;obtain⟨hs,d,hd,hc⟩|b:=b
 obtain⟨fr,cs,st,dying,a⟩:=g;subst hd;have c:stepG P Z ⟨fr,cs,st,R d,a⟩ w=die P fr d w:=by obtain⟨a1,p,r,n,s,t,q⟩:=d;dsimp only at hc;subst hc;rfl
 obtain⟨o,e,k,i,f⟩|⟨l,e,k,i,f⟩:=D1 j fr d hc w
 exact .inl ⟨o,e,cj hs<|c.trans i,f⟩;exact .inr ⟨_,XQ hs<|c.trans i,l,e,rfl,f⟩;obtain h|h:=qp (P:=P) (w:=w) b
 ·exact .inl h
 exact .inr ⟨_,h,g,w,rfl,.inr b⟩
end
end
section
abbrev fG:=Nat->Question->Nat
def bL(u0:ξ)(h:Array YE)(τ:fG)(d:Nat):ξ:={u0 with heap:=h,tape:=τ,drawn:=d}
def Ctx.eH(c:Ctx):Ctx:={c with G:=c.F,S:=λ_=>False}
def pL(c:Ctx)(h:Array YE):Prop:=∀(b:Nat) o,h[b]?=R o->c.ok o
def akG(c:Ctx)(L:bu)(sp:Z8)(g:Ω):Prop:=∃args kind cs,g={frame:=Frame.enter c.P sp args kind,callers:=cs,status:=.running,dying:=φ}/\((kind=.normal\/kind=.deferred)/\cs≠[])/\∀x∈cs,aJ c L sp x
def Node(c:Ctx)(L:bu)(sp:Z8)(g:Ω)(h:Array YE):Prop:=pL c h/\g.status=.running/\(OkG c L sp g\/akG c L sp g)
def gW(P:Ξ)(u0:ξ)(M:Nat)(δ:Nat)(σ:fG)(g:Ω)(h:Array YE)(g':Ω)(h':Array YE):Prop:=∀τ D,(∀j q,j<δ->τ (D+j) q=σ j q) ->runN P M (solo g<|bL u0 h τ D)=.next (solo g'<|bL u0 h' τ<|D+δ)
def Move(c:Ctx)(L:bu)(sp:Z8)(u0:ξ)(g:Ω)(h:Array YE)(g':Ω)(h':Array YE):Prop:=Node c L sp g' h'/\∃M δ σ,0<M/\gW c.P u0 M δ σ g h g' h'
def aJ.eH{c L sp fr}(h:aJ c L sp fr):aJ c.eH L sp fr:=⟨h.fn,h.todo,h.defers,h.kind⟩
def aJ.rz{c L sp fr}(h:aJ c.eH L sp fr):aJ c L sp fr:=⟨h.fn,h.todo,h.defers,h.kind⟩
def OkG.eH{c L sp g}(h:OkG c L sp g):OkG c.eH L sp g:=⟨h.frame.eH,λx a=>(h.callers x a).eH,h.dying⟩
def OkG.rz{c L sp g}(h:OkG c.eH L sp g):OkG c L sp g:=⟨h.frame.rz,λx a=>(h.callers x a).rz,h.dying⟩
section
variable{c:Ctx}{L:bu}{sp:Z8}{u0:ξ}
def nI{h}(hs:pL c h)(d a D b k)(e:∀j q,j<k->a (b+j) q=d (D+j) q):Rel c.eH.ok c.eH.T.globals.size c.eH.S k (bL u0 h d D) (bL u0 h a b):=⟨e,rfl,λ_ _=>rfl,λ_ hb=>hb.elim,λ_ hb=>hb.elim,rfl,hs⟩
def ug{k u w}(h:Rel c.eH.ok c.eH.T.globals.size c.eH.S k u w):w.heap=u.heap:=by apply Array.ext_getElem?;intro b;exact h.same b λhb=>hb
def Cs(hF:ge c.eH L sp){g g' h}(H:Node c L sp g h)(C:OkG c L sp g){l D d es}(hs:stepG c.P Z g (bL u0 h l D)=.go g' d es)(u:g'.status=.running)(B:g'.dying=φ):
 Node c L sp g' d.heap/\∃w,d=bL u0 d.heap l (D+w)/\∀a i,(∀j q,j<w->a (i+j) q=l (D+j) q) ->
  ∃f,stepG c.P Z g (bL u0 h a i)=.go g' (bL u0 d.heap a<|i+w) f:=by
 have base:∀(k:Nat) (a:fG) (i:Nat),(∀j q,j<k->a (i+j) q=l (D+j) q) ->d.drawn<=D+k->∃f,stepG c.P Z g (bL u0 h a i)=.go g' (bL u0 d.heap a<|i+(d.drawn-D)) f/\D<=d.drawn/\Node c L sp g' d.heap:=by
  intro k a i z hd;have J:=kX (c:=c.eH) (L:=L) (sp:=sp) hF C.eH<|nI (u0:=u0) H.1 l a D i k z;rw[show stepG c.eH.P Z g (bL u0 h l D)=.go g' d es from hs]at J;obtain⟨v,A,f,q1,N,G,r,q5,q6⟩:=J.2 u B hd;have n:v=g':=by
   obtain⟨e,_⟩|⟨m,E,cs,e1,e2,_⟩:=N
   exact e;rw[e1,e2];rfl
  have hw:A=bL u0 d.heap a (i+(d.drawn-D))/\D<=d.drawn:=by
   have s:=r.tape;have y:=r.os;have t:=r.output;have K:=r.drawn;have F:=ug G;simp only[bL]at s y t K;have k6:D<=d.drawn:=by
    have hm:(bL u0 h l D).drawn<=d.drawn:=by
     have p:=kX (c:=c.eH) (L:=L) (sp:=sp) hF C.eH<|nI (u0:=u0) H.1 l (λj=>l<|D+j) D 0 (d.drawn-D+D) λj q _=>by rw[Zs]
     rw[show stepG c.eH.P Z g (bL u0 h l D)=.go g' d es from hs]at p;obtain⟨_,w0,_,_,_,_,O,_,_⟩:=p.2 u B (by simp only[bL];omega);have:=O.drawn;simp only[bL]at this⊢;omega
    exact hm
   refine⟨?_,k6⟩;obtain⟨a1,a2,S,a4,a5⟩:=A;simp only at s y t K F;unfold bL;subst s y t F;have:S=i+(d.drawn-D):=by omega
   rw[this]
  refine⟨f,by rw[<-n,<-hw.1];exact q1,hw.2,?_⟩;refine⟨λb o W=>G.safe b o W,u,?_⟩;obtain⟨e,T⟩|⟨m,E,cs,e1,e2,e3,e4⟩:=N
  exact .inl T.rz;exact .inr ⟨m,E,cs,e1,e3,λx hx=>(e4 x hx).rz⟩
 obtain⟨X,Q,b2,b3⟩:=base (d.drawn-D) l D (λ_ _ _=>rfl) (by omega);refine⟨b3,d.drawn-D,?_,λa i z=>?_⟩;have:=Q.symm.trans hs;injection this with _ e _
 exact e.symm;obtain⟨f,e1,_,_⟩:=base (d.drawn-D) a i z (by omega);exact⟨f,e1⟩
def D3(hF:ge c.eH L sp){g h}(n:Node c L sp g h)(l:OkG c L sp g){d D v e es}(hs:stepG c.P Z g (bL u0 h d D)=.ended (.done v) e es)(a f)(k:∀j q,a (f+j) q=d (D+j) q):∃w' b,stepG c.P Z g (bL u0 h a f)=.ended (.done v) w' b/\w'.heap=e.heap:=by have i:=kX hF l.eH<|nI (u0:=u0) n.1 d a D f e.drawn λj q _=>k j q;rw[show stepG c.eH.P Z g (bL u0 h d D)=.ended (.done v) e es from hs]at i;obtain⟨w',b,q1,m,_⟩:=i (by simp);exact⟨w',b,q1,ug m⟩
def jo(c:Ctx)(Post:Θ->Array YE->Prop)(g:Ω)(w:ξ):Prop:=(∃v u' es,stepG c.P Z g w=.ended (.done v) u' es/\Post v u'.heap)\/∃g' u' es,stepG c.P Z g w=.go g' u' es/\g'.status=.running/\g'.dying=φ
def Live(c:Ctx)(u0:ξ)(Post:Θ->Array YE->Prop)(g:Ω)(h:Array YE):Prop:=∀τ:fG,∃T D,(∀j q,T (D+j) q=τ j q)/\Ends c.P Post (solo g<|bL u0 h T D)
inductive FW(c:Ctx)(L:bu)(sp:Z8)(u0:ξ)(Post:Θ->Array YE->Prop):Ω->Array YE->Prop
 |mk (g:Ω) (h:Array YE) (safe:OkG c L sp g->∀τ D,jo c Post g (bL u0 h τ D)) (live:Live c u0 Post g h) (next:∀g' h',Move c L sp u0 g h g' h'->FW c L sp u0 Post g' h'):FW c L sp u0 Post g h
theorem runN_add{P:Ξ}:∀(a b:Nat) {m m1:Yk},runN P a m=.next m1->runN P (a+b) m=runN P b m1
 |0,b,m,m1,h=>by simp only[runN]at h;cases h;rw[Zs]
 |a+1,b,m,m1,h=>by
  simp only[runN]at h;cases hs:step P m with
  |next m2=>rw[hs]at h;rw[show a+1+b=(a+b)+1 by omega];simp only[runN,hs];exact runN_add a b h
  |ended o w=>rw[hs]at h;cases h
def gW.refl(P u0 g h a):gW P u0 0 0 a g h g h:=λb D _=>rfl
def gW.trans{P c i d e s f g l k h p o}(a:gW P u0 c d s g h l p)(b:gW P u0 i e f l p k o):
 gW P u0 (c+i) (d+e) (λj q=>if j<d then s j q else f (j-d) q) g h k o:=by
 intro r D n;rw[runN_add c i (a r D λj q m=>(n j q<|by omega).trans<|if_pos m)];have:=b r (D+d) λj q m=>by
  rw[show D+d+j=D+(d+j) by omega,n (d+j) q<|by omega]
  grind
 rw[this,show D+d+e=D+(d+e) by omega]
inductive Reach(c:Ctx)(L:bu)(sp:Z8)(u0:ξ):Ω->Array YE->Ω->Array YE->Prop
 |refl (g h):Reach c L sp u0 g h g h
 |step {g h g1 h1 g2 h2}:Reach c L sp u0 g h g1 h1->Move c L sp u0 g1 h1 g2 h2->Reach c L sp u0 g h g2 h2
def Reach.walks{g g' h h'}(r:Reach c L sp u0 g h g' h'):∃a b d,gW c.P u0 a b d g h g' h':=by
 induction r with
 |refl=>exact⟨0,0,λ_ _=>0,.refl _ _ _ _ _⟩
 |step r m i=>obtain⟨a,b,d,w⟩:=i;obtain⟨_,k,e,j,_,f⟩:=m;exact⟨_,_,_,w.trans f⟩
def Reach.node{g g' h h'}(a:Node c L sp g h)(r:Reach c L sp u0 g h g' h'):Node c L sp g' h':=by
 cases r with
 |refl=>exact a
 |step r m=>exact m.1
def tv(hF:ge c.eH L sp)(r:FV c.P){Post g h}(l:Node c L sp g h)(s:OkG c L sp g){a D}(hw:¬jo c Post g (bL u0 h a D)):
 ¬Ends c.P Post (solo g<|bL u0 h a D):=by
 have b:=kX (c:=c.eH) (L:=L) (sp:=sp) hF s.eH<|nI (u0:=u0) l.1 a a D D 0 λ_ _ _=>rfl;cases hs:stepG c.P Z g (bL u0 h a D)with
 |go j i f=>
  rw[show stepG c.eH.P Z g (bL u0 h a D)=.go j i f from hs]at b;have q:K8 j:=by
   cases hd:j.dying with
   |some d=>
    obtain e|e|e|e:=b.1.2
    exact .inl ⟨e,d,hd,b.1.1 d hd⟩;exact .inr<|.inl e;exact .inr<|.inr<|.inl e;exact .inr<|.inr<|.inr e
   |none=>
    obtain e|e|e|e:=b.1.2
    exact absurd (.inr ⟨j,i,f,hs,e,hd⟩) hw;exact .inr<|.inl e;exact .inr<|.inr<|.inl e;exact .inr<|.inr<|.inr e
  intro p;exact AZ r q i<|p.next<|XQ l.2.1 hs
 |ended o i f=>
  rintro⟨n,v,w,k,m⟩;cases n with
  |zero=>simp[runN]at k
  |succ n=>
   simp only[runN,(cj (P:=c.P) l.2.1 hs)]at k;injection k with e1 e2
   subst e1 e2;exact hw<|.inl ⟨v,_,f,hs,m⟩
 |_=>rw[show stepG c.eH.P Z g (bL u0 h a D)=_ from hs]at b;exact b.elim
def K9{P}{Post:Θ->Array YE->Prop}{m b n k o w}(h:runN P n m=.ended o w)(c:runN P k m=.next b):k<n:=by
 by_cases a:k<n
 omega;exfalso;obtain⟨j,rfl⟩:=Nat.exists_eq_add_of_le<|Nat.le_of_not_lt a;have:∀(n j:Nat) (m:Yk),runN P n m=.ended o w->runN P (n+j) m=.ended o w:=by
  intro n
  induction n with
  |zero=>intro j m h;simp[runN]at h
  |succ n d=>
   intro j m h;rw[show n+1+j=(n+j)+1 by omega];simp only[runN]at h⊢
   grind
 grind
def A0(hF:ge c.eH L sp){Post g h}(n:Node c L sp g h)(m:OkG c L sp g){l a D f}(k:∀j q,a (f+j) q=l (D+j) q)(hw:jo c Post g (bL u0 h l D)):jo c Post g (bL u0 h a f):=by
 obtain⟨v,s,r,i,d⟩|⟨t,s,r,i,d,h3⟩:=hw
 obtain⟨o,b,e1,e2⟩:=D3 hF n m i a f k;exact .inl ⟨v,o,b,e1,by rw[e2];exact d⟩;obtain⟨_,u,_,p⟩:=Cs hF n m i d h3;obtain⟨b,e⟩:=p a f λj q _=>k j q;exact .inr ⟨t,_,b,e,d,h3⟩
def xO(hF:ge c.eH L sp)(hM:FV c.P){Post g h}(hn:Node c L sp g h)(he:∀B,Ends c.P Post<|solo g<|bL u0 h B 0):FW c L sp u0 Post g h:=by
 classical
 by_cases O:FW c L sp u0 Post g h
 exact O;exfalso;have safe:∀u z,Reach c L sp u0 g h u z->OkG c L sp u->∀B D,jo c Post u (bL u0 z B D):=by
  intro u z r C B D;by_cases hw:jo c Post u (bL u0 z B D)
  exact hw;exfalso;obtain⟨a,b,H,w⟩:=r.walks
  let T:fG:=λj q=>if j<b then H j q else B (D+(j-b)) q
  have l:=w T 0 λj q S=>by rw[Zs];exact if_pos S
  rw[Zs]at l;refine tv hF hM (r.node hn) C (λF=>hw<|A0 hF (r.node hn) C (λj q=>?_) F)<|(he T).run l;show B (D+j) q=T (b+j) q;simp only[T];rw[if_neg (by omega),show b+j-b=j by omega]
 have K:∀u z,Reach c L sp u0 g h u z->Live c u0 Post u z:=by
  intro u z r B;obtain⟨a,b,H,w⟩:=r.walks
  let T:fG:=λj q=>if j<b then H j q else B (j-b) q
  have l:=w T 0 λj q S=>by rw[Zs];exact if_pos S
  rw[Zs]at l;refine⟨T,b,λj q=>?_,(he T).run l⟩;show(if b+j<b then H (b+j) q else B (b+j-b) q)=_;rw[if_neg (by omega),show b+j-b=j by omega]
 have X:∀x:{x:Ω×Array YE//Reach c L sp u0 g h x.1 x.2/\¬FW c L sp u0 Post x.1 x.2},∃y:{x:Ω×Array YE//Reach c L sp u0 g h x.1 x.2/\¬FW c L sp u0 Post x.1 x.2},Move c L sp u0 x.1.1 x.1.2 y.1.1 y.1.2:=by
  rintro⟨⟨u,z⟩,r,hw⟩;by_cases A:∃t o,Move c L sp u0 u z t o/\¬FW c L sp u0 Post t o
  obtain⟨t,o,m,F⟩:=A;exact⟨⟨(t,o),.step r m,F⟩,m⟩;refine absurd (.mk u z (λC=>safe u z r C) (K u z r) λt o m=>?_) hw;by_cases E:FW c L sp u0 Post t o
  exact E;exact absurd ⟨t,o,m,E⟩ A
 obtain⟨f,hf⟩:=Classical.axiomOfChoice X
 let sq:Nat->{x:Ω×Array YE//Reach c L sp u0 g h x.1 x.2/\¬FW c L sp u0 Post x.1 x.2}:=λi=>Nat.rec ⟨(g,h),.refl g h,O⟩ (λ_ s=>f s) i
 have hm:∀i,∃p:Nat×Nat×fG,0<p.1/\gW c.P u0 p.1 p.2.1 p.2.2 (sq i).1.1 (sq i).1.2 (sq<|i+1).1.1 (sq<|i+1).1.2:=λi=>by obtain⟨_,a,b,H,h1,h2⟩:=hf<|sq i;exact⟨(a,b,H),h1,h2⟩
 obtain⟨p,hp⟩:=Classical.axiomOfChoice hm
 let D:Nat->Nat:=λi=>Nat.rec 0 (λi d=>d+(p i).2.1) i
 have Q:∀i,D (i+1)=D i+(p i).2.1:=λi=>rfl;have mono:∀i k,D i<=D (i+k):=by
  intro i k
  induction k with
  |zero=>exact .refl
  |succ k ih=>rw[<-Nat.add_assoc,Q];omega
 let T:fG:=λn q=>if A:∃i,D i<=n/\n<D (i+1)then(p<|Classical.choose A).2.2 (n-D (Classical.choose A)) q else 0
 have G:∀i j q,j<(p i).2.1->T (D i+j) q=(p i).2.2 j q:=by
  intro i j q S;have A:∃k,D k<=D i+j/\D i+j<D (k+1):=⟨i,by omega,by rw[Q];omega⟩;have hk:=Classical.choose_spec A;have e:Classical.choose A=i:=by
   generalize Classical.choose A=k at hk;obtain W|rfl|W:=Nat.lt_trichotomy k i
   have:=mono (k+1)<|i-(k+1);rw[show k+1+(i-(k+1))=i by omega]at this;omega;rfl;have:=mono (i+1)<|k-(i+1);rw[show i+1+(k-(i+1))=k by omega,Q]at this;omega
  show(if A:∃k,D k<=D i+j/\D i+j<D (k+1)then(p<|Classical.choose A).2.2 (D i+j-D (Classical.choose A)) q else 0)=_;rw[dif_pos A,e,show D i+j-D i=j by omega]
 have J:∀i,∃N,i<=N/\runN c.P N (solo g<|bL u0 h T 0)=.next (solo (sq i).1.1<|bL u0 (sq i).1.2 T<|D i):=by
  intro i
  induction i with
  |zero=>exact⟨0,.refl,rfl⟩
  |succ i ih=>obtain⟨N,hN,hr⟩:=ih;refine⟨N+(p i).1,by have:=(hp i).1;omega,?_⟩;rw[runN_add N (p i).1 hr,(hp i).2 T (D i)<|G i,Q]
 obtain⟨n,v,w,hn',_⟩:=he T;obtain⟨N,hN,hr⟩:=J n;have:=K9 (Post:=Post) hn' hr;omega
end
end
end gO
namespace gO
open Go Go.Conc Go.ConcM
open Go.ConcN (sumTo upd sumTo_upd upd_ne upd_same)
section
def Ctx.with(c:Ctx)(S:Nat->Prop):Ctx:={c with S:=S}
def mT(S:Nat->Prop):Loc->Prop
 |.cell a=>S a.block
 |.obj r=>S r
 |_=>False
def HR(c:Ctx)(u0:ξ)(S:Nat->Prop)(h:Array YE)(w:ξ):Prop:=∀k,Rel c.ok c.T.globals.size S k (bL u0 h w.tape w.drawn) w
def HR.at{c u0 S h w}(a:HR c u0 S h w)(d):HR c u0 S h (w.at d):=λk=>⟨λj q _=>rfl,(a k).size,(a k).same,(a k).mask,(a k).high,(a k).env,(a k).safe⟩
def HR.of{c u0 S k b w'}(a:Rel c.ok c.T.globals.size S k b w')(d:w'.os.env=u0.os.env):HR c u0 S b.heap w':=λk=>⟨λj q _=>rfl,a.size,a.same,a.mask,a.high,d,a.safe⟩
def FX{S B e}(h:jG S B e):EvL (mT S) B e:=by
 obtain⟨loc,wr,c⟩:=e;cases loc with
 |cell a=>refine⟨λx b hs=>?_,by simp,by simp,h.2⟩;simp only[Zy,Zr,Zl]at b;subst b;exact absurd hs h.1
 |obj r=>
  cases wr<;>cases c<;>first
   |(refine⟨λx b hs=>?_,by simp,by simp,h.2⟩
     simp only[Zy,Zr,Zl]at b;subst b;exact absurd hs h.1)
   |exact⟨λx b=>by simp[Zy,Zr]at b,by simp,by simp,h.2⟩
 |output=>refine⟨λx b hs=>?_,by simp,by simp,trivial⟩;simp only[Zy,Zr,Zl]at b;subst b;exact hs.elim
 |goroutines=>exact absurd h (by simp[jG])
 |mark m=>
  cases m with
  |noRoom=>exact⟨λx b=>by simp[Zy,Zr]at b,by simp,by simp,trivial⟩
  |extern f=>exact⟨λx b=>by simp[Zy,Zr]at b,by simp,by simp,trivial⟩
  |_=>exact absurd h (by simp[jG])
def no(P:Ξ)(PostR:Θ->ξ->Prop)(m:Yk)(t:Trace):Prop:=∃N last o w' t',runNT P (N+1) m t=(.ended o w',t')/\runN P N m=.next last/\step P last=.ended o w'/\Conc.Good P PostR last o w' t'
section
variable{P:Ξ}{PostR:Θ->ξ->Prop}
def no.end{m t o w ops}(h:stepT P m=(.ended o w,ops))(a:Conc.Good P PostR m o w (t++ops)):no P PostR m t:=⟨0,m,o,w,t++ops,by simp[runNT,h],rfl,by simp[step,h],a⟩
def no.step{m b t ops}(h:stepT P m=(.next b,ops))(f:no P PostR b (t++ops)):no P PostR m t:=by
 obtain⟨N,a,o,c,e,g,d,h3,h4⟩:=f;refine⟨N+1,a,o,c,e,?_,?_,h3,h4⟩;rw[runNT]
 grind
 simp only[runN,Go.step,h];exact d
def no.steps:∀{N} {m b} {t a},runNT P N m t=(.next b,a) ->no P PostR b a->no P PostR m t
 |0,m,b,t,a,h,hg=>by
  cases h
  exact hg
 |N+1,m,b,t,a,h,hg=>by
  simp only[runNT]at h;cases hs:stepT P m with
  |mk s c=>
   rw[hs]at h;cases s with
   |next m1=>exact no.step hs<|no.steps h hg
   |ended o w=>cases h
end
structure R8(S S':Nat->Prop)(w w':ξ):Prop where
 grow:∀b,S b->S' b
 only:∀b,S' b->S b\/w.heap.size<=b
 size:w.heap.size<=w'.heap.size
 tape:w'.tape=w.tape
 output:w'.output=w.output
 still:∀b,b<w.heap.size->S b->w'.heap[b]?=w.heap[b]?
structure Kept(ok:YE->Prop)(u0:ξ)(S:Nat->Prop)(w:ξ):Prop where
 tape:w.tape=u0.tape
 output:w.output=u0.output
 size:u0.heap.size<=w.heap.size
 R9:∀b o,u0.heap[b]?=R o->¬ok o->S b/\w.heap[b]?=R o
 fair:∀b o,u0.heap[b]?=R o->ok o->¬S b
def Kept.go{ok u0 w w' S S'}(h:Kept ok u0 S w)(hs:R8 S S' w w'):Kept ok u0 S' w':=
 ⟨hs.tape.trans h.tape,hs.output.trans h.output,Y0 h.size hs.size,λb o hb f=>by
   obtain⟨a,c⟩:=h.R9 b o hb f;exact⟨hs.grow b a,by rw[hs.still b (Array.getElem?_eq_some_iff.1 c).1 a,c]⟩,λb o hb d e=>by
   obtain a|a:=hs.only b e
   exact h.fair b o hb d a;have:=(Array.getElem?_eq_some_iff.1 hb).1;have:=h.size;omega⟩
def kE.same{S u a w w' d}(h:kE S u a (w.at d) w')(hs:w.heap.size<=w'.heap.size):R8 S S w w':=⟨λ_ h=>h,λ_ h=>.inl h,hs,h.tape,h.output,h.still⟩
def qE(c:Ctx)(L:bu)(sp:Z8)(u0:ξ)(Post:Θ->Array YE->Prop):Prop:=
 ∀args kd cs h gs w sl t q S,
  ((kd=.normal\/kd=.deferred)/\cs≠[]) ->(∀x∈cs,aJ c L sp x) ->pL c h->
  Live c u0 Post {frame:=Frame.enter c.P sp args kd,callers:=cs,status:=.running,dying:=φ} h->
  gs[0]?=R {frame:=Frame.enter c.Q sp args kd,callers:=cs,status:=.running,dying:=φ} ->Leavers c.Q t gs q->Past (mT S) w.heap.size t->HR c u0 S h w->OsLater u0.os w.os->
  ∃g' h' N gs' w' sl' t' q' S',Move c L sp u0 {frame:=Frame.enter c.P sp args kd,callers:=cs,status:=.running,dying:=φ} h g' h'/\OkG c L sp g'/\
   runNT c.Q N (crowd gs w sl) t=(.next<|crowd gs' w' sl',t')/\gs'[0]?=R g'/\Leavers c.Q t' gs' q'/\Past (mT S') w'.heap.size t'/\HR c u0 S' h' w'/\OsLater u0.os w'.os/\R8 S S' w w'
def FY(c:Ctx)(L:bu)(sp:Z8)(g gR:Ω):Prop:=
 (gR=g/\OkG c L sp g)\/∃args kind cs,g={frame:=Frame.enter c.P sp args kind,callers:=cs,status:=.running,dying:=φ}/\gR={frame:=Frame.enter c.Q sp args kind,callers:=cs,status:=.running,dying:=φ}/\
   ((kind=.normal\/kind=.deferred)/\cs≠[])/\∀x∈cs,aJ c L sp x
def aJ.with{c L sp fr}(h:aJ c L sp fr)(S):aJ (c.with S) L sp fr:=⟨h.fn,h.todo,h.defers,h.kind⟩
def aJ.oT{c L sp fr S}(h:aJ (c.with S) L sp fr):aJ c L sp fr:=⟨h.fn,h.todo,h.defers,h.kind⟩
def OkG.with{c L sp g}(h:OkG c L sp g)(S):OkG (c.with S) L sp g:=⟨h.frame.with S,λx a=>(h.callers x a).with S,h.dying⟩
def OkG.oT{c L sp g S}(h:OkG (c.with S) L sp g):OkG c L sp g:=⟨h.frame.oT,λx a=>(h.callers x a).oT,h.dying⟩
def After.real{c L sp S g' a}(h:After (c.with S) L sp g' a):FY c L sp g' a:=by
 obtain⟨e,h⟩|⟨b,d,cs,e1,e2,e3,e4⟩:=h
 exact .inl ⟨e,h.oT⟩;exact .inr ⟨b,d,cs,e1,e2,e3,λx f=>(e4 x f).oT⟩
section
variable{c:Ctx}{L:bu}{sp:Z8}{u0:ξ}{Post:Θ->Array YE->Prop}{PostR:Θ->ξ->Prop}
def FZ(hF:∀S,ge (c.with S) L sp)(hFt:ge c.eH L sp)(hPh:qE c L sp u0 Post)(hfin:∀v h w S,Post v h->HR c u0 S h w->OsLater u0.os w.os->Kept c.ok u0 S w->PostR v w):
 ∀{g} {h},FW c L sp u0 Post g h->pL c h->g.status=.running->∀gR,FY c L sp g gR->
  ∀a gs w sl t q S,sumTo gs.size q<=a->gs[0]?=R gR->Leavers c.Q t gs q->Past (mT S) w.heap.size t->
   HR c u0 S h w->OsLater u0.os w.os->Kept c.ok u0 S w->no c.Q PostR (crowd gs w sl) t:=by
 intro g h hW
 induction hW with
 |mk g h safe live next ih=>
  intro A u gR hgR a
  induction a using Nat.strongRecOn with
  |_ a ihM=>
  intro gs w sl t q S hM h0 H hP hR F X;obtain⟨rfl,hg⟩|⟨args,kd,cs,rfl,rfl,hk,hcs⟩:=hgR
  ·have agS:Node c L sp gR h:=⟨A,u,.inl hg⟩;have haw:∀g∈gs,awake g:=by
    intro g hg;obtain⟨i,hi,rfl⟩:=Array.mem_iff_getElem.1 hg;obtain rfl|z:=XP i
    have:gs[0]=gR:=by simpa[Array.getElem?_eq_getElem hi]using h0
    rw[this];exact awake_of<|.inl u;exact awake_of<|(H.old i _ z<|Array.getElem?_eq_getElem hi).status.elim .inl λx=>.inr<|.inr x
   obtain⟨i,g,d,n,hi,T,m⟩:=crowd_pick (P:=c.Q) (w:=w) (sl:=sl) haw ⟨0,gR,h0,u⟩;obtain rfl|z:=XP i
   ·obtain rfl:g=gR:=by rw[h0]at hi;exact(Yj hi).symm
    have C:=(Array.getElem?_eq_some_iff.1 h0).1;have W:=λK=>kX (c:=c.with S) (L:=L) (sp:=sp) (hF S) (hg.with S)<|(HR.at hR d) K;obtain⟨v,B,es,h1,h2⟩|⟨p,B,es,h1,h2,h3⟩:=safe hg w.tape d
    ·
     have hs:=W B.drawn;rw[show stepG (c.with S).P Z g (bL u0 h (w.at d).tape (w.at d).drawn)=.ended (.done v) B es from h1]at hs;obtain⟨w',E,q1,q2,q3,q4,q5⟩:=hs (by omega);have r:w.heap.size<=B.heap.size:=by rw[((hR 0).size)];exact q5
     have O:=(hP.mono r).own (fn:=g.frame.fn) (pos:=g.frame.place) (es:=E) λe he=>FX<|q4 e he;have b:=q3.os;refine no.end (m.trans<|runT_many_ended (P:=c.Q) (sl:=n) (i:=0) hi (q1:stepG c.Q (0==0) g (w.at d)=_)) ⟨v,rfl,hfin v B.heap w' S h2 (HR.of q2 (by rw[b];exact(hR 0).env)) (by rw[b];exact F)<|X.go<|q3.same (by rw[q2.size];exact r),O.clean,O.over,⟨λx s=>?_,rfl⟩,λj x s o=>?_⟩;obtain⟨j,o⟩:=List.mem_iff_getElem?.1 s;rw[List.getElem?_drop]at o;exact⟨_,(H.old (1+j) x (by omega)<|by simpa[crowd]using o).leaves⟩;have J:=H.old j x (by omega) s;refine⟨q j,?_⟩;have e:(t++MemOp.ofEvents 0 g.frame.fn g.frame.place E).deaf j (t++MemOp.ofEvents 0 g.frame.fn g.frame.place E).size=Deaf t j:=YA t (g:=j) (g':=0) (by omega) _ (λop l=>by obtain⟨e,_,rfl⟩:=ZN l;rfl)
     rw[e];exact J.hears _
    ·
     have hs:=W B.drawn;rw[show stepG (c.with S).P Z g (bL u0 h (w.at d).tape (w.at d).drawn)=.go p B es from h1]at hs;obtain⟨g'',w',E,q1,q2,q3,q4,q5,q6⟩:=hs.2 h2 h3 (by omega);obtain⟨hn',δ,hu',hwalk⟩:=Cs hFt agS hg h1 h2 h3;have f:Move c L sp u0 g h p B.heap:=by refine⟨hn',1,δ,λj q=>w.tape (d+j) q,X1,λτ D ha=>?_⟩;obtain⟨es2,e2⟩:=hwalk τ D ha;simp only[runN];rw[XQ u e2]
     have r:w.heap.size<=B.heap.size:=by rw[((hR 0).size)];exact q6
     have hsw:=q3.size;have b:=q4.os;refine no.step (m.trans<|runT_crowd_go (P:=c.Q) (sl:=n) (i:=0) hi (q1:stepG c.Q (0==0) g (w.at d)=_))<|ih p B.heap f hn'.1 hn'.2.1 g'' q2.real (sumTo ((gs.map<|woken c.Q g g'' w').setIfInBounds 0 g'').size q) _ w' n _ q S .refl (by simp[C]) ⟨λj x o s=>?_,λj o=>?_⟩ ?_ (HR.of q3 (by rw[b];exact(hR 0).env)) (by rw[b];exact F)<|X.go<|q4.same (by rw[hsw];exact r);have hne:0≠j:=by omega
     rw[Array.getElem?_setIfInBounds_ne hne,Array.getElem?_map]at s;obtain⟨y,hy,rfl⟩:=ZY.1 s;have J:=H.old j y o hy;rw[woken_quitsD J,YA t (by omega) _ (λop l=>by obtain⟨e,_,rfl⟩:=ZN l;rfl)];exact J;rw[YA t (g':=0) (by simp at o;omega) _ (λop l=>by obtain⟨e,_,rfl⟩:=ZN l;rfl)];exact H.above j (by simpa using o);rw[hsw];exact(hP.mono r).own λe he=>FX<|q5 e he
   ·
    have J:=H.old i g z hi;have hi0:(i==0)=Y:=by simp;omega
    have C:=(Array.getElem?_eq_some_iff.1 hi).1;cases hqi:q i with
    |zero=>rw[hqi]at J;rw[J.1]at T;cases T
    |succ k=>
     rw[hqi]at J;obtain⟨hf,_⟩|⟨_,p,es,hm,hstp,hq'⟩:=J
     rw[hf]at T;cases T;have hsum:sumTo gs.size (upd q i k)+(k+1)=sumTo gs.size q+k:=by have:=sumTo_upd q k id C;simpa[hqi]using this
     refine no.step (m.trans<|runT_crowd_go (P:=c.Q) (sl:=n) (i:=i) hi (by rw[hi0];exact hstp<|w.at d))<|ihM (sumTo gs.size<|upd q i k) (by omega) _ (w.at d) n _ (upd q i k) S (by rw[(by simp:((gs.map<|woken c.Q g p<|w.at d).setIfInBounds i p).size=gs.size)];exact .refl) ?_ ⟨λj x o s=>?_,λj o=>?_⟩ (hP.mute (by omega) hm) (hR.at d) F ⟨X.tape,X.output,X.size,X.R9,X.fair⟩;have hne:i≠0:=by omega
     rw[Array.getElem?_setIfInBounds_ne hne,Array.getElem?_map,h0];simp[woken_run u];by_cases G:i=j
     ·subst G;rw[Array.getElem?_setIfInBounds_self_of_lt (by simpa using C)]at s;obtain rfl:=Yj s;rw[upd_same,Deaf_own];exact hq'
     rw[Array.getElem?_setIfInBounds_ne G,Array.getElem?_map]at s;obtain⟨y,hy,rfl⟩:=ZY.1 s;have hqj:=H.old j y o hy;rw[woken_quitsD hqj,upd_ne q k<|Ne.symm G,YA t G _ (λop l=>by obtain⟨e,_,rfl⟩:=ZN l;rfl)];exact hqj;rw[YA t (g':=i) (by simp at o;omega) _ (λop l=>by obtain⟨e,_,rfl⟩:=ZN l;rfl)];exact H.above j (by simpa using o)
  ·
   obtain⟨p,h',N,gs',w',n,t',q',S',f,hg',hrun,h0',hL',O,hR',b,hsm⟩:=hPh args kd cs h gs w sl t q S hk hcs A live h0 H hP hR F;exact no.steps hrun<|ih p h' f f.1.1 f.1.2.1 p (.inl ⟨rfl,hg'⟩) _ gs' w' n t' q' S' .refl h0' hL' O hR' b<|X.go hsm
end
end
end gO
namespace Ph
open Go Go.Conc
section
def xP(es:Array Event):Prop:=∀e∈es,∃f,e.loc=.mark (κ f)
def jM(P fn){es}(h:xP es):seen P fn es=#[]:=by
 unfold seen;dsimp only;obtain⟨l⟩:=es;have:∀(l:List Event) (q:Bool),(∀e∈l,∃f,e.loc=.mark (κ f)) ->∃b,List.foldl (λ(x:Bool×Array Event) (e:Event)=>match e.loc with
  |.mark (κ f)=>((P.funcs[f]?).any (·.norace),x.2)
  |_=>(x.1,if x.1&&!e.sync then x.2 else x.2.push e)) (q,#[]) l=(b,#[]):=by
  intro l
  induction l with
  |nil=>exactλq _=>⟨q,rfl⟩
  |cons e l g=>intro q h;obtain⟨f,c⟩:=h e List.mem_cons_self;rw[List.foldl_cons];simp only[c];exact g _ λe a=>h e<|X8 _ a
 obtain⟨b,d⟩:=this l ((P.funcs[fn]?).any (·.norace)) λe a=>h e<|by simpa using a
 simp only[<-Array.foldl_toList];exact congrArg Zu d
def dE{α:Type}(P:Ξ):Nat->ZU α->Option α
 |0,_=>φ
 |n+1,.pure a=>R a
 |n+1,.program k=>dE P n<|k P
 |n+1,.mark (κ f) k=>dE P n k
 |_,_=>φ
theorem fu{j:Type}{P:Ξ}:∀{n:Nat} {s:ZU j} {a:j},dE P n s=R a->∃c,xP c/\∀w es,s.runT P w es=(.ok a w,es++c)
 |0,_,_,h=>by cases h
 |n+1,s,a,h=>by
  cases s with
  |pure b=>simp only[dE,Zl]at h;subst h;exact⟨#[],λe d=>by simp at d,λw es=>by simp[ZX]⟩
  |program k=>simp only[dE]at h;obtain⟨c,i,g⟩:=fu h;exact⟨c,i,λw es=>by simp only[ZX];exact g w es⟩
  |mark m k=>
   cases m<;>first|(simp[dE]at h;done)|skip
   rename_i f;simp only[dE]at h;obtain⟨c,i,g⟩:=fu h;refine⟨#[⟨.mark<|κ f,Y,Z⟩]++c,λe d=>?_,λw es=>?_⟩;obtain d|d:=Array.mem_append.1 d
   ·rw[Array.mem_singleton.1 d];exact⟨f,rfl⟩
   exact i e d;simp only[ZX];rw[g];simp
  |_=>simp[dE]at h
def F1:X5->Bool
 |.value _|.skip|.enter _ _|.defer _=>Z
 |_=>Y
def gX:Nat:=60
def NC(P:Ξ)(fr:Frame)(callers:List Frame):Bool:=
 match fr.mode with
 |.run=>match fr.todo with
  |[]|.code .ret::_|.code .skip::_|.code (.label _)::_|.inBlock _::_|.inScope _::_|.code (.seq _ _)::_|.code (.block _ _)::_|.code (.loop _)::_|.inLoop _::_|.code (.scope _)::_=>Z
  |.code (.exit id)::k=>(XS id k).isSome
  |.code (.cond c _ _)::_=>match fr.eval c with
   |.bool _=>Z
   |_=>Y
  |.code (.region _ _ draw)::_=>!draw
  |.inRegion _ []::_=>Z
  |.inRegion ops (i::_)::_=>
   if((ops[i]?).map (YT · (yielded ops fr.tmps))).getD Y then
    match ops[i]? with
    |some o=>((dE P gX<|YB fr.eval o).map F1).getD Y
    |none=>Y
   else Z
  |_=>Y
 |.returning=>match fr.defers with
  |{target:=.fn (.func f) cs,args}::_=>match dE P gX (Zz (.fn (.func f) cs) args)with
   |some (.enter _ _)=>Z
   |_=>Y
  |[]=>!callers.isEmpty&&match P.funcs[fr.fn]? with
   |some fn=>(dE P gX<|XR fn fr.tmps).isSome
   |none=>Y
  |_=>Y
 |.panicking _=>match fr.defers with
  |{target:=.fn (.func f) cs,args}::_=>match dE P gX (Zz (.fn (.func f) cs) args)with
   |some (.enter _ _)=>Z
   |_=>Y
  |_=>Y
def oU(P:Ξ)(g:Ω):Bool:=
 match g.status,g.dying,g.offers,g.frame.roundOf,g.frame.kind with
 |.running,φ,φ,φ,.normal|.running,φ,φ,φ,.deferred=>NC P g.frame g.callers
 |_,_,_,_,_=>Y
def pM{P g}(h:oU P g=Z):g.status=.running/\g.dying=φ/\g.offers=φ/\g.frame.roundOf=φ/\(g.frame.kind=.normal\/g.frame.kind=.deferred):=by unfold oU at h;split at h<;>first|(cases h)|simp_all
def D4{P main g}(h:oU P g=Z):∃g',∀w,stepG P main g w=.go g' w #[]:=by
 obtain⟨B,A,h3,h4,h5⟩:=pM h;obtain⟨fr,cs,st,H,off⟩:=g;obtain⟨fn,k,todo,defers,mode,kind,F⟩:=fr;dsimp only at B A h3 h4 h5;subst B A h3 h4;have C:(kind==.early)=Y:=by obtain e|e:=h5<;>rw[e]<;>rfl
 have j:NC P ⟨fn,k,todo,defers,mode,kind,φ⟩ cs=Z:=by obtain e|e:=h5<;>subst e<;>exact h
 unfold NC at j;dsimp only at j;clear h;unfold stepG;dsimp only;cases mode with
 |panicking q=>
  dsimp only at j⊢;unfold Yb;obtain _|⟨d,ds⟩:=defers
  cases j
  obtain⟨t,r⟩:=d;cases t with
  |fn f y=>
   cases f with
   |func f=>
    dsimp only at j⊢;unfold Zd;dsimp only;cases hp:dE P gX (Zz (.fn (.func f) y) r)with
    |none=>rw[hp]at j;cases j
    |some n=>
     rw[hp]at j;cases n with
     |enter E z=>obtain⟨u,p,m⟩:=fu hp;simp only[m,Bool.false_and,Bool.false_eq_true,if_false];exact⟨_,λw=>by simp only[Array.empty_append,jM P fn p,ζ];rfl⟩
     |_=>cases j
   |_=>cases j
  |_=>cases j
 |run=>
  dsimp only at j⊢;unfold ZR;obtain _|⟨i,rest⟩:=todo
  exact⟨_,λw=>rfl⟩;cases i with
  |code b=>
   cases b with
   |skip=>exact⟨_,λw=>rfl⟩
   |region id s draw=>
    dsimp only at j;obtain _|_:=draw
    exact⟨_,λw=>rfl⟩;cases j
   |seq a b=>exact⟨_,λw=>rfl⟩
   |cond x a b=>
    dsimp only at j⊢;cases hx:(Frame.eval ⟨fn,k,.code (.cond x a b)::rest,defers,.run,kind,φ⟩ x)with
    |bool t=>simp only;exact⟨_,λw=>rfl⟩
    |_=>rw[hx]at j;cases j
   |block id b=>exact⟨_,λw=>rfl⟩
   |loop b=>exact⟨_,λw=>rfl⟩
   |rangeFunc x G a b=>cases j
   |exit id=>
    dsimp only at j⊢;cases he:XS id rest with
    |none=>rw[he]at j;cases j
    |some t=>exact⟨_,λw=>rfl⟩
   |scope b=>exact⟨_,λw=>rfl⟩
   |label l=>exact⟨_,λw=>rfl⟩
   |goto l=>cases j
   |ret=>exact⟨_,λw=>rfl⟩
   |refuse D=>cases j
  |inBlock id=>exact⟨_,λw=>rfl⟩
  |inLoop b=>exact⟨_,λw=>rfl⟩
  |inScope b=>exact⟨_,λw=>rfl⟩
  |inRegion s todo=>
   obtain _|⟨i,is⟩:=todo
   exact⟨_,λw=>rfl⟩;dsimp only at j⊢;by_cases hw:(((s[i]?).map (YT · (yielded s k))).getD Y)=Z
   rw[if_pos hw]at j;simp only[if_pos hw];unfold X3;cases ho:s[i]? with
   |none=>rw[ho]at j;cases j
   |some o=>
    rw[ho]at j;simp only[Frame.oper?,ho];dsimp only at j;cases hp:dE P gX (YB (Frame.eval ⟨fn,k,.inRegion s (i::is)::rest,defers,.run,kind,φ⟩) o)with
    |none=>rw[hp]at j;cases j
    |some n=>
     rw[hp]at j;obtain⟨u,p,m⟩:=fu hp;have hs:=jM P fn p;unfold ZB;simp only[if_true,m,C,Bool.false_eq_true,if_false];cases n with
     |value v=>exact⟨_,λw=>by simp only[Array.empty_append,hs,ζ];rfl⟩
     |skip=>exact⟨_,λw=>by simp only[Array.empty_append,hs,ζ];rfl⟩
     |enter f r=>exact⟨_,λw=>by simp only[Array.empty_append,hs,ζ];rfl⟩
     |defer d=>exact⟨_,λw=>by simp only[Array.empty_append,hs,ζ];rfl⟩
     |_=>cases j
   simp only[if_neg hw];exact⟨_,λw=>rfl⟩
  |_=>cases j
 |returning=>
  dsimp only at j⊢;unfold Yb;obtain _|⟨d,ds⟩:=defers
  dsimp only at j⊢;cases hf:P.funcs[fn]? with
  |none=>rw[hf]at j;simp at j
  |some f=>
   rw[hf]at j;dsimp only at j⊢;cases hp:dE P gX (XR f k)with
   |none=>rw[hp]at j;simp at j
   |some v=>
    obtain⟨u,p,m⟩:=fu hp;simp only[m,Array.empty_append,(jM P fn p)];obtain _|⟨c,cs⟩:=cs
    simp at j;unfold Y9;dsimp only;obtain e|e:=h5<;>subst e<;>exact⟨_,λw=>by simp only[ζ];rfl⟩
  obtain⟨t,r⟩:=d;cases t with
  |fn f y=>
   cases f with
   |func f=>
    dsimp only at j⊢;unfold Zd;dsimp only;cases hp:dE P gX (Zz (.fn (.func f) y) r)with
    |none=>rw[hp]at j;cases j
    |some n=>
     rw[hp]at j;cases n with
     |enter E z=>obtain⟨u,p,m⟩:=fu hp;simp only[m,Bool.false_and,Bool.false_eq_true,if_false];exact⟨_,λw=>by simp only[Array.empty_append,jM P fn p,ζ];rfl⟩
     |_=>cases j
   |_=>cases j
  |_=>cases j
def xQ(P:Ξ)(main:Bool)(g:Ω):Ω:=match stepG P main g default with|.go g' _ _=>g'|_=>g
def Xi{P main g}(h:oU P g=Z)(w):stepG P main g w=.go (xQ P main g) w #[]:=by
 obtain⟨a,b⟩:=D4 h;have:xQ P main g=a:=by unfold xQ;rw[b]
 grind
def ah(f:Z8)(d:Nat)(g:Ω):Bool:=
 g.frame.fn==f&&match g.frame.mode,g.frame.todo with
 |.run,.inRegion ops (i::_)::_=>((ops[i]?).bind (·.dst))==R d
 |_,_=>Y
def bN(P:Ξ)(main:Bool)(stop:Ω->Bool):Nat->Ω->Ω
 |0,g=>g
 |n+1,g=>if stop g then g else if oU P g then bN P main stop n (xQ P main g)else g
def Path(P:Ξ)(main:Bool):Nat->Ω->Ω->Prop
 |0,g,g'=>g'=g
 |n+1,g,g'=>g.status=.running/\∃g1,(∀w,stepG P main g w=.go g1 w #[])/\Path P main n g1 g'
def Path.trans{P main}:∀{n k} {g b a},Path P main n g b->Path P main k b a->Path P main (n+k) g a
 |0,k,g,b,a,h,h'=>by
  cases h
  grind
 |n+1,k,g,b,a,h,h'=>by rw[show n+1+k=n+k+1 by omega];obtain⟨d,e,c,h3⟩:=h;exact⟨d,e,c,h3.trans h'⟩
theorem ui{P:Ξ}{main:Bool}{stop:Ω->Bool}:∀(n:Nat) (g:Ω),∃k,k<=n/\Path P main k g (bN P main stop n g)
 |0,g=>⟨0,.refl,rfl⟩
 |n+1,g=>by
  unfold bN;by_cases hs:stop g=Z
  rw[if_pos hs];exact⟨0,Nat.zero_le _,rfl⟩;rw[if_neg hs];by_cases a:oU P g=Z
  rw[if_pos a];obtain⟨k,b,h⟩:=ui n<|xQ P main g;exact⟨k+1,by omega,(pM a).1,_,Xi a,h⟩;rw[if_neg a];exact⟨0,Nat.zero_le _,rfl⟩
def xR:Nat->Nat->(Nat->Θ) ->List Θ
 |_,0,_=>[]
 |i,n+1,f=>f i::xR (i+1) n f
def JF(n:Nat)(f:Nat->Θ):Array Θ:=⟨xR 0 n f⟩
def cO:List (Nat×Θ) ->(Nat->Θ) ->Nat->Θ
 |[],f,i=>f i
 |(j,v)::l,f,i=>match Nat.beq i j with
  |true=>v
  |false=>cO l f i
theorem pN:∀(i n:Nat) (f:Nat->Θ),(xR i n f).length=n
 |_,0,_=>rfl
 |i,n+1,f=>by simp[xR,pN (i+1) n f]
theorem xS:∀(i n:Nat) (f:Nat->Θ) (j:Nat),j<n->(xR i n f)[j]?=R (f<|i+j)
 |_,0,_,_,h=>by omega
 |i,n+1,f,0,_=>by simp[xR]
 |i,n+1,f,j+1,h=>by
  simp only[xR,List.getElem?_cons_succ];rw[xS (i+1) n f j (by omega)]
  grind
def K'(n f i):(JF n f)[i]?=if i<n then R (f i)else φ:=by
 have e:(JF n f)[i]?=(xR 0 n f)[i]?:=by exact(List.getElem?_toArray).trans rfl
 rw[e];split
 rename_i h;rw[xS 0 n f i h,Zs];rename_i h;rw[List.getElem?_eq_none (by rw[pN];omega)]
def R'(a):a=JF a.size λi=>a.getD i undef:=by
 apply Array.ext_getElem?;intro i;rw[K'];split
 simp
 grind
theorem ND:∀(l:List (Nat×Θ)) (f:Nat->Θ),(∀p∈l,f p.1=p.2) ->cO l f=f
 |[],f,_=>rfl
 |(j,v)::l,f,h=>by
  funext i
  simp only[cO,ND l f λp a=>h p<|X8 _ a];cases hb:Nat.beq i j with
  |false=>rfl
  |true=>simp_all
def uj{a n}(b:a.size=n)(l)(h:∀p∈l,a.getD p.1 undef=p.2):a=JF n (cO l λi=>a.getD i undef):=by rw[ND l _ h,<-b];exact R' a
def aC(f:Z8)(d:Nat)(g:Ω):Bool:=
 g.frame.fn==f&&match g.frame.mode,g.frame.todo with
 |.run,.code (.cond (.tmp j) _ _)::_=>j==d
 |_,_=>Y
def never(_:Ω):Bool:=Y
def FG(fn:Z8)(tmps:Array Θ)(T:List Zw)(cs:List Frame):Ω:=G {fn,tmps,todo:=T,defers:=[],mode:=.run,kind:=.normal} cs
def At(fn:Z8)(n:Nat)(T:List Zw)(l:List (Nat×Θ))(cs:List Frame)(g:Ω):Prop:=∃f,g=FG fn (JF n<|cO l f) T cs
def bZ(P:Ξ)(main:Bool)(n:Nat)(S:Ω->Prop)(g:Ω):Prop:=∃k,k<=n/\∃g',Path P main k g g'/\S g'
section
variable{P:Ξ}{main:Bool}{S S':Ω->Prop}{g:Ω}
def bZ.trans{n k}(h:bZ P main n S g)(h':∀g,S g->bZ P main k S' g):bZ P main (n+k) S' g:=by obtain⟨i,hi,b,d,c⟩:=h;obtain⟨j,e,a,h3,h4⟩:=h' b c;exact⟨i+j,by omega,a,d.trans h3,h4⟩
def bZ.mono{n k}(h:bZ P main n S g)(d:n<=k)(h':∀g,S g->S' g):bZ P main k S' g:=by obtain⟨i,hi,c,a,b⟩:=h;exact⟨i,by omega,c,a,h' _ b⟩
def bZ.run(stop n)(h:S (bN P main stop n g)):bZ P main n S g:=by obtain⟨k,b,a⟩:=ui n g;exact⟨k,b,_,a,h⟩
def At.of{fn n T l cs r}(c:r=FG fn r.frame.tmps T cs)(b:r.frame.tmps.size=n)(h3:(l.map λp=>r.frame.tmps.getD p.1 undef)=l.map Zu):At fn n T l cs r:=by refine⟨λi=>r.frame.tmps.getD i undef,?_⟩;rw[<-uj b l λp a=>?_];omega;obtain⟨i,hi,rfl⟩:=X7.1 a;have:=congrArg (λx=>x[i]?) h3;simpa[hi]using this
def At.QF{fn a n c T d l b cs cs'}(stop k)(i:∀f,bN P main stop k (FG fn (JF n<|cO l f) T cs)=FG a (bN P main stop k<|FG fn (JF n<|cO l f) T cs).frame.tmps d cs')(e:∀f,(bN P main stop k<|FG fn (JF n<|cO l f) T cs).frame.tmps.size=c)(h3:∀f,(b.map λp=>(bN P main stop k<|FG fn (JF n<|cO l f) T cs).frame.tmps.getD p.1 undef)=b.map Zu)(g)(h:At fn n T l cs g):bZ P main k (At a c d b cs') g:=by obtain⟨f,rfl⟩:=h;exact bZ.run stop k<|At.of (i f) (e f)<|h3 f
end
def fin(v:Θ)(g:Ω):Ω:={g with frame:=g.frame.finish v}
end
section
def rC(fr:Frame):Option Oper:=
 match fr.mode,fr.todo with
 |.run,.inRegion ops (i::_)::_=>if((ops[i]?).map (YT · (yielded ops fr.tmps))).getD Y then ops[i]? else φ
 |_,_=>φ
def d9(g:Ω):Bool:=
 match g.status,g.dying,g.offers,g.frame.roundOf,g.frame.kind with
 |.running,φ,φ,φ,.normal|.running,φ,φ,φ,.deferred=>Z
 |_,_,_,_,_=>Y
def au(g:Ω):Option (ZU X5):=if d9 g then(rC g.frame).map (YB g.frame.eval)else φ
section
variable{P:Ξ}{main:Bool}{g:Ω}{s:ZU X5}{w w':ξ}{es:Array Event}
def bU(h:au g=R s):g.status=.running/\g.dying=φ/\g.offers=φ/\(∀v,s.runT P w #[]=(.ok (.value v) w',es) ->stepG P main g w=.go (fin v g) w' (seen P g.frame.fn es))/\
 (s.runT P w #[]=(.ok .skip w',es) ->stepG P main g w=.go (fin undef g) w' (seen P g.frame.fn es))/\
 (s.runT P w #[]=(.halt .blocked w',es) ->stepG P main g w=.go {g with status:=.blocked} w' #[]):=by
 unfold au at h;by_cases b:d9 g=Z
 ·rw[if_pos b]at h;obtain⟨fr,cs,st,f,off⟩:=g;obtain⟨fn,d,todo,defers,mode,kind,k⟩:=fr;obtain⟨o,a,rfl⟩:=ZY.1 h;obtain⟨rfl,rfl,rfl,rfl,j⟩:st=.running/\f=φ/\off=φ/\k=φ/\(kind==.early)=Y:=by unfold Ph.d9 at b;dsimp only at b;split at b<;>first|(cases b;done)|exact⟨rfl,rfl,rfl,rfl,rfl⟩
  unfold rC at a;dsimp only at a;cases mode with
  |run=>
   obtain _|⟨i,rest⟩:=todo
   cases a
   cases i with
   |inRegion c todo=>
    obtain _|⟨i,is⟩:=todo
    cases a
    dsimp only at a;by_cases hw:(((c[i]?).map (YT · (yielded c d))).getD Y)=Z
    ·rw[if_pos hw]at a;refine⟨rfl,rfl,rfl,λv e=>?_,λe=>?_,λe=>?_⟩
     all_goals
      unfold stepG;dsimp only;unfold ZR;dsimp only;simp only[if_pos hw];unfold X3;simp only[Frame.oper?,a];unfold ZB;simp only[if_true,e,j,Bool.false_eq_true,if_false]
      first|rfl|(simp only[Array.empty_append,ζ];rfl)|(simp[ζ,seen_none,fin];done)|skip
    rw[if_neg hw]at a;cases a
   |_=>cases a
  |_=>cases a
 rw[if_neg b]at h;cases h
end
structure Ext(P:Ξ)(f:Z8)(e:Array Θ->ZU Θ)(q:Bool):Prop where
 ex:∃fn,P.funcs[f]?=R fn/\(fn.name== "runtime.NumGoroutine")=Y/\fn.body.isNone=Z/\Y6 fn=φ/\YF fn=R e/\fn.norace=q
section
variable{P:Ξ}{main:Bool}{g:Ω}{f:Z8}{e:Array Θ->ZU Θ}{q:Bool}{args:Array Θ}{w w':ξ}{Ft:Array Event}{v:Θ}
def Ext.step(i:Ext P f e q)(h:au g=R (Γ f args))(a:(e args).run P w=.ok v w')(b:(e args).events P w #[⟨.mark<|κ f,Y,Z⟩]=#[⟨.mark<|κ f,Y,Z⟩]++Ft)
 (hs:∀x∈Ft,x.sync=Z/\∀g,x.loc≠.mark (κ g)):stepG P main g w=.go (fin v g) w' Ft:=by
 obtain⟨fn,d,c,h3,h4,h5,j⟩:=i.ex;obtain⟨_,_,_,k,_⟩:=bU (w:=w) (w':=w') (es:=#[⟨.mark<|κ f,Y,Z⟩]++Ft) h;rw[k v,seen_entry _ _ _ hs];rw[ZK,Zf d c h3 h4 h5,YS d c h3 h4 h5,a];simp only[η,XO,List.nil_append,b]
def Ext.wait(d:Ext P f e q)(h:au g=R (Γ f args))(a:(e args).run P w=.halt .blocked w'):stepG P main g w=.go {g with status:=.blocked} w' #[]:=by obtain⟨fn,c,b,h3,h4,h5,i⟩:=d.ex;obtain⟨_,_,_,_,_,k⟩:=bU (w':=w') h;apply k;rw[ZK,Zf c b h3 h4 h5,a];rfl
variable{ad:Y'}{k:IntKind}{x y d n:Int}
def nJ(a:Ext P f (Zq<|.int k) q)(h:au g=R (Γ f #[Ψ (R ad),.int k x,.int k y]))(hc:w.cell? ad=R (.int k x))(hz:w.frozen? ad=Y):
 stepG P main g w=.go (fin (.bool Z) g) (w.setCell ad<|.int k y) #[⟨.cell ad,Y,Z⟩,⟨.cell ad,Z,Z⟩]:=
 a.step h (by rw[casT_eq];exact run_cas_hit_entry hc hz) (by rw[casT_eq,events_cas_hit_entry hc hz];rfl) (sync_rw ad)
def kY(b:Ext P f (Zq<|.int k) q)(h:au g=R (Γ f #[Ψ (R ad),.int k x,.int k y]))(hc:w.cell? ad=R (.int k n))(hz:w.frozen? ad=Y)(a:¬n=x):
 stepG P main g w=.go (fin (.bool Y) g) w #[⟨.cell ad,Y,Z⟩]:=
 b.step h (by rw[casT_eq];exact run_cas_miss_entry hc hz a) (by rw[casT_eq,events_cas_miss_entry hc hz a];rfl) (sync_r ad)
def qF(a:Ext P f (Zc (Zx .add) k Z) q)(h:au g=R (Γ f #[Ψ (R ad),.int k d]))(hc:w.cell? ad=R (.int k x))(hz:w.frozen? ad=Y):
 stepG P main g w=.go (fin (.int k<|k.wrap<|x+d) g) (w.setCell ad<|.int k<|k.wrap<|x+d) #[⟨.cell ad,Y,Z⟩,⟨.cell ad,Z,Z⟩]:=
 a.step h (run_add_entry hc hz) (by rw[events_add_entry hc hz];rfl) (sync_rw ad)
def rD(a:Ext P f (Yx<|.int k) q)(h:au g=R (Γ f #[Ψ (R ad)]))(hc:w.cell? ad=R (.int k x)):
 stepG P main g w=.go (fin (.int k x) g) w #[⟨.cell ad,Y,Z⟩]:=by
 refine a.step h ?_ ?_<|sync_r ad
 change ο P (do Zp (.int k) (<-YN (Ψ<|R ad))) w=_
 simp[Zp,YN,hc]
 change Sem.events P (do Zp (.int k) (<-YN (Ψ<|R ad))) w _=_
 simp[Zp,YN,hc]
def Xj{u}(a:Ext P f Yz q)(h:au g=R (Γ f #[Ψ (R ad),.int k y]))(hc:w.cell? ad=R u)(hz:w.frozen? ad=Y):
 stepG P main g w=.go (fin (.tuple #[]) g) (w.setCell ad<|.int k y) #[⟨.cell ad,Z,Z⟩]:=by
 refine a.step h ?_ ?_ (λx a=>by simp at a;subst a;exact⟨rfl,λg h=>by cases h⟩)
 change ο P (do
  store (<-YN (Ψ<|R ad)) (.int k y) .atomic
  pure Y8) w=_
 simp[YN,hc,hz,Y8,YH P w ad (.int k y) .atomic rfl]
 change Sem.events P (do
  store (<-YN (Ψ<|R ad)) (.int k y) .atomic
  pure Y8) w _=_
 simp[YN,hc,hz,Yu P w _ ad (.int k y) .atomic rfl]
def mC(m)(b:∀g,m≠κ g)(a:Ext P f (λ_=>do mark m;pure ZE) q)(h:au g=R (Γ f args)):
 stepG P main g w=.go (fin (.tuple #[]) g) w #[⟨.mark m,Y,Z⟩]:=
 a.step h rfl rfl (by intro x a;simp at a;subst a;exact⟨rfl,λg h=>b g (by grind)⟩)
def kZ(mk)(b:∀ad g,mk ad≠κ g)(c:Ext P f (ZJ mk) q)(h:au g=R (Γ f #[Ψ (R ad)])):
 stepG P main g w=.go (fin (.tuple #[]) g) w #[⟨.mark<|mk ad,Y,Z⟩]:=
 c.step h rfl rfl (by intro x a;simp at a;subst a;exact⟨rfl,λg h=>b ad g (Loc.mark.inj h)⟩)
def P'(c:Ext P f ε q)(h:au g=R (Γ f args))(b:args[0]?=R (Ψ<|R ad))(hc:w.cell? ad=R (Δ .u32 n))(a:n≠0)(hz:w.frozen? ad=Y):
 stepG P main g w=.go (fin (.tuple #[]) g) (w.setCell ad<|Δ .u32<|n-1) (XU ad):=
 c.step h (by simp[ε,ZD,b,hc,a,hz,Yo,YH P w ad (Δ .u32<|n-1) .atomic rfl,η])
  (by simp[ε,ZD,b,hc,a,hz,XU,Yn,Yu P w _ ad (Δ .u32<|n-1) .atomic rfl,YH P w ad (Δ .u32<|n-1) .atomic rfl,ZI]) (semEvents_sync ad)
def xU(b:Ext P f ε q)(h:au g=R (Γ f args))(a:args[0]?=R (Ψ<|R ad))(hc:w.cell? ad=R (Δ .u32 0)):
 stepG P main g w=.go {g with status:=.blocked} w #[]:=
 b.wait h (by simp[ε,ZD,a,hc])
def vy(b:Ext P f ZP q)(h:au g=R (Γ f args))(a:args[0]?=R (Ψ<|R ad))(hc:w.cell? ad=R (Δ .u32 n))(hz:w.frozen? ad=Y):
 stepG P main g w=.go (fin (.tuple #[]) g) (w.setCell ad<|Δ .u32<|IntKind.u32.wrap<|n+1) (XU ad):=
 b.step h (by simp[ZP,ZD,a,hc,hz,Yo,Zx,YH P w ad (Δ .u32<|IntKind.u32.wrap<|n+1) .atomic rfl,η])
  (by simp[ZP,ZD,a,hc,hz,XU,Zx,Yn,Yu P w _ ad (Δ .u32<|IntKind.u32.wrap<|n+1) .atomic rfl,YH P w ad (Δ .u32<|IntKind.u32.wrap<|n+1) .atomic rfl,ZI]) (semEvents_sync ad)
def vz(a:Ext P f Yt q)(h:au g=R (Γ f args)):stepG P main g w=.go (fin (.tuple #[]) g) w #[]:=a.step h rfl rfl (by simp)
def uk(i:Ext P f Zv Z)(h:au g=R (Γ f args)):stepG P main g w=.go (fin (Δ YX ((w.os.mono+w.tick:Nat):Int)) g) w.later #[]:=by obtain⟨fn,b,d,h3,h4,h5,e⟩:=i.ex;have a:(Zv args).run P w=.ok (Δ YX ((w.os.mono+w.tick:Nat):Int)) w.later:=rfl;have c:(Zv args).events P w #[⟨.mark<|κ f,Y,Z⟩]=#[⟨.mark<|κ f,Y,Z⟩]++#[⟨.output,Z,Y⟩]:=rfl;obtain⟨_,_,_,k,_⟩:=bU (P:=P) (main:=main) (w:=w) (w':=w.later) h;rw[k (Δ YX ((w.os.mono+w.tick:Nat):Int)),seen_entry_out _ _ (by rw[b];exact e)];rw[ZK,Zf b d h3 h4 h5,YS b d h3 h4 h5,a];simp only[η,XO,List.nil_append,c]
def D7(a:Ext P f Ys q)(h:au g=R (Γ f #[.int k n])):∃b w',stepG P main g w=.go (fin (.bool b) g) w' #[]/\(w'=w\/w'=w.asked)/\(4<=n->b=Y):=by
 by_cases h4:n>=4
 exact⟨Y,w,a.step h (by rw[Ya,if_pos h4];rfl) (by rw[Ya,if_pos h4];rfl)<|by simp,.inl rfl,λ_=>rfl⟩;exact⟨w.spins,w.asked,a.step h (Ft:=#[]) (by rw[Ya,if_neg h4];rfl) (by rw[Ya,if_neg h4];rfl)<|by simp,.inr rfl,λh=>absurd h h4⟩
end
end
noncomputable abbrev P0:Ξ:=Go.Proofs.Tryz.prog
def Ext.of{P f e q}(fn)(a:P.funcs[f]?=R fn)(b:(fn.name== "runtime.NumGoroutine")=Y)(h3:fn.body.isNone=Z)(h4:Y6 fn=φ)(h5:YF fn=R e)(c:fn.norace=q):Ext P f e q:=⟨fn,a,b,h3,h4,h5,c⟩
def F0(n:Nat):Yh:=(P0.funcs[n]?).getD default
def aa1:Ext P0 235 (ZJ .releaseMerge) Y:=Ext.of (F0 235) rfl rfl (by kernel_rfl) (by kernel_rfl) (by kernel_rfl) (by kernel_rfl)
def F2:Ext P0 236 (λ_=>do mark .disable;pure ZE) Y:=Ext.of (F0 236) rfl rfl (by kernel_rfl) (by kernel_rfl) (by kernel_rfl) (by kernel_rfl)
def tw:Ext P0 237 (λ_=>do mark .enable;pure ZE) Y:=Ext.of (F0 237) rfl rfl (by kernel_rfl) (by kernel_rfl) (by kernel_rfl) (by kernel_rfl)
def La:Ext P0 252 (ZJ .acquire) Y:=Ext.of (F0 252) rfl rfl (by kernel_rfl) (by kernel_rfl) (by kernel_rfl) (by kernel_rfl)
def xV:Ext P0 271 (Zq<|.int ψ) Z:=Ext.of (F0 271) rfl rfl rfl (by kernel_rfl) (by kernel_rfl) (by kernel_rfl)
def aa2:Ext P0 273 (Zc (Zx .add) ψ Z) Z:=Ext.of (F0 273) rfl rfl rfl (by kernel_rfl) (by kernel_rfl) (by kernel_rfl)
def akH:Ext P0 280 Ys Z:=Ext.of (F0 280) (by kernel_rfl) (by kernel_rfl) (by kernel_rfl) (by kernel_rfl) (by kernel_rfl) (by kernel_rfl)
def akI:Ext P0 281 Yt Z:=Ext.of (F0 281) rfl (by kernel_rfl) (by kernel_rfl) (by kernel_rfl) (by kernel_rfl) (by kernel_rfl)
def aa3:Ext P0 283 Zv Z:=Ext.of (F0 283) rfl rfl (by kernel_rfl) (by kernel_rfl) (by kernel_rfl) (by kernel_rfl)
def aa4:Ext P0 284 ε Z:=Ext.of (F0 284) rfl (by kernel_rfl) (by kernel_rfl) (by kernel_rfl) (by kernel_rfl) (by kernel_rfl)
def aa5:Ext P0 286 ZP Z:=Ext.of (F0 286) rfl (by kernel_rfl) (by kernel_rfl) (by kernel_rfl) (by kernel_rfl) (by kernel_rfl)
def aa6:Ext P0 268 (Zc (Zx .add) Zn Z) Z:=Ext.of (F0 268) rfl rfl rfl (by kernel_rfl) (by kernel_rfl) (by kernel_rfl)
def Sa:Ext P0 269 (Yx<|.int Zn) Z:=Ext.of (F0 269) rfl rfl rfl (by kernel_rfl) (by kernel_rfl) (by kernel_rfl)
def akJ:Ext P0 270 Yz Z:=Ext.of (F0 270) rfl rfl rfl (by kernel_rfl) (by kernel_rfl) (by kernel_rfl)
def aa7:Ext P0 275 (Zq<|.int Zn) Z:=Ext.of (F0 275) rfl rfl rfl (by kernel_rfl) (by kernel_rfl) (by kernel_rfl)
def akK:Ext P0 247 ZP Z:=Ext.of (F0 247) rfl (by kernel_rfl) (by kernel_rfl) (by kernel_rfl) (by kernel_rfl) (by kernel_rfl)
def aa8:Ext P0 256 ε Z:=Ext.of (F0 256) rfl (by kernel_rfl) (by kernel_rfl) (by kernel_rfl) (by kernel_rfl) (by kernel_rfl)
def akL:Ext P0 243 (ZJ .read) Y:=Ext.of (F0 243) rfl rfl (by kernel_rfl) (by kernel_rfl) (by kernel_rfl) (by kernel_rfl)
def akM:Ext P0 255 (ZJ .write) Y:=Ext.of (F0 255) rfl rfl (by kernel_rfl) (by kernel_rfl) (by kernel_rfl) (by kernel_rfl)
abbrev iv(n:Nat)(x:Int):Nat×Θ:=(n,Δ YX x)
abbrev jv(n:Nat)(x:Int):Nat×Θ:=(n,Δ ψ x)
abbrev bv(n:Nat)(x:Bool):Nat×Θ:=(n,.bool x)
abbrev pv(n:Nat)(x:Y'):Nat×Θ:=(n,Ψ<|R x)
def wV.three{g f i:Type}{a a':g}{b e:f}{c d:i}(h:(a,b,c)=(a',e,d)):a=a'/\b=e/\c=d:=by grind
section
section
variable{P:Ξ}{main:Bool}
def At.F3{fn a n c T d l b cs cs'}(v stop k)(i:∀f,bN P main stop k (fin v<|FG fn (JF n<|cO l f) T cs)=FG a (bN P main stop k<|fin v<|FG fn (JF n<|cO l f) T cs).frame.tmps d cs')(e:∀f,(bN P main stop k<|fin v<|FG fn (JF n<|cO l f) T cs).frame.tmps.size=c)(h3:∀f,(b.map λp=>(bN P main stop k<|fin v<|FG fn (JF n<|cO l f) T cs).frame.tmps.getD p.1 undef)=b.map Zu)(g)(h:At fn n T l cs g):bZ P main k (At a c d b cs') (fin v g):=by obtain⟨f,rfl⟩:=h;exact bZ.run stop k<|At.of (i f) (e f)<|h3 f
end
def K(a:Y')(aV old it:Int)(sv aw:Bool):List (Nat×Θ):=[pv 0 a,iv 2 aV,bv 3 sv,bv 4 aw,iv 5 it,jv 6 old]
def Lg(T:List Zw)(l:List (Nat×Θ))(T':List Zw)(l':List (Nat×Θ)):Prop:=∀cs g,At 272 139 T l cs g->bZ P0 Y 150 (At 272 139 T' l' cs) g
def Lf(v:Θ)(T:List Zw)(l:List (Nat×Θ))(T':List Zw)(l':List (Nat×Θ)):Prop:=∀cs g,At 272 139 T l cs g->bZ P0 Y 150 (At 272 139 T' l' cs) (fin v g)
def Lg.of{T b l a}(stop)(h:∀cs f,(bN P0 Y stop 150<|FG 272 (JF 139<|cO l f) T cs,(bN P0 Y stop 150<|FG 272 (JF 139<|cO l f) T cs).frame.tmps.size,a.map λp=>(bN P0 Y stop 150<|FG 272 (JF 139<|cO l f) T cs).frame.tmps.getD p.1 undef)=(FG 272 (bN P0 Y stop 150<|FG 272 (JF 139<|cO l f) T cs).frame.tmps b cs,139,a.map Zu)):Lg T l b a:=λcs g c=>At.QF stop 150 (λf=>(wV.three<|h cs f).1) (λf=>(wV.three<|h cs f).2.1) (λf=>(wV.three<|h cs f).2.2) g c
def Lf.of{v T b l a}(stop)(h:∀cs f,(bN P0 Y stop 150<|fin v<|FG 272 (JF 139<|cO l f) T cs,(bN P0 Y stop 150<|fin v<|FG 272 (JF 139<|cO l f) T cs).frame.tmps.size,a.map λp=>(bN P0 Y stop 150<|fin v<|FG 272 (JF 139<|cO l f) T cs).frame.tmps.getD p.1 undef)=(FG 272 (bN P0 Y stop 150<|fin v<|FG 272 (JF 139<|cO l f) T cs).frame.tmps b cs,139,a.map Zu)):Lf v T l b a:=λcs g c=>At.F3 v stop 150 (λf=>(wV.three<|h cs f).1) (λf=>(wV.three<|h cs f).2.1) (λf=>(wV.three<|h cs f).2.2) g c
def a0:Y':=⟨0,0,φ⟩
def lsD(T:List Zw)(l:List (Nat×Θ)):Ω:=FG 272 (JF 139<|cO l λ_=>undef) T []
def DG(T:List Zw)(l:List (Nat×Θ))(stop:Ω->Bool):List Zw:=(bN P0 Y stop 150<|lsD T l).frame.todo
def EB(T:List Zw)(l:List (Nat×Θ))(v:Θ)(stop:Ω->Bool):List Zw:=(bN P0 Y stop 150<|fin v<|lsD T l).frame.todo
def lsE(a:Y')(cs:List Frame):Ω:={frame:=Frame.enter P0 272 #[Ψ (R a)] .normal,callers:=cs,status:=.running,dying:=φ}
def Lb:List Zw:=(bN P0 Y (ah 272 13) 150<|lsE a0 []).frame.todo
def A1:=EB Lb ((K a0 0 0 0 Y Y)) (Δ ψ 0)<|ah 272 14
def F4:=DG A1 ((K a0 0 0 0 Y Y))<|ah 272 18
def xW:=DG F4 (bv 17 Z::(K a0 0 0 0 Y Y))<|ah 272 19
def D8:=DG F4 (bv 17 Y::(K a0 0 0 0 Y Y))<|aC 272 52
def Ld:=EB xW (bv 17 Z::(K a0 0 0 0 Y Y)) (.bool Z)<|ah 272 29
def qq:=EB xW (bv 17 Z::(K a0 0 0 0 Y Z)) (.bool Z)<|ah 272 42
def Le:=DG Ld (bv 28 Z::(K a0 0 0 0 Y Y))<|ah 272 34
def A2:=DG Le (bv 33 Z::(K a0 0 0 0 Y Y))<|ah 272 40
def Sb:=EB qq ((K a0 0 0 0 Y Y)) (.tuple #[])<|ah 272 48
def qr:=DG D8 (bv 52 Z::jv 7 0::(K a0 0 0 0 Y Y))<|aC 272 57
def xX:=DG qr (bv 57 Z::jv 7 0::(K a0 0 0 0 Z Y))<|aC 272 65
def xY:=DG qr (bv 57 Z::jv 7 0::(K a0 0 0 0 Y Z))<|aC 272 71
def mU:=DG qr (bv 57 Z::jv 7 0::(K a0 0 0 0 Y Y))<|ah 272 80
def F5:=EB mU ((K a0 0 0 0 Y Y)) (.bool Z)<|aC 272 83
def F6:=EB mU ((K a0 0 0 0 Y Y)) (.bool Y)<|ah 272 134
def F7:=DG F5 (bv 83 Y::(K a0 0 0 0 Y Y))<|aC 272 87
def xZ:=DG F5 (bv 83 Z::(K a0 0 0 0 Y Y))<|ah 272 135
def Sc:=DG F7 (bv 87 Z::(K a0 0 0 0 Y Y))<|ah 272 88
def A3:=DG F7 (bv 87 Y::(K a0 0 0 0 Y Y))<|ah 272 93
def Sd:=EB A3 ((K a0 0 0 0 Y Y)) (.tuple #[])<|ah 272 96
def ul:=EB A3 ((K a0 0 0 0 Z Y)) (.tuple #[])<|ah 272 104
def Cu:=EB ul ((K a0 0 0 0 Y Y)) (Δ ψ 0)<|aC 272 107
def F8:=DG Cu (bv 107 Z::(K a0 0 0 0 Y Y))<|ah 272 112
def Cv:=DG F8 (bv 111 Y::(K a0 0 0 0 Y Y))<|aC 272 115
def Cw:=DG Cv (bv 115 Y::(K a0 0 0 0 Z Y))<|aC 272 123
def um:=DG Cw (bv 123 Z::jv 9 0::(K a0 0 0 0 Y Y))<|ah 272 130
def Cx:=EB xZ ((K a0 0 0 0 Y Y)) (.tuple #[])<|ah 272 137
def F9:=EB Cx ((K a0 0 0 0 Y Y)) (Ψ<|R a0)<|ah 272 138
def Lh(a v):Lf (Δ ψ v) Lb [pv 0 a,iv 2 0,bv 3 Y,bv 4 Y,iv 5 0,pv 12 a] A1 (K a 0 v 0 Y Y):=Lf.of (ah 272 14) λ_ _=>by kernel_rfl
def Li(a aV old it sv aw):Lg A1 (K a aV old it sv aw) F4 (bv 17 (decide<|bits .and ψ old 5=1)::K a aV old it sv aw):=Lg.of (ah 272 18) λ_ _=>by kernel_rfl
def Se(a aV old it sv aw):Lg F4 (bv 17 Z::K a aV old it sv aw) xW (iv 18 it::bv 17 Z::K a aV old it sv aw):=Lg.of (ah 272 19) λ_ _=>by kernel_rfl
def Si(a aV old it sv aw):Lg F4 (bv 17 Y::K a aV old it sv aw) D8 (bv 52 (decide<|bits .and ψ old 4=0)::jv 7 (old)::K a aV old it sv aw):=Lg.of (aC 272 52) λ_ _=>by kernel_rfl
def Sj(a aV old it sv aw):Lf (.bool Y) xW (iv 18 it::bv 17 Z::K a aV old it sv aw) D8 (bv 52 (decide<|bits .and ψ old 4=0)::jv 7 (old)::K a aV old it sv aw):=Lf.of (aC 272 52) λ_ _=>by kernel_rfl
def Lj(a aV old it sv):Lf (.bool Z) xW (iv 18 it::bv 17 Z::K a aV old it sv Z) qq (K a aV old it sv Z):=Lf.of (ah 272 42) λ_ _=>by kernel_rfl
def Lk(a aV old it sv):Lf (.bool Z) xW (iv 18 it::bv 17 Z::K a aV old it sv Y) Ld (bv 28 (decide<|bits .and ψ old 2=0)::K a aV old it sv Y):=Lf.of (ah 272 29) λ_ _=>by kernel_rfl
def Sk(a aV old it sv):Lg Ld (bv 28 Y::K a aV old it sv Y) qq (K a aV old it sv Y):=Lg.of (ah 272 42) λ_ _=>by kernel_rfl
def Sl(a aV old it sv):Lg Ld (bv 28 Z::K a aV old it sv Y) Le (bv 33 (old.fdiv 8 !=0)::K a aV old it sv Y):=Lg.of (ah 272 34) λ_ _=>by kernel_rfl
def Sn(a aV old it sv):Lg Le (bv 33 Y::K a aV old it sv Y) qq (K a aV old it sv Y):=Lg.of (ah 272 42) λ_ _=>by kernel_rfl
def So(a aV old it sv):Lg Le (bv 33 Z::K a aV old it sv Y) A2 (bv 33 Z::pv 36 a::jv 37 (old)::jv 39 (bits .or ψ old 2)::K a aV old it sv Y):=Lg.of (ah 272 40) λ_ _=>by kernel_rfl
def Sp(a aV old it sv):Lf (.bool Z) A2 (bv 33 Z::K a aV old it sv Y) qq (K a aV old it sv Z):=Lf.of (ah 272 42) λ_ _=>by kernel_rfl
def Sq(a aV old it sv):Lf (.bool Y) A2 (bv 33 Z::K a aV old it sv Y) qq (K a aV old it sv Y):=Lf.of (ah 272 42) λ_ _=>by kernel_rfl
def Ll(a aV old it sv aw):Lf (.tuple #[]) qq (K a aV old it sv aw) Sb (pv 47 a::K a aV old (ω YX<|it+1) sv aw):=Lf.of (ah 272 48) λ_ _=>by kernel_rfl
def Lm(a aV old it v sv aw):Lf (Δ ψ v) Sb (pv 47 a::K a aV old it sv aw) A1 (K a aV v it sv aw):=Lf.of (ah 272 14) λ_ _=>by kernel_rfl
def Ss(a aV old it sv aw):Lg D8 (bv 52 Z::jv 7 (old)::K a aV old it sv aw) qr (bv 57 (bits .and ψ old 5 !=0)::jv 7 (bits .or ψ old 1)::K a aV old it sv aw):=Lg.of (aC 272 57) λ_ _=>by kernel_rfl
def Su(a aV old it sv aw):Lg D8 (bv 52 Y::jv 7 (old)::K a aV old it sv aw) qr (bv 57 (bits .and ψ old 5 !=0)::jv 7 (old)::K a aV old it sv aw):=Lg.of (aC 272 57) λ_ _=>by kernel_rfl
def Ga(a aV old it b):Lg qr (bv 57 Z::jv 7 (b)::K a aV old it Y Y) mU (pv 77 a::jv 78 (old)::jv 79 ((ω ψ<|b+8))::K a aV old it Y Y):=Lg.of (ah 272 80) λ_ _=>by kernel_rfl
def Gb(a aV old it b):Lg qr (bv 57 Z::jv 7 (b)::K a aV old it Y Z) xY (bv 71 (decide<|bits .and ψ (ω ψ<|b+8) 2=0)::jv 7 ((ω ψ<|b+8))::K a aV old it Y Z):=Lg.of (aC 272 71) λ_ _=>by kernel_rfl
def Ln(a aV old it b aw):Lg qr (bv 57 Z::jv 7 (b)::K a aV old it Z aw) xX (bv 65 (bits .and ψ old 1 !=0)::jv 7 ((ω ψ<|b+8))::K a aV old it Z aw):=Lg.of (aC 272 65) λ_ _=>by kernel_rfl
def Gc(a aV old it b):Lg qr (bv 57 Y::jv 7 (b)::K a aV old it Y Y) mU (pv 77 a::jv 78 (old)::jv 79 (b)::K a aV old it Y Y):=Lg.of (ah 272 80) λ_ _=>by kernel_rfl
def Gd(a aV old it b):Lg qr (bv 57 Y::jv 7 (b)::K a aV old it Y Z) xY (bv 71 (decide<|bits .and ψ b 2=0)::jv 7 (b)::K a aV old it Y Z):=Lg.of (aC 272 71) λ_ _=>by kernel_rfl
def Lo(a aV old it b aw):Lg qr (bv 57 Y::jv 7 (b)::K a aV old it Z aw) xX (bv 65 (bits .and ψ old 1 !=0)::jv 7 (b)::K a aV old it Z aw):=Lg.of (aC 272 65) λ_ _=>by kernel_rfl
def Lp(a aV old it b sv):Lg xX (bv 65 Z::jv 7 (b)::K a aV old it sv Y) mU (pv 77 a::jv 78 (old)::jv 79 (bits .or ψ b 4)::K a aV old it sv Y):=Lg.of (ah 272 80) λ_ _=>by kernel_rfl
def Lq(a aV old it b sv):Lg xX (bv 65 Z::jv 7 (b)::K a aV old it sv Z) xY (bv 71 (decide<|bits .and ψ (bits .or ψ b 4) 2=0)::jv 7 (bits .or ψ b 4)::K a aV old it sv Z):=Lg.of (aC 272 71) λ_ _=>by kernel_rfl
def Lr(a aV old it b sv):Lg xX (bv 65 Y::jv 7 (b)::K a aV old it sv Y) mU (pv 77 a::jv 78 (old)::jv 79 (b)::K a aV old it sv Y):=Lg.of (ah 272 80) λ_ _=>by kernel_rfl
def Ls(a aV old it b sv):Lg xX (bv 65 Y::jv 7 (b)::K a aV old it sv Z) xY (bv 71 (decide<|bits .and ψ (b) 2=0)::jv 7 (b)::K a aV old it sv Z):=Lg.of (aC 272 71) λ_ _=>by kernel_rfl
def Sv(a aV old it b sv):Lg xY (bv 71 Y::jv 7 (b)::K a aV old it sv Z) mU (pv 77 a::jv 78 (old)::jv 79 (bits .andNot ψ b 2)::K a aV old it sv Z):=Lg.of (ah 272 80) λ_ _=>by kernel_rfl
def Sw(a aV old it b sv aw):Lf (.bool Z) mU (pv 77 a::jv 78 (old)::jv 79 (b)::K a aV old it sv aw) F5 (bv 83 (decide<|bits .and ψ old 5=0)::K a aV old it sv aw):=Lf.of (aC 272 83) λ_ _=>by kernel_rfl
def Sx(a aV old it b sv aw):Lf (.bool Y) mU (pv 77 a::jv 78 (old)::jv 79 (b)::K a aV old it sv aw) F6 (pv 133 a::K a aV old it sv aw):=Lf.of (ah 272 134) λ_ _=>by kernel_rfl
def Ge(a aV old it v sv aw):Lf (Δ ψ v) F6 (pv 133 a::K a aV old it sv aw) A1 (K a aV v it sv aw):=Lf.of (ah 272 14) λ_ _=>by kernel_rfl
def Sy(a aV old it sv aw):Lg F5 (bv 83 Z::K a aV old it sv aw) xZ (K a aV old it sv aw):=Lg.of (ah 272 135) λ_ _=>by kernel_rfl
def Sz(a aV old it sv aw):Lg F5 (bv 83 Y::K a aV old it sv aw) F7 (bv 87 (decide<|aV=0)::bv 8 (aV !=0)::K a aV old it sv aw):=Lg.of (aC 272 87) λ_ _=>by kernel_rfl
def SA(a aV old it sv aw b):Lg F7 (bv 87 Z::bv 8 b::K a aV old it sv aw) Sc (bv 8 b::K a aV old it sv aw):=Lg.of (ah 272 88) λ_ _=>by kernel_rfl
def SD(a aV old it sv aw b):Lg F7 (bv 87 Y::bv 8 b::K a aV old it sv aw) A3 (pv 91 (a.add 1)::bv 92 b::K a aV old it sv aw):=Lg.of (ah 272 93) λ_ _=>by kernel_rfl
def Lt(a aV old it t sv aw b):Lf (Δ YX t) Sc (bv 8 b::K a aV old it sv aw) A3 (pv 91 (a.add 1)::bv 92 b::K a t old it sv aw):=Lf.of (ah 272 93) λ_ _=>by kernel_rfl
def SE(a aV old it aw b):Lf (.tuple #[]) A3 (pv 91 (a.add 1)::bv 92 b::K a aV old it Y aw) Sd (bv 95 Y::K a aV old it Y aw):=Lf.of (ah 272 96) λ_ _=>by kernel_rfl
def SF(a aV old it aw b):Lf (.tuple #[]) A3 (pv 91 (a.add 1)::bv 92 b::K a aV old it Z aw) ul (pv 103 a::K a aV old it Z aw):=Lf.of (ah 272 104) λ_ _=>by kernel_rfl
def Lu(a aV old it t aw):Lf (Δ YX t) Sd (bv 95 Y::K a aV old it Y aw) ul (pv 103 a::K a aV old it (decide<|ω YX (t-aV)>1000000) aw):=Lf.of (ah 272 104) λ_ _=>by kernel_rfl
def Gf(a aV old it v sv aw):Lf (Δ ψ v) ul (pv 103 a::K a aV old it sv aw) Cu (bv 107 (bits .and ψ v 4 !=0)::K a aV v it sv aw):=Lf.of (aC 272 107) λ_ _=>by kernel_rfl
def Lv(a aV old it sv aw):Lg Cu (bv 107 Y::K a aV old it sv aw) A1 (K a aV old 0 sv Z):=Lg.of (ah 272 14) λ_ _=>by kernel_rfl
def Lw(a aV old it sv aw):Lg Cu (bv 107 Z::K a aV old it sv aw) F8 (bv 111 (bits .and ψ old 3 !=0)::K a aV old it sv aw):=Lg.of (ah 272 112) λ_ _=>by kernel_rfl
def Lx(a aV old it sv aw):Lg F8 (bv 111 Y::K a aV old it sv aw) Cv (bv 115 (decide<|old.fdiv 8=0)::K a aV old it sv aw):=Lg.of (aC 272 115) λ_ _=>by kernel_rfl
def Gg(a aV old it aw):Lg Cv (bv 115 Y::K a aV old it Y aw) um (pv 128 a::jv 129 (-11)::K a aV old it Y aw):=Lg.of (ah 272 130) λ_ _=>by kernel_rfl
def Gh(a aV old it aw):Lg Cv (bv 115 Y::K a aV old it Z aw) Cw (bv 123 (decide<|old.fdiv 8=1)::jv 9 (-7)::K a aV old it Z aw):=Lg.of (aC 272 123) λ_ _=>by kernel_rfl
def Ly(a aV old it sv aw):Lg Cw (bv 123 Z::jv 9 (-7)::K a aV old it sv aw) um (pv 128 a::jv 129 (-11)::K a aV old it sv aw):=Lg.of (ah 272 130) λ_ _=>by kernel_rfl
def Lz(a aV old it sv aw):Lg Cw (bv 123 Y::jv 9 (-7)::K a aV old it sv aw) um (pv 128 a::jv 129 (-7)::K a aV old it sv aw):=Lg.of (ah 272 130) λ_ _=>by kernel_rfl
def Gi(a aV old it v b sv aw):Lf (Δ ψ v) um (pv 128 a::jv 129 (b)::K a aV old it sv aw) xZ (K a aV old it sv aw):=Lf.of (ah 272 135) λ_ _=>by kernel_rfl
def Gj(a aV old it sv aw):Lf (.tuple #[]) xZ (K a aV old it sv aw) Cx (pv 136 a::K a aV old it sv aw):=Lf.of (ah 272 137) λ_ _=>by kernel_rfl
def Gk(a aV old it sv aw):Lf (Ψ<|R a) Cx (pv 136 a::K a aV old it sv aw) F9 (pv 137 a::K a aV old it sv aw):=Lf.of (ah 272 138) λ_ _=>by kernel_rfl
end
section
structure bG where
 fn:Z8
 n:Nat
 T:List Zw
 l:List (Nat×Θ)
 defers:List ZF:=[]
 mode:FrameMode:=.run
 kind:CallKind:=.normal
def bG.fr(d:bG)(tmps:Array Θ):Frame:={fn:=d.fn,tmps,todo:=d.T,defers:=d.defers,mode:=d.mode,kind:=d.kind}
def KN:List bG->(Nat->Nat->Θ) ->List Frame
 |[],_=>[]
 |d::ds,F=>d.fr (JF d.n<|cO d.l<|F 0)::KN ds λi=>F<|i+1
def SG(d:bG)(ds:List bG)(F:Nat->Nat->Θ):Ω:=G (d.fr<|JF d.n<|cO d.l<|F 0)<|KN ds λi=>F<|i+1
def bj(d:bG)(ds:List bG)(g:Ω):Prop:=∃F,g=SG d ds F
def ck:List bG->List Frame->List Frame
 |d::ds,fr::qH=>d.fr fr.tmps::ck ds qH
 |_,_=>[]
theorem A4:∀(ds:List bG) (qH:List Frame),qH=ck ds qH->qH.map (λfr=>fr.tmps.size)=ds.map (·.n) ->Y2 (λ(d:bG) (fr:Frame)=>d.l.map λp=>fr.tmps.getD p.1 undef) ds qH=ds.map (λd=>d.l.map Zu) ->
 ∃F,qH=KN ds F
 |[],[],_,_,_=>⟨λ_ _=>undef,rfl⟩
 |[],fr::qH,h,_,_=>by simp[ck]at h
 |d::ds,[],_,h,_=>by simp at h
 |d::ds,fr::qH,h1,h2,h3=>by
  simp only[ck,YL]at h1;simp only[List.map_cons,YL]at h2;simp only[List.zipWith_cons_cons,List.map_cons,YL]at h3;obtain⟨F,hF⟩:=A4 ds qH h1.2 h2.2 h3.2;refine⟨λi=>match i with|0=>λj=>fr.tmps.getD j undef|i+1=>F i,?_⟩;simp only[KN];rw[<-uj h2.1 d.l λp a=>?_,<-h1.1]
  grind
  obtain⟨i,hi,rfl⟩:=X7.1 a;have:=congrArg (λx=>x[i]?) h3.1;simpa[hi]using this
section
variable{P:Ξ}{main:Bool}{S S':Ω->Prop}{g:Ω}
def bj.of{d ds r}(a:r=G (d.fr r.frame.tmps) (ck ds r.callers))(b:(r.frame::r.callers).map (λfr=>fr.tmps.size)=(d::ds).map (·.n))(h3:Y2 (λd fr=>d.l.map λp=>fr.tmps.getD p.1 undef) (d::ds) (r.frame::r.callers)=(d::ds).map (λd=>d.l.map Zu)):bj d ds r:=by
 obtain⟨F,hF⟩:=A4 (d::ds) (r.frame::r.callers) (by simp only[ck];have e1:=congrArg X6 a;have e2:=congrArg Yi a;dsimp only[G]at e1 e2;rw[<-e2,<-e1]) b h3
 refine⟨F,?_⟩;simp only[KN]at hF;unfold SG;have e1:=congrArg X6 a;have e2:=congrArg Yi a;dsimp only[G]at e1 e2
 grind
def bj.QF{d b ds a}(stop k)(c:∀F,bN P main stop k (SG d ds F)=G (b.fr (bN P main stop k<|SG d ds F).frame.tmps) (ck a (bN P main stop k<|SG d ds F).callers))(e:∀F,((bN P main stop k<|SG d ds F).frame::(bN P main stop k<|SG d ds F).callers).map (λfr=>fr.tmps.size)=(b::a).map (·.n))(h3:∀F,Y2 (λd fr=>d.l.map λp=>fr.tmps.getD p.1 undef) (b::a) ((bN P main stop k<|SG d ds F).frame::(bN P main stop k<|SG d ds F).callers)=(b::a).map (λd=>d.l.map Zu))(g)(h:bj d ds g):bZ P main k (bj b a) g:=by obtain⟨F,rfl⟩:=h;exact bZ.run stop k<|bj.of (c F) (e F)<|h3 F
def bj.F3{d b ds a}(v stop k)(c:∀F,bN P main stop k (fin v<|SG d ds F)=G (b.fr (bN P main stop k<|fin v<|SG d ds F).frame.tmps) (ck a (bN P main stop k<|fin v<|SG d ds F).callers))(e:∀F,((bN P main stop k<|fin v<|SG d ds F).frame::(bN P main stop k<|fin v<|SG d ds F).callers).map (λfr=>fr.tmps.size)=(b::a).map (·.n))(h3:∀F,Y2 (λd fr=>d.l.map λp=>fr.tmps.getD p.1 undef) (b::a) ((bN P main stop k<|fin v<|SG d ds F).frame::(bN P main stop k<|fin v<|SG d ds F).callers)=(b::a).map (λd=>d.l.map Zu))(g)(h:bj d ds g):bZ P main k (bj b a) (fin v g):=by obtain⟨F,rfl⟩:=h;exact bZ.run stop k<|bj.of (c F) (e F)<|h3 F
def bj.head{d ds s}(h:∀F,au (SG d ds F)=R s)(g)(a:bj d ds g):au g=R s:=by obtain⟨F,rfl⟩:=a;exact h F
def bj.open{d ds g}(h:bj d ds g)(a:d.defers=[])(b:d.mode=.run)(h3:d.kind=.normal):∃cs,At d.fn d.n d.T d.l cs g/\∃F,cs=KN ds F:=by obtain⟨F,rfl⟩:=h;refine⟨KN ds λi=>F<|i+1,⟨F 0,?_⟩,λi=>F<|i+1,rfl⟩;unfold SG FG bG.fr;rw[a,b,h3]
def At.close{fn n T l ds F g}(h:At fn n T l (KN ds F) g):bj {fn,n,T,l} ds g:=by
 obtain⟨f,rfl⟩:=h;exact⟨λi=>match i with|0=>f|i+1=>F i,rfl⟩
end
def eh(f:Z8)(g:Ω):Bool:=
 g.frame.fn==f&&match g.frame.mode,g.frame.todo with
 |.run,.inRegion ops (i::_)::_=>match((ops[i]?).map (·.op):Option Op)with
  |some (.store ..)=>Z
  |_=>Y
 |_,_=>Y
def LA(f:Z8)(g:Ω):Bool:=g.frame.fn==f
end
section
def sz3(ds:List bG)(r:Ω):Ω×List Nat×List (List Θ):=(r,(r.frame::r.callers).map λfr=>fr.tmps.size,Y2 (λd fr=>d.l.map λp=>fr.tmps.getD p.1 undef) ds (r.frame::r.callers))
def sg3(d:bG)(ds:List bG)(r:Ω):Ω×List Nat×List (List Θ):=(G (d.fr r.frame.tmps)<|ck ds r.callers,(d::ds).map (·.n),(d::ds).map λd=>d.l.map Zu)
def Sg(d:bG)(ds:List bG)(d':bG)(ds':List bG):Prop:=∀g,bj d ds g->bZ P0 Y 200 (bj d' ds') g
def Sf(v:Θ)(d:bG)(ds:List bG)(d':bG)(ds':List bG):Prop:=∀g,bj d ds g->bZ P0 Y 200 (bj d' ds') (fin v g)
def Sg.of{d b ds a}(stop)(h:∀F,sz3 (b::a) (bN P0 Y stop 200<|SG d ds F)=sg3 b a (bN P0 Y stop 200<|SG d ds F)):Sg d ds b a:=bj.QF stop 200 (λf=>(wV.three<|h f).1) (λf=>(wV.three<|h f).2.1) (λf=>(wV.three<|h f).2.2)
def Sf.of{v d b ds a}(stop)(h:∀F,sz3 (b::a) (bN P0 Y stop 200<|fin v<|SG d ds F)=sg3 b a (bN P0 Y stop 200<|fin v<|SG d ds F)):Sf v d ds b a:=bj.F3 v stop 200 (λf=>(wV.three<|h f).1) (λf=>(wV.three<|h f).2.1) (λf=>(wV.three<|h f).2.2)
structure WP where
 wg:Y'
 gb:Y'
 cb:Y'
 lk:Y'
 eb:Y'
 ib:Y'
variable(p:WP)(v e o:Int)
def WP.l(p:WP):List (Nat×Θ):=[pv 0 p.wg,pv 1 p.gb,pv 2 p.cb,pv 3 p.lk,pv 4 p.eb,pv 5 p.ib]
def WP.tx(p:WP):Array Θ:=#[Ψ (R p.wg),Ψ<|R p.gb,Ψ<|R p.cb,Ψ<|R p.lk,Ψ<|R p.eb,Ψ<|R p.ib]
def bB:WP:=⟨a0,a0,a0,a0,a0,a0⟩
def fB(ds:List ZF):bG:={fn:=P0.funcs.size,n:=0,T:=[],l:=[],defers:=ds,mode:=.panicking [goexitEntry]}
def aZ(p:WP):ZF:={target:=.fn (.func 212) #[],args:=#[Ψ (R p.wg)]}
def cT(p:WP):ZF:={target:=.fn (.func 215) #[],args:=#[Ψ (R p.lk)]}
def vA(p:WP):ZF:={target:=.fn (.func 211) p.tx,args:=#[]}
def fW(p:WP)(T:List Zw)(ex:List (Nat×Θ))(ds:List ZF):bG:={fn:=211,n:=15,T,l:=ex++p.l,defers:=ds,kind:=.deferred}
def kz(p:WP)(T:List Zw)(ds:List ZF):bG:={fn:=211,n:=15,T,l:=p.l,defers:=ds,mode:=.returning,kind:=.deferred}
def fL(p:WP)(T:List Zw):bG:={fn:=214,n:=6,T,l:=[pv 0 p.lk]}
def fI(p:WP)(T:List Zw)(ex:List (Nat×Θ)):bG:={fn:=250,n:=13,T,l:=ex++[pv 0 p.lk]}
def fU(p:WP)(T:List Zw):bG:={fn:=215,n:=6,T,l:=[pv 0 p.lk],kind:=.deferred}
def fJ(p:WP)(T:List Zw)(ex:List (Nat×Θ)):bG:={fn:=251,n:=21,T,l:=ex++[pv 0 p.lk]}
def fV(p:WP)(T:List Zw)(ex:List (Nat×Θ))(v:Int):bG:={fn:=274,n:=43,T,l:=ex++[pv 0 p.lk,jv 1 v]}
def fS(p:WP)(T:List Zw)(l:List (Nat×Θ)):bG:={fn:=272,n:=139,T,l:=l}
def kG(d:bG)(ds:List bG)(stop:Ω->Bool):Ω:=bN P0 Y stop 200<|SG d ds λ_ _=>undef
def dG(d:bG)(ds:List bG)(v:Θ)(stop:Ω->Bool):Ω:=bN P0 Y stop 200<|fin v<|SG d ds λ_ _=>undef
def aK(g:Ω):List Zw:=g.frame.todo
def cH(i:Nat)(g:Ω):List Zw:=match g.callers[i]? with|some fr=>fr.todo|none=>[]
def tw7:=aK<|kG (fB [vA bB]) []<|ah 211 7
def LB:=aK<|dG (fW bB tw7 [] [aZ bB]) [fB []] (Ψ<|R a0)<|ah 211 8
def SH:=dG (fW bB LB [pv 7 a0] [aZ bB]) [fB []] (.agg #[])<|LA 213
def QG:=cH 0 SH
def Gl:=dG (fW bB QG [] [aZ bB]) [fB []] (Δ YX 0)<|ah 250 2
def ti2:=aK Gl
def QH:=cH 0 Gl
def afT:=cH 1 Gl
noncomputable abbrev Pd:List bG:=[fL bB QH,fW bB afT [] [aZ bB],fB []]
def Ks:=aK<|dG (fI bB ti2 []) Pd (.tuple #[])<|ah 250 6
def ti7:=aK<|dG (fI bB Ks []) Pd (.bool Z)<|ah 250 7
def aa9:=dG (fI bB Ks []) Pd (.bool Y)<|ah 272 13
def SI:=cH 0 aa9
def ti9:=aK<|dG (fI bB ti7 []) Pd (.tuple #[])<|ah 250 9
def LC:=aK<|dG (fI bB ti9 []) Pd (Ψ<|R a0)<|ah 250 10
def D9:=aK<|dG (fI bB LC []) Pd (.tuple #[])<|ah 211 11
def adL:=aK<|dG (fW bB D9 [] [cT bB,aZ bB]) [fB []] (ZL (R a0) 1 1)<|ah 211 12
def LE:=aK<|dG (fW bB adL [] [cT bB,aZ bB]) [fB []] (Δ YX 0)<|ah 211 14
def Gm:=aK<|dG (fW bB LE [] [cT bB,aZ bB]) [fB []] (Ψ<|R a0)<|eh 211
def SJ:=dG (fW bB Gm [] [cT bB,aZ bB]) [fB []] undef<|ah 251 6
def tj6:=aK SJ
def vB:=cH 0 SJ
def kA:=cH 1 SJ
noncomputable abbrev yv:List bG:=[fU bB vB,kz bB kA [aZ bB],fB []]
def tj8:=aK<|dG (fJ bB tj6 []) yv (Δ ψ 0)<|ah 251 8
def tj9:=aK<|dG (fJ bB tj8 [pv 7 a0]) yv (Ψ<|R a0)<|ah 251 9
def LF:=aK<|dG (fJ bB tj9 []) yv (.tuple #[])<|ah 251 10
def LG:=aK<|dG (fJ bB LF []) yv (.tuple #[])<|ah 251 14
def SK:=aK<|dG (fJ bB LG []) yv (Δ ψ 0)<|aC 251 16
def A5:=aK<|kG (fJ bB SK [bv 16 Y,jv 2 0]) yv<|ah 251 20
def gUs:=kG (fJ bB SK [bv 16 Z,jv 2 0]) yv<|aC 274 8
def SM:=aK gUs
def eN:=cH 0 gUs
def Qa:=aK<|kG (fV bB SM [bv 8 Y] 0) (fJ bB eN []::yv)<|aC 274 12
def SN:=aK<|kG (fV bB Qa [bv 12 Y] 0) (fJ bB eN []::yv)<|ah 274 42
def Gn:=aK<|kG (fV bB Qa [bv 12 Z] 0) (fJ bB eN []::yv)<|ah 274 14
def LH:=aK<|kG (fV bB Gn [jv 4 0] 0) (fJ bB eN []::yv)<|ah 274 18
def Qb:=aK<|kG (fV bB LH [bv 17 Y,jv 4 0] 0) (fJ bB eN []::yv)<|aC 274 21
def Ea:=aK<|kG (fV bB Qb [bv 21 Y,jv 4 0] 0) (fJ bB eN []::yv)<|ah 274 30
def SO:=aK<|dG (fV bB Ea [] 0) (fJ bB eN []::yv) (.bool Z)<|ah 274 34
def afU:=aK<|dG (fV bB Ea [] 0) (fJ bB eN []::yv) (.bool Y)<|ah 274 38
def QI:=dG (fJ bB A5 []) yv (.tuple #[])<|ah 210 12
def LI:=aK QI
def vC:=cH 0 QI
noncomputable abbrev dH (p:WP):List bG:=[fU p vB,kz p kA [aZ p],fB []]
noncomputable abbrev oV (p:WP) (e:Int):List bG:=[fL p QH,fW p afT [iv 6 e] [aZ p],fB []]
def LJ:Sg (fB [vA p]) [] (fW p tw7 [] [aZ p]) [fB []]:=Sg.of (ah 211 7) λ_=>by kernel_rfl
def aba(g0):Sf (Ψ<|R g0) (fW p tw7 [] [aZ p]) [fB []] (fW p LB [pv 7 g0] [aZ p]) [fB []]:=Sf.of (ah 211 8) λ_=>by kernel_rfl
def abb(g0 c g)(h:bj (fW p LB [pv 7 g0] [aZ p]) [fB []] g):bZ P0 Y 200 (λg'=>∃a,bj (fW p QG [] [aZ p]) [fB []] (G a.head! a.tail)/\a≠[]/\g'={frame:=Frame.enter P0 213 #[Ψ (R g0),c] .normal,callers:=a,status:=.running,dying:=φ}) (fin c g):=by
 obtain⟨F,rfl⟩:=h;refine bZ.run (LA 213) 200 ⟨(bN P0 Y (LA 213) 200<|fin c<|SG (fW p LB [pv 7 g0] [aZ p]) [fB []] F).callers,bj.of (by kernel_rfl) (by kernel_rfl)<|by kernel_rfl,?_,?_⟩;have e:(bN P0 Y (LA 213) 200<|fin c<|SG (fW p LB [pv 7 g0] [aZ p]) [fB []] F).callers.length=2:=by kernel_rfl
 intro h;rw[h]at e;cases e
 kernel_rfl
def abc:Sf (Δ YX e) (fW p QG [] [aZ p]) [fB []] (fI p ti2 []) (oV p e):=Sf.of (ah 250 2) λ_=>by kernel_rfl
def abd:Sf (.tuple #[]) (fI p ti2 []) (oV p e) (fI p Ks [pv 5 p.lk]) (oV p e):=Sf.of (ah 250 6) λ_=>by kernel_rfl
def akN:Sf (.bool Z) (fI p Ks [pv 5 p.lk]) (oV p e) (fI p ti7 []) (oV p e):=Sf.of (ah 250 7) λ_=>by kernel_rfl
def akO:Sf (.bool Y) (fI p Ks [pv 5 p.lk]) (oV p e) (fS p Lb [pv 0 p.lk,iv 2 0,bv 3 Y,bv 4 Y,iv 5 0,pv 12 p.lk]) (fI p SI []::(oV p e)):=Sf.of (ah 272 13) λ_=>by kernel_rfl
def abe:Sf (.tuple #[]) (fI p ti7 []) (oV p e) (fI p ti9 [pv 8 p.lk]) (oV p e):=Sf.of (ah 250 9) λ_=>by kernel_rfl
def abf:Sf (Ψ<|R p.lk) (fI p ti9 [pv 8 p.lk]) (oV p e) (fI p LC [pv 9 p.lk]) (oV p e):=Sf.of (ah 250 10) λ_=>by kernel_rfl
def SQ:Sf (.tuple #[]) (fI p LC [pv 9 p.lk]) (oV p e) (fW p D9 [iv 6 e] [cT p,aZ p]) [fB []]:=Sf.of (ah 211 11) λ_=>by kernel_rfl
def adS(l):Sf (.tuple #[]) (fS p F9 l) (fI p SI []::(oV p e)) (fW p D9 [iv 6 e] [cT p,aZ p]) [fB []]:=Sf.of (ah 211 11) λ_=>by kernel_rfl
def SR(v):Sf (v) (fW p D9 [iv 6 e] [cT p,aZ p]) [fB []] (fW p adL [(11,v),iv 6 e] [cT p,aZ p]) [fB []]:=Sf.of (ah 211 12) λ_=>by kernel_rfl
def SS(i v):Sf (Δ YX i) (fW p adL [(11,v),iv 6 e] [cT p,aZ p]) [fB []] (fW p LE [(11,v),iv 12 i,iv 13 e] [cT p,aZ p]) [fB []]:=Sf.of (ah 211 14) λ_=>by kernel_rfl
def ST(v i d):Sf (d) (fW p LE [(11,v),(12,i),iv 13 e] [cT p,aZ p]) [fB []] (fW p Gm [(14,d),iv 13 e] [cT p,aZ p]) [fB []]:=Sf.of (eh 211) λ_=>by kernel_rfl
def SU(d):Sf (undef) (fW p Gm [(14,d),iv 13 e] [cT p,aZ p]) [fB []] (fJ p tj6 [pv 5 p.lk]) (dH p):=Sf.of (ah 251 6) λ_=>by kernel_rfl
def abg(v):Sf (v) (fJ p tj6 [pv 5 p.lk]) (dH p) (fJ p tj8 [pv 7 p.lk]) (dH p):=Sf.of (ah 251 8) λ_=>by kernel_rfl
def abh:Sf (Ψ<|R p.lk) (fJ p tj8 [pv 7 p.lk]) (dH p) (fJ p tj9 [pv 8 p.lk]) (dH p):=Sf.of (ah 251 9) λ_=>by kernel_rfl
def abi:Sf (.tuple #[]) (fJ p tj9 [pv 8 p.lk]) (dH p) (fJ p LF []) (dH p):=Sf.of (ah 251 10) λ_=>by kernel_rfl
def SV:Sf (.tuple #[]) (fJ p LF []) (dH p) (fJ p LG [pv 13 p.lk]) (dH p):=Sf.of (ah 251 14) λ_=>by kernel_rfl
def SW:Sf (Δ ψ v) (fJ p LG [pv 13 p.lk]) (dH p) (fJ p SK [bv 16 (v !=0),jv 2 v]) (dH p):=Sf.of (aC 251 16) λ_=>by kernel_rfl
def akP:Sg (fJ p SK [bv 16 Y,jv 2 v]) (dH p) (fJ p A5 []) (dH p):=Sg.of (ah 251 20) λ_=>by kernel_rfl
def akQ:Sg (fJ p SK [bv 16 Z,jv 2 v]) (dH p) (fV p SM [bv 8 (decide<|bits .and ψ (ω ψ<|v+1) 1=0)] v) (fJ p eN []::(dH p)):=Sg.of (aC 274 8) λ_=>by kernel_rfl
def abj:Sg (fV p SM [bv 8 Y] v) (fJ p eN []::(dH p)) (fV p Qa [bv 12 (decide<|bits .and ψ v 4=0)] v) (fJ p eN []::(dH p)):=Sg.of (aC 274 12) λ_=>by kernel_rfl
def SX:Sg (fV p Qa [bv 12 Y] v) (fJ p eN []::(dH p)) (fV p SN [pv 41 (p.lk.add 1)] v) (fJ p eN []::(dH p)):=Sg.of (ah 274 42) λ_=>by kernel_rfl
def SY:Sg (fV p Qa [bv 12 Z] v) (fJ p eN []::(dH p)) (fV p Gn [jv 4 v] v) (fJ p eN []::(dH p)):=Sg.of (ah 274 14) λ_=>by kernel_rfl
def SZ:Sg (fV p Gn [jv 4 o] v) (fJ p eN []::(dH p)) (fV p LH [bv 17 (decide<|o.fdiv 8=0),jv 4 o] v) (fJ p eN []::(dH p)):=Sg.of (ah 274 18) λ_=>by kernel_rfl
def abk:Sg (fV p LH [bv 17 Z,jv 4 o] v) (fJ p eN []::(dH p)) (fV p Qb [bv 21 Z,jv 4 o] v) (fJ p eN []::(dH p)):=Sg.of (aC 274 21) λ_=>by kernel_rfl
def abl:Sg (fV p LH [bv 17 Y,jv 4 o] v) (fJ p eN []::(dH p)) (fV p Qb [bv 21 (bits .and ψ o 7 !=0),jv 4 o] v) (fJ p eN []::(dH p)):=Sg.of (aC 274 21) λ_=>by kernel_rfl
def Gp:Sg (fV p Qb [bv 21 Z,jv 4 o] v) (fJ p eN []::(dH p)) (fJ p A5 []) (dH p):=Sg.of (ah 251 20) λ_=>by kernel_rfl
def afV:Sg (fV p Qb [bv 21 Y,jv 4 o] v) (fJ p eN []::(dH p)) (fV p Ea [pv 27 p.lk,jv 28 o,jv 29<|bits .or ψ (ω ψ<|o-8) 2]<|bits .or ψ (ω ψ<|o-8) 2) (fJ p eN []::(dH p)):=Sg.of (ah 274 30) λ_=>by kernel_rfl
def abm(a):Sf (.bool Z) (fV p Ea [pv 27 p.lk,jv 28 o,jv 29 a] a) (fJ p eN []::(dH p)) (fV p SO [pv 33 (p.lk.add 1)] a) (fJ p eN []::(dH p)):=Sf.of (ah 274 34) λ_=>by kernel_rfl
def abn(a):Sf (.bool Y) (fV p Ea [pv 27 p.lk,jv 28 o,jv 29 a] a) (fJ p eN []::(dH p)) (fV p afU [pv 37 p.lk] a) (fJ p eN []::(dH p)):=Sf.of (ah 274 38) λ_=>by kernel_rfl
def afW:Sf (Δ ψ o) (fV p afU [pv 37 p.lk] v) (fJ p eN []::(dH p)) (fV p Gn [jv 4 o] v) (fJ p eN []::(dH p)):=Sf.of (ah 274 14) λ_=>by kernel_rfl
def S7:Sf (.tuple #[]) (fV p SO [pv 33 (p.lk.add 1)] v) (fJ p eN []::(dH p)) (fJ p A5 []) (dH p):=Sf.of (ah 251 20) λ_=>by kernel_rfl
def S9:Sf (.tuple #[]) (fV p SN [pv 41 (p.lk.add 1)] v) (fJ p eN []::(dH p)) (fJ p A5 []) (dH p):=Sf.of (ah 251 20) λ_=>by kernel_rfl
end
section
variable(p:WP)(v n m:Int)
def rE(g:Ω):Bool:=match g.frame.mode with|.returning=>Z|_=>Y
def fD(p:WP)(T:List Zw):bG:={fn:=212,n:=4,T,l:=[pv 0 p.wg],kind:=.deferred}
def dK:ZF:={target:=.fn (.func 237) #[],args:=#[]}
def fA(p:WP)(T:List Zw)(ex:List (Nat×Θ))(ds:List ZF):bG:={fn:=210,n:=117,T,l:=ex++[pv 0 p.wg,iv 1<|-1],defers:=ds}
def fAr(p:WP)(T:List Zw)(ds:List ZF):bG:={fn:=210,n:=117,T,l:=[],defers:=ds,mode:=.returning}
def fM(p:WP)(f:Z8)(n:Nat)(T:List Zw)(ex:List (Nat×Θ)):bG:={fn:=f,n,T,l:=ex++[pv 0 p.wg]}
noncomputable abbrev yX:List bG:=[fD bB vC,kz bB kA [],fB []]
def LM:=aK<|dG (fA bB LI [pv 11 a0] []) yX (Ψ<|R a0)<|ah 210 13
def LN:=aK<|dG (fA bB LM [] []) yX (.tuple #[])<|ah 210 14
def QJ:=dG (fA bB LN [] []) yX (.tuple #[])<|ah 242 9
def Cy:=aK QJ
def LO:=cH 0 QJ
def Ta:=aK<|dG (fM bB 242 10 Cy []) (fA bB LO [bv 4 Y] [dK]::yX) (Δ Zn 0)<|ah 210 48
def Gq:=aK<|kG (fA bB Ta [bv 47 Y,(6,Δ Zn 0),bv 4 Y] [dK]) yX<|aC 210 74
abbrev Qc:List (Nat×Θ):=[(6,Δ Zn 0),bv 4 Y,jv 7 0,(8,Δ .u32 0)]
def LP:=aK<|kG (fA bB Gq (bv 74 Y::Qc) [dK]) yX<|ah 210 79
def Eb:=aK<|kG (fA bB LP (bv 78 Y::Qc) [dK]) yX<|ah 210 92
def uo:=aK<|kG (fA bB Eb (bv 91 Y::Qc) [dK]) yX<|aC 210 94
def akR:=kG (fA bB uo (bv 94 Z::Qc) [dK]) yX rE
def tgr:=aK akR
def gLd:=kG (fA bB uo (bv 94 Y::Qc) [dK]) yX<|ah 244 6
def Cz:=aK gLd
def LQ:=cH 0 gLd
def A6:=aK<|dG (fM bB 244 7 Cz []) (fA bB LQ [(6,Δ Zn 0),bv 4 Y,(8,Δ .u32 0)] [dK]::yX) (Δ Zn 0)<|aC 210 100
def gSt:=kG (fA bB A6 [bv 100 Y,bv 4 Y,(8,Δ .u32 0)] [dK]) yX<|ah 245 8
def CA:=aK gSt
def CB:=cH 0 gSt
def oW:=aK<|dG (fM bB 245 9 CA []) (fA bB CB [bv 4 Y,(8,Δ .u32 0)] [dK]::yX) (.tuple #[])<|aC 210 110
def Gr:=aK<|kG (fA bB oW [bv 110 Z,(8,Δ .u32 0)] [dK]) yX<|ah 210 116
def abo:=kG (fA bB oW [bv 110 Y,(8,Δ .u32 0)] [dK]) yX rE
def Tb:=aK abo
noncomputable abbrev cy (p:WP):List bG:=[fD p vC,kz p kA [],fB []]
abbrev gY(v:Int)(n:Int)(m:Int):List (Nat×Θ):=[(6,Δ Zn v),bv 4 Y,jv 7 n,(8,Δ .u32 m)]
def Tc:Sf (.tuple #[]) (fJ p A5 []) [fU p vB,kz p kA [aZ p],fB []] (fA p LI [pv 11 p.wg] []) (cy p):=Sf.of (ah 210 12) λ_=>by kernel_rfl
def Td:Sf (Ψ<|R p.wg) (fA p LI [pv 11 p.wg] []) (cy p) (fA p LM [pv 12 p.wg] []) (cy p):=Sf.of (ah 210 13) λ_=>by kernel_rfl
def Te:Sf (.tuple #[]) (fA p LM [pv 12 p.wg] []) (cy p) (fA p LN [] []) (cy p):=Sf.of (ah 210 14) λ_=>by kernel_rfl
def Tf:Sf (.tuple #[]) (fA p LN [] []) (cy p) (fM p 242 10 Cy [pv 7 p.wg,(8,Δ Zn 18446744069414584320)]) (fA p LO [bv 4 Y] [dK]::(cy p)):=Sf.of (ah 242 9) λ_=>by kernel_rfl
def LR:Sf (Δ Zn v) (fM p 242 10 Cy [pv 7 p.wg,(8,Δ Zn 18446744069414584320)]) (fA p LO [bv 4 Y] [dK]::(cy p)) (fA p Ta [bv 47 (bits .and Zn v 2147483648 !=0),(6,Δ Zn v),bv 4 Y] [dK]) (cy p):=Sf.of (ah 210 48) λ_=>by kernel_rfl
def abp:Sg (fA p Ta [bv 47 Y,(6,Δ Zn v),bv 4 Y] [dK]) (cy p) (fA p Gq [bv 74 (decide<|ω ψ (v.fdiv 4294967296)<0),(6,Δ Zn v),bv 4 Y,jv 7<|ω ψ<|v.fdiv 4294967296,(8,Δ .u32<|ω .u32<|bits .and Zn v 2147483647)] [dK]) (cy p):=Sg.of (aC 210 74) λ_=>by kernel_rfl
def Tg:Sg (fA p Gq (bv 74 Y::gY v n m) [dK]) (cy p) (fA p LP (bv 78 (m !=0)::gY v n m) [dK]) (cy p):=Sg.of (ah 210 79) λ_=>by kernel_rfl
def abq:Sg (fA p LP (bv 78 Z::gY v n m) [dK]) (cy p) (fA p Eb (bv 91 (decide<|n>0)::gY v n m) [dK]) (cy p):=Sg.of (ah 210 92) λ_=>by kernel_rfl
def abr:Sg (fA p LP (bv 78 Y::gY v n m) [dK]) (cy p) (fA p Eb (bv 91 (decide<|n>0)::gY v n m) [dK]) (cy p):=Sg.of (ah 210 92) λ_=>by kernel_rfl
def abs:Sg (fA p Eb (bv 91 Z::gY v n m) [dK]) (cy p) (fA p uo (bv 94 Z::gY v n m) [dK]) (cy p):=Sg.of (aC 210 94) λ_=>by kernel_rfl
def abt:Sg (fA p Eb (bv 91 Y::gY v n m) [dK]) (cy p) (fA p uo (bv 94 (decide<|m=0)::gY v n m) [dK]) (cy p):=Sg.of (aC 210 94) λ_=>by kernel_rfl
def Gs:Sg (fA p uo (bv 94 Z::gY v n m) [dK]) (cy p) (fAr p tgr [dK]) (cy p):=Sg.of (rE) λ_=>by kernel_rfl
def Th:Sg (fA p uo (bv 94 Y::gY v n m) [dK]) (cy p) (fM p 244 7 Cz [pv 5 p.wg]) (fA p LQ [(6,Δ Zn v),bv 4 Y,(8,Δ .u32 m)] [dK]::(cy p)):=Sg.of (ah 244 6) λ_=>by kernel_rfl
def LS(x):Sf (Δ Zn x) (fM p 244 7 Cz [pv 5 p.wg]) (fA p LQ [(6,Δ Zn v),bv 4 Y,(8,Δ .u32 m)] [dK]::(cy p)) (fA p A6 [bv 100 (x !=v),bv 4 Y,(8,Δ .u32 m)] [dK]) (cy p):=Sf.of (aC 210 100) λ_=>by kernel_rfl
def LT:Sg (fA p A6 [bv 100 Y,bv 4 Y,(8,Δ .u32 m)] [dK]) (cy p) (fM p 245 9 CA [pv 6 p.wg,(7,Δ Zn 0)]) (fA p CB [bv 4 Y,(8,Δ .u32 m)] [dK]::(cy p)):=Sg.of (ah 245 8) λ_=>by kernel_rfl
def LU:Sf (.tuple #[]) (fM p 245 9 CA [pv 6 p.wg,(7,Δ Zn 0)]) (fA p CB [bv 4 Y,(8,Δ .u32 m)] [dK]::(cy p)) (fA p oW [bv 110 (m !=0),(8,Δ .u32 m)] [dK]) (cy p):=Sf.of (aC 210 110) λ_=>by kernel_rfl
def adT:Sg (fA p oW [bv 110 Y,(8,Δ .u32 m)] [dK]) (cy p) (fAr p Tb [dK]) (cy p):=Sg.of (rE) λ_=>by kernel_rfl
def LX:Sg (fA p oW [bv 110 Z,(8,Δ .u32 m)] [dK]) (cy p) (fA p Gr [pv 115 (p.wg.add 1),(8,Δ .u32 m)] [dK]) (cy p):=Sg.of (ah 210 116) λ_=>by kernel_rfl
def LY:Sf (.tuple #[]) (fA p Gr [pv 115 (p.wg.add 1),(8,Δ .u32 m)] [dK]) (cy p) (fA p oW [bv 110 ((ω .u32<|m-1) !=0),(8,Δ .u32<|ω .u32<|m-1)] [dK]) (cy p):=Sf.of (aC 210 110) λ_=>by kernel_rfl
end
section
def bI(t:Z4)(x:Θ):ZU X5:=do pure (.value<|<-Y7 t x)
def gh(t:Z4)(a x:Θ):ZU X5:=do YR t a x;pure .skip
def iC(s d:Z4)(x:Θ):ZU X5:=do pure (.value<|<-convert s d x)
def G2(t:Z4)(x i:Θ):ZU X5:=do pure (.value<|<-Ze t x i)
def pS(P:Ξ)(t:Z4)(b:Bool):Prop:=∀w es,(isAgg t).runT P w es=(.ok b w,es)
def dt(P:Ξ)(t:Z4)(n:Nat):Prop:=∀w es,(sizeOf t).runT P w es=(.ok n w,es)
def bR(P:Ξ)(f:Z8)(q:Bool):Prop:=(P.funcs[f]?).any (·.norace)=q
section
variable{P:Ξ}{main:Bool}{g:Ω}{t:Z4}{w w':ξ}{ad:Y'}{v u:Θ}{q:Bool}
def pS.run{b}(h:pS P t b)(w):(isAgg t).run P w=.ok b w:=by
 have:=h w #[]
 simp_all
def pS.events{b}(h:pS P t b)(w es):(isAgg t).events P w es=es:=by simp
def dt.run{n}(h:dt P t n)(w):(sizeOf t).run P w=.ok n w:=by
 have:=h w #[]
 simp_all
def dt.events{n}(h:dt P t n)(w es):(sizeOf t).events P w es=es:=by simp
def rF(f e)(b:∀g,e.loc≠.mark (κ g))(a:bR P f q):seen P f #[e]=if q&&!e.sync then #[]else #[e]:=by
 rw[seen_def];unfold bR at a;simp only[List.foldl_cons,seenStep]
 grind
def du(h:au g=R (bI t<|Ψ<|R ad))(a:pS P t Y)(hc:w.cell? ad=R v)(b:bR P g.frame.fn q):
 stepG P main g w=.go (fin v g) w (if q then #[]else #[⟨.cell ad,Y,Y⟩]):=by
 obtain⟨_,_,_,k,_⟩:=bU (P:=P) (w:=w) (w':=w) (es:=#[⟨.cell ad,Y,Y⟩]) h;rw[k v];rw[rF (q:=q) _ _ (λg h=>by cases h) b];cases q<;>rfl
 rw[ZK];unfold bI Y7 Zi Yl;simp[a.run,a.events,hc,η,ZI,Yn]
def jp{v2}(h:au g=R (bI t<|Ψ<|R ad))(b:pS P t Z)(hs:dt P t 2)(hc:w.cell? (ad.add 0)=R v)(a:w.cell? (ad.add 1)=R v2)(c:bR P g.frame.fn Y):
 stepG P main g w=.go (fin (.agg #[v,v2]) g) w #[⟨.cell<|ad.add 0,Y,Y⟩,⟨.cell<|ad.add 1,Y,Y⟩]:=by
 obtain⟨_,_,_,k,_⟩:=bU (P:=P) (w:=w) (w':=w) (es:=#[⟨.cell<|ad.add 0,Y,Y⟩,⟨.cell<|ad.add 1,Y,Y⟩]) h;rw[k (.agg #[v,v2])];rw[seen_def];unfold bR at c;simp[seenStep,c];rw[ZK];unfold bI Y7 Zi Yl loadCells;simp[b.run,b.events,hs.run,hs.events,loadCellsFrom,hc,a,η,ZI,Yn]
def iS(h:au g=R (gh t (Ψ<|R ad) u))(hs:dt P t 1)(c:u.cells=#[u])(a:u.oneCell'=Z)(hc:w.cell? (ad.add 0)=R v)(hz:w.frozen? (ad.add 0)=Y)(b:bR P g.frame.fn Y):
 stepG P main g w=.go (fin undef g) (w.setCell (ad.add 0) u) #[⟨.cell<|ad.add 0,Z,Y⟩]:=by
 obtain⟨_,_,_,_,k,_⟩:=bU (P:=P) (w:=w) (w':=w.setCell (ad.add 0) u) (es:=#[⟨.cell<|ad.add 0,Z,Y⟩]) h;rw[k];rw[rF (q:=Y) _ _ (λg h=>by cases h) b];rfl;rw[ZK];unfold gh YR Zi Yf;simp[hs.run,hs.events,c,Yg,hc,hz,η,ZI,Yu P w _ _ u .plain a,YH P w _ u .plain a]
def iD{s d e}(h:au g=R (iC s d<|Ψ<|R ad))(hs:P.underlying s=R (.pointer e))(hd:P.underlying d=R .unsafePointer)(hz:(P.info? e).map (λi=>decide<|i.size=0)=R Y)(hc:w.cell? ad=R v):
 stepG P main g w=.go (fin (Ψ<|R ad) g) w #[]:=by
 obtain⟨_,_,_,k,_⟩:=bU (P:=P) (main:=main) (w:=w) (w':=w) (es:=(iC s d<|Ψ<|R ad).events P w #[]) h;have c:(iC s d<|Ψ<|R ad).events P w #[]=#[]:=by unfold iC;obtain⟨l,n,a,f,j⟩:=World.shape?_of_cell? hc;obtain⟨i,hi,b⟩:=ZY.1 hz;simp[convert,Conv.unsafePointer,Conv.seenAt,YM,cellsIn,sizeOf,Z0,YK hs,YK hd,hi,by simpa using b,a,by omega,η,ZI]
 rw[k (Ψ<|R ad),c,seen_none];rw[ZK];unfold iC;simp[(run_convert_to_unsafe hs hd hz hc),η]
def Ec{k e}{i n m:Nat}(h:au g=R (G2 t (ZL (R ad) n m)<|.int k i))(b:P.underlying t=R (.slice e))(hs:dt P e 1)(hi:i<n):
 stepG P main g w=.go (fin (Ψ<|R<|ad.add i) g) w #[]:=by
 obtain⟨_,_,_,d,_⟩:=bU (P:=P) (main:=main) (w:=w) (w':=w) (es:=(G2 t (ZL (R ad) n m)<|.int k i).events P w #[]) h;have c:(i:Int)<n:=by omega
 have a:(G2 t (ZL (R ad) n m)<|.int k i).events P w #[]=#[]:=by
  unfold G2 Ze;simp[asIntOf,YK b,hi,hs.run,η,ZI]
  try (intro h;omega)
 rw[d (Ψ<|R<|ad.add i),a,seen_none];rw[ZK];unfold G2 Ze;simp[asIntOf,YK b,hi,hs.run,η]
def wO{f}(m)(k:∀g,m≠κ g)(b:Ext P f (λ_=>do mark m;pure ZE) q){fr cs ds}(a:fr.mode=.returning)(hd:fr.defers={target:=.fn (.func f) #[],args:=#[]}::ds):
 stepG P main (G fr cs) w=.go (G {fr with defers:=ds} cs) w #[⟨.mark m,Y,Z⟩]:=by
 obtain⟨fn,i,d,h3,h4,h5,n⟩:=b.ex;obtain⟨c,j,todo,defers,mode,kind,o⟩:=fr;dsimp only at a hd;subst a hd;have l:(Zz (.fn (.func f) #[]) #[]).runT P w #[]=(.ok (.value ZE) w,#[⟨.mark<|κ f,Y,Z⟩]++#[⟨.mark m,Y,Z⟩]):=by
  have e:Zz (.fn (.func f) #[]) #[]=Γ f #[]:=by unfold Zz;rfl
  rw[e,ZK,Zf i d h3 h4 h5,YS i d h3 h4 h5];simp[η]
 unfold stepG G;dsimp only;unfold Yb;dsimp only;unfold Zd;dsimp only;rw[l];have hs:seen P c (#[⟨.mark (κ f),Y,Z⟩]++#[⟨.mark m,Y,Z⟩])=#[⟨.mark m,Y,Z⟩]:=seen_entry _ _ _ (by intro x b;simp at b;subst b;exact⟨rfl,λg h=>k g (by cases h;rfl)⟩)
 simp only[Bool.false_and,Bool.false_eq_true,if_false,hs,ζ];rfl
def Ed{fr}(a:P.funcs[fr.fn]?=φ)(b:fr.mode=.panicking [goexitEntry])(hd:fr.defers=[])(c:fr.todo=[]):stepG P Y (G fr []) w=.go {G fr []with status:=.finished} w #[]:=by
 unfold stepG G;dsimp only;rw[b];unfold Yb;rw[hd,b];dsimp only;have hc:fr.catches P=Y:=by unfold Frame.catches;rw[a,c]
 simp only[hc,Bool.false_eq_true,if_false];rfl
end
end
end Ph
namespace Ph
open Go
section
structure Wd where
 L:Bool
 W:Bool
 S:Bool
 c:Nat
def fT:Bool->Bool->Bool->Nat
 |false,Y,Y=>0
 |true,Y,Y=>1
 |false,Z,Y=>2
 |true,Z,Y=>3
 |false,Y,Z=>4
 |true,Y,Z=>5
 |false,Z,Z=>6
 |true,Z,Z=>7
def Wd.lo(x:Wd):Nat:=fT x.L x.W x.S
def Wd.n(x:Wd):Nat:=8*x.c+x.lo
def Wd.z(x:Wd):Int:=(x.n:Int)
def Wd.ok(x:Wd):Prop:=x.c<268435455
def Ti:∀L W S,fT L W S<8:=by decide
def Wd.mD(x:Wd):x.lo<8:=Ti _ _ _
def CC(c k d m)(b:k<8)(a:m<8):(8*c+k)&&&(8*d+m)=8*(c&&&d)+(k&&&m):=by
 apply X0;intro i;have h3:(8:Nat)=2^3:=by decide
 rw[h3]at b a;rw[Nat.testBit_and,h3,ZV _ b,ZV _ a,ZV _<|Nat.and_lt_two_pow _ a];split<;>simp[Nat.testBit_and]
def Tj(c k m)(b:k<8)(a:m<8):(8*c+k)|||m=8*c+(k|||m):=by
 apply X0;intro i;have h3:8=2^3:=by decide
 rw[h3]at b a;rw[Nat.testBit_or,h3,ZV _ b,ZV _<|Nat.or_lt_two_pow (by omega) a];split
 simp[Nat.testBit_or];rename_i h;have:m.testBit i=Y:=Nat.testBit_lt_two_pow<|YO a<|Nat.pow_le_pow_right (by decide)<|by omega
 simp[this]
section
variable{x:Wd}
def Wd.Tk(h:x.ok):x.n<2^31:=by have:=x.mD;unfold Wd.ok at h;unfold Wd.n;omega
def Wd.fH(h:x.ok)(m:Nat)(a:m<8):bits .and ψ x.z (m:Int)=((x.lo&&&m:Nat):Int):=by
 unfold Wd.z;rw[(bits_nat ψ 31 (by decide) wraps_i32 x.n m (Wd.Tk h)<|by omega).1];unfold Wd.n;have:=CC x.c x.lo 0 m x.mD a
 grind
def Wd.vD(h:x.ok)(m:Nat)(a:m<8):bits .or ψ x.z (m:Int)=((8*x.c+(x.lo|||m):Nat):Int):=by unfold Wd.z;rw[(bits_nat ψ 31 (by decide) wraps_i32 x.n m (Wd.Tk h)<|by omega).2];unfold Wd.n;rw[Tj _ _ _ x.mD a]
def Wd.vE(h:x.ok):bits .andNot ψ x.z 2=({x with W:=Y}:Wd).z:=by
 have b:=Wd.Tk h;have e1:bits .andNot ψ x.z 2=IntKind.i32.wrap ((YP 32 x.z&&&~~~(YP 32 2)).toNat:Int):=rfl;have e3:(YP 32 x.z).toNat=x.n:=by unfold Wd.z;rw[BitVec.ofInt_natCast,BitVec.toNat_ofNat];exact Nat.mod_eq_of_lt (by omega)
 have hc:x.c&&&536870911=x.c:=by have:=Nat.and_two_pow_sub_one_eq_mod x.c 29;rw[(by decide:(2:Nat)^29-1=536870911)]at this;rw[this];unfold Wd.ok at h;omega
 rw[e1,BitVec.toNat_and,(by decide:(~~~(YP 32 2)).toNat=8*536870911+5),e3];unfold Wd.n;rw[CC _ _ _ _ x.mD (by decide),hc];have a:x.lo&&&5=({x with W:=Y}:Wd).lo:=(by decide:∀L W S:Bool,fT L W S&&&5=fT L Y S) _ _ _;rw[a];have hb:=({x with W:=Y}:Wd).mD;unfold Wd.ok at h;rw[wraps_i32 _ (by omega) (by omega)];rfl
def Wd.Tl(h:x.ok):decide (bits .and ψ x.z 5=1)=(x.L&&!x.S):=by rw[show 5=((5:Nat):Int)from rfl,Wd.fH h 5<|by simp];exact(by decide:∀L W S:Bool,(decide<|((fT L W S&&&5:Nat):Int)=1)=(L&&!S)) _ _ _
def Wd.Tm(h:x.ok):decide (bits .and ψ x.z 5=0)=(!x.L&&!x.S):=by rw[show 5=((5:Nat):Int)from rfl,Wd.fH h 5<|by simp];exact(by decide:∀L W S:Bool,(decide<|((fT L W S&&&5:Nat):Int)=0)=(!L&&!S)) _ _ _
def Wd.Tn(h:x.ok):(bits .and ψ x.z 5 !=0)=(x.L||x.S):=by rw[show 5=((5:Nat):Int)from rfl,Wd.fH h 5<|by simp];exact(by decide:∀L W S:Bool,((((fT L W S&&&5:Nat):Int) !=0))=(L||S)) _ _ _
def Wd.A7(h:x.ok):decide (bits .and ψ x.z 4=0)=!x.S:=by rw[show 4=((4:Nat):Int)from rfl,Wd.fH h 4<|by simp];exact(by decide:∀L W S:Bool,(decide<|((fT L W S&&&4:Nat):Int)=0)=!S) _ _ _
def Wd.To(h:x.ok):(bits .and ψ x.z 4 !=0)=x.S:=by rw[show 4=((4:Nat):Int)from rfl,Wd.fH h 4<|by simp];exact(by decide:∀L W S:Bool,((((fT L W S&&&4:Nat):Int) !=0))=S) _ _ _
def Wd.Gt(h:x.ok):decide (bits .and ψ x.z 2=0)=!x.W:=by rw[show 2=((2:Nat):Int)from rfl,Wd.fH h 2<|by simp];exact(by decide:∀L W S:Bool,(decide<|((fT L W S&&&2:Nat):Int)=0)=!W) _ _ _
def Wd.Gu(h:x.ok):(bits .and ψ x.z 1 !=0)=x.L:=by rw[show 1=((1:Nat):Int)from rfl,Wd.fH h 1<|by simp];exact(by decide:∀L W S:Bool,((((fT L W S&&&1:Nat):Int) !=0))=L) _ _ _
def Wd.Tp(h:x.ok):(bits .and ψ x.z 3 !=0)=(x.L||x.W):=by rw[show 3=((3:Nat):Int)from rfl,Wd.fH h 3<|by simp];exact(by decide:∀L W S:Bool,((((fT L W S&&&3:Nat):Int) !=0))=(L||W)) _ _ _
def Wd.Tq(h:x.ok):(bits .and ψ x.z 7 !=0)=(x.L||x.W||x.S):=by rw[show 7=((7:Nat):Int)from rfl,Wd.fH h 7<|by simp];exact(by decide:∀L W S:Bool,((((fT L W S&&&7:Nat):Int) !=0))=(L||W||S)) _ _ _
def Wd.or1(h:x.ok):bits .or ψ x.z 1=({x with L:=Z}:Wd).z:=by
 rw[show 1=((1:Nat):Int)from rfl,Wd.vD h 1<|by simp];have:x.lo|||1=({x with L:=Z}:Wd).lo:=(by decide:∀L W S:Bool,fT L W S|||1=fT Z W S) _ _ _
 rw[this];rfl
def Wd.or2(h:x.ok):bits .or ψ x.z 2=({x with W:=Z}:Wd).z:=by
 rw[show 2=((2:Nat):Int)from rfl,Wd.vD h 2<|by simp];have:x.lo|||2=({x with W:=Z}:Wd).lo:=(by decide:∀L W S:Bool,fT L W S|||2=fT L Z S) _ _ _
 rw[this];rfl
def Wd.or4(h:x.ok):bits .or ψ x.z 4=({x with S:=Z}:Wd).z:=by
 rw[show 4=((4:Nat):Int)from rfl,Wd.vD h 4<|by simp];have:x.lo|||4=({x with S:=Z}:Wd).lo:=(by decide:∀L W S:Bool,fT L W S|||4=fT L W Z) _ _ _
 rw[this];rfl
def Wd.LZ(x:Wd):x.z.fdiv 8=(x.c:Int):=by
 have:=x.mD;unfold Wd.z Wd.n
 grind
def Wd.nK(x:Wd):x.z=8*(x.c:Int)+(x.lo:Int):=by rfl
def wrap_small{z}(h0:-2147483648<=z)(a:z<2147483648):IntKind.i32.wrap z=z:=by rw[IntKind.wrap_i32];omega
def Wd.lN(h:x.ok):0<=x.z/\x.z<2147483640:=by have:=x.mD;unfold Wd.ok at h;rw[Wd.nK];omega
def Wd.abu(h:x.ok):IntKind.i32.wrap (x.z+8)=({x with c:=x.c+1}:Wd).z:=by
 have:=Wd.lN h;rw[wrap_small (by omega) (by omega),Wd.nK,Wd.nK];have:({x with c:=x.c+1}:Wd).lo=x.lo:=rfl
 grind
def Wd.Tr(h:x.ok)(hc:0<x.c):IntKind.i32.wrap (x.z-8)=({x with c:=x.c-1}:Wd).z:=by
 have:=Wd.lN h;rw[wrap_small (by omega) (by omega),Wd.nK,Wd.nK];have:({x with c:=x.c-1}:Wd).lo=x.lo:=rfl
 grind
def Wd.Gv(h:x.ok)(a:x.L=Z):IntKind.i32.wrap (x.z+-1)=({x with L:=Y}:Wd).z:=by
 have:=Wd.lN h;rw[wrap_small (by omega) (by omega),Wd.nK,Wd.nK];obtain⟨L,W,S,c⟩:=x;have:=(by decide:∀W S:Bool,fT Z W S=fT Y W S+1) W S;unfold Wd.lo
 grind
def Wd.Ts(h:x.ok)(a:x.L=Y)(hc:0<x.c):IntKind.i32.wrap (x.z+-7)=({x with L:=Z,c:=x.c-1}:Wd).z:=by
 have:=Wd.lN h;rw[wrap_small (by omega) (by omega),Wd.nK,Wd.nK];obtain⟨L,W,S,c⟩:=x;have:=(by decide:∀W S:Bool,fT Z W S=fT Y W S+1) W S;unfold Wd.lo
 grind
def Wd.L0(h:x.ok)(a:x.L=Y)(b:x.S=Z)(hc:0<x.c):IntKind.i32.wrap (x.z+-11)=({x with L:=Z,S:=Y,c:=x.c-1}:Wd).z:=by
 have:=Wd.lN h;rw[wrap_small (by omega) (by omega),Wd.nK,Wd.nK];obtain⟨L,W,S,c⟩:=x;have:=(by decide:∀W:Bool,fT Z W Y+3=fT Y W Z) W;unfold Wd.lo
 grind
def Wd.CE{x y:Wd}(h:x.z=y.z):x=y:=by
 rw[Wd.nK,Wd.nK]at h;have i:=x.mD;have g:=y.mD;obtain⟨L,W,S,c⟩:=x;obtain⟨b,d,a,f⟩:=y;have hc:c=f:=by dsimp only at h;omega
 subst hc;have e:({L,W,S,c}:Wd).lo=({L:=b,W:=d,S:=a,c}:Wd).lo:=by dsimp only at h;omega
 revert e
 cases L<;>cases W<;>cases S<;>cases b<;>cases d<;>cases a<;>simp[Wd.lo,fT]
def Wd.Tt(x:Wd):(x.z !=0)=(x.L||x.W||x.S||decide (x.c≠0)):=by
 rw[((by decide:∀L W S:Bool,(L||W||S)=decide (fT L W S≠0)) x.L x.W x.S)];have e:(x.z !=0)=decide (x.z≠0):=by by_cases h:x.z=0<;>simp[h]
 rw[e,<-Bool.decide_or,decide_eq_decide,Wd.nK];have:x.lo=fT x.L x.W x.S:=rfl;omega
end
end
section
deriving instance DecidableEq for Wd
structure Lc where
 aV:Int
 old:Wd
 it:Int
 sv:Bool
 aw:Bool
inductive St where
 |w7|w8|pv
 |ld|l0|r0
 |sq (x:Lc)|c1 (x:Lc)|ds (x:Lc)|r1 (x:Lc)|c2 (x:Lc)|r3 (x:Lc)
 |t1 (x:Lc)|s1 (x:Lc)|t2 (x:Lc)|r2 (x:Lc)|a1 (x:Lc)
 |le (f:Bool)|cv (f:Bool)|la (f:Bool)
 |e1|e2|e3|e4|u1|uv|ur|ud|u0
 |uc (o:Wd)|ux|us|uh|ue
 |gv|gr|gd|ga|gl|gs|gm|gn|gx|fin
structure Sh where
 mu:Wd
 ms:Nat
 k:Nat
 wt:Nat
 ws:Nat
def Wd.zero:Wd:=⟨Y,Y,Y,0⟩
def iH(o:Wd):Wd:=if o.S then o else {o with L:=Z}
def i8(o:Wd):Wd:=if o.L||o.S then {iH o with c:=o.c+1}else iH o
def wP(x:Lc):Wd:=if x.sv&&x.old.L then {i8 x.old with S:=Z}else i8 x.old
def iT(x:Lc):Wd:=if x.aw then {wP x with W:=Y}else wP x
def hd(x:Lc):St:=if x.old.L&&!x.old.S then .sq x else .c2 x
def k8(o:Wd):St:=if decide (o.c=0)||o.L||o.W||o.S then .ue else .uc o
def oY(x:Lc)(m:Wd):Wd:=if !x.sv||decide (x.old.c=1)then {m with L:=Z,S:=Y,c:=m.c-1}else {m with L:=Z,c:=m.c-1}
def Nx(s:St)(h:Sh)(s':St)(h':Sh):Prop:=
 match s with
 |.w7|.w8|.pv|.fin=>False
 |.ld=>s'=.l0/\h'=h
 |.l0=>(h.mu=Wd.zero/\s'=.le Z/\h'={h with mu:=⟨Z,Y,Y,0⟩})\/(h.mu≠Wd.zero/\s'=.r0/\h'=h)
 |.r0=>s'=hd ⟨0,h.mu,0,Y,Y⟩/\h'=h
 |.sq x=>h'=h/\(s'=.c2 x\/(x.it<4/\s'=if !x.aw&&!x.old.W&&decide (x.old.c≠0)then .c1 x else .ds x))
 |.c1 x=>(h.mu=x.old/\s'=.ds {x with aw:=Z}/\h'={h with mu:={x.old with W:=Z}})\/(h.mu≠x.old/\s'=.ds x/\h'=h)
 |.ds x=>s'=.r1 {x with it:=x.it+1}/\h'=h
 |.r1 x|.r3 x=>s'=hd {x with old:=h.mu}/\h'=h
 |.c2 x=>(h.mu=x.old/\h'={h with mu:=iT x}/\s'=if !x.old.L&&!x.old.S then .le Y else if x.aV=0 then .t1 x else .s1 x)\/(h.mu≠x.old/\s'=.r3 x/\h'=h)
 |.t1 x=>h'=h/\∃t,s'=.s1 {x with aV:=t}
 |.s1 x=>0<h.ms/\h'={h with ms:=h.ms-1}/\s'=if x.sv then .r2 x else .t2 x
 |.t2 x=>h'=h/\∃b,s'=.r2 {x with sv:=b}
 |.r2 x=>h'=h/\s'=if h.mu.S then .a1 {x with old:=h.mu}else hd {x with old:=h.mu,it:=0,aw:=Z}
 |.a1 x=>s'=.le Y/\h'={h with mu:=oY x h.mu}
 |.le f=>s'=.cv f/\h'=h
 |.cv f=>s'=.la f/\h'=h
 |.la _=>s'=.e1/\h'=h
 |.e1=>s'=.e2/\h'=h
 |.e2=>s'=.e3/\h'=h
 |.e3=>s'=.e4/\h'=h
 |.e4=>s'=.u1/\h'=h
 |.u1=>s'=.uv/\h'=h
 |.uv=>s'=.ur/\h'=h
 |.ur=>s'=.ud/\h'=h
 |.ud=>s'=.u0/\h'=h
 |.u0=>h'={h with mu:={h.mu with L:=Y}}/\s'=if h.mu.S then .uh else k8 {h.mu with L:=Y}
 |.uc o=>(h.mu=o/\s'=.us/\h'={h with mu:={o with W:=Z,c:=o.c-1}})\/(h.mu≠o/\s'=.ux/\h'=h)
 |.ux=>s'=k8 h.mu/\h'=h
 |.us|.uh=>s'=.ue/\h'={h with ms:=h.ms+1}
 |.ue=>s'=.gv/\h'=h
 |.gv=>s'=.gr/\h'=h
 |.gr=>s'=.gd/\h'=h
 |.gd=>s'=.ga/\h'=h
 |.ga=>h'={h with k:=h.k-1}/\s'=if h.k=1/\h.wt=1 then .gl else .gn
 |.gl=>s'=.gs/\h'=h
 |.gs=>s'=.gm/\h'={h with k:=0,wt:=0}
 |.gm=>s'=.gn/\h'={h with ws:=h.ws+1}
 |.gn=>s'=.gx/\h'=h
 |.gx=>s'=.fin/\h'=h
def nO:St->Nat
 |.le _|.cv _|.la _|.e1|.e2|.e3|.e4|.u1|.uv|.ur|.ud|.u0=>1
 |_=>0
def nA:St->Nat
 |.sq x|.c1 x|.ds x|.r1 x|.c2 x|.r3 x=>if x.aw then 1 else 0
 |_=>0
def nT:St->Nat
 |.t2 _|.r2 _=>1
 |_=>0
def nQ:St->Nat
 |.t1 _|.s1 _=>1
 |_=>0
def nH:St->Nat
 |.a1 _=>1
 |_=>0
def nU:St->Nat
 |.us=>1
 |_=>0
def nV:St->Nat
 |.uh=>1
 |_=>0
def nC:St->Nat
 |.uc _|.ux=>1
 |_=>0
def nG:St->Nat
 |.gl|.gs|.gm|.gn|.gx|.fin=>0
 |_=>1
def nL:St->Nat
 |.gl|.gs=>1
 |_=>0
def ia(m:Wd)(ms O A T Q H U V C:Nat):Prop:=
 (if m.L then O=1 else O=0)/\(m.L=Y->m.W=Y->m.S=Y->0<m.c->0<C)/\
 (m.S=Y->(if m.W then A+T+U+ms=1 else A+T+U+ms=0)/\m.c+U+ms=Q/\H=0/\V=0)/\
 (m.S=Z->m.W=Y/\A=0/\U=0/\O+V+ms+T+H=1/\m.c=Q+T+H/\0<m.c)
def aaA(h:Sh):St->Prop
 |.sq x=>x.old.L=Z/\x.old.S=Y/\(x.aw=Z->x.old.W=Z)/\(x.sv=Z->x.aw=Z)/\0<=x.it/\x.it<=4
 |.c1 x=>x.old.L=Z/\x.old.S=Y/\x.old.W=Y/\x.aw=Y/\(x.sv=Z->x.aw=Z)/\0<=x.it/\x.it<4
 |.ds x=>(x.sv=Z->x.aw=Z)/\0<=x.it/\x.it<4
 |.r1 x|.r3 x=>(x.sv=Z->x.aw=Z)/\0<=x.it/\x.it<=4
 |.c2 x=>(x.aw=Z->x.old.W=Z)/\(x.sv=Z->x.aw=Z)/\0<=x.it/\x.it<=4
 |.a1 x=>h.mu.S=Z/\x.old.S=Z/\x.old.L=Y/\x.old.W=Y/\0<x.old.c/\x.old.c<=h.mu.c
 |.uc o=>o.L=Y/\o.W=Y/\o.S=Y/\0<o.c
 |_=>True
def rQ(h:Sh)(s:St)(RO RA RT RQ RH RU RV RC:Nat):Prop:=ia h.mu h.ms (RO+nO s) (RA+nA s) (RT+nT s) (RQ+nQ s) (RH+nH s) (RU+nU s) (RV+nV s)<|RC+nC s
def rQ.same{h s s' c g RT f d b a RC}(i:rQ h s c g RT f d b a RC)(e:nO s'=nO s/\nA s'=nA s/\nT s'=nT s/\nQ s'=nQ s/\nH s'=nH s/\nU s'=nU s/\nV s'=nV s/\nC s'=nC s):rQ h s' c g RT f d b a RC:=by unfold rQ;rw[e.1,e.2.1,e.2.2.1,e.2.2.2.1,e.2.2.2.2.1,e.2.2.2.2.2.1,e.2.2.2.2.2.2.1,e.2.2.2.2.2.2.2];exact i
def qI(x):nO (hd x)=0/\nA (hd x)=(if x.aw then 1 else 0)/\nT (hd x)=0/\nQ (hd x)=0/\nH (hd x)=0/\nU (hd x)=0/\nV (hd x)=0/\nC (hd x)=0:=by unfold hd;split<;>exact⟨rfl,rfl,rfl,rfl,rfl,rfl,rfl,rfl⟩
def vF{h x}(a:x.aw=Z->x.old.W=Z)(b:x.sv=Z->x.aw=Z)(h3:0<=x.it/\x.it<=4):aaA h (hd x):=by
 unfold hd;split
 rename_i hb;simp at hb;exact⟨hb.1,hb.2,a,b,h3⟩;trivial
def ya(o):nO (k8 o)=0/\nA (k8 o)=0/\nT (k8 o)=0/\nQ (k8 o)=0/\nH (k8 o)=0/\nU (k8 o)=0/\nV (k8 o)=0/\nC (k8 o)=(if decide (o.c=0)||o.L||o.W||o.S then 0 else 1):=by unfold k8;split<;>exact⟨rfl,rfl,rfl,rfl,rfl,rfl,rfl,rfl⟩
def CF{h}(o):aaA h (k8 o):=by
 unfold k8;split
 trivial;rename_i hb;simp at hb;exact⟨hb.1.1.2,hb.1.2,hb.2,by omega⟩
section
variable{h h':Sh}{s s':St}{RO RA RT RQ RH RU RV RC:Nat}
def rQ.woken(a:rQ h s RO RA RT RQ RH RU RV RC)(b:0<nA s):h.mu.W=Z/\h.mu.S=Y:=by
 obtain⟨⟨L,W,S,c⟩,ms,k,wt,ws⟩:=h;unfold rQ ia at a;obtain _|_:=S
 grind
 have:=(a.2.2.2 rfl).2.1;omega
def core(a:rQ h s RO RA RT RQ RH RU RV RC)(i:aaA h s)(e:Nx s h s' h'):rQ h' s' RO RA RT RQ RH RU RV RC/\aaA h' s':=by
 cases s with
 |w7=>exact e.elim
 |w8=>exact e.elim
 |pv=>exact e.elim
 |fin=>exact e.elim
 |ld=>obtain⟨rfl,rfl⟩:=e;exact⟨a,trivial⟩
 |l0=>
  obtain⟨f,rfl,rfl⟩|⟨f,rfl,rfl⟩:=e
  refine⟨?_,trivial⟩;unfold rQ ia at a⊢;rw[f]at a;simp[Wd.zero,nO,nA,nT,nQ,nH,nU,nV,nC]at a⊢;omega;exact⟨a,trivial⟩
 |r0=>obtain⟨rfl,rfl⟩:=e;exact⟨a.same<|qI _,vF (by simp) (by simp)<|by simp⟩
 |sq x=>
  obtain⟨f,g,h3,h4,h5,j⟩:=i;obtain⟨rfl,rfl|⟨hi,rfl⟩⟩:=e;exact⟨a,h3,h4,h5,j⟩;split
  ·rename_i hb;simp only[Bool.and_eq_true,Bool.not_eq_true',decide_eq_true_eq]at hb;exact⟨a,f,g,hb.1.2,hb.1.1,h4,h5,hi⟩
  exact⟨a,h4,h5,hi⟩
 |c1 x=>
  obtain⟨f,g,h3,h4,h5,j,p⟩:=i;obtain⟨e1,rfl,rfl⟩|⟨e1,rfl,rfl⟩:=e
  refine⟨?_,by simp[aaA];omega⟩;unfold rQ ia at a⊢;rw[e1]at a;simp[f,g,h3,h4,nO,nA,nT,nQ,nH,nU,nV,nC]at a⊢;omega;exact⟨a,h5,j,p⟩
 |ds x=>obtain⟨f,g,h3⟩:=i;obtain⟨rfl,rfl⟩:=e;exact⟨a,f,by dsimp only;omega,by dsimp only;omega⟩
 |r1 x=>obtain⟨f,g⟩:=i;obtain⟨rfl,rfl⟩:=e;refine⟨a.same<|qI _,vF (λl=>?_) f g⟩;exact(a.woken (by simp only[nA];rw[if_pos l];exact X1)).1
 |r3 x=>obtain⟨f,g⟩:=i;obtain⟨rfl,rfl⟩:=e;refine⟨a.same<|qI _,vF (λl=>?_) f g⟩;exact(a.woken (by simp only[nA];rw[if_pos l];exact X1)).1
 |c2 x=>
  obtain⟨f,g,h3⟩:=i;obtain⟨e1,rfl,rfl⟩|⟨e1,rfl,rfl⟩:=e
  ·obtain⟨aV,⟨L,W,S,c⟩,it,sv,aw⟩:=x;refine⟨?_,by split<;>(try split)<;>trivial⟩;unfold rQ ia at a⊢;rw[e1]at a;dsimp only at a f g⊢;by_cases hw:aV=0<;>cases L<;>cases W<;>cases S<;>cases sv<;>cases aw<;>
    simp[hw,iT,wP,i8,iH,nO,nA,nT,nQ,nH,nU,nV,nC]at a f g⊢<;>(try omega)
  exact⟨a,g,h3⟩
 |t1 x=>obtain⟨rfl,t,rfl⟩:=e;exact⟨a,trivial⟩
 |s1 x=>obtain⟨f,rfl,rfl⟩:=e;refine⟨?_,by split<;>trivial⟩;unfold rQ ia at a⊢;obtain⟨⟨L,W,S,c⟩,ms,k,wt,ws⟩:=h;dsimp only at a f⊢;cases hs:x.sv<;>cases L<;>cases W<;>cases S<;>simp[hs,nO,nA,nT,nQ,nH,nU,nV,nC]at a⊢<;>omega
 |t2 x=>obtain⟨rfl,b,rfl⟩:=e;exact⟨a,trivial⟩
 |r2 x=>
  obtain⟨rfl,rfl⟩:=e;obtain⟨⟨L,W,S,c⟩,ms,k,wt,ws⟩:=h';dsimp only;cases S with
  |true=>unfold rQ ia at a⊢;cases L<;>cases W<;>simp[nO,nA,nT,nQ,nH,nU,nV,nC,aaA]at a⊢<;>omega
  |false=>
   have n:W=Z:=by
    unfold rQ ia at a;cases W<;>simp[nO,nA,nT,nQ,nH,nU,nV,nC]at a⊢
    try omega
   subst n;refine⟨?_,vF (by simp) (by simp)<|by simp⟩;have d:=qI {x with old:=⟨L,Z,Y,c⟩,it:=0,aw:=Z};unfold rQ ia at a⊢;simp only[Bool.false_eq_true,if_false];rw[d.1,d.2.1,d.2.2.1,d.2.2.2.1,d.2.2.2.2.1,d.2.2.2.2.2.1,d.2.2.2.2.2.2.1,d.2.2.2.2.2.2.2];cases L<;>simp[nO,nA,nT,nQ,nH,nU,nV,nC]at a⊢<;>omega
 |a1 x=>
  obtain⟨f,g,h3,h4,h5,j⟩:=i;obtain⟨rfl,rfl⟩:=e;refine⟨?_,trivial⟩;obtain⟨⟨L,W,S,c⟩,ms,k,wt,ws⟩:=h;dsimp only at f j;subst f;unfold rQ ia at a⊢;unfold oY;dsimp only at a⊢;split
  cases L<;>cases W<;>simp[nO,nA,nT,nQ,nH,nU,nV,nC]at a⊢<;>omega
  rename_i hb;simp only[Bool.or_eq_true,Bool.not_eq_true',decide_eq_true_eq,not_or]at hb;cases L<;>cases W<;>simp[nO,nA,nT,nQ,nH,nU,nV,nC]at a⊢<;>omega
 |u0=>
  obtain⟨rfl,rfl⟩:=e;obtain⟨⟨L,W,S,c⟩,ms,k,wt,ws⟩:=h;dsimp only;have m:L=Z:=by unfold rQ ia at a;cases L<;>simp[nO]at a⊢
  subst m;obtain _|_:=S
  refine⟨?_,CF _⟩;have d:=ya ⟨Y,W,Y,c⟩;unfold rQ ia at a⊢;simp only[Bool.false_eq_true,if_false];rw[d.1,d.2.1,d.2.2.1,d.2.2.2.1,d.2.2.2.2.1,d.2.2.2.2.2.1,d.2.2.2.2.2.2.1,d.2.2.2.2.2.2.2];cases W<;>by_cases hc:c=0<;>simp[nO,nA,nT,nQ,nH,nU,nV,nC,hc]at a⊢<;>omega
  refine⟨?_,trivial⟩;unfold rQ ia at a⊢;cases W<;>simp[nO,nA,nT,nQ,nH,nU,nV,nC]at a⊢<;>omega
 |uc o=>
  obtain⟨f,g,h3,h4⟩:=i;obtain⟨e1,rfl,rfl⟩|⟨e1,rfl,rfl⟩:=e
  refine⟨?_,trivial⟩;unfold rQ ia at a⊢;rw[e1]at a;simp[f,g,h3,nO,nA,nT,nQ,nH,nU,nV,nC]at a⊢;omega;exact⟨a,trivial⟩
 |ux=>obtain⟨rfl,rfl⟩:=e;refine⟨?_,CF _⟩;obtain⟨⟨L,W,S,c⟩,ms,k,wt,ws⟩:=h';have d:=ya ⟨L,W,S,c⟩;unfold rQ ia at a⊢;dsimp only at a⊢;rw[d.1,d.2.1,d.2.2.1,d.2.2.2.1,d.2.2.2.2.1,d.2.2.2.2.2.1,d.2.2.2.2.2.2.1,d.2.2.2.2.2.2.2];cases L<;>cases W<;>cases S<;>by_cases hc:c=0<;>simp[nO,nA,nT,nQ,nH,nU,nV,nC,hc]at a⊢<;>omega
 |us=>obtain⟨rfl,rfl⟩:=e;refine⟨?_,trivial⟩;obtain⟨⟨L,W,S,c⟩,ms,k,wt,ws⟩:=h;unfold rQ ia at a⊢;cases L<;>cases W<;>cases S<;>simp[nO,nA,nT,nQ,nH,nU,nV,nC]at a⊢<;>omega
 |uh=>obtain⟨rfl,rfl⟩:=e;refine⟨?_,trivial⟩;obtain⟨⟨L,W,S,c⟩,ms,k,wt,ws⟩:=h;unfold rQ ia at a⊢;cases L<;>cases W<;>cases S<;>simp[nO,nA,nT,nQ,nH,nU,nV,nC]at a⊢<;>omega
 |ga=>obtain⟨rfl,rfl⟩:=e;split<;>exact⟨a,trivial⟩
 |_=>obtain⟨rfl,rfl⟩:=e;exact⟨a,trivial⟩
def yc{t}(i:rQ h s RO RA RT RQ RH RU RV RC)(f:aaA h s)(b:Nx s h s' h')(e:aaA h t)(k:nH t<=RH):aaA h' t:=by
 cases t with
 |a1 x=>
  obtain⟨a,j,h3,h4,h5,g⟩:=e;have l:1<=RH:=k
  suffices d:h'.mu.S=Z/\h.mu.c<=h'.mu.c from⟨d.1,j,h3,h4,h5,Y0 g d.2⟩
  have m:=(i.2.2.2 a);cases s with
  |w7=>exact b.elim
  |w8=>exact b.elim
  |pv=>exact b.elim
  |fin=>exact b.elim
  |l0=>
   obtain⟨e1,rfl,rfl⟩|⟨e1,rfl,rfl⟩:=b
   rw[e1]at a;cases a;exact⟨a,.refl⟩
  |c1 y=>
   obtain⟨e1,rfl,rfl⟩|⟨e1,rfl,rfl⟩:=b
   rw[e1,f.2.1]at a;cases a;exact⟨a,.refl⟩
  |c2 y=>
   obtain⟨e1,rfl,rfl⟩|⟨e1,rfl,rfl⟩:=b
   rw[e1]at a⊢;obtain⟨aV,⟨L,W,S,c⟩,it,sv,aw⟩:=y;dsimp only at a;subst a;cases L<;>cases sv<;>cases aw<;>simp[iT,wP,i8,iH]
   exact⟨a,.refl⟩
  |uc o=>
   obtain⟨e1,rfl,rfl⟩|⟨e1,rfl,rfl⟩:=b
   rw[e1,f.2.2.1]at a;cases a;exact⟨a,.refl⟩
  |a1 y=>exfalso;have:nH (.a1 y)=1:=rfl;omega
  |u0=>exfalso;have:nO .u0=1:=rfl;omega
  |s1 y=>obtain⟨e1,rfl,rfl⟩:=b;exact⟨a,.refl⟩
  |sq y=>obtain⟨rfl,_⟩:=b;exact⟨a,.refl⟩
  |t1 y=>obtain⟨rfl,_⟩:=b;exact⟨a,.refl⟩
  |t2 y=>obtain⟨rfl,_⟩:=b;exact⟨a,.refl⟩
  |_=>obtain⟨rfl,rfl⟩:=b;exact⟨a,.refl⟩
 |_=>exact e
def phi:St->Nat
 |.w7|.w8|.pv|.ld|.l0|.r0=>12
 |.sq x|.c1 x|.ds x|.r1 x|.c2 x|.r3 x=>if x.aw then 8 else 10
 |.t1 _|.s1 _=>7
 |.t2 _|.r2 _=>9
 |.a1 _=>8
 |.le _|.cv _|.la _|.e1|.e2|.e3|.e4|.u1|.uv|.ur|.ud|.u0=>6
 |.uc _|.ux|.uh=>5
 |.us=>4
 |_=>0
def rk(m:Wd):St->Nat
 |.w7=>103
 |.w8=>102
 |.pv=>101
 |.ld=>100
 |.l0=>99
 |.r0=>98
 |.sq x=>5*(4-x.it).toNat+5+if x.old=m then 0 else 41
 |.c1 x=>5*(4-x.it).toNat+4+if x.old=m then 0 else 41
 |.ds x=>5*(4-x.it).toNat+3
 |.r1 x=>5*(4-x.it).toNat+6
 |.c2 x=>1+if x.old=m then 0 else 41
 |.r3 x=>5*(4-x.it).toNat+6
 |.t1 _=>3
 |.s1 _=>2
 |.t2 _=>2
 |.r2 _=>1
 |.a1 _=>1
 |.le _=>15
 |.cv _=>14
 |.la _=>13
 |.e1=>12
 |.e2=>11
 |.e3=>10
 |.e4=>9
 |.u1=>8
 |.uv=>7
 |.ur=>6
 |.ud=>5
 |.u0=>4
 |.uc o=>if o=m then 1 else 4
 |.ux=>3
 |.us|.uh=>1
 |.ue=>30
 |.gv=>29
 |.gr=>28
 |.gd=>27
 |.ga=>26
 |.gl=>25
 |.gs=>24
 |.gm=>23
 |.gn=>22
 |.gx=>21
 |.fin=>0
def vG(x):phi (hd x)=if x.aw then 8 else 10:=by unfold hd;split<;>rfl
def QK(x):rk x.old (hd x)<=5*(4-x.it).toNat+5:=by
 unfold hd;split
 simp[rk];simp[rk]
def lower(g:rQ h s RO RA RT RQ RH RU RV RC)(d:aaA h s)(a:Nx s h s' h'):phi s'+3*h'.ms<phi s+3*h.ms\/(h'.mu=h.mu/\h'.ms=h.ms/\phi s'=phi s/\rk h.mu s'<rk h.mu s):=by
 cases s with
 |w7=>exact a.elim
 |w8=>exact a.elim
 |pv=>exact a.elim
 |fin=>exact a.elim
 |l0=>
  obtain⟨e1,rfl,rfl⟩|⟨e1,rfl,rfl⟩:=a
  left;simp[phi];right;exact⟨rfl,rfl,rfl,by simp[rk]⟩
 |r0=>obtain⟨rfl,rfl⟩:=a;left;rw[vG];simp[phi]
 |sq x=>
  obtain⟨c,e,h3,h4,h5,f⟩:=d;obtain⟨rfl,rfl|⟨hi,rfl⟩⟩:=a;right;refine⟨rfl,rfl,rfl,?_⟩;simp only[rk];omega;right;split
  refine⟨rfl,rfl,rfl,?_⟩;simp only[rk];omega;refine⟨rfl,rfl,rfl,?_⟩;simp only[rk];omega
 |c1 x=>
  obtain⟨c,e,h3,h4,h5,f,i⟩:=d;obtain⟨e1,rfl,rfl⟩|⟨e1,rfl,rfl⟩:=a
  left;simp[phi,h4];right;refine⟨rfl,rfl,rfl,?_⟩;simp only[rk];omega
 |ds x=>obtain⟨c,e,h3⟩:=d;obtain⟨rfl,rfl⟩:=a;right;refine⟨rfl,rfl,rfl,?_⟩;simp only[rk];omega
 |r1 x=>obtain⟨rfl,rfl⟩:=a;right;refine⟨rfl,rfl,?_,?_⟩;rw[vG];rfl;have:=QK {x with old:=h'.mu};simp only[rk]at this⊢;omega
 |r3 x=>obtain⟨rfl,rfl⟩:=a;right;refine⟨rfl,rfl,?_,?_⟩;rw[vG];rfl;have:=QK {x with old:=h'.mu};simp only[rk]at this⊢;omega
 |c2 x=>
  obtain⟨c,e,h3,h4⟩:=d;obtain⟨e1,rfl,rfl⟩|⟨e1,rfl,rfl⟩:=a
  left;dsimp only;split
  simp only[phi];split<;>omega;split<;>(simp only[phi];split<;>omega)
  right;refine⟨rfl,rfl,rfl,?_⟩;simp only[rk];rw[if_neg (λh=>e1 h.symm)];omega
 |t1 x=>obtain⟨rfl,t,rfl⟩:=a;right;exact⟨rfl,rfl,rfl,by simp[rk]⟩
 |s1 x=>obtain⟨c,rfl,rfl⟩:=a;left;dsimp only;split<;>(simp only[phi];omega)
 |t2 x=>obtain⟨rfl,b,rfl⟩:=a;right;exact⟨rfl,rfl,rfl,by simp[rk]⟩
 |r2 x=>
  obtain⟨rfl,rfl⟩:=a;left;split
  simp[phi];rw[vG];simp[phi]
 |a1 x=>obtain⟨rfl,rfl⟩:=a;left;simp[phi]
 |u0=>
  obtain⟨rfl,rfl⟩:=a;left;dsimp only;split
  simp[phi];unfold k8;split<;>simp[phi]
 |uc o=>
  obtain⟨e1,rfl,rfl⟩|⟨e1,rfl,rfl⟩:=a
  left;simp[phi];right;refine⟨rfl,rfl,rfl,?_⟩;simp only[rk];rw[if_neg (λh=>e1 h.symm)];omega
 |ux=>
  obtain⟨rfl,rfl⟩:=a;unfold k8;split
  left;simp[phi];right;exact⟨rfl,rfl,rfl,by simp[rk]⟩
 |us=>obtain⟨rfl,rfl⟩:=a;left;simp only[phi];omega
 |uh=>obtain⟨rfl,rfl⟩:=a;left;simp only[phi];omega
 |ga=>obtain⟨rfl,rfl⟩:=a;right;split<;>exact⟨rfl,rfl,rfl,by simp[rk]⟩
 |_=>obtain⟨rfl,rfl⟩:=a;right;exact⟨rfl,rfl,rfl,by simp[rk]⟩
end
def Gw{m Q}(h:ia m 0 0 0 0 Q 0 0 0 0):Q=0:=by obtain⟨L,W,S,c⟩:=m;unfold ia at h;cases L<;>cases W<;>cases S<;>simp at h⊢<;>omega
open Go.ConcN (sumTo upd sumTo_upd)
def cnt(n:Nat)(F:St->Nat)(st:Nat->St):Nat:=sumTo n λi=>F<|st i
def lO{n F st i}(hi:i<n)(s'):cnt n F (upd st i s')+F (st i)=cnt n F st+F s':=sumTo_upd st s' F hi
theorem gj{F:St->Nat}{st:Nat->St}{i:Nat}:∀{n:Nat},i<n->F (st i)<=cnt n F st
 |0,h=>by omega
 |n+1,h=>by
  have e:cnt (n+1) F st=cnt n F st+F (st n):=rfl;obtain a|b:=Nat.lt_or_ge i n
  have:=gj (F:=F) (st:=st) a;omega
  grind
structure GI(n:Nat)(st:Nat->St)(h:Sh):Prop where
 Ee:ia h.mu h.ms (cnt n nO st) (cnt n nA st) (cnt n nT st) (cnt n nQ st) (cnt n nH st) (cnt n nU st) (cnt n nV st) (cnt n nC st)
 loc:∀i,i<n->aaA h (st i)
section
variable{n:Nat}{st:Nat->St}{h h':Sh}{i:Nat}{s':St}
def GI.inv(G:GI n st h)(hi:i<n):rQ h (st i) (cnt n nO st-nO (st i)) (cnt n nA st-nA (st i)) (cnt n nT st-nT (st i)) (cnt n nQ st-nQ (st i)) (cnt n nH st-nH (st i)) (cnt n nU st-nU (st i)) (cnt n nV st-nV (st i)) (cnt n nC st-nC (st i)):=by unfold rQ;simp only[(λF=>Nat.sub_add_cancel (gj hi):∀F:St->Nat,cnt n F st-F (st i)+F (st i)=cnt n F st)];exact G.Ee
def GI.step(G:GI n st h)(hi:i<n)(f:Nx (st i) h s' h'):GI n (upd st i s') h':=by
 obtain⟨c1,c2⟩:=core (G.inv hi) (G.loc i hi) f;have e:∀F:St->Nat,cnt n F (upd st i s')=cnt n F st-F (st i)+F s':=λF=>by have d:=lO (F:=F) (st:=st) hi s';have b:=gj (F:=F) (st:=st) hi;omega
 refine⟨?_,λj c=>?_⟩;unfold rQ at c1;simp only[e];exact c1;by_cases a:j=i
 ·subst a;simp only[upd,if_true];exact c2
 simp only[upd,if_neg a];refine yc (G.inv hi) (G.loc i hi) f (G.loc j c) ?_;have d:=lO (F:=nH) (st:=st) hi .fin;have b:nH (upd st i .fin j)<=cnt n nH (upd st i .fin):=gj c;simp only[upd,if_neg a]at b;have:nH .fin=0:=rfl;unfold upd at d b;omega
def meas(n:Nat)(st:Nat->St)(h:Sh):Nat:=(cnt n phi st+3*h.ms)*(n*104+1)+cnt n (rk h.mu) st
def abv(m s)(a:aaA h s):rk m s<=103:=by
 cases s with
 |sq x=>obtain⟨c,b,h3,h4,h5,d⟩:=a;simp only[rk];split<;>omega
 |c1 x=>obtain⟨c,b,h3,h4,h5,d,e⟩:=a;simp only[rk];split<;>omega
 |ds x=>obtain⟨c,b,h3⟩:=a;simp only[rk];omega
 |r1 x=>obtain⟨c,b,h3⟩:=a;simp only[rk];omega
 |r3 x=>obtain⟨c,b,h3⟩:=a;simp only[rk];omega
 |c2 x=>simp only[rk];split<;>omega
 |uc o=>simp only[rk];split<;>omega
 |_=>simp[rk]
theorem mV{F:St->Nat}{c:Nat}:∀{n:Nat},(∀i,i<n->F (st i)<=c) ->cnt n F st<=n*c
 |0,_=>by simp[cnt,sumTo]
 |n+1,h=>by
  have e:cnt (n+1) F st=cnt n F st+F (st n):=rfl;have a:=mV (n:=n) λi hi=>h i (by omega)
  grind
def GI.lower(G:GI n st h)(hi:i<n)(c:Nx (st i) h s' h'):meas n (upd st i s') h'<meas n st h:=by
 have b:=lO (F:=phi) (st:=st) hi s';have a:=gj (F:=phi) (st:=st) hi;obtain h1|⟨h1,h2,h3,h4⟩:=Ph.lower (G.inv hi) (G.loc i hi) c
 have e:cnt n (rk h'.mu) (upd st i s')<=n*103:=mV λj d=>abv _ _<|(G.step hi c).loc j d;unfold meas;have:=Nat.mul_le_mul_right (n*104+1) (by omega:cnt n phi (upd st i s')+3*h'.ms+1<=cnt n phi st+3*h.ms)
 grind
 have e:=lO (F:=rk h.mu) (st:=st) hi s';unfold meas
 grind
end
end
end Ph
namespace Ph
open Go Go.Conc
section
section
variable{p:WP}{T T':List Zw}{l l':List (Nat×Θ)}{ds:List bG}{g:Ω}
def lift(a:∀cs g,At 272 139 T l cs g->bZ P0 Y 150 (At 272 139 T' l' cs) g)(h:bj (fS p T l) ds g):bZ P0 Y 150 (bj (fS p T' l') ds) g:=by obtain⟨cs,b,F,rfl⟩:=h.open rfl rfl rfl;exact(a _ _ b).mono .refl λg c=>At.close c
def fN{v}(a:∀cs g,At 272 139 T l cs g->bZ P0 Y 150 (At 272 139 T' l' cs) (fin v g))(h:bj (fS p T l) ds g):bZ P0 Y 150 (bj (fS p T' l') ds) (fin v g):=by obtain⟨cs,b,F,rfl⟩:=h.open rfl rfl rfl;exact(a _ _ b).mono .refl λg c=>At.close c
end
def LK(p:WP)(e:Int):List bG:=[fL p QH,fW p afT [iv 6 e] [aZ p],fB []]
def SL(p:WP)(e:Int):List bG:=fI p SI []::LK p e
def UL(p:WP):List bG:=[fU p vB,kz p kA [aZ p],fB []]
def US(p:WP):List bG:=fJ p eN []::UL p
def DK(p:WP):List bG:=[fD p vC,kz p kA [],fB []]
def KX(p:WP)(x:Lc):List (Nat×Θ):=K p.lk x.aV x.old.z x.it x.sv x.aw
def delta(x:Lc):Int:=if !x.sv||decide (x.old.c=1)then-11 else-7
def bh(p:WP)(e:Int)(s:St)(g:Ω):Prop:=
 match s with
 |.ld=>bj (fI p ti2 []) (LK p e) g
 |.l0=>bj (fI p Ks [pv 5 p.lk]) (LK p e) g
 |.r0=>bj (fS p Lb [pv 0 p.lk,iv 2 0,bv 3 Y,bv 4 Y,iv 5 0,pv 12 p.lk]) (SL p e) g
 |.sq x=>bj (fS p xW (iv 18 x.it::bv 17 Z::KX p x)) (SL p e) g
 |.c1 x=>bj (fS p A2 (bv 33 Z::pv 36 p.lk::jv 37 x.old.z::jv 39 (bits .or ψ x.old.z 2)::KX p x)) (SL p e) g
 |.ds x=>bj (fS p qq<|KX p x) (SL p e) g
 |.r1 x=>bj (fS p Sb (pv 47 p.lk::KX p x)) (SL p e) g
 |.c2 x=>bj (fS p mU (pv 77 p.lk::jv 78 x.old.z::(79,Δ ψ (iT x).z)::KX p x)) (SL p e) g
 |.r3 x=>bj (fS p F6 (pv 133 p.lk::KX p x)) (SL p e) g
 |.t1 x=>∃lf,bj (fS p Sc (bv 8 lf::KX p x)) (SL p e) g
 |.s1 x=>∃lf,bj (fS p A3 (pv 91 (p.lk.add 1)::bv 92 lf::KX p x)) (SL p e) g
 |.t2 x=>bj (fS p Sd (bv 95 Y::KX p x)) (SL p e) g/\x.sv=Y
 |.r2 x=>bj (fS p ul (pv 103 p.lk::KX p x)) (SL p e) g
 |.a1 x=>bj (fS p um (pv 128 p.lk::jv 129 (delta x)::KX p x)) (SL p e) g
 |.le Z=>bj (fI p ti7 []) (LK p e) g
 |.le Y=>∃x,bj (fS p xZ<|KX p x) (SL p e) g
 |.cv Z=>bj (fI p ti9 [pv 8 p.lk]) (LK p e) g
 |.cv Y=>∃x,bj (fS p Cx (pv 136 p.lk::KX p x)) (SL p e) g
 |.la Z=>bj (fI p LC [pv 9 p.lk]) (LK p e) g
 |.la Y=>∃x,bj (fS p F9 (pv 137 p.lk::KX p x)) (SL p e) g
 |.e1=>bj (fW p D9 [iv 6 e] [cT p,aZ p]) [fB []] g
 |.u1=>bj (fJ p tj6 [pv 5 p.lk]) (UL p) g
 |.uv=>bj (fJ p tj8 [pv 7 p.lk]) (UL p) g
 |.ur=>bj (fJ p tj9 [pv 8 p.lk]) (UL p) g
 |.ud=>bj (fJ p LF []) (UL p) g
 |.u0=>bj (fJ p LG [pv 13 p.lk]) (UL p) g
 |.uc o=>∃nw,nw=bits .or ψ (ω ψ<|o.z-8) 2/\bj (fV p Ea [pv 27 p.lk,jv 28 o.z,jv 29 nw] nw) (US p) g
 |.ux=>∃nw,bj (fV p afU [pv 37 p.lk] nw) (US p) g
 |.us=>∃nw,bj (fV p SO [pv 33 (p.lk.add 1)] nw) (US p) g
 |.uh=>∃nw,bj (fV p SN [pv 41 (p.lk.add 1)] nw) (US p) g
 |.ue=>bj (fJ p A5 []) (UL p) g
 |.gv=>bj (fA p LI [pv 11 p.wg] []) (DK p) g
 |.gr=>bj (fA p LM [pv 12 p.wg] []) (DK p) g
 |.gd=>bj (fA p LN [] []) (DK p) g
 |.ga=>bj (fM p 242 10 Cy [pv 7 p.wg,(8,Δ Zn 18446744069414584320)]) (fA p LO [bv 4 Y] [dK]::DK p) g
 |.gl=>bj (fM p 244 7 Cz [pv 5 p.wg]) (fA p LQ [(6,Δ Zn 1),bv 4 Y,(8,Δ .u32 1)] [dK]::DK p) g
 |.gs=>bj (fM p 245 9 CA [pv 6 p.wg,(7,Δ Zn 0)]) (fA p CB [bv 4 Y,(8,Δ .u32 1)] [dK]::DK p) g
 |.gm=>bj (fA p Gr [pv 115 (p.wg.add 1),(8,Δ .u32 1)] [dK]) (DK p) g
 |.gn=>bj (fAr p tgr [dK]) (DK p) g\/bj (fAr p Tb [dK]) (DK p) g
 |.gx=>bj (fB []) [] g
 |_=>False
section
variable{p:WP}{e:Int}{g:Ω}{x:Lc}
def bZ.le{P main S n k g}(h:bZ P main n S g)(a:n<=k):bZ P main k S g:=h.mono a λ_ h=>h
def Tu(h:x.old.ok):(iH x.old).z=if x.old.S then x.old.z else bits .or ψ x.old.z 1:=by
 unfold iH;split
 rfl;exact(Wd.or1 h).symm
def L6{o}(h:o.ok):(iH o).ok:=by unfold iH;split<;>exact h
def vH(o):(iH o).c=o.c/\(iH o).W=o.W:=by unfold iH;split<;>exact⟨rfl,rfl⟩
def Gx(o):(i8 o).W=o.W/\(i8 o).c<=o.c+1:=by
 unfold i8;split
 exact⟨(vH o).2,.refl⟩;exact⟨(vH o).2,by rw[(vH o).1];omega⟩
def Gy(x):(wP x).W=x.old.W/\(wP x).c<=x.old.c+1:=by unfold wP;split<;>exact Gx _
def CG(hb:x.old.c+2<268435455)(hw:x.aw=Z->x.old.W=Z)(h:bj (fS p D8 (bv 52 (!x.old.S)::jv 7 x.old.z::KX p x)) (SL p e) g):bZ P0 Y 600 (bh p e<|.c2 x) g:=by
 have o:x.old.ok:=by unfold Wd.ok;omega
 have s:(i8 x.old).ok:=by have:=(Gx x.old).2;unfold Wd.ok;omega
 have q:(wP x).ok:=by have:=(Gy x).2;unfold Wd.ok;omega
 have u:bZ P0 Y 150 (bj (fS p qr (bv 57 (x.old.L||x.old.S)::(7,Δ ψ (iH x.old).z)::KX p x))<|SL p e) g:=by
  rw[Tu o,<-Wd.Tn o];cases hS:x.old.S with
  |true=>rw[hS]at h;exact lift (λcs g h=>Su p.lk x.aV x.old.z x.it x.sv x.aw cs g h) h
  |false=>rw[hS]at h;exact lift (λcs g h=>Ss p.lk x.aV x.old.z x.it x.sv x.aw cs g h) h
 have l:∀g,bj (fS p xY (bv 71 Y::(7,Δ ψ (wP x).z)::K p.lk x.aV x.old.z x.it x.sv Z)) (SL p e) g->x.aw=Z->bZ P0 Y 150 (bh p e<|.c2 x) g:=by
  intro g a d;have e1:(iT x).z=bits .andNot ψ (wP x).z 2:=by unfold iT;rw[if_pos d,Wd.vE q]
  show bZ P0 Y 150 (bj (fS p mU (pv 77 p.lk::jv 78 x.old.z::(79,Δ ψ (iT x).z)::KX p x))<|SL p e) g;unfold KX;rw[d,e1];exact lift (λcs g h=>Sv p.lk x.aV x.old.z x.it (wP x).z x.sv cs g h) a
 have m:x.aw=Z->decide (bits .and ψ (wP x).z 2=0)=Y:=by intro d;rw[Wd.Gt q,(Gy x).1,hw d];rfl
 have j:∀g,bj (fS p mU (pv 77 p.lk::jv 78 x.old.z::(79,Δ ψ (wP x).z)::K p.lk x.aV x.old.z x.it x.sv Y)) (SL p e) g->x.aw=Y->bh p e (.c2 x) g:=by
  intro g a d;have e1:iT x=wP x:=by unfold iT;rw[d];rfl
  show bj (fS p mU (pv 77 p.lk::jv 78 x.old.z::(79,Δ ψ (iT x).z)::KX p x)) (SL p e) g;unfold KX;rw[d,e1];exact a
 have r:∀g,bj (fS p xX (bv 65 x.old.L::(7,Δ ψ (i8 x.old).z)::K p.lk x.aV x.old.z x.it Z x.aw)) (SL p e) g->x.sv=Z->bZ P0 Y 300 (bh p e<|.c2 x) g:=by
  intro g a f;have e2:(wP x).z=if x.old.L then bits .or ψ (i8 x.old).z 4 else(i8 x.old).z:=by
   unfold wP;rw[f,Bool.true_and];split
   exact(Wd.or4 s).symm;rfl
  cases d:x.aw with
  |true=>
   rw[d]at a;refine bZ.trans (n:=150) (k:=150) (S:=bj (fS p xY (bv 71 Y::(7,Δ ψ (wP x).z)::K p.lk x.aV x.old.z x.it x.sv Z))<|SL p e) ?_ λg a=>l g a d;rw[f];cases hL:x.old.L with
   |true=>
    rw[hL]at a;have b:=lift (λcs g h=>Lq p.lk x.aV x.old.z x.it (i8 x.old).z Z cs g h) a;have i:bits .or ψ (i8 x.old).z 4=(wP x).z:=by rw[e2,hL];rfl
    rw[i,m d]at b;exact b
   |false=>
    rw[hL]at a;have b:=lift (λcs g h=>Ls p.lk x.aV x.old.z x.it (i8 x.old).z Z cs g h) a;have i:(i8 x.old).z=(wP x).z:=by rw[e2,hL];rfl
    rw[i,m d]at b;exact b
  |false=>
   rw[d]at a;refine bZ.mono (n:=150) (S:=bj (fS p mU (pv 77 p.lk::jv 78 x.old.z::(79,Δ ψ (wP x).z)::K p.lk x.aV x.old.z x.it x.sv Y))<|SL p e) ?_ (by omega) λg a=>j g a d;rw[f,e2];cases hL:x.old.L with
   |true=>rw[hL]at a;exact lift (λcs g h=>Lp p.lk x.aV x.old.z x.it (i8 x.old).z Z cs g h) a
   |false=>rw[hL]at a;exact lift (λcs g h=>Lr p.lk x.aV x.old.z x.it (i8 x.old).z Z cs g h) a
 refine bZ.le (bZ.trans (n:=150) (k:=450) u λg a=>?_) (by omega);have t:(i8 x.old).z=if x.old.L||x.old.S then ω ψ ((iH x.old).z+8)else(iH x.old).z:=by
  unfold i8;split
  rw[Wd.abu (L6 o),(vH x.old).1];rfl
 cases f:x.sv with
 |true=>
  refine bZ.le (bZ.trans (n:=150) (k:=300) (S:=bj (fS p xX (bv 65 x.old.L::(7,Δ ψ (i8 x.old).z)::K p.lk x.aV x.old.z x.it Z x.aw))<|SL p e) ?_ λg a=>r g a f) (by omega);unfold KX at a;rw[f]at a;rw[<-Wd.Gu o,t];cases hf:(x.old.L||x.old.S)with
  |true=>rw[hf]at a;exact lift (λcs g h=>Ln p.lk x.aV x.old.z x.it (iH x.old).z x.aw cs g h) a
  |false=>rw[hf]at a;exact lift (λcs g h=>Lo p.lk x.aV x.old.z x.it (iH x.old).z x.aw cs g h) a
 |false=>
  have v:wP x=i8 x.old:=by unfold wP;rw[f];rfl
  unfold KX at a;rw[f]at a;cases d:x.aw with
  |true=>
   refine bZ.le (bZ.trans (n:=150) (k:=150) (S:=bj (fS p xY (bv 71 Y::(7,Δ ψ (wP x).z)::K p.lk x.aV x.old.z x.it x.sv Z))<|SL p e) ?_ λg a=>l g a d) (by omega);rw[d]at a;rw[f];cases hf:(x.old.L||x.old.S)with
   |true=>
    rw[hf]at a;have b:=lift (λcs g h=>Gb p.lk x.aV x.old.z x.it (iH x.old).z cs g h) a;have i:ω ψ ((iH x.old).z+8)=(wP x).z:=by rw[v,t,hf];rfl
    rw[i,m d]at b;exact b
   |false=>
    rw[hf]at a;have b:=lift (λcs g h=>Gd p.lk x.aV x.old.z x.it (iH x.old).z cs g h) a;have i:(iH x.old).z=(wP x).z:=by rw[v,t,hf];rfl
    rw[i,m d]at b;exact b
  |false=>
   refine bZ.mono (n:=150) (S:=bj (fS p mU (pv 77 p.lk::jv 78 x.old.z::(79,Δ ψ (wP x).z)::K p.lk x.aV x.old.z x.it x.sv Y))<|SL p e) ?_ (by omega) λg a=>j g a d;rw[d]at a;rw[f,v,t];cases hf:(x.old.L||x.old.S)with
   |true=>rw[hf]at a;exact lift (λcs g h=>Ga p.lk x.aV x.old.z x.it (iH x.old).z cs g h) a
   |false=>rw[hf]at a;exact lift (λcs g h=>Gc p.lk x.aV x.old.z x.it (iH x.old).z cs g h) a
def qJ(hb:x.old.c+2<268435455)(hw:x.aw=Z->x.old.W=Z)(h:bj (fS p A1<|KX p x) (SL p e) g):bZ P0 Y 900 (bh p e<|hd x) g:=by
 have b:x.old.ok:=by unfold Wd.ok;omega
 refine bZ.le (bZ.trans (k:=750) (lift (λcs g h=>Li p.lk x.aV x.old.z x.it x.sv x.aw cs g h) h) λg a=>?_) (by omega);rw[Wd.Tl b]at a;unfold hd;cases hf:(x.old.L&&!x.old.S)with
 |true=>rw[hf]at a;exact bZ.le (lift (λcs g h=>Se p.lk x.aV x.old.z x.it x.sv x.aw cs g h) a) (by omega)
 |false=>rw[hf]at a;refine bZ.le (bZ.trans (n:=150) (k:=600) (lift (λcs g h=>Si p.lk x.aV x.old.z x.it x.sv x.aw cs g h) a) λg a=>?_) (by omega);rw[Wd.A7 b]at a;exact CG hb hw a
end
end
end Ph
namespace Ph
open Go Go.Conc
open Go.ConcM (muA msA MuAt ShAt Eff BookOK book_nil book_dis book_en book_one book_rw book_sem)
open Go.ConcR (stA smA WgAt mk)
section
def dU(h:Sh):Go.ConcM.Sh:={mu:=h.mu.z,ms:=(h.ms:Int),wg:=(h.k:Int)*4294967296+(h.wt:Int),ws:=(h.ws:Int)}
def deaf:St->Nat
 |.l0|.r0|.sq _|.c1 _|.ds _|.r1 _|.c2 _|.r3 _|.t1 _|.s1 _|.t2 _|.r2 _|.a1 _|.le _=>1
 |.u0|.uc _|.ux|.us|.uh|.ue=>1
 |.ga|.gl|.gs|.gm|.gn=>1
 |_=>0
def EvS(Mu Wg:Nat)(s s':St)(es:Array Event):Prop:=
 match s with
 |.la _=>es=#[mk (.acquire<|muA Mu)]
 |.ur=>es=#[mk (.releaseMerge<|muA Mu)]
 |.gr=>es=#[mk (.releaseMerge<|stA Wg)]
 |_=>BookOK Mu Wg (deaf s) (deaf s') es
def Out(tM tW:Z4)(Mu Wg:Nat)(p:WP)(e:Int)(s:St)(h:Sh)(g:Ω)(w:ξ):Prop:=∃s' h' g' w' es,Nx s h s' h'/\stepG P0 Y g w=.go g' w' es/\ShAt tM tW Mu Wg w' (dU h')/\Eff Mu Wg w w'/\EvS Mu Wg s s' es/\bZ P0 Y 2000 (bh p e s') g'
def qK(x):deaf (hd x)=1:=by unfold hd;split<;>rfl
def yd(o):deaf (k8 o)=1:=by unfold k8;split<;>rfl
def abw:bR P0 251 Z:=by rfl
def CH:bR P0 272 Z:=by rfl
def abx:bR P0 274 Z:=by rfl
def akT:pS P0 21 Y:=λw a=>by kernel_rfl
def bj.iX{d ds g}(h:bj d ds g):g.frame.fn=d.fn:=by obtain⟨F,rfl⟩:=h;rfl
def bj.ye{p T l a ds g}(b:∀F,∀q∈a,cO l F q.1=q.2)(h:bj (fS p T l) ds g):bj (fS p T a) ds g:=by
 obtain⟨F,rfl⟩:=h;refine⟨λi=>match i with|0=>cO l (F 0)|i+1=>F<|i+1,?_⟩;unfold SG fS bG.fr;rw[ND a _ (b<|F 0)]
section
variable{tM tW:Z4}{Mu Wg:Nat}{p:WP}{e:Int}{s:St}{h:Sh}{g:Ω}{w:ξ}{x:Lc}
def aby(hw:ShAt tM tW Mu Wg w (dU h))(hs:bh p e .ld g):Out tM tW Mu Wg p e .ld h g w:=by exact⟨.l0,h,_,w,_,⟨rfl,rfl⟩,mC .disable (λg h=>by cases h) F2 (bj.head (λF=>by kernel_rfl) g hs:au g=R (Γ 236 #[])),hw,Eff.refl w,book_dis 0,(abd p e g hs).le<|by omega⟩
def abz(a:p.lk=muA Mu)(b:Mu≠Wg)(hw:ShAt tM tW Mu Wg w (dU h))(hs:bh p e .l0 g):Out tM tW Mu Wg p e .l0 h g w:=by
 have c:au g=R (Γ 271 #[Ψ (R p.lk),Δ ψ 0,Δ ψ 1]):=bj.head (λF=>by kernel_rfl) g hs;by_cases hz:h.mu=Wd.zero
 have hc:w.cell? p.lk=R (Δ ψ 0):=by rw[a,hw.1.cellSt];show R (Δ IntKind.i32 h.mu.z)=_;rw[hz];rfl
 refine⟨.le Z,{h with mu:=⟨Z,Y,Y,0⟩},_,_,_,.inl ⟨hz,rfl,rfl⟩,nJ xV c hc (by rw[a];exact hw.1.thaw 0),?_,Eff.set _ _<|.inl (by rw[a];rfl),?_,(akN p e g hs).le<|by omega⟩;rw[a];exact hw.setMu b 1;exact book_rw 0 _<|.inl (by rw[a];rfl)
 ·have hc:w.cell? p.lk=R (Δ ψ h.mu.z):=by rw[a,hw.1.cellSt];rfl
  refine⟨.r0,h,_,_,_,.inr ⟨hz,rfl,rfl⟩,kY xV c hc (by rw[a];exact hw.1.thaw 0) λd=>hz<|Wd.CE (by rw[d];rfl),hw,Eff.refl w,?_,(akO p e g hs).le<|by omega⟩;exact book_one 0 _ _<|.inl (by rw[a];rfl)
def look{f}(a:p.lk=muA Mu)(hw:ShAt tM tW Mu Wg w (dU h))(c:au g=R (bI 21<|Ψ<|R p.lk))(d:bR P0 f Z)(b:g.frame.fn=f):stepG P0 Y g w=.go (fin (Δ ψ h.mu.z) g) w #[]:=by
 have hc:w.cell? p.lk=R (Δ ψ h.mu.z):=by rw[a,hw.1.cellSt];rfl
 exact du c akT hc (by rw[b];exact d)
def abA(a:p.lk=muA Mu)(hb:h.mu.c+2<268435455)(hw:ShAt tM tW Mu Wg w (dU h))(hs:bh p e .r0 g):Out tM tW Mu Wg p e .r0 h g w:=by refine⟨_,h,_,w,_,⟨rfl,rfl⟩,look a hw (bj.head (λF=>by kernel_rfl) g hs) CH<|bj.iX hs,hw,Eff.refl w,?_,?_⟩;show BookOK Mu Wg 1 (deaf<|hd _) _;rw[qK];exact book_nil 1;exact bZ.le (bZ.trans (n:=150) (k:=1850) (fN (λcs g d=>Lh p.lk h.mu.z cs g d) hs) λg b=>bZ.le (qJ (x:=⟨0,h.mu,0,Y,Y⟩) hb (by simp) b)<|by omega) (by omega)
def abB(hb:x.old.c+2<268435455)(t:aaA h (.sq x))(hw:ShAt tM tW Mu Wg w (dU h))(hs:bh p e (.sq x) g):Out tM tW Mu Wg p e (.sq x) h g w:=by
 obtain⟨y,v,h3,h4,h5,u⟩:=t;have j:x.old.ok:=by unfold Wd.ok;omega
 obtain⟨b,o,i,q,r⟩:=D7 (P:=P0) (main:=Y) (w:=w) akH (bj.head (λF=>by kernel_rfl) g hs:au g=R (Γ 280 #[Δ YX x.it]));have m:ShAt tM tW Mu Wg o (dU h)/\Eff Mu Wg w o:=by
  obtain rfl|rfl:=q
  exact⟨hw,Eff.refl _⟩;exact⟨hw,Eff.asked _⟩
 have f:bj (fS p xW (iv 18 x.it::bv 17 Z::KX p x)) (SL p e) g:=hs;obtain _|_:=b
 refine⟨.c2 x,h,_,o,_,⟨rfl,.inl rfl⟩,i,m.1,m.2,book_nil 1,?_⟩;refine bZ.le (bZ.trans (n:=150) (k:=600) (fN (λcs g h=>Sj p.lk x.aV x.old.z x.it x.sv x.aw cs g h) f) λg a=>?_) (by omega);rw[Wd.A7 j]at a;exact CG hb h3 a;have hi:x.it<4:=by apply Classical.byContradiction;intro h;exact absurd (r<|by omega) (by simp)
 refine⟨_,h,_,o,_,⟨rfl,.inr ⟨hi,rfl⟩⟩,i,m.1,m.2,?_,?_⟩;show BookOK Mu Wg 1 (deaf (if _ then _ else _)) _;split<;>exact book_nil 1
 cases ha:x.aw with
 |true=>simp only[Bool.not_true,Bool.false_and,Bool.false_eq_true,if_false];have d:=f;unfold KX at d;rw[ha]at d;show bZ P0 Y 2000 (bj (fS p qq<|KX p x)<|SL p e) _;unfold KX;rw[ha];exact bZ.le (fN (λcs g h=>Lj p.lk x.aV x.old.z x.it x.sv cs g h) d) (by omega)
 |false=>
  have d:=f;unfold KX at d;rw[ha]at d;refine bZ.le (bZ.trans (n:=150) (k:=450) (fN (λcs g h=>Lk p.lk x.aV x.old.z x.it x.sv cs g h) d) λg a=>?_) (by omega);rw[Wd.Gt j]at a;have l:∀g,bj (fS p qq<|K p.lk x.aV x.old.z x.it x.sv Y) (SL p e) g->bh p e (.ds x) g:=by intro g a;show bj (fS p qq<|KX p x) (SL p e) g;unfold KX;rw[ha];exact a
  cases hW:x.old.W with
  |true=>rw[hW]at a;simp only[Bool.not_true,Bool.and_false,Bool.false_and,Bool.false_eq_true,if_false];exact bZ.mono (lift (λcs g h=>Sk p.lk x.aV x.old.z x.it x.sv cs g h) a) (by omega) λg a=>l g a
  |false=>
   rw[hW]at a;refine bZ.le (bZ.trans (n:=150) (k:=150) (lift (λcs g h=>Sl p.lk x.aV x.old.z x.it x.sv cs g h) a) λg a=>?_) (by omega);rw[Wd.LZ]at a;have s:((x.old.c:Int) !=0)=decide (x.old.c≠0):=by
    by_cases hc:x.old.c=0
    simp[hc];have:¬((x.old.c:Int)=0):=by omega
    simp[hc,this]
   rw[s]at a;simp only[Bool.not_false,Bool.true_and];cases hc:decide (x.old.c≠0)with
   |true=>rw[hc]at a;simp only[if_true];show bZ P0 Y 150 (bj (fS p A2 (bv 33 Z::pv 36 p.lk::jv 37 x.old.z::jv 39 (bits .or ψ x.old.z 2)::KX p x))<|SL p e) _;unfold KX;rw[ha];exact lift (λcs g h=>So p.lk x.aV x.old.z x.it x.sv cs g h) a
   |false=>rw[hc]at a;simp only[Bool.false_eq_true,if_false];exact bZ.mono (lift (λcs g h=>Sn p.lk x.aV x.old.z x.it x.sv cs g h) a) (by omega) λg a=>l g a
def abC(b:p.lk=muA Mu)(k:Mu≠Wg)(hb:x.old.c+2<268435455)(m:aaA h (.c1 x))(hw:ShAt tM tW Mu Wg w (dU h))(hs:bh p e (.c1 x) g):Out tM tW Mu Wg p e (.c1 x) h g w:=by
 obtain⟨r,o,h3,h4,h5,n,s⟩:=m;have j:x.old.ok:=by unfold Wd.ok;omega
 have l:au g=R (Γ 271 #[Ψ (R p.lk),Δ ψ x.old.z,Δ ψ<|bits .or ψ x.old.z 2]):=bj.head (λF=>by kernel_rfl) g hs;have a:bj (fS p A2 (bv 33 Z::pv 36 p.lk::jv 37 x.old.z::jv 39 (bits .or ψ x.old.z 2)::KX p x)) (SL p e) g:=hs;have hc:w.cell? p.lk=R (Δ ψ h.mu.z):=by rw[b,hw.1.cellSt];rfl
 have hz:w.frozen? p.lk=Y:=by rw[b];exact hw.1.thaw 0
 unfold KX at a;rw[h4]at a;replace a:bj (fS p A2 (bv 33 Z::K p.lk x.aV x.old.z x.it x.sv Y)) (SL p e) g:=bj.ye (λF q i=>by simp only[K,ι,List.not_mem_nil,or_false]at i;obtain rfl|rfl|rfl|rfl|rfl|rfl|rfl:=i<;>rfl) a
 by_cases f:h.mu=x.old
 rw[f]at hc;have d:=nJ (P:=P0) (main:=Y) xV l hc hz;rw[Wd.or2 j]at d;refine⟨.ds {x with aw:=Z},{h with mu:={x.old with W:=Z}},_,_,_,.inl ⟨f,rfl,rfl⟩,d,?_,Eff.set _ _<|.inl (by rw[b];rfl),book_rw 0 _<|.inl (by rw[b];rfl),?_⟩;rw[b];exact hw.setMu k _;exact bZ.le (fN (λcs g h=>Sp p.lk x.aV x.old.z x.it x.sv cs g h) a) (by omega);refine⟨.ds x,h,_,_,_,.inr ⟨f,rfl,rfl⟩,kY xV l hc hz λi=>f<|Wd.CE i,hw,Eff.refl w,book_one 0 _ _<|.inl (by rw[b];rfl),?_⟩;show bZ P0 Y 2000 (bj (fS p qq<|KX p x)<|SL p e) _;unfold KX;rw[h4];exact bZ.le (fN (λcs g h=>Sq p.lk x.aV x.old.z x.it x.sv cs g h) a) (by omega)
def abD(b:aaA h (.ds x))(hw:ShAt tM tW Mu Wg w (dU h))(hs:bh p e (.ds x) g):Out tM tW Mu Wg p e (.ds x) h g w:=by
 obtain⟨d,c,h3⟩:=b;refine⟨.r1 {x with it:=x.it+1},h,_,w,_,⟨rfl,rfl⟩,vz akI (bj.head (λF=>by kernel_rfl) g hs:au g=R (Γ 281 #[])),hw,Eff.refl w,book_nil 1,?_⟩;have e1:ω YX (x.it+1)=x.it+1:=by rw[IntKind.wrap_i64];omega
 have a:=fN (λcs g h=>Ll p.lk x.aV x.old.z x.it x.sv x.aw cs g h) hs;rw[e1]at a;exact bZ.le a (by omega)
def abE(a:p.lk=muA Mu)(hb:h.mu.c+2<268435455)(d:x.aw=Z->h.mu.W=Z)(hw:ShAt tM tW Mu Wg w (dU h))(hs:bh p e (.r1 x) g):Out tM tW Mu Wg p e (.r1 x) h g w:=by refine⟨_,h,_,w,_,⟨rfl,rfl⟩,look a hw (bj.head (λF=>by kernel_rfl) g hs) CH<|bj.iX hs,hw,Eff.refl w,?_,?_⟩;show BookOK Mu Wg 1 (deaf<|hd _) _;rw[qK];exact book_nil 1;exact bZ.le (bZ.trans (n:=150) (k:=1850) (fN (λcs g f=>Lm p.lk x.aV x.old.z x.it h.mu.z x.sv x.aw cs g f) hs) λg b=>bZ.le (qJ (x:={x with old:=h.mu}) hb d b)<|by omega) (by omega)
def abF(a:p.lk=muA Mu)(hb:h.mu.c+2<268435455)(d:x.aw=Z->h.mu.W=Z)(hw:ShAt tM tW Mu Wg w (dU h))(hs:bh p e (.r3 x) g):Out tM tW Mu Wg p e (.r3 x) h g w:=by refine⟨_,h,_,w,_,⟨rfl,rfl⟩,look a hw (bj.head (λF=>by kernel_rfl) g hs) CH<|bj.iX hs,hw,Eff.refl w,?_,?_⟩;show BookOK Mu Wg 1 (deaf<|hd _) _;rw[qK];exact book_nil 1;exact bZ.le (bZ.trans (n:=150) (k:=1850) (fN (λcs g f=>Ge p.lk x.aV x.old.z x.it h.mu.z x.sv x.aw cs g f) hs) λg b=>bZ.le (qJ (x:={x with old:=h.mu}) hb d b)<|by omega) (by omega)
def abG(b:p.lk=muA Mu)(j:Mu≠Wg)(hb:x.old.c+2<268435455)(hw:ShAt tM tW Mu Wg w (dU h))(hs:bh p e (.c2 x) g):Out tM tW Mu Wg p e (.c2 x) h g w:=by
 have i:x.old.ok:=by unfold Wd.ok;omega
 have l:au g=R (Γ 271 #[Ψ (R p.lk),Δ ψ x.old.z,Δ ψ (iT x).z]):=bj.head (λF=>by kernel_rfl) g hs;have hc:w.cell? p.lk=R (Δ ψ h.mu.z):=by rw[b,hw.1.cellSt];rfl
 have hz:w.frozen? p.lk=Y:=by rw[b];exact hw.1.thaw 0
 by_cases f:h.mu=x.old
 rw[f]at hc;refine⟨_,{h with mu:=iT x},_,_,_,.inl ⟨f,rfl,rfl⟩,nJ xV l hc hz,?_,Eff.set _ _<|.inl (by rw[b];rfl),?_,?_⟩;rw[b];exact hw.setMu j _;show BookOK Mu Wg 1 (deaf (if _ then _ else _)) _;split
 exact book_rw 0 _<|.inl (by rw[b];rfl);split<;>exact book_rw 0 _<|.inl (by rw[b];rfl)
 refine bZ.le (bZ.trans (n:=150) (k:=300) (fN (λcs g h=>Sw p.lk x.aV x.old.z x.it (iT x).z x.sv x.aw cs g h) hs) λg a=>?_) (by omega);rw[Wd.Tm i]at a;cases hf:(!x.old.L&&!x.old.S)with
 |true=>rw[hf]at a;simp only[if_true];exact bZ.mono (lift (λcs g h=>Sy p.lk x.aV x.old.z x.it x.sv x.aw cs g h) a) (by omega) λg a=>⟨x,a⟩
 |false=>
  rw[hf]at a;simp only[Bool.false_eq_true,if_false];refine bZ.trans (n:=150) (k:=150) (lift (λcs g h=>Sz p.lk x.aV x.old.z x.it x.sv x.aw cs g h) a) λg a=>?_;by_cases d:x.aV=0
  rw[if_pos d];rw[(by simp[d]:decide (x.aV=0)=Z)]at a;exact bZ.mono (lift (λcs g h=>SA p.lk x.aV x.old.z x.it x.sv x.aw (x.aV !=0) cs g h) a) (by omega) λg a=>⟨_,a⟩;rw[if_neg d];rw[(by simp[d]:decide (x.aV=0)=Y)]at a;exact bZ.mono (lift (λcs g h=>SD p.lk x.aV x.old.z x.it x.sv x.aw (x.aV !=0) cs g h) a) (by omega) λg a=>⟨_,a⟩
 refine⟨.r3 x,h,_,_,_,.inr ⟨f,rfl,rfl⟩,kY xV l hc hz λm=>f<|Wd.CE m,hw,Eff.refl w,book_one 0 _ _<|.inl (by rw[b];rfl),?_⟩;exact bZ.le (fN (λcs g h=>Sx p.lk x.aV x.old.z x.it (iT x).z x.sv x.aw cs g h) hs) (by omega)
def abH(hw:ShAt tM tW Mu Wg w (dU h))(hs:bh p e (.t1 x) g):Out tM tW Mu Wg p e (.t1 x) h g w:=by obtain⟨a,hs⟩:=hs;refine⟨_,h,_,_,_,⟨rfl,(w.os.mono+w.tick:Nat),rfl⟩,uk aa3 (bj.head (λF=>by kernel_rfl) g hs:au g=R (Γ 283 #[])),hw,Eff.later w,book_nil 1,?_⟩;exact bZ.mono (fN (λcs g h=>Lt p.lk x.aV x.old.z x.it ((w.os.mono+w.tick:Nat):Int) x.sv x.aw a cs g h) hs) (by omega) λg b=>⟨a,b⟩
def A8(a:p.lk=muA Mu)(h0:h.ms=0)(hw:ShAt tM tW Mu Wg w (dU h))(hs:bh p e (.s1 x) g):stepG P0 Y g w=.go {g with status:=.blocked} w #[]:=by
 obtain⟨b,hs⟩:=hs;have e1:p.lk.add 1=msA Mu:=by rw[a];rfl
 refine xU aa4 (bj.head (λF=>by kernel_rfl) g hs:au g=R (Γ 284 #[Ψ (R<|p.lk.add 1),.bool b,Δ YX 2])) rfl ?_;rw[e1,hw.1.cellSm];show R (Δ IntKind.u32 (h.ms:Int))=_;rw[h0];rfl
def abI(c:p.lk=muA Mu)(a:Mu≠Wg)(h0:0<h.ms)(hw:ShAt tM tW Mu Wg w (dU h))(hs:bh p e (.s1 x) g):Out tM tW Mu Wg p e (.s1 x) h g w:=by
 obtain⟨b,hs⟩:=hs;have e1:p.lk.add 1=msA Mu:=by rw[c];rfl
 have hc:w.cell? (p.lk.add 1)=R (Δ .u32 (h.ms:Int)):=by rw[e1,hw.1.cellSm];rfl
 refine⟨_,{h with ms:=h.ms-1},_,_,_,⟨h0,rfl,rfl⟩,P' (P:=P0) (main:=Y) aa4 (bj.head (λF=>by kernel_rfl) g hs:au g=R (Γ 284 #[Ψ (R<|p.lk.add 1),.bool b,Δ YX 2])) rfl hc (by omega) (by rw[e1];exact hw.1.thaw 1),?_,Eff.set _ _<|.inl (by rw[e1];rfl),?_,?_⟩;rw[e1];have:=hw.setMs a<|(h.ms:Int) -1;unfold dU at this⊢;dsimp only at this⊢;rw[<-(by omega:(h.ms:Int) -1=((h.ms-1:Nat):Int))];exact this;show BookOK Mu Wg 1 (deaf (if _ then _ else _)) _;split<;>exact book_sem 0 _<|.inl (by rw[e1];rfl)
 cases hsv:x.sv with
 |true=>simp only[if_true];unfold KX at hs;rw[hsv]at hs;show bZ P0 Y 2000 (bj (fS p ul (pv 103 p.lk::KX p x))<|SL p e) _;unfold KX;rw[hsv];exact bZ.le (fN (λcs g h=>SF p.lk x.aV x.old.z x.it x.aw b cs g h) hs) (by omega)
 |false=>simp only[Bool.false_eq_true,if_false];unfold KX at hs;rw[hsv]at hs;refine bZ.mono (fN (λcs g h=>SE p.lk x.aV x.old.z x.it x.aw b cs g h) hs) (by omega) λg d=>⟨?_,hsv⟩;unfold KX;rw[hsv];exact d
def abJ(hw:ShAt tM tW Mu Wg w (dU h))(hs:bh p e (.t2 x) g):Out tM tW Mu Wg p e (.t2 x) h g w:=by obtain⟨hs,a⟩:=hs;refine⟨_,h,_,_,_,⟨rfl,decide<|ω YX (((w.os.mono+w.tick:Nat):Int) -x.aV)>1000000,rfl⟩,uk aa3 (bj.head (λF=>by kernel_rfl) g hs:au g=R (Γ 283 #[])),hw,Eff.later w,book_nil 1,?_⟩;unfold KX at hs;rw[a]at hs;exact bZ.le (fN (λcs g h=>Lu p.lk x.aV x.old.z x.it ((w.os.mono+w.tick:Nat):Int) x.aw cs g h) hs) (by omega)
def abK(f:p.lk=muA Mu)(hb:h.mu.c+2<268435455)(o:h.mu.S=Y->h.mu.W=Z)(l:h.mu.S=Z->h.mu.L=Y/\h.mu.W=Y/\0<h.mu.c)(hw:ShAt tM tW Mu Wg w (dU h))(hs:bh p e (.r2 x) g):Out tM tW Mu Wg p e (.r2 x) h g w:=by
 have d:h.mu.ok:=by unfold Wd.ok;omega
 refine⟨_,h,_,w,_,⟨rfl,rfl⟩,look f hw (bj.head (λF=>by kernel_rfl) g hs) CH<|bj.iX hs,hw,Eff.refl w,?_,?_⟩;show BookOK Mu Wg 1 (deaf (if _ then _ else _)) _;split
 exact book_nil 1;rw[qK];exact book_nil 1;refine bZ.le (bZ.trans (n:=150) (k:=1200) (fN (λcs g b=>Gf p.lk x.aV x.old.z x.it h.mu.z x.sv x.aw cs g b) hs) λg a=>?_) (by omega);rw[Wd.To d]at a;cases hS:h.mu.S with
 |false=>rw[hS]at a;simp only[Bool.false_eq_true,if_false];refine bZ.le (bZ.trans (n:=150) (k:=900) (lift (λcs g b=>Lv p.lk x.aV h.mu.z x.it x.sv x.aw cs g b) a) λg a=>?_) (by omega);exact qJ (x:={x with old:=h.mu,it:=0,aw:=Z}) hb (λ_=>o hS) a
 |true=>
  obtain⟨m,i,hc⟩:=l hS;rw[hS]at a;simp only[if_true];refine bZ.le (bZ.trans (n:=150) (k:=600) (lift (λcs g b=>Lw p.lk x.aV h.mu.z x.it x.sv x.aw cs g b) a) λg a=>?_) (by omega);have e3:(bits .and ψ h.mu.z 3 !=0)=Y:=by rw[Wd.Tp d,m,i];rfl
  rw[e3]at a;refine bZ.le (bZ.trans (n:=150) (k:=300) (lift (λcs g b=>Lx p.lk x.aV h.mu.z x.it x.sv x.aw cs g b) a) λg a=>?_) (by omega);have e4:decide (h.mu.z.fdiv 8=0)=Y:=by rw[Wd.LZ];simp;omega
  rw[e4]at a;show bZ P0 Y 300 (bj (fS p um (pv 128 p.lk::jv 129 (delta {x with old:=h.mu})::KX p {x with old:=h.mu}))<|SL p e) g;unfold KX delta;dsimp only;cases hsv:x.sv with
  |false=>rw[hsv]at a;simp only[Bool.not_false,Bool.true_or,if_true];exact bZ.le (lift (λcs g b=>Gg p.lk x.aV h.mu.z x.it x.aw cs g b) a) (by omega)
  |true=>
   rw[hsv]at a;refine bZ.le (bZ.trans (n:=150) (k:=150) (lift (λcs g b=>Gh p.lk x.aV h.mu.z x.it x.aw cs g b) a) λg a=>?_) (by omega);have j:decide (h.mu.z.fdiv 8=1)=decide (h.mu.c=1):=by rw[Wd.LZ,decide_eq_decide];omega
   rw[j]at a;simp only[Bool.not_true,Bool.false_or];cases hc1:decide (h.mu.c=1)with
   |true=>rw[hc1]at a;exact lift (λcs g b=>Ly p.lk x.aV h.mu.z x.it Z x.aw cs g b) a
   |false=>rw[hc1]at a;exact lift (λcs g b=>Lz p.lk x.aV h.mu.z x.it Z x.aw cs g b) a
def abL(a:p.lk=muA Mu)(f:Mu≠Wg)(hb:h.mu.c+2<268435455)(i:h.mu.L=Y)(k:h.mu.S=Z)(h3:0<h.mu.c)(hw:ShAt tM tW Mu Wg w (dU h))(hs:bh p e (.a1 x) g):Out tM tW Mu Wg p e (.a1 x) h g w:=by
 have d:h.mu.ok:=by unfold Wd.ok;omega
 have hc:w.cell? p.lk=R (Δ ψ h.mu.z):=by rw[a,hw.1.cellSt];rfl
 have b:=qF (P:=P0) (main:=Y) aa2 (bj.head (λF=>by kernel_rfl) g hs:au g=R (Γ 273 #[Ψ (R p.lk),Δ ψ<|delta x])) hc (by rw[a];exact hw.1.thaw 0);have e1:ω ψ (h.mu.z+delta x)=(oY x h.mu).z:=by
  unfold delta oY;split
  rw[Wd.L0 d i k h3];rw[Wd.Ts d i h3]
 rw[e1]at b;refine⟨.le Y,{h with mu:=oY x h.mu},_,_,_,⟨rfl,rfl⟩,b,?_,Eff.set _ _<|.inl (by rw[a];rfl),book_rw 0 _<|.inl (by rw[a];rfl),?_⟩;rw[a];exact hw.setMu f _;exact bZ.mono (fN (λcs g j=>Gi p.lk x.aV x.old.z x.it (oY x h.mu).z (delta x) x.sv x.aw cs g j) hs) (by omega) λg l=>⟨x,l⟩
end
end
section
def abM:P0.underlying 323=R (.pointer 247):=by kernel_rfl
def yf:P0.underlying 219=R .unsafePointer:=by kernel_rfl
def QL:P0.underlying 288=R (.pointer 255):=by kernel_rfl
def abN:(P0.info? 247).map (λi=>decide<|i.size=0)=R Y:=by kernel_rfl
def QM:(P0.info? 255).map (λi=>decide<|i.size=0)=R Y:=by kernel_rfl
def Gz(p g)(h:bj (fAr p tgr []) [fD p vC,kz p kA [],fB []] g):bZ P0 Y 200 (bj (fB []) []) g:=bj.QF never 200 (λF=>by kernel_rfl) (λF=>by kernel_rfl) (λF=>by kernel_rfl) g h
def CJ(p g)(h:bj (fAr p Tb []) [fD p vC,kz p kA [],fB []] g):bZ P0 Y 200 (bj (fB []) []) g:=bj.QF never 200 (λF=>by kernel_rfl) (λF=>by kernel_rfl) (λF=>by kernel_rfl) g h
section
variable{tM tW:Z4}{Mu Wg:Nat}{p:WP}{e:Int}{s:St}{h:Sh}{g:Ω}{w:ξ}{x:Lc}{f:Bool}
def abO(hw:ShAt tM tW Mu Wg w (dU h))(hs:bh p e (.le f) g):Out tM tW Mu Wg p e (.le f) h g w:=by
 obtain _|_:=f
 obtain⟨x,hs⟩:=hs;refine⟨.cv Y,h,_,w,_,⟨rfl,rfl⟩,mC .enable (λg h=>by cases h) tw (bj.head (λF=>by kernel_rfl) g hs:au g=R (Γ 237 #[])),hw,Eff.refl w,book_en 0,?_⟩;exact bZ.mono (fN (λcs g h=>Gj p.lk x.aV x.old.z x.it x.sv x.aw cs g h) hs) (by omega) λg a=>⟨x,a⟩;exact⟨.cv Z,h,_,w,_,⟨rfl,rfl⟩,mC .enable (λg h=>by cases h) tw (bj.head (λF=>by kernel_rfl) g hs:au g=R (Γ 237 #[])),hw,Eff.refl w,book_en 0,(abe p e g hs).le<|by omega⟩
def vI(a:p.lk=muA Mu)(hw:ShAt tM tW Mu Wg w (dU h))(b:au g=R (iC 323 219<|Ψ<|R p.lk)):stepG P0 Y g w=.go (fin (Ψ<|R p.lk) g) w #[]:=iD b abM yf abN (by rw[a];exact hw.1.cellSt)
def abP(a:p.lk=muA Mu)(hw:ShAt tM tW Mu Wg w (dU h))(hs:bh p e (.cv f) g):Out tM tW Mu Wg p e (.cv f) h g w:=by
 obtain _|_:=f
 obtain⟨x,hs⟩:=hs;refine⟨.la Y,h,_,w,_,⟨rfl,rfl⟩,vI a hw<|bj.head (λF=>by kernel_rfl) g hs,hw,Eff.refl w,book_nil 0,?_⟩;exact bZ.mono (fN (λcs g h=>Gk p.lk x.aV x.old.z x.it x.sv x.aw cs g h) hs) (by omega) λg b=>⟨x,b⟩;exact⟨.la Z,h,_,w,_,⟨rfl,rfl⟩,vI a hw<|bj.head (λF=>by kernel_rfl) g hs,hw,Eff.refl w,book_nil 0,(abf p e g hs).le<|by omega⟩
def abQ(b:p.lk=muA Mu)(hw:ShAt tM tW Mu Wg w (dU h))(hs:bh p e (.la f) g):Out tM tW Mu Wg p e (.la f) h g w:=by
 have a:(#[⟨.mark<|.acquire p.lk,Y,Z⟩]:Array Event)=#[mk (.acquire<|muA Mu)]:=by rw[b];rfl
 obtain _|_:=f
 obtain⟨x,hs⟩:=hs;exact⟨.e1,h,_,w,_,⟨rfl,rfl⟩,kZ .acquire (λ_ g h=>by cases h) La<|bj.head (λF=>by kernel_rfl) g hs,hw,Eff.refl w,a,(adS p e _ g hs).le<|by omega⟩;exact⟨.e1,h,_,w,_,⟨rfl,rfl⟩,kZ .acquire (λ_ g h=>by cases h) La<|bj.head (λF=>by kernel_rfl) g hs,hw,Eff.refl w,a,(SQ p e g hs).le<|by omega⟩
def abR(a:p.lk=muA Mu)(hw:ShAt tM tW Mu Wg w (dU h))(hs:bh p e .u1 g):Out tM tW Mu Wg p e .u1 h g w:=by exact⟨.uv,h,_,w,_,⟨rfl,rfl⟩,look a hw (bj.head (λF=>by kernel_rfl) g hs) abw<|bj.iX hs,hw,Eff.refl w,book_nil 0,(abg p _ g hs).le<|by omega⟩
def abS(a:p.lk=muA Mu)(hw:ShAt tM tW Mu Wg w (dU h))(hs:bh p e .uv g):Out tM tW Mu Wg p e .uv h g w:=by exact⟨.ur,h,_,w,_,⟨rfl,rfl⟩,vI a hw<|bj.head (λF=>by kernel_rfl) g hs,hw,Eff.refl w,book_nil 0,(abh p g hs).le<|by omega⟩
def abT(a:p.lk=muA Mu)(hw:ShAt tM tW Mu Wg w (dU h))(hs:bh p e .ur g):Out tM tW Mu Wg p e .ur h g w:=by
 have b:(#[⟨.mark<|.releaseMerge p.lk,Y,Z⟩]:Array Event)=#[mk (.releaseMerge<|muA Mu)]:=by rw[a];rfl
 exact⟨.ud,h,_,w,_,⟨rfl,rfl⟩,kZ .releaseMerge (λ_ g h=>by cases h) aa1<|bj.head (λF=>by kernel_rfl) g hs,hw,Eff.refl w,b,(abi p g hs).le<|by omega⟩
def abU(hw:ShAt tM tW Mu Wg w (dU h))(hs:bh p e .ud g):Out tM tW Mu Wg p e .ud h g w:=by exact⟨.u0,h,_,w,_,⟨rfl,rfl⟩,mC .disable (λg h=>by cases h) F2 (bj.head (λF=>by kernel_rfl) g hs:au g=R (Γ 236 #[])),hw,Eff.refl w,book_dis 0,(SV p g hs).le<|by omega⟩
def yh{o v}(hb:o.c+2<268435455)(hs:bj (fV p Gn [jv 4 o.z] v) (US p) g):bZ P0 Y 600 (bh p e<|k8 o) g:=by
 have b:o.ok:=by unfold Wd.ok;omega
 refine bZ.trans (n:=200) (k:=400) (SZ p v o.z g hs) λg a=>?_;have e1:decide (o.z.fdiv 8=0)=decide (o.c=0):=by rw[Wd.LZ,decide_eq_decide];omega
 rw[e1]at a;unfold k8;cases hc:decide (o.c=0)with
 |true=>rw[hc]at a;exact bZ.trans (n:=200) (k:=200) (abk p v o.z g a) λg a=>Gp p v o.z g a
 |false=>
  rw[hc]at a;simp only[Bool.false_or];refine bZ.trans (n:=200) (k:=200) (abl p v o.z g a) λg a=>?_;rw[Wd.Tq b]at a;cases hf:(o.L||o.W||o.S)with
  |true=>rw[hf]at a;simp only[if_true];exact Gp p v o.z g a
  |false=>rw[hf]at a;exact bZ.mono (afV p v o.z g a) .refl λg a=>⟨_,rfl,a⟩
def abV(b:p.lk=muA Mu)(m:Mu≠Wg)(hb:h.mu.c+2<268435455)(q:h.mu.L=Z)(hw:ShAt tM tW Mu Wg w (dU h))(hs:bh p e .u0 g):Out tM tW Mu Wg p e .u0 h g w:=by
 have d:h.mu.ok:=by unfold Wd.ok;omega
 have hc:w.cell? p.lk=R (Δ ψ h.mu.z):=by rw[b,hw.1.cellSt];rfl
 have j:=qF (P:=P0) (main:=Y) aa2 (bj.head (λF=>by kernel_rfl) g hs:au g=R (Γ 273 #[Ψ (R p.lk),Δ ψ<|-1])) hc (by rw[b];exact hw.1.thaw 0);rw[Wd.Gv d q]at j;refine⟨_,{h with mu:={h.mu with L:=Y}},_,_,_,⟨rfl,rfl⟩,j,?_,Eff.set _ _<|.inl (by rw[b];rfl),?_,?_⟩;rw[b];exact hw.setMu m _;show BookOK Mu Wg 1 (deaf (if _ then _ else _)) _;split
 exact book_rw 0 _<|.inl (by rw[b];rfl);rw[yd];exact book_rw 0 _<|.inl (by rw[b];rfl);have l:({h.mu with L:=Y}:Wd).ok:=d;refine bZ.le (bZ.trans (n:=200) (k:=1400) (SW p ({h.mu with L:=Y}:Wd).z g hs) λg a=>?_) (by omega);rw[Wd.Tt]at a;cases hf:(Y||h.mu.W||h.mu.S||decide (h.mu.c≠0))with
 |false=>
  have i:bj (fJ p SK [bv 16 Y,(2,Δ ψ ({h.mu with L:=Y}:Wd).z)]) (UL p) g:=by have:=hf;rw[this]at a;exact a
  simp only[Bool.false_or,Bool.or_eq_false_iff,decide_eq_false_iff_not,Decidable.not_not]at hf;rw[hf.1.2];simp only[Bool.false_eq_true,if_false];have e1:k8 {h.mu with L:=Y}=.ue:=by
   unfold k8;have:decide (({h.mu with L:=Y}:Wd).c=0)=Z:=by simpa using hf.2
   rw[this];rfl
  rw[e1];exact bZ.le (akP p _ g i) (by omega)
 |true=>
  have i:bj (fJ p SK [bv 16 Z,(2,Δ ψ ({h.mu with L:=Y}:Wd).z)]) (UL p) g:=by have:=hf;rw[this]at a;exact a
  refine bZ.trans (n:=200) (k:=1200) (akQ p _ g i) λg a=>?_;have e1:ω ψ (({h.mu with L:=Y}:Wd).z+1)=h.mu.z:=by have a1:=Wd.Gv d q;have s:=Wd.lN d;rw[wrap_small (by omega) (by omega)]at a1;rw[<-a1,wrap_small (by omega)<|by omega];omega
  have e2:decide (bits .and ψ h.mu.z 1=0)=Y:=by have:=Wd.Gu d;rw[q]at this;simpa using this
  rw[e1,e2]at a;refine bZ.trans (n:=200) (k:=1000) (abj p _ g a) λg a=>?_;rw[Wd.A7 l]at a;have f:=a;cases hS:h.mu.S with
  |true=>rw[hS]at f;simp only[if_true];exact bZ.mono (SX p _ g f) (by omega) λg a=>⟨_,a⟩
  |false=>have r:({h.mu with L:=Y}:Wd).z=({h.mu with L:=Y}:Wd).z:=rfl;rw[hS]at f;simp only[Bool.false_eq_true,if_false];refine bZ.le (bZ.trans (n:=200) (k:=600) (SY p _ g f) λg a=>?_) (by omega);have:=yh (e:=e) (o:=(⟨Y,h.mu.W,h.mu.S,h.mu.c⟩:Wd)) hb a;exact this
def abW{o}(a:p.lk=muA Mu)(j:Mu≠Wg)(hb:o.c+2<268435455)(q:aaA h (.uc o))(hw:ShAt tM tW Mu Wg w (dU h))(hs:bh p e (.uc o) g):Out tM tW Mu Wg p e (.uc o) h g w:=by
 obtain⟨s,r,h3,h4⟩:=q;have i:o.ok:=by unfold Wd.ok;omega
 have d:({o with c:=o.c-1}:Wd).ok:=by unfold Wd.ok;dsimp only;omega
 obtain⟨b,k,hs⟩:=hs;have m:au g=R (Γ 271 #[Ψ (R p.lk),Δ ψ o.z,Δ ψ b]):=bj.head (λF=>by kernel_rfl) g hs;have hc:w.cell? p.lk=R (Δ ψ h.mu.z):=by rw[a,hw.1.cellSt];rfl
 have hz:w.frozen? p.lk=Y:=by rw[a];exact hw.1.thaw 0
 by_cases f:h.mu=o
 rw[f]at hc;refine⟨.us,{h with mu:={o with W:=Z,c:=o.c-1}},_,_,_,.inl ⟨f,rfl,rfl⟩,nJ xV m hc hz,?_,Eff.set _ _<|.inl (by rw[a];rfl),book_rw 0 _<|.inl (by rw[a];rfl),?_⟩;rw[a,(by rw[k,Wd.Tr i h4,Wd.or2 d]:b=({o with W:=Z,c:=o.c-1}:Wd).z)];exact hw.setMu j _;exact bZ.mono (abm p o.z b g hs) (by omega) λg l=>⟨b,l⟩;refine⟨.ux,h,_,_,_,.inr ⟨f,rfl,rfl⟩,kY xV m hc hz λn=>f<|Wd.CE n,hw,Eff.refl w,book_one 0 _ _<|.inl (by rw[a];rfl),?_⟩;exact bZ.mono (abn p o.z b g hs) (by omega) λg l=>⟨b,l⟩
def abX(a:p.lk=muA Mu)(hb:h.mu.c+2<268435455)(hw:ShAt tM tW Mu Wg w (dU h))(hs:bh p e .ux g):Out tM tW Mu Wg p e .ux h g w:=by obtain⟨d,hs⟩:=hs;refine⟨_,h,_,w,_,⟨rfl,rfl⟩,look a hw (bj.head (λF=>by kernel_rfl) g hs) abx<|bj.iX hs,hw,Eff.refl w,?_,?_⟩;show BookOK Mu Wg 1 (deaf<|k8 _) _;rw[yd];exact book_nil 1;exact bZ.le (bZ.trans (n:=200) (k:=600) (afW p d h.mu.z g hs) λg b=>yh hb b) (by omega)
def GA(b:p.lk=muA Mu)(a:Mu≠Wg)(c:h.ms<1000)(hw:ShAt tM tW Mu Wg w (dU h)):ShAt tM tW Mu Wg (w.setCell (p.lk.add 1)<|Δ .u32<|IntKind.u32.wrap<|(h.ms:Int)+1) (dU {h with ms:=h.ms+1}):=by
 have e1:p.lk.add 1=msA Mu:=by rw[b];rfl
 have e2:IntKind.u32.wrap (h.ms+1)=(h.ms+1:Nat):=by rw[YJ];omega
 rw[e1,e2];exact hw.setMs a _
def abY(a:p.lk=muA Mu)(b:Mu≠Wg)(c:h.ms<1000)(hw:ShAt tM tW Mu Wg w (dU h))(hs:bh p e .us g):Out tM tW Mu Wg p e .us h g w:=by
 obtain⟨d,hs⟩:=hs;have e1:p.lk.add 1=msA Mu:=by rw[a];rfl
 have hc:w.cell? (p.lk.add 1)=R (Δ .u32 (h.ms:Int)):=by rw[e1,hw.1.cellSm];rfl
 exact⟨.ue,{h with ms:=h.ms+1},_,_,_,⟨rfl,rfl⟩,vy aa5 (bj.head (λF=>by kernel_rfl) g hs:au g=R (Γ 286 #[Ψ (R<|p.lk.add 1),.bool Y,Δ YX 2])) rfl hc (by rw[e1];exact hw.1.thaw 1),GA a b c hw,Eff.set _ _<|.inl (by rw[e1];rfl),book_sem 0 _<|.inl (by rw[e1];rfl),(S7 p d g hs).le<|by omega⟩
def abZ(a:p.lk=muA Mu)(b:Mu≠Wg)(c:h.ms<1000)(hw:ShAt tM tW Mu Wg w (dU h))(hs:bh p e .uh g):Out tM tW Mu Wg p e .uh h g w:=by
 obtain⟨d,hs⟩:=hs;have e1:p.lk.add 1=msA Mu:=by rw[a];rfl
 have hc:w.cell? (p.lk.add 1)=R (Δ .u32 (h.ms:Int)):=by rw[e1,hw.1.cellSm];rfl
 exact⟨.ue,{h with ms:=h.ms+1},_,_,_,⟨rfl,rfl⟩,vy aa5 (bj.head (λF=>by kernel_rfl) g hs:au g=R (Γ 286 #[Ψ (R<|p.lk.add 1),.bool Z,Δ YX 2])) rfl hc (by rw[e1];exact hw.1.thaw 1),GA a b c hw,Eff.set _ _<|.inl (by rw[e1];rfl),book_sem 0 _<|.inl (by rw[e1];rfl),(S9 p d g hs).le<|by omega⟩
def ab0(hw:ShAt tM tW Mu Wg w (dU h))(hs:bh p e .ue g):Out tM tW Mu Wg p e .ue h g w:=by exact⟨.gv,h,_,w,_,⟨rfl,rfl⟩,mC .enable (λg h=>by cases h) tw (bj.head (λF=>by kernel_rfl) g hs:au g=R (Γ 237 #[])),hw,Eff.refl w,book_en 0,(Tc p g hs).le<|by omega⟩
def ab1(a:p.wg=stA Wg)(hw:ShAt tM tW Mu Wg w (dU h))(hs:bh p e .gv g):Out tM tW Mu Wg p e .gv h g w:=by exact⟨.gr,h,_,w,_,⟨rfl,rfl⟩,iD (bj.head (λF=>by kernel_rfl) g hs) QL yf QM (by rw[a];exact hw.2.cellSt),hw,Eff.refl w,book_nil 0,(Td p g hs).le<|by omega⟩
def ab2(a:p.wg=stA Wg)(hw:ShAt tM tW Mu Wg w (dU h))(hs:bh p e .gr g):Out tM tW Mu Wg p e .gr h g w:=by
 have b:(#[⟨.mark<|.releaseMerge p.wg,Y,Z⟩]:Array Event)=#[mk (.releaseMerge<|stA Wg)]:=by rw[a];rfl
 exact⟨.gd,h,_,w,_,⟨rfl,rfl⟩,kZ .releaseMerge (λ_ g h=>by cases h) aa1<|bj.head (λF=>by kernel_rfl) g hs,hw,Eff.refl w,b,(Te p g hs).le<|by omega⟩
def ab3(hw:ShAt tM tW Mu Wg w (dU h))(hs:bh p e .gd g):Out tM tW Mu Wg p e .gd h g w:=by exact⟨.ga,h,_,w,_,⟨rfl,rfl⟩,mC .disable (λg h=>by cases h) F2 (bj.head (λF=>by kernel_rfl) g hs:au g=R (Γ 236 #[])),hw,Eff.refl w,book_dis 0,(Tf p g hs).le<|by omega⟩
def ab4(b:p.wg=stA Wg)(l:Mu≠Wg)(y:0<h.k)(s:h.k<1073741824)(i:h.wt<=1)(hw:ShAt tM tW Mu Wg w (dU h))(hs:bh p e .ga g):Out tM tW Mu Wg p e .ga h g w:=by
 have u:au g=R (Γ 268 #[Ψ (R p.wg),Δ Zn 18446744069414584320]):=bj.head (λF=>by kernel_rfl) g hs;have hc:w.cell? p.wg=R (Δ Zn<|(h.k:Int)*4294967296+(h.wt:Int)):=by rw[b,hw.2.cellSt];rfl
 have c:=qF (P:=P0) (main:=Y) aa6 u hc (by rw[b];exact hw.2.thaw 0);have ev:IntKind.u64.wrap ((h.k:Int)*4294967296+(h.wt:Int)+18446744069414584320)=((h.k-1:Nat):Int)*4294967296+(h.wt:Int):=by rw[IntKind.wrap_u64];omega
 rw[ev]at c;refine⟨_,{h with k:=h.k-1},_,_,_,⟨rfl,rfl⟩,c,?_,Eff.set _ _<|.inr (by rw[b];rfl),?_,?_⟩;rw[b];exact hw.setWg l _;show BookOK Mu Wg 1 (deaf (if _ then _ else _)) _;split<;>exact book_rw 0 _<|.inr (by rw[b];rfl)
 refine bZ.le (bZ.trans (n:=200) (k:=1200) (LR p _ g hs) λg a=>?_) (by omega);have t:=Go.ConcN.st_flag (h.k-1) h.wt (by omega) i;have o:=Go.ConcN.st_waiters (h.k-1) h.wt (by omega) i;have x:(((h.k-1:Nat):Int)*4294967296+(h.wt:Int)).fdiv 4294967296=((h.k-1:Nat):Int):=by rw[Int.fdiv_eq_ediv_of_nonneg _ (by decide)];omega
 have r:ω ψ ((h.k-1:Nat):Int)=((h.k-1:Nat):Int):=wrap_small (by omega) (by omega);have v:ω .u32 (h.wt:Int)=(h.wt:Int):=by rw[YJ];omega
 rw[t]at a;refine bZ.trans (n:=200) (k:=1000) (abp p _ g a) λg a=>?_;rw[x,r,o,v]at a;have e1:decide (((h.k-1:Nat):Int)<0)=Y:=decide_eq_false (by omega);rw[e1]at a;refine bZ.trans (n:=200) (k:=800) (Tg p _ _ _ g a) λg a=>?_;have m:bZ P0 Y 200 (bj (fA p Eb [bv 91 (decide<|((h.k-1:Nat):Int)>0),(6,Δ Zn<|((h.k-1:Nat):Int)*4294967296+(h.wt:Int)),bv 4 Y,jv 7 ((h.k-1:Nat):Int),(8,Δ .u32 (h.wt:Int))] [dK])<|DK p) g:=by
  cases hq:((h.wt:Int) !=0)with
  |true=>rw[hq]at a;exact abq p _ _ _ g a
  |false=>rw[hq]at a;exact abr p _ _ _ g a
 refine bZ.trans (n:=200) (k:=600) m λg a=>?_;by_cases f:h.k=1
 have e2:decide (((h.k-1:Nat):Int)>0)=Y:=decide_eq_false (by omega);rw[e2]at a;refine bZ.trans (n:=200) (k:=400) (abt p _ _ _ g a) λg a=>?_;by_cases j:h.wt=1
 rw[if_pos ⟨f,j⟩];have e3:decide ((h.wt:Int)=0)=Y:=decide_eq_false (by omega);rw[e3]at a;have d:=Th p _ _ _ g a;have e4:((h.k-1:Nat):Int)*4294967296+(h.wt:Int)=1:=by omega
 have q:(h.wt:Int)=1:=by omega
 rw[e4,q]at d;exact bZ.le d (by omega);rw[if_neg (λh=>j h.2)];have e3:decide ((h.wt:Int)=0)=Z:=decide_eq_true (by omega);rw[e3]at a;exact bZ.mono (Gs p _ _ _ g a) (by omega) λg a=>.inl a;rw[if_neg (λh=>f h.1)];have e2:decide (((h.k-1:Nat):Int)>0)=Z:=decide_eq_true (by omega);rw[e2]at a;refine bZ.le (bZ.trans (n:=200) (k:=200) (abs p _ _ _ g a) λg a=>?_) (by omega);exact bZ.mono (Gs p _ _ _ g a) (by omega) λg a=>.inl a
def ab5(a:p.wg=stA Wg)(d:h.k=0)(b:h.wt=1)(hw:ShAt tM tW Mu Wg w (dU h))(hs:bh p e .gl g):Out tM tW Mu Wg p e .gl h g w:=by
 have hc:w.cell? p.wg=R (Δ Zn 1):=by rw[a,hw.2.cellSt];show R (Δ IntKind.u64<|(h.k:Int)*4294967296+(h.wt:Int))=_;rw[d,b];rfl
 refine⟨.gs,h,_,w,_,⟨rfl,rfl⟩,rD Sa (bj.head (λF=>by kernel_rfl) g hs) hc,hw,Eff.refl w,book_one 0 _ _<|.inr (by rw[a];rfl),?_⟩;exact bZ.le (bZ.trans (n:=200) (k:=200) (LS p 1 1 1 g hs) λg c=>LT p 1 g c) (by omega)
def ab6(a:p.wg=stA Wg)(b:Mu≠Wg)(hw:ShAt tM tW Mu Wg w (dU h))(hs:bh p e .gs g):Out tM tW Mu Wg p e .gs h g w:=by
 have hc:=hw.2.cellSt;rw[<-a]at hc;refine⟨.gm,{h with k:=0,wt:=0},_,_,_,⟨rfl,rfl⟩,Xj akJ (bj.head (λF=>by kernel_rfl) g hs:au g=R (Γ 270 #[Ψ (R p.wg),Δ Zn 0])) hc (by rw[a];exact hw.2.thaw 0),?_,Eff.set _ _<|.inr (by rw[a];rfl),book_one 0 _ _<|.inr (by rw[a];rfl),?_⟩;have d:dU {h with k:=0,wt:=0}={dU h with wg:=0}:=by unfold dU;simp
 rw[a,d];exact hw.setWg b 0;exact bZ.le (bZ.trans (n:=200) (k:=200) (LU p 1 g hs) λg c=>LX p 1 g c) (by omega)
def ab7(b:p.wg=stA Wg)(c:Mu≠Wg)(d:h.ws<1000)(hw:ShAt tM tW Mu Wg w (dU h))(hs:bh p e .gm g):Out tM tW Mu Wg p e .gm h g w:=by
 have e1:p.wg.add 1=smA Wg:=by rw[b];rfl
 have hc:w.cell? (p.wg.add 1)=R (Δ .u32 (h.ws:Int)):=by rw[e1,hw.2.cellSm];rfl
 have e2:IntKind.u32.wrap ((h.ws:Int)+1)=((h.ws+1:Nat):Int):=by rw[YJ];omega
 refine⟨.gn,{h with ws:=h.ws+1},_,_,_,⟨rfl,rfl⟩,vy akK (bj.head (λF=>by kernel_rfl) g hs:au g=R (Γ 247 #[Ψ (R<|p.wg.add 1),.bool Y,Δ YX 0])) rfl hc (by rw[e1];exact hw.2.thaw 1),?_,Eff.set _ _<|.inr (by rw[e1];rfl),book_sem 0 _<|.inr (by rw[e1];rfl),?_⟩;rw[e1,e2];exact hw.setWs c _;refine bZ.le (bZ.trans (n:=200) (k:=200) (LY p 1 g hs) λg a=>?_) (by omega);rw[(by decide:ω .u32 ((1:Int) -1)=0)]at a;exact bZ.mono (adT p 0 g a) (by omega) λg a=>.inr a
def ab8(hw:ShAt tM tW Mu Wg w (dU h))(hs:bh p e .gn g):Out tM tW Mu Wg p e .gn h g w:=by
 obtain hs|hs:=hs
 obtain⟨F,rfl⟩:=hs;exact⟨.gx,h,_,w,_,⟨rfl,rfl⟩,wO .enable (λg h=>by cases h) tw rfl rfl,hw,Eff.refl w,book_en 0,(Gz p _ ⟨F,rfl⟩).le<|by omega⟩;obtain⟨F,rfl⟩:=hs;exact⟨.gx,h,_,w,_,⟨rfl,rfl⟩,wO .enable (λg h=>by cases h) tw rfl rfl,hw,Eff.refl w,book_en 0,(CJ p _ ⟨F,rfl⟩).le<|by omega⟩
def QN(hs:bh p e .gx g):stepG P0 Y g w=.go {g with status:=.finished} w #[]:=by obtain⟨F,rfl⟩:=hs;exact Ed rfl rfl rfl rfl
end
end
end Ph
namespace Ph
open Go Go.Conc
open Go.ConcN (sumTo upd sumTo_upd)
open Go.ConcM (muA msA MuAt ShAt Eff)
open Go.ConcR (stA smA WgAt mk)
section
def rG(B:Nat):St->Prop
 |.sq x|.c1 x|.c2 x=>x.old.c<=B
 |.uc o=>o.c<=B
 |_=>True
def qL{B x}(h:x.old.c<=B):rG B (hd x):=by unfold hd;split<;>exact h
def yi{B o}(h:o.c<=B):rG B (k8 o):=by unfold k8;split<;>first|trivial|exact h
def Nx.akU{B s s' h h'}(a:Nx s h s' h')(b:h.mu.c<=B)(hb:rG B s):rG B s':=by
 cases s with
 |w7=>exact a.elim
 |w8=>exact a.elim
 |pv=>exact a.elim
 |fin=>exact a.elim
 |l0=>obtain⟨_,rfl,_⟩|⟨_,rfl,_⟩:=a<;>trivial
 |r0=>obtain⟨rfl,_⟩:=a;exact qL b
 |sq x=>
  obtain⟨_,rfl|⟨_,rfl⟩⟩:=a;exact hb;split
  ·exact hb
  trivial
 |c1 x=>obtain⟨_,rfl,_⟩|⟨_,rfl,_⟩:=a<;>trivial
 |r1 x=>obtain⟨rfl,_⟩:=a;exact qL b
 |r3 x=>obtain⟨rfl,_⟩:=a;exact qL b
 |c2 x=>
  obtain⟨_,_,rfl⟩|⟨_,rfl,_⟩:=a
  split
  ·trivial
  split<;>trivial
  trivial
 |t1 x=>obtain⟨_,t,rfl⟩:=a;trivial
 |s1 x=>obtain⟨_,_,rfl⟩:=a;split<;>trivial
 |t2 x=>obtain⟨_,t,rfl⟩:=a;trivial
 |r2 x=>
  obtain⟨_,rfl⟩:=a;split
  trivial;exact qL b
 |u0=>
  obtain⟨_,rfl⟩:=a;split
  trivial;exact yi b
 |uc o=>obtain⟨_,rfl,_⟩|⟨_,rfl,_⟩:=a<;>trivial
 |ux=>obtain⟨rfl,_⟩:=a;exact yi b
 |ga=>obtain⟨_,rfl⟩:=a;split<;>trivial
 |_=>obtain⟨rfl,_⟩:=a;trivial
theorem vJ{F F':St->Nat}{st:Nat->St}:∀{n:Nat},cnt n (λs=>F s+F' s) st=cnt n F st+cnt n F' st
 |0=>rfl
 |n+1=>by have e1:cnt (n+1) (λs=>F s+F' s) st=cnt n (λs=>F s+F' s) st+(F (st n)+F' (st n)):=rfl;have e2:cnt (n+1) F st=cnt n F st+F (st n):=rfl;have e3:cnt (n+1) F' st=cnt n F' st+F' (st n):=rfl;rw[e1,vJ];omega
def GI.wW{n st h}(G:GI n st h):h.mu.c<=n/\h.ms<=1:=by
 have b:cnt n (λs=>nQ s+nT s+nH s) st<=n*1:=mV λi hi=>by show nQ (st i)+nT (st i)+nH (st i)<=1;cases st i<;>simp[nQ,nT,nH]
 have e1:cnt n (λs=>nQ s+nT s+nH s) st=cnt n nQ st+cnt n nT st+cnt n nH st:=by rw[vJ (F:=λs=>nQ s+nT s) (F':=nH),vJ]
 have a:=G.Ee;obtain⟨⟨L,W,S,c⟩,ms,k,wt,ws⟩:=h;unfold ia at a;dsimp only at a⊢;cases L<;>cases W<;>cases S<;>simp at a<;>omega
def nM:St->Nat
 |.gm=>1
 |_=>0
structure mW(wa:Bool)(x:Nat)(h:Sh)(G L M:Nat):Prop where
 k:h.k=G+x
 wt:h.wt<=1
 idle:wa=Y->h.wt=0/\h.ws=0/\L=0/\M=0
 wait:wa=Z->x=0/\h.wt+M+h.ws=1/\((L=1/\h.wt=1/\h.k=0)\/(L=0/\(h.wt=1->0<h.k)/\(h.wt=0->h.k=0)))
def mW.core{wa x h h' s s' l i j}(e:mW wa x h (l+nG s) (i+nL s) (j+nM s))(b:Nx s h s' h'):mW wa x h' (l+nG s') (i+nL s') (j+nM s'):=by
 have same:∀{d:Sh},d.k=h.k->d.wt=h.wt->d.ws=h.ws->nG s'=nG s->nL s'=nL s->nM s'=nM s->mW wa x d (l+nG s') (i+nL s') (j+nM s'):=by intro d e1 e2 e3 e4 m n;refine⟨by rw[e1,e4];exact e.k,by rw[e2];exact e.wt,λhw=>?_,λhw=>?_⟩;rw[e2,e3,m,n];exact e.idle hw;rw[e1,e2,e3,m,n];exact e.wait hw
 have a:∀y,nG (hd y)=1/\nL (hd y)=0/\nM (hd y)=0:=λy=>by unfold hd;split<;>exact⟨rfl,rfl,rfl⟩
 have c:∀y,nG (k8 y)=1/\nL (k8 y)=0/\nM (k8 y)=0:=λy=>by unfold k8;split<;>exact⟨rfl,rfl,rfl⟩
 cases s with
 |w7=>exact b.elim
 |w8=>exact b.elim
 |pv=>exact b.elim
 |fin=>exact b.elim
 |l0=>obtain⟨_,rfl,rfl⟩|⟨_,rfl,rfl⟩:=b<;>exact same rfl rfl rfl rfl rfl rfl
 |r0=>obtain⟨rfl,rfl⟩:=b;exact same rfl rfl rfl (a _).1 (a _).2.1 (a _).2.2
 |sq y=>obtain⟨rfl,rfl|⟨_,rfl⟩⟩:=b;exact same rfl rfl rfl rfl rfl rfl;split<;>rename_i hc<;>simp only[hc]at same<;>exact same rfl rfl rfl rfl rfl rfl
 |c1 y=>obtain⟨_,rfl,rfl⟩|⟨_,rfl,rfl⟩:=b<;>exact same rfl rfl rfl rfl rfl rfl
 |r1 y=>obtain⟨rfl,rfl⟩:=b;exact same rfl rfl rfl (a _).1 (a _).2.1 (a _).2.2
 |r3 y=>obtain⟨rfl,rfl⟩:=b;exact same rfl rfl rfl (a _).1 (a _).2.1 (a _).2.2
 |c2 y=>
  obtain⟨_,rfl,rfl⟩|⟨_,rfl,rfl⟩:=b
  ·refine same rfl rfl rfl ?_ ?_ ?_<;>(split<;>(try split)<;>rfl)
  exact same rfl rfl rfl rfl rfl rfl
 |t1 y=>obtain⟨rfl,t,rfl⟩:=b;exact same rfl rfl rfl rfl rfl rfl
 |s1 y=>obtain⟨_,rfl,rfl⟩:=b;refine same rfl rfl rfl ?_ ?_ ?_<;>(split<;>rfl)
 |t2 y=>obtain⟨rfl,t,rfl⟩:=b;exact same rfl rfl rfl rfl rfl rfl
 |r2 y=>obtain⟨rfl,rfl⟩:=b;refine same rfl rfl rfl ?_ ?_ ?_<;>(split<;>first|rfl|exact(a _).1|exact(a _).2.1|exact(a _).2.2)
 |a1 y=>obtain⟨rfl,rfl⟩:=b;exact same rfl rfl rfl rfl rfl rfl
 |u0=>obtain⟨rfl,rfl⟩:=b;refine same rfl rfl rfl ?_ ?_ ?_<;>(split<;>first|rfl|exact(c _).1|exact(c _).2.1|exact(c _).2.2)
 |uc o=>obtain⟨_,rfl,rfl⟩|⟨_,rfl,rfl⟩:=b<;>exact same rfl rfl rfl rfl rfl rfl
 |ux=>obtain⟨rfl,rfl⟩:=b;exact same rfl rfl rfl (c _).1 (c _).2.1 (c _).2.2
 |ga=>
  obtain⟨rfl,rfl⟩:=b;obtain⟨g,f,h3,h4⟩:=e;simp only[nG,nL,nM]at g h3 h4;split
  ·rename_i hc;refine⟨by simp only[nG];(try dsimp only);omega,f,λhw=>?_,λhw=>?_⟩;have:=h3 hw;omega
   ·have:=h4 hw;simp only[nL,nM]
    (try dsimp only)
    omega
  ·rename_i hc;refine⟨by simp only[nG];(try dsimp only);omega,f,λhw=>?_,λhw=>?_⟩
   ·have:=h3 hw;simp only[nL,nM];(try dsimp only);omega
   ·have:=h4 hw;simp only[nL,nM]
    (try dsimp only)
    omega
 |gs=>
  obtain⟨rfl,rfl⟩:=b;obtain⟨g,f,h3,h4⟩:=e;simp only[nG,nL,nM]at g h3 h4;refine⟨?_,by(try dsimp only);omega,λhw=>?_,λhw=>?_⟩
  ·simp only[nG];obtain _|_:=wa
   have:=h3 rfl;omega;have:=h4 rfl;(try dsimp only);omega
  ·have:=h3 hw;(try dsimp only);simp only[nL,nM];omega
  have:=h4 hw;refine⟨this.1,?_,.inr ⟨?_,λh=>absurd h (by decide:¬(0=1)),λ_=>rfl⟩⟩;show 0+(j+1)+h.ws=1;omega;show i+0=0;omega
 |gm=>
  obtain⟨rfl,rfl⟩:=b;obtain⟨g,f,h3,h4⟩:=e;simp only[nG,nL,nM]at g h3 h4;refine⟨?_,f,λhw=>?_,λhw=>?_⟩
  ·simp only[nG];(try dsimp only);omega
  have:=h3 hw;omega
  ·have:=h4 hw;simp only[nL,nM]
   (try dsimp only)
   omega
 |us=>obtain⟨rfl,rfl⟩:=b;exact same rfl rfl rfl rfl rfl rfl
 |uh=>obtain⟨rfl,rfl⟩:=b;exact same rfl rfl rfl rfl rfl rfl
 |_=>obtain⟨rfl,rfl⟩:=b;exact same rfl rfl rfl rfl rfl rfl
def CK:St->Bool
 |.w7|.w8|.pv|.e1|.e2|.e3|.e4|.gx|.fin=>Y
 |_=>Z
section
variable{tM tW:Z4}{Mu Wg:Nat}{p:WP}{e:Int}{s:St}{h:Sh}{g:Ω}{w:ξ}{x:Lc}{wa:Bool}{y:Nat}{RO RA RT RQ RH RU RV RC RG RL RM B:Nat}
def yj(a:p.lk=muA Mu)(d:p.wg=stA Wg)(b:Mu≠Wg)(q:rQ h s RO RA RT RQ RH RU RV RC)(m:aaA h s)(t:rG B s)(G:B<1048576)(K:h.mu.c<=B)(A:h.ms<=1)(r:mW wa y h (RG+nG s) (RL+nL s) (RM+nM s))(D:h.k<1073741824)(u:h.ws<1000)
 (hw:ShAt tM tW Mu Wg w (dU h)) (j:CK s=Z) (hs:bh p e s g):
 (∃x,s=.s1 x/\h.ms=0/\stepG P0 Y g w=.go {g with status:=.blocked} w #[])\/Out tM tW Mu Wg p e s h g w:=by
 have hb:h.mu.c+2<268435455:=by omega
 have n:∀{x:Lc},nA s=(if x.aw then 1 else 0) ->x.aw=Z->h.mu.W=Z:=by intro x i C;rw[if_pos C]at i;exact(q.woken<|by omega).1
 cases s with
 |w7=>cases j
 |w8=>cases j
 |pv=>cases j
 |e1=>cases j
 |e2=>cases j
 |e3=>cases j
 |e4=>cases j
 |gx=>cases j
 |fin=>cases j
 |ld=>exact .inr<|aby hw hs
 |l0=>exact .inr<|abz a b hw hs
 |r0=>exact .inr<|abA a hb hw hs
 |sq x=>exact .inr<|abB (by have:x.old.c<=B:=t;omega) m hw hs
 |c1 x=>exact .inr<|abC a b (by have:x.old.c<=B:=t;omega) m hw hs
 |ds x=>exact .inr<|abD m hw hs
 |r1 x=>exact .inr<|abE a hb (n rfl) hw hs
 |r3 x=>exact .inr<|abF a hb (n rfl) hw hs
 |c2 x=>exact .inr<|abG a b (by have:x.old.c<=B:=t;omega) hw hs
 |t1 x=>exact .inr<|abH hw hs
 |s1 x=>
  by_cases h0:h.ms=0
  exact .inl ⟨x,rfl,h0,A8 a h0 hw hs⟩;exact .inr<|abI a b (by omega) hw hs
 |t2 x=>exact .inr<|abJ hw hs
 |r2 x=>
  refine .inr<|abK a hb (λv=>?_) (λv=>?_) hw hs;obtain⟨_,_,h3,_⟩:=q;obtain⟨h3,_⟩:=h3 v;cases hW':h.mu.W with
  |true=>rfl
  |false=>rw[hW']at h3;simp[nT]at h3
  obtain⟨i,_,_,h4⟩:=q;obtain⟨h5,H,E,F,J,l⟩:=h4 v;have:nT (.r2 x)=1:=rfl;refine⟨?_,h5,l⟩;cases hL':h.mu.L with
  |false=>rfl
  |true=>rw[hL']at i;simp at i;omega
 |a1 x=>
  obtain⟨i,_,_,h4⟩:=q;obtain⟨h5,H,E,F,J,l⟩:=h4 m.1;have:nH (.a1 x)=1:=rfl;refine .inr<|abL a b hb ?_ m.1 l hw hs;cases hL':h.mu.L with
  |false=>rfl
  |true=>rw[hL']at i;simp at i;omega
 |le f=>exact .inr<|abO hw hs
 |cv f=>exact .inr<|abP a hw hs
 |la f=>exact .inr<|abQ a hw hs
 |u1=>exact .inr<|abR a hw hs
 |uv=>exact .inr<|abS a hw hs
 |ur=>exact .inr<|abT a hw hs
 |ud=>exact .inr<|abU hw hs
 |u0=>
  refine .inr<|abV a b hb ?_ hw hs;have i:=q.1;cases hL':h.mu.L with
  |true=>rfl
  |false=>rw[hL']at i;simp[nO]at i
 |uc o=>exact .inr<|abW a b (by have:o.c<=B:=t;omega) m hw hs
 |ux=>exact .inr<|abX a hb hw hs
 |us=>exact .inr<|abY a b (by omega) hw hs
 |uh=>exact .inr<|abZ a b (by omega) hw hs
 |ue=>exact .inr<|ab0 hw hs
 |gv=>exact .inr<|ab1 d hw hs
 |gr=>exact .inr<|ab2 d hw hs
 |gd=>exact .inr<|ab3 hw hs
 |ga=>refine .inr<|ab4 d b ?_ D r.wt hw hs;have i:=r.k;have:nG .ga=1:=rfl;omega
 |gl=>
  have:nL .gl=1:=rfl;have z:h.wt=1/\h.k=0:=by
   obtain _|_:=wa
   have:=r.idle rfl;omega;have:=(r.wait rfl).2.2;omega
  exact .inr<|ab5 d z.2 z.1 hw hs
 |gs=>exact .inr<|ab6 d b hw hs
 |gm=>exact .inr<|ab7 d b u hw hs
 |gn=>exact .inr<|ab8 hw hs
end
end
end Ph
namespace Ph
open Go Go.Conc
section
def ab9:pS P0 83 Y:=λw a=>by kernel_rfl
def GB:pS P0 3 Y:=λw a=>by kernel_rfl
def Tv:pS P0 34 Y:=λw a=>by kernel_rfl
def aca:pS P0 104 Y:=λw a=>by kernel_rfl
def acb:pS P0 76 Z:=λw a=>by kernel_rfl
def L7:dt P0 76 2:=λw a=>by kernel_rfl
def aad:dt P0 34 1:=λw a=>by kernel_rfl
def L8:P0.underlying 83=R (.slice 34):=by kernel_rfl
def yk:bR P0 211 Y:=by rfl
def fh(p:WP)(e:Int)(E:Y')(n i:Nat)(s:St)(g:Ω):Prop:=
 match s with
 |.w7=>bj (fW p tw7 [] [aZ p]) [fB []] g
 |.w8=>∃g0,bj (fW p LB [pv 7 g0] [aZ p]) [fB []] g
 |.e2=>bj (fW p adL [(11,ZL (R E) n n),iv 6 e] [cT p,aZ p]) [fB []] g
 |.e3=>bj (fW p LE [(11,ZL (R E) n n),iv 12 i,iv 13 e] [cT p,aZ p]) [fB []] g
 |.e4=>bj (fW p Gm [pv 14 (E.add i),iv 13 e] [cT p,aZ p]) [fB []] g
 |s=>bh p e s g
section
variable{p:WP}{e:Int}{E:Y'}{n i:Nat}{g:Ω}{w:ξ}
def acd{g0}(hc:w p.gb=R (Ψ<|R g0))(hs:fh p e E n i .w7 g):stepG P0 Y g w=.go (fin (Ψ<|R g0) g) w #[⟨.cell p.gb,Y,Y⟩]/\
 bZ P0 Y 200 (bj (fW p LB [pv 7 g0] [aZ p]) [fB []]) (fin (Ψ<|R g0) g):=by
 exact⟨du (bj.head (λF=>by kernel_rfl) g hs) aca hc (by rw[bj.iX hs];exact yk),aba p g0 g hs⟩
def ace{g0 v1 v2}(hc:w (p.cb.add 0)=R v1)(b:w (p.cb.add 1)=R v2)(hs:bj (fW p LB [pv 7 g0] [aZ p]) [fB []] g):
 stepG P0 Y g w=.go (fin (.agg #[v1,v2]) g) w #[⟨.cell<|p.cb.add 0,Y,Y⟩,⟨.cell<|p.cb.add 1,Y,Y⟩]/\
 bZ P0 Y 200 (λg'=>∃a,bj (fW p QG [] [aZ p]) [fB []] (G a.head! a.tail)/\a≠[]/\g'={frame:=Frame.enter P0 213 #[Ψ (R g0),.agg #[v1,v2]] .normal,callers:=a,status:=.running,dying:=φ}) (fin (.agg #[v1,v2]) g):=by
 exact⟨jp (bj.head (λF=>by kernel_rfl) g hs) acb L7 hc b (by rw[bj.iX hs];exact yk),abb p g0 _ g hs⟩
def acf(hc:w p.eb=R (ZL (R E) n n))(hs:fh p e E n i .e1 g):stepG P0 Y g w=.go (fin (ZL (R E) n n) g) w #[⟨.cell p.eb,Y,Y⟩]/\
 bZ P0 Y 200 (fh p e E n i .e2) (fin (ZL (R E) n n) g):=by
 have a:=hs;exact⟨du (bj.head (λF=>by kernel_rfl) g a) ab9 hc (by rw[bj.iX a];exact yk),SR p e _ g a⟩
def acg(hc:w p.ib=R (Δ YX i))(hs:fh p e E n i .e2 g):stepG P0 Y g w=.go (fin i g) w #[⟨.cell p.ib,Y,Y⟩]/\
 bZ P0 Y 200 (fh p e E n i .e3) (fin i g):=by
 exact⟨du (bj.head (λF=>by kernel_rfl) g hs) GB hc (by rw[bj.iX hs];exact yk),SS p e i _ g hs⟩
def ach(hi:i<n)(hs:fh p e E n i .e3 g):stepG P0 Y g w=.go (fin (Ψ<|R<|E.add i) g) w #[]/\
 bZ P0 Y 200 (fh p e E n i .e4) (fin (Ψ<|R<|E.add i) g):=by
 exact⟨Ec (bj.head (λF=>by kernel_rfl) g hs:au g=R (G2 83 (ZL (R E) n n) i)) L8 aad hi,ST p e _ _ _ g hs⟩
def aci{v}(hc:w ((E.add i).add 0)=R v)(hz:w.frozen? ((E.add i).add 0)=Y)(hs:fh p e E n i .e4 g):
 stepG P0 Y g w=.go (fin undef g) (w.setCell ((E.add i).add 0) e) #[⟨.cell<|(E.add i).add 0,Z,Y⟩]/\
 bZ P0 Y 200 (fh p e E n i .u1) (fin undef g):=by
 have a:=hs;exact⟨iS (bj.head (λF=>by kernel_rfl) g a) aad rfl rfl hc hz (by rw[bj.iX a];exact yk),SU p e _ g a⟩
def acj{W cs}(hs:bj (fW p QG [] [aZ p]) [fB []] (G W cs)):bZ P0 Y 200 (fh p e E n i .ld) {frame:=W.finish e,callers:=cs,status:=.running,dying:=φ}:=abc p e (G W cs) hs
end
end
end Ph
