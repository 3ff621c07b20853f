/- A part of the proof of GcWhole; no conditions. -/
import Derived.Test.YtbnmpafbfoaggaaGreatDoorU0
import GoSem.Step
import Derived.StepT
import Derived.Laws.Sem
import Derived.Conc.Events
import Derived.KernelRfl
import Derived.Conc.Listed
import Derived.Conc.LoneCalls
import Derived.Conc.Beside
set_option linter.defProp false
set_option linter.unusedVariables false
set_option linter.unusedSimpArgs false
set_option maxRecDepth 100000
set_option maxHeartbeats 16000000
noncomputable section
open Bool renaming true->U,false_eq_true->Ξ,false->ο,and_eq_true->ξ,not_true->Ze
open Option renaming some->V,none->Z,isSome_some->ZM,map_eq_some_iff->Zf
open Go renaming Program->R,behindNumber->Ω,Goroutine->φ,World->κ,Value->ι,typeInfo->ζ,numberAt->ε,Sem->Y,zeroValue->ZZ,TypeId->ZY,FuncId->ZT,byteOf->ZN,cellAtBytes->ZE,resolve->ZD,doReturn->Zz,Tables->Zy,invoke->Zw,tryRecover->Zv,Frame->Zs,byteOfCell->Zp,viewAt->Zo,Obj->Zj,callMethod->Za,tryRecoverLoop->Y',Func->Y6,findLabel->Y0,Addr->YX,askRoom->YW,execOp->YV,callDeferred->YU,Machine->YT,storeVar->YL,callFunc->YC,runnable_eq->YA,underlying->Ys,storeCells->Yr,newRow->Yq,cellOfByte->Yn,loadVar->Yj
open Go.Builtin renaming firstCells->Ψ,zeroCells->ω,unsafeAdd_->η,mayShare->ZS,holdsCells->Zx,lenOf->Zm,ssaWrapNilChk_->Zi,nextslicecap->Zd,delete_->Y3,append_->Y2,copy_->YP,cap_->YI,len_->YH,min2->YG,max2->YF,max_->YE,min_->YD
open Go.Sem renaming run->Θ,run_bind->Δ,runT->Z4,bind->Z3,runT_bind'->ZJ,run_bind'->ZF,runT_fst->Zq,pure->Yp
open Array renaming getElem?_eq_some_iff->Γ,mem_append->θ,append_assoc->Z2,getElem?_setIfInBounds->Z1,getElem?_modify->ZR,getElem?_push->ZO,mem_singleton->Y8,all_eq_true->Y1
open List renaming mem_cons->ψ,contains_iff_mem->υ,range_succ->Zn,mem_singleton->YZ,mem_append->YB
open Go.World renaming shape?->χ,setCell->ZX,viewStore->YS,farStore->YM,cell?->Yk
open Go.Result renaming andThen_ok->μ,halt->Yt
open Go.Frame renaming enter->Z9,eval->Zk,round->Y9,catches->Yu,oper?->Ye
open Nat renaming le_refl->Z8,zero_add->ZK,le_trans->Zc,lt_of_lt_of_le->YY,add_assoc->Yl
open Go.Deferred renaming ofValue->Z7
open Go.stepG renaming exec->Z0,apply->ZH
open Go.Instr renaming getLoop->ZW,takeDeferred->ZV,endLoop->ZQ,enterLoop->ZP,checkKey->ZC,endRound->ZB,yield->Zb,sliceBounds->Y5,makeSlice->YR,mapUpdate->YN,sureAddr->YK,makeFunc->YJ,storeAt->Yz,indexAt->Yy,extract->Yx,makeMap->Yw,findKey->Yv,loadAt->Yo,lookup->Ym,alloc->Yi,panic->Yh,entry->Yf
open Pure renaming pure->ZU
open Go.Value renaming pointer->ZL,slice->Zt,float->Yg
open Go.Op renaming equalIn->ZI,stringOp->Zl,eqGuardIn->Y7,intArith->Y4,intBits->YQ,addrMod->YO
open Go.Extern.ReflectliteValue renaming set->ZG,method->Zh,elem->Zg
open Go.GStep renaming after->ZA
open Go.Goroutine renaming canRun->Zu
open Go.Question renaming forced->Zr
namespace Go.Proofs.YtbnmpafbfoaggaaGreatDoor
namespace gO
open Go
section
def eY{α:Type}:Result α->κ
 |.ok _ w=>w
 |.halt _ w=>w
def bE:Zj:=.view ⟨0,0,V 0⟩ 0
def mL(b:Nat)(u w:κ):Prop:=(∃c e,(∃f,u.heap[b]?=V (.cells #[] e f))/\∃f,w.heap[b]?=V (.cells c e f))\/u.heap[b]?=V bE
structure Rel(ok:Zj->Prop)(N:Nat)(S:Nat->Prop)(k:Nat)(u w:κ):Prop where
 OF:∀j q,j<k->w.tape (w.drawn+j) q=u.tape (u.drawn+j) q
 size:w.heap.size=u
 same:∀b,¬S b->w.heap[b]?=u.heap[b]?
 mask:∀b,S b->mL b u w
 high:∀b,S b->N<=b
 env:w.os.env=u.os.env
 safe:∀(b:Nat) o,u.heap[b]?=V o->ok o
def jG(S:Nat->Prop)(B:Nat)(e:Event):Prop:=
 match e.loc with
 |.cell a=>¬S a.block/\a.block<B
 |.obj r=>¬S r/\r<B
 |.mark .noRoom=>True
 |.mark (.extern _)=>True
 |.output=>True
 |_=>False
def jG.mono{S B B' e}(h:jG S B e)(hb:B<=B'):jG S B' e:=by
 obtain⟨loc,wr,b⟩:=e;cases loc with
 |cell a=>exact⟨h.1,YY h.2 hb⟩
 |obj r=>exact⟨h.1,YY h.2 hb⟩
 |output=>exact h
 |goroutines=>exact h
 |mark m=>cases m<;>first|exact h|trivial
structure kE(S:Nat->Prop)(u u' w w':κ):Prop where
 tape:w'.tape=w.tape
 os:w'.os=w.os
 output:w'.output=w.output
 drawn:w'.drawn+u.drawn=w.drawn+u'.drawn
 Cl:u'.tape=u.tape
 still:∀b,b<w.heap.size->S b->w'.heap[b]?=w.heap[b]?
def kE.refl{S}(u w):kE S u u w w:=⟨rfl,rfl,rfl,by omega,rfl,λ_ _ _=>rfl⟩
def kE.trans{S u d a w w' c}(h:kE S u d w w')(h':kE S d a w' c):kE S u a w c:=⟨h'.tape.trans h.tape,h'.os.trans h.os,h'.output.trans h.output,by have:=h.drawn;have:=h'.drawn;omega,h'.Cl.trans h.Cl,λb hb hs=>by have e:=h.still b hb hs;rw[Array.getElem?_eq_getElem hb]at e;rw[h'.still b (Γ.1 e).1 hs,h.still b hb hs]⟩
def Fy{α}(x:Ask α)(u:κ):u.drawn<=(u.ask x).2.drawn/\(u.ask x).2.heap=u.heap:=by
 induction x generalizing u with
 |done a=>exact⟨Z8 _,rfl⟩
 |ask b range k c=>
  simp only[World.ask]
  grind
def Fz(c)(u:κ):u.drawn<=(u.sys c).2.drawn/\(u.sys c).2.heap=u.heap:=by
 have h:=Fy (Kernel.perform c u.os) u;unfold World.sys
 grind
def td{P}{u c:κ}{a v at_ l}(h:u.farStore P a v at_=.ok (c,l)):c.drawn=u.drawn/\c.heap.size=u:=by
 unfold YM at h;split at h
 ·split at h
  ·rename_i r b;cases h
   unfold YS at b;simp only[bind,Except.bind,pure,Except.pure]at b
   repeat' split at b
   all_goals first|(cases b;done)|(cases b;simp)
  cases h
 cases h
def bY{α}(P)(x:Y α)(u):u.drawn<=(eY<|x.run P u).drawn/\u.heap.size<=(eY<|x.run P u).heap.size:=by
 induction x generalizing u with
 |pure a=>exact⟨Z8 _,.refl⟩
 |load m a k b=>
  simp only[Θ];split
  exact b _ _;split
  ·exact b _ _
  exact⟨Z8 _,.refl⟩
 |store m a v k b=>
  have d:u.drawn<=(eY (match u a with
   |some _=>if u.frozen? a then Yt (.unsupported<|.unsafePointer "a write to bytes that a string shares") u else k.run P (u.setCell a v)
   |none=>match u.farStore P a v (m==.atomic)with
    |.ok (w,_)=>k.run P w
    |.error h=>.halt h u)).drawn/\u.heap.size<=(eY (match u a with
   |some _=>if u.frozen? a then Yt (.unsupported<|.unsafePointer "a write to bytes that a string shares") u else k.run P (u.setCell a v)
   |none=>match u.farStore P a v (m==.atomic)with
    |.ok (w,_)=>k.run P w
    |.error h=>.halt h u)).heap.size:=by
   split
   split
   ·exact⟨Z8 _,.refl⟩
   have:=b<|u.setCell a v;simpa[ZX]using this;split
   ·rename_i e;have h:=td e;have:=b ‹κ›;omega
   exact⟨Z8 _,.refl⟩
  cases v<;>first|(simp only[Θ];exact d)|(simp only[Θ,eY];exact⟨Z8 _,.refl⟩)
 |new o k b=>simp only[Θ];have:=b u {u with heap:=u.heap.push o};simp only[Array.size_push]at this;exact⟨this.1,by omega⟩
 |shape r k b=>simp only[Θ];exact b _ _
 |freeze a n k b=>simp only[Θ];have:=b<|u.freeze a n;unfold World.freeze at this⊢;split at this<;>simp_all
 |frozen a k b=>simp only[Θ];exact b _ _
 |getObj r k b=>
  simp only[Θ];split
  exact⟨Z8 _,.refl⟩;exact b _ _;exact⟨Z8 _,.refl⟩
 |setObj r o k b=>
  simp only[Θ];split
  exact⟨Z8 _,.refl⟩;have:=b {u with heap:=u.heap.setIfInBounds r o};simpa using this;exact⟨Z8 _,.refl⟩
 |choose q k b=>
  simp only[Θ]
  grind
 |sys c k b=>simp only[Θ];have h:=Fz c u;have:=b (u.sys c).1 (u.sys c).2;rw[h.2]at this;exact⟨Zc h.1 this.1,this.2⟩
 |program k b=>simp only[Θ];exact b _ _
 |mark m k b=>simp only[Θ];exact b _
 |halt h=>exact⟨Z8 _,.refl⟩
section
variable(ok:Zj->Prop)(N:Nat)(S:Nat->Prop)(P Q:R)
def kF{α:Type}(k:Nat)(u w:κ)(y:Y α):Result α->Prop
 |.ok a u'=>u'.drawn<=u.drawn+k->∃(w':κ) (es':Array Event),(∀es,y.runT Q w es=(.ok a w',es++es'))/\Rel ok N S (u.drawn+k-u'.drawn) u' w'/\kE S u u' w w'/\∀e∈es',jG S u' e
 |.halt (.panic v) u'=>u'.drawn<=u.drawn+k->∃(w':κ) (es':Array Event),(∀es,y.runT Q w es=(.halt (.panic v) w',es++es'))/\Rel ok N S (u.drawn+k-u'.drawn) u' w'/\kE S u u' w w'/\∀e∈es',jG S u' e
 |.halt .goexit u'=>u'.drawn<=u.drawn+k->False
 |.halt _ _=>True
variable{β:Type}{u1:κ}{α:Type}
def bO{α:Type}(x y:Y α):Prop:=∀k u w,Rel ok N S k u w->kF ok N S Q k u w y (x.run P u)
variable{ok N S P Q}
def bO.pure(a:α):bO ok N S P Q (.pure a) (.pure a):=by intro k u w h _;exact⟨w,#[],λb=>by simp,by rw[show u.drawn+k-u.drawn=k by omega];exact h,.refl _ _,by simp⟩
def bO.panic(v):bO ok N S P Q (.halt (.panic v):Y α) (.halt<|.panic v):=by intro k u w h _;exact⟨w,#[],λa=>by simp,by rw[show u.drawn+k-u.drawn=k by omega];exact h,.refl _ _,by simp⟩
def bO.stop{x y:Y α}(h:∀u,∃r a,x.run P u=.halt r a/\(∀v,r≠.panic v)/\r≠.goexit):bO ok N S P Q x y:=by intro k u w _;obtain⟨r,a,e,b⟩:=h u;rw[e];cases r<;>first|trivial|exact absurd rfl (b.1 _)|exact absurd rfl b.2
def bO.bind{x y}{f g:α->Y β}(h:bO ok N S P Q x y)(q:∀a,bO ok N S P Q (f a)<|g a):bO ok N S P Q (x.bind f) (y.bind g):=by
 intro k u w B;have m:=h k u w B;rw[ZF];cases hx:x.run P u with
 |ok a u1=>
  rw[hx]at m;simp only[μ];have t:=bY P (f a) u1;have n:=bY P x u;rw[hx]at n;simp only[eY]at n;have fin:∀u2,eY ((f a).run P u1)=u2->u2.drawn<=u.drawn+k->∃(d:κ) (c:Array Event),(∀o,y.runT Q w o=(.ok a d,o++c))/\Rel ok N S (u.drawn+k-u1.drawn) u1 d/\kE S u u1 w d/\(∀e∈c,jG S u1 e)/\u1.heap.size<=u2/\u1.drawn<=u2.drawn:=by intro u2 e2 hd;rw[e2]at t;obtain⟨d,c,r1,r2,r3,r4⟩:=m (by omega);exact⟨d,c,r1,r2,r3,r4,t.2,t.1⟩
  cases hf2:(f a).run P u1 with
  |ok b u2=>
   intro hd;obtain⟨d,c,r1,r2,r3,r4,r5,r6⟩:=fin u2 (by rw[hf2];rfl) hd;have j:=q a _ u1 d r2;rw[hf2]at j;obtain⟨z,l,q1,A,p,r⟩:=j (by omega);refine⟨z,c++l,λo=>?_,?_,r3.trans p,?_⟩;rw[ZJ,r1];simp only;rw[q1,Z2];rw[show u.drawn+k-u2.drawn=u1.drawn+(u.drawn+k-u1.drawn) -u2.drawn by omega];exact A;intro e i;obtain i|i:=θ.1 i
   exact(r4 e i).mono r5;exact r e i
  |halt s u2=>
   cases s with
   |panic v=>
    intro hd;obtain⟨d,c,r1,r2,r3,r4,r5,r6⟩:=fin u2 (by rw[hf2];rfl) hd;have j:=q a _ u1 d r2;rw[hf2]at j;obtain⟨z,l,q1,A,p,r⟩:=j (by omega);refine⟨z,c++l,λo=>?_,?_,r3.trans p,?_⟩;rw[ZJ,r1];simp only;rw[q1,Z2];rw[show u.drawn+k-u2.drawn=u1.drawn+(u.drawn+k-u1.drawn) -u2.drawn by omega];exact A;intro e i;obtain i|i:=θ.1 i
    exact(r4 e i).mono r5;exact r e i
   |goexit=>intro hd;obtain⟨d,c,r1,r2,r3,r4,r5,r6⟩:=fin u2 (by rw[hf2];rfl) hd;have j:=q a _ u1 d r2;rw[hf2]at j;exact j (by omega)
   |_=>trivial
 |halt s u1=>
  rw[hx]at m;simp only[Result.andThen_halt];cases s with
  |panic v=>intro hd;obtain⟨d,c,r1,r2,r3,r4⟩:=m hd;exact⟨d,c,λo=>by rw[ZJ,r1],r2,r3,r4⟩
  |goexit=>exact m
  |_=>trivial
def ip{x y:Y α}{f g:α->Y β}{k u w a}(s:x.run P u=.ok a u1)(r:kF ok N S Q k u w y (.ok a u1))(m:∀w1,Rel ok N S (u.drawn+k-u1.drawn) u1 w1->kF ok N S Q (u.drawn+k-u1.drawn) u1 w1 (g a) ((f a).run P u1)):kF ok N S Q k u w (y.bind g) ((x.bind f).run P u):=by
 rw[ZF,s];simp only[μ];have j:=bY P (f a) u1;have fin:∀u2,eY ((f a).run P u1)=u2->u2.drawn<=u.drawn+k->∃(w1:κ) (c:Array Event),(∀i,y.runT Q w i=(.ok a w1,i++c))/\Rel ok N S (u.drawn+k-u1.drawn) u1 w1/\kE S u u1 w w1/\(∀e∈c,jG S u1 e)/\u1.heap.size<=u2/\u1.drawn<=u2.drawn:=by intro u2 e2 hd;rw[e2]at j;obtain⟨w1,c,r1,r2,r3,r4⟩:=r (by omega);exact⟨w1,c,r1,r2,r3,r4,j.2,j.1⟩
 cases hf2:(f a).run P u1 with
 |ok b u2=>
  intro hd;obtain⟨w1,c,r1,r2,r3,r4,r5,r6⟩:=fin u2 (by rw[hf2];rfl) hd;have h3:=m w1 r2;rw[hf2]at h3;obtain⟨n,h,q1,p,o,l⟩:=h3 (by omega);refine⟨n,c++h,λi=>?_,?_,r3.trans o,?_⟩;rw[ZJ,r1];simp only;rw[q1,Z2];rw[show u.drawn+k-u2.drawn=u1.drawn+(u.drawn+k-u1.drawn) -u2.drawn by omega];exact p;intro e d;obtain d|d:=θ.1 d
  exact(r4 e d).mono r5;exact l e d
 |halt q u2=>
  cases q with
  |panic v=>
   intro hd;obtain⟨w1,c,r1,r2,r3,r4,r5,r6⟩:=fin u2 (by rw[hf2];rfl) hd;have h3:=m w1 r2;rw[hf2]at h3;obtain⟨n,h,q1,p,o,l⟩:=h3 (by omega);refine⟨n,c++h,λi=>?_,?_,r3.trans o,?_⟩;rw[ZJ,r1];simp only;rw[q1,Z2];rw[show u.drawn+k-u2.drawn=u1.drawn+(u.drawn+k-u1.drawn) -u2.drawn by omega];exact p;intro e d;obtain d|d:=θ.1 d
   exact(r4 e d).mono r5;exact l e d
  |goexit=>intro hd;obtain⟨w1,c,r1,r2,r3,r4,r5,r6⟩:=fin u2 (by rw[hf2];rfl) hd;have h3:=m w1 r2;rw[hf2]at h3;exact h3 (by omega)
  |_=>trivial
def bO.bind'{x y}{f g:α->Y β}(h:bO ok N S P Q x y)(b:∀a,bO ok N S P Q (f a)<|g a):bO ok N S P Q (x>>=f) (y>>=g):=h.bind b
def bO.pure'(a:α):bO ok N S P Q (ZU a) (ZU a):=.pure a
def bO.program{k j:R->Y α}(h:bO ok N S P Q (k P) (j Q)):bO ok N S P Q (.program k) (.program j):=h
def bO.choose{α}(q){k j:Nat->Y α}(h:∀n,bO ok N S P Q (k n)<|j n):bO ok N S P Q (.choose q k) (.choose q j):=by
 intro n u w b;simp only[Θ];split
 rename_i m;have:=h 0 n u w b;have e:∀c,(Sem.choose q j).runT Q w c=(j 0).runT Q w c:=λc=>by simp only[Z4,m,if_true]
 revert this
 cases (k 0).run P u with
 |ok a g=>simp only[kF,e];exact id
 |halt p g=>cases p<;>simp only[kF,e]<;>exact id
 rename_i m;have f:=bY P (k<|q.cut<|u.tape u.drawn q) {u with drawn:=u.drawn+1};have e:0<n->∀c,(Sem.choose q j).runT Q w c=(j<|q.cut<|u.tape u.drawn q).runT Q {w with drawn:=w.drawn+1} c:=λd c=>by have:=b.OF 0 q d;simp only[Nat.add_zero]at this;simp only[Z4,m,this];rfl
 have step:0<n->kF ok N S Q (n-1) {u with drawn:=u.drawn+1} {w with drawn:=w.drawn+1} (j<|q.cut<|u.tape u.drawn q) ((k<|q.cut<|u.tape u.drawn q).run P {u with drawn:=u.drawn+1}):=λd=>h _ (n-1) _ _ ⟨λi r hi=>by have:=b.OF (i+1) r (by omega);simpa[Yl,Nat.add_comm 1 i]using this,b.size,b.same,b.mask,b.high,b.env,b.safe⟩
 revert step f
 cases (k<|q.cut<|u.tape u.drawn q).run P {u with drawn:=u.drawn+1}with
 |ok a g=>
  intro f step hd;simp only[eY]at f;have d:0<n:=by omega
  obtain⟨o,l,r1,r2,r3,r4⟩:=step d (by simp only;omega);refine⟨o,l,λc=>by rw[e d,r1],?_,⟨r3.tape,r3.os,r3.output,by have:=r3.drawn;simp only at this;omega,r3.Cl,r3.still⟩,r4⟩;rw[show u.drawn+n-g.drawn=u.drawn+1+(n-1) -g.drawn by omega];exact r2
 |halt p g=>
  cases p with
  |panic v=>
   intro f step hd;simp only[eY]at f;have d:0<n:=by omega
   obtain⟨o,l,r1,r2,r3,r4⟩:=step d (by simp only;omega);refine⟨o,l,λc=>by rw[e d,r1],?_,⟨r3.tape,r3.os,r3.output,by have:=r3.drawn;simp only at this;omega,r3.Cl,r3.still⟩,r4⟩;rw[show u.drawn+n-g.drawn=u.drawn+1+(n-1) -g.drawn by omega];exact r2
  |goexit=>intro f step hd;simp only[eY]at f;exact step (by omega) (by simp only;omega)
  |_=>intros;trivial
structure uf(ok:Zj->Prop):Prop where
 cells:∀c e f,ok (.cells c e f)
 view:∀a t,ok (.view a t) ->a.spot.isSome=U
def qR{w:κ}{a v}(h:w a=V v):∃c e f,w.heap[a.block]?=V (.cells c e f)/\a.spot.isSome=ο/\c[a.off]?=V v:=by
 unfold Yk at h
 grind
def Rel.cell{k u w}(h:Rel ok N S k u w){a v}(i:u a=V v):w a=V v/\¬S a.block/\a.block<u:=by
 obtain⟨c,e,f,d,j,h3⟩:=qR i;have g:¬S a.block:=by
  intro hs;obtain⟨_,l,⟨_,b⟩,_⟩|b:=h.mask _ hs
  grind
  rw[d]at b;cases b
 refine⟨?_,g,?_⟩;unfold Yk;rw[h.same _ g,d];simp[j,h3];exact(Γ.1 d).1
def Rel.heap{k u w}(h:Rel ok N S k u w){r o}(a:u.heap[r]?=V o)(j:∀c e f,o≠.cells c e f)(g:o≠bE):w.heap[r]?=V o/\¬S r/\r<u:=by
 have b:¬S r:=by
  intro hs;obtain⟨_,i,⟨_,d⟩,_⟩|d:=h.mask _ hs
  grind
  grind
 exact⟨(h.same _ b).trans a,b,(Γ.1 a).1⟩
def kL(w:κ)(a s):(∀v,w.noCell a s≠.panic v)/\w.noCell a s≠.goexit:=by unfold World.noCell;split<;>simp
def seen_spot(P)(w:κ)(x t k b)(hs:x.spot.isSome=U):w.seen P x t k b=.error "memory seen as another type: a place without cells":=by unfold World.seen;rw[if_pos (by grind)];rfl
def xb(b:uf ok){k u w}(h:Rel ok N S k u w)(P a at_):∃e,u.farLoad P a at_=.error e/\(∀v,e≠.panic v)/\e≠.goexit:=by
 unfold World.farLoad;split
 rename_i x t c;have e:u.viewLoad P x t a at_=.error "memory seen as another type: a place without cells":=by unfold World.viewLoad;rw[seen_spot _ _ _ _ _ _ (b.view _ _<|h.safe _ _ c)];rfl
 simp_all
 exact⟨_,rfl,kL _ _ _⟩
def vf(c:uf ok){k u w}(h:Rel ok N S k u w)(P a v at_):∃e,u.farStore P a v at_=.error e/\(∀v,e≠.panic v)/\e≠.goexit:=by
 unfold YM;split
 rename_i x t d;have e:∃s,u.viewStore P x t a v at_=.error s:=by
  unfold YS;rw[seen_spot _ _ _ _ _ _ (c.view _ _<|h.safe _ _ d)];by_cases b:(!tight P P.depth t)=U
  exact⟨_,by rw[if_pos b];rfl⟩;exact⟨_,by rw[if_neg b];rfl⟩
 obtain⟨s,e⟩:=e;rw[e];exact⟨_,rfl,by simp⟩;exact⟨_,rfl,kL _ _ _⟩
def bT{k u w}{y:Y α}{e a}(h:(∀v,e≠.panic v)/\e≠.goexit):kF ok N S Q k u w y (.halt e a):=by cases e<;>first|trivial|exact absurd rfl (h.1 _)|exact absurd rfl h.2
def vY{k u w w1 y z ev}{r:Result α}(hz:∀es,y.runT Q w es=z.runT Q w1 (es.push ev))(hd:u1.drawn=u.drawn)(j:kE S u u1 w w1)(d:jG S u1 ev)(g:u1.heap.size<=(eY r).heap.size)(h:kF ok N S Q k u1 w1 z r):kF ok N S Q k u w y r:=by
 cases r with
 |ok a m=>
  intro i;obtain⟨f,c,r1,r2,r3,r4⟩:=h (by omega);refine⟨f,#[ev]++c,λes=>?_,by rw[hd]at r2;exact r2,j.trans r3,λe b=>?_⟩;rw[hz,r1,<-Z2];simp;obtain b|b:=θ.1 b
  ·rw[Y8.1 b];exact d.mono g
  exact r4 e b
 |halt l m=>
  cases l with
  |panic v=>
   intro i;obtain⟨f,c,r1,r2,r3,r4⟩:=h (by omega);refine⟨f,#[ev]++c,λes=>?_,by rw[hd]at r2;exact r2,j.trans r3,λe b=>?_⟩;rw[hz,r1,<-Z2];simp;obtain b|b:=θ.1 b
   ·rw[Y8.1 b];exact d.mono g
   exact r4 e b
  |goexit=>exactλi=>h (by omega)
  |_=>trivial
def jH{k u w w1 y z}{r:Result α}(hz:∀es,y.runT Q w es=z.runT Q w1 es)(hd:u1.drawn=u.drawn)(e:kE S u u1 w w1)(h:kF ok N S Q k u1 w1 z r):kF ok N S Q k u w y r:=by
 cases r with
 |ok a g=>intro d;obtain⟨c,b,r1,r2,r3,r4⟩:=h (by omega);exact⟨c,b,λes=>by rw[hz,r1],by rw[hd]at r2;exact r2,e.trans r3,r4⟩
 |halt f g=>
  cases f with
  |panic v=>intro d;obtain⟨c,b,r1,r2,r3,r4⟩:=h (by omega);exact⟨c,b,λes=>by rw[hz,r1],by rw[hd]at r2;exact r2,e.trans r3,r4⟩
  |goexit=>exactλd=>h (by omega)
  |_=>trivial
def bO.load(i:uf ok)(m a){k j:ι->Y α}(h:∀v,bO ok N S P Q (k v)<|j v):bO ok N S P Q (.load m a k) (.load m a j):=by
 intro n u w b;simp only[Θ];split
 rename_i v d;obtain⟨l,g,h3⟩:=b.cell d;refine vY (ev:=⟨.cell a,ο,m==.atomic⟩) (λo=>by simp only[Z4,l]) rfl (.refl _ _) ⟨g,h3⟩ (bY P (k v) u).2<|h v n u w b;obtain⟨e,f,c⟩:=xb i b P a<|m==.atomic;simp only[f];exact bT c
def xf{k u w}(b:Rel ok N S k u w){a}(c:¬S a.block):w.frozen? a=u.frozen? a:=by unfold World.frozen?;rw[b.same _ c]
def Rel.setCell(h:uf ok){k u w}(d:Rel ok N S k u w)(a v)(i:¬S a.block):Rel ok N S k (u.setCell a v) (w.setCell a v):=by
 refine⟨d.OF,by simp[ZX,d.size],λb hb=>?_,λb hb=>?_,d.high,d.env,λb o c=>?_⟩;simp only[ZX,ZR,d.same b hb];have f:a.block≠b:=λe=>i<|e▸hb;have:=d.mask b hb;simpa only[mL,ZX,ZR,f,if_false]using this;simp only[ZX,ZR]at c;split at c
 rename_i j;cases hu:u.heap[b]? with
 |none=>rw[hu]at c;cases c
 |some g=>rw[hu]at c;simp at c;have:=d.safe b g hu;cases g<;>simp only at c<;>subst c<;>first|exact h.cells _ _ _|exact this
 exact d.safe b o c
def bO.store(o:uf ok){α}(m a v){k j:Y α}(h:bO ok N S P Q k j):bO ok N S P Q (.store m a v k) (.store m a v j):=by
 intro n u w d;have i:(∀l,v≠.agg l) ->(∀l,v≠.tuple l) ->kF ok N S Q n u w (.store m a v j) ((Sem.store m a v k).run P u):=by
  intro p q;have e1:(Sem.store m a v k).run P u=match u a with
   |some _=>if u.frozen? a then .halt (.unsupported<|.unsafePointer "a write to bytes that a string shares") u else k.run P (u.setCell a v)
   |none=>match u.farStore P a v (m==.atomic)with
    |.ok (w,_)=>k.run P w
    |.error h=>.halt h u:=by
   cases v<;>first|rfl|exact absurd rfl (p _)|exact absurd rfl<|q _
  rw[e1];split
  rename_i v0 y;obtain⟨r,c,h3⟩:=d.cell y;split
  exact bT (by simp);rename_i t;have g:¬w.frozen? a=U:=by rw[xf d c];exact t
  refine vY (u1:=u.setCell a v) (w1:=w.setCell a v) (z:=j) (ev:=⟨.cell a,U,m==.atomic⟩) (λA=>?_) rfl ⟨rfl,rfl,rfl,rfl,rfl,λb _ hs=>by have f:a.block≠b:=λe=>c<|e▸hs;simp only[ZX,ZR,f,if_false]⟩ ⟨c,by simpa[ZX]using h3⟩ (bY P k (u.setCell a v)).2 (h n _ _ (d.setCell o a v c))
  cases v<;>first|(simp only[Z4,r,g];rfl)|exact absurd rfl (p _)|exact absurd rfl<|q _
  obtain⟨e,x,s⟩:=vf o d P a v<|m==.atomic;simp only[x];exact bT s
 cases v with
 |agg _=>exact bT (by simp)
 |tuple _=>exact bT (by simp)
 |_=>exact i (by simp) (by simp)
def Rel.push{k u w}(a:Rel ok N S k u w)(o)(j:ok o):Rel ok N S k {u with heap:=u.heap.push o} {w with heap:=w.heap.push o}:=by
 refine⟨a.OF,by simp[a.size],λb hb=>?_,λb hb=>?_,a.high,a.env,λb i c=>?_⟩;simp only[ZO,a.size,a.same b hb];have d:=a.mask b hb;have f:b<u:=by obtain⟨_,_,⟨_,e⟩,_⟩|e:=d<;>exact(Γ.1 e).1
 have g:¬b=u:=by omega
 have h:¬b=w:=by have:=a.size;omega
 simpa only[mL,ZO,g,h,if_false]using d;simp only[ZO]at c;split at c
 grind
 exact a.safe b i c
def bO.new(o)(c:ok o){k j:Nat->Y α}(h:∀r,bO ok N S P Q (k r)<|j r):bO ok N S P Q (.new o k) (.new o j):=by
 intro n u w a;exact jH (u1:={u with heap:=u.heap.push o}) (w1:={w with heap:=w.heap.push o}) (λe=>by simp only[Z4,a.size]) rfl ⟨rfl,rfl,rfl,rfl,rfl,λb hb _=>by
  have d:¬b=w:=by omega
  simp only[ZO,d,if_false]⟩ (h _ n _ _ (a.push o c))
def vg{α:Type}(P:R)(x:Y α):Prop:=∀u,∃r u',x.run P u=.halt r u'/\(∀v,r≠.panic v)/\r≠.goexit
def bO.getObj(r){k j:Zj->Y α}(f:vg P (k bE))(h:∀o,ok o->¬S r->bO ok N S P Q (k o) (j o)):bO ok N S P Q (.getObj r k) (.getObj r j):=by
 intro n u w b;simp only[Θ];split
 trivial;rename_i o l c;by_cases a:o=bE
 subst a;obtain⟨m,q,e,g⟩:=f u;rw[e];exact bT g;obtain⟨i,d,h3⟩:=b.heap c l a;refine vY (u1:=u) (w1:=w) (z:=j o) (ev:=⟨.obj r,ο,o.isChan⟩) (λp=>?_) rfl (.refl _ _) ⟨d,h3⟩ (bY P (k o) u).2<|h o (b.safe _ _ c) d n u w b;simp only[Z4,i];trivial
def Rel.setObj{k u w}(a:Rel ok N S k u w)(r o)(h:ok o)(f:¬S r):Rel ok N S k {u with heap:=u.heap.setIfInBounds r o} {w with heap:=w.heap.setIfInBounds r o}:=by
 refine⟨a.OF,by simp[a.size],λb hb=>?_,λb hb=>?_,a.high,a.env,λb g c=>?_⟩;simp only[Z1,a.size,a.same b hb];have d:r≠b:=λe=>f<|e▸hb;have:=a.mask b hb;simpa only[mL,Z1,d,if_false]using this;simp only[Z1]at c;split at c
 grind
 exact a.safe b g c
def bO.setObj{α}(r o)(g:ok o)(c:¬S r){k j:Y α}(h:bO ok N S P Q k j):bO ok N S P Q (.setObj r o k) (.setObj r o j):=by
 intro n u w f;simp only[Θ];split
 trivial;rename_i i m a;refine vY (u1:={u with heap:=u.heap.setIfInBounds r o}) (w1:={w with heap:=w.heap.setIfInBounds r o}) (z:=j) (ev:=⟨.obj r,U,o.isChan⟩) (λl=>?_) rfl ⟨rfl,rfl,rfl,rfl,rfl,λb _ hs=>by
  have d:r≠b:=λe=>c<|e▸hs;simp only[Z1,d,if_false]⟩ ⟨c,by simpa using ((Γ.1 a).1)⟩
  (by have:=(bY P k {u with heap:=u.heap.setIfInBounds r o}).2;simpa using this) (h n _ _<|f.setObj r o g c)
 simp only[Z4,((f.same _ c).trans a)];trivial
def bO.mark{α}(m)(a:m=.noRoom\/∃f,m=.extern f){k j:Y α}(h:bO ok N S P Q k j):bO ok N S P Q (.mark m k) (.mark m j):=by intro n u w b;refine vY (ev:=⟨.mark m,ο,U⟩) (λc=>by simp only[Z4]) rfl (.refl _ _) ?_ (bY P k u).2<|h n u w b;obtain rfl|⟨f,rfl⟩:=a<;>trivial
def bO.env{α}{k j:SysRet->Y α}(h:∀l,bO ok N S P Q (k<|.strings l)<|j<|.strings l):bO ok N S P Q (.sys .env k) (.sys .env j):=by intro n u w a;have e:∀x:κ,x.sys .env=(.strings x.os.env,x):=λx=>rfl;refine vY (ev:=⟨.output,U,ο⟩) (λb=>by simp only[Z4,e,a.env]) rfl (.refl _ _) trivial (bY P _ u).2<|h _ n u w a
end
end
section
structure Ctx where
 ok:Zj->Prop
 S:Nat->Prop
 T:Zy
 F:Array Y6
 G:Array Y6
 K0:uf ok
 map:∀es c,ok (.map es c)
 mapIter:∀m a b c,ok (.mapIter m a b c)
 stringIter:∀s p,ok (.stringIter s p)
 number:∀a b,ok (.number a b)
 tX:Code->Prop
 okF:ZT->Prop
 loop:∀l,ok (.loop l)↔okF l.fn/\tX l.assign/\tX l.body/\∀j,l.pending=V j->tX j
 deferred:∀d,ok (.deferred d)↔d=Z\/d=V []
def Ctx.P(c:Ctx):R:=⟨c.T,c.F⟩
def Ctx.Q(c:Ctx):R:=⟨c.T,c.G⟩
def TT(c:Ctx){α:Type}(x:Y α):Prop:=bO c.ok c.T.globals.size c.S c.P c.Q x x
section
variable{c:Ctx}
def bX{α}(a:α):TT c (ZU a):=bO.pure' a
def ae{e b x}{f:e->Y b}(h:TT c x)(d:∀a,TT c<|f a):TT c (x>>=f):=bO.bind' h d
def FA{d b x}{f:d->b}(h:TT c x):TT c (Functor.map f x):=bO.bind h λa=>bO.pure<|f a
def qA{α}{x:Y α}(h:vg c.P x):TT c x:=bO.stop h
def aI{a p}[Decidable p]{x y:Y a}(h:p->TT c x)(h':¬p->TT c y):TT c (if p then x else y):=by grind
def ch{α}(s):TT c (stuck s:Y α):=bO.stop λu=>⟨_,u,rfl,by simp⟩
def dx{α}(x):TT c (unsupported x:Y α):=bO.stop λu=>⟨_,u,rfl,by simp⟩
def vZ{α}(v):TT c (goPanic v:Y α):=bO.panic v
def Cm(a m):TT c (load a m):=bO.load c.K0 m a λv=>bO.pure v
def FB(a v m):TT c (store a v m):=bO.store c.K0 m a v<|bO.pure ()
def pP(q):TT c (choose q):=bO.choose q λn=>bO.pure n
def kM(o)(h:c.ok o):TT c (newObj o):=bO.new o h λr=>bO.pure r
def te:TT c (mark .noRoom):=bO.mark _ (.inl rfl)<|bO.pure ()
def tg(f):TT c (mark<|.extern f):=bO.mark _ (.inr ⟨f,rfl⟩)<|bO.pure ()
def qS{α}{f:R->Y α}(h:bO c.ok c.T.globals.size c.S c.P c.Q (f c.P) (f c.Q)):TT c (program>>=f):=bO.program h
def aM{α}{f:R->Y α}(e:f c.Q=f c.P)(h:TT c (f c.P)):TT c (program>>=f):=qS (by rw[e];exact h)
def dg{α}(r){f:Zj->Y α}(a:vg c.P (f bE))(h:∀o,c.ok o->¬c.S r->TT c (f o)):TT c (getObj r>>=f):=bO.getObj r a h
def sX(r o)(h:c.ok o)(a:¬c.S r):TT c (setObj r o):=bO.setObj r o h a<|bO.pure ()
def cl{a P}(s):vg P (stuck s:Y a):=λu=>⟨_,u,rfl,by simp⟩
def f8{c a P x}{f:c->Y a}(h:vg P x):vg P (x>>=f):=by intro u;obtain⟨r,d,e,b⟩:=h u;exact⟨r,d,by rw[Δ,e];rfl,b⟩
def bF(t):TT c (ζ t):=by
 refine aM rfl ?_;split
 exact bX _;exact ch _
def aN(t):TT c (Ys t):=by
 refine aM rfl ?_;split
 exact bX _;exact ch _
def qT(n):TT c (cutType n):=by
 refine aM rfl ?_;split
 exact bX _;exact ch _
def cS(t):TT c (ZZ t):=by
 refine ae (bF t) λi=>?_;split
 exact bX _;exact dx _
def cX(t):TT c (sizeOf t):=ae (bF t) λ_=>bX _
def xg(t):TT c (isAgg t):=by refine ae (aN t) λd=>?_;split<;>exact bX _
def Av(t):TT c (typeStr t):=by refine ae (bF t) λi=>aI (λ_=>dx _) λ_=>bX _
theorem jc(a:YX):∀(n i:Nat) (acc:Array ι),TT c (loadCellsFrom a i n acc)
 |0,_,_=>bX _
 |n+1,i,acc=>ae (Cm _ _) λv=>jc a n (i+1)<|acc.push v
def nu(a n):TT c (loadCells a n):=jc a n 0 #[]
theorem eQ(a:YX):∀(vs:List ι) (i:Nat),TT c (Yr a vs i)
 |[],_=>bX _
 |_::vs,i=>ae (FB _ _ _) λ_=>eQ a vs<|i+1
def fa(t a):TT c (Yj t a):=by refine ae (xg t) λb=>aI (λ_=>?_) λ_=>Cm _ _;exact ae (cX t) λn=>ae (nu a n) λ_=>bX _
def iL(t a v):TT c (YL t a v):=by
 refine ae (cX t) λn=>?_;split
 exact ae (ch _) λ_=>eQ _ _ _;exact eQ _ _ _
def lH(e cs):TT c (Yq e cs):=ae (kM _<|c.K0.cells _ _ _) λ_=>bX _
def iq(t v):TT c (newVar t v):=lH _ _
def oC(t):TT c (elemOf t):=by
 refine ae (aN t) λd=>?_;split
 exact bX _;exact ch _
def ij(t cs off):TT c (part t cs off):=by
 refine ae (xg t) λb=>aI (λ_=>ae (cX t) λn=>bX _) λ_=>?_;split
 exact bX _;exact ch _
def jI(v):TT c (asIntOf v):=by
 unfold asIntOf;split
 exact bX _;exact dx _;exact ch _
def jd(v):TT c (asInt v):=ae (jI v) λ_=>bX _
def lI(v):TT c (asBool v):=by
 unfold asBool;split
 exact bX _;exact ch _
def QC(v):TT c (asString v):=by
 unfold asString;split
 exact bX _;exact ch _
def FC(v):TT c (asAgg v):=by
 unfold asAgg;split
 exact bX _;exact ch _
def aO{α}(e):TT c (runtimePanic e:Y α):=by
 refine aM rfl ?_;cases e with
 |typeAssertion i d a m=>exact ae (oC _) λ_=>ae (iq _ _) λ_=>vZ _
 |panicNil=>exact ae (oC _) λ_=>ae (iq _ _) λ_=>vZ _
 |_=>exact vZ _
def iw{α}(k x y b):TT c (boundsPanic k x y b:Y α):=by exact aI (λ_=>ae (FA<|pP _) λ_=>aO _) λ_=>ae (bX _) λ_=>aO _
def lJ(v):TT c (asAddr v):=by
 unfold asAddr;split
 exact bX _;exact aO _;exact ch _
def qU(n):TT c (YW n):=by exact aI (λ_=>te) λ_=>bX _
def fC{α}(s):TT c (panicString s:Y α):=by exact aM rfl<|vZ _
end
section
variable(T:Zy)(F G:Array Y6)
theorem eZ:∀(n t b:Nat),Zp ⟨T,G⟩ n t b=Zp ⟨T,F⟩ n t b
 |0,_,_=>rfl
 |n+1,t,b=>by
  simp only[Zp,eZ n]
  try rfl
theorem mM:∀(n t u:Nat),(⟨T,G⟩:R).alikeButTags n t u=(⟨T,F⟩:R).alikeButTags n t u
 |0,_,_=>rfl
 |n+1,t,u=>by simp only[Program.alikeButTags,mM n]
def iM(t:Nat):(⟨T,G⟩:R).packed t=(⟨T,F⟩:R).packed t:=by
 simp only[Program.packed,Program.packedAs,mM T F G]
 try rfl
theorem oD:∀(n t:Nat),(⟨T,G⟩:R).holdsPacked n t=(⟨T,F⟩:R).holdsPacked n t
 |0,_=>rfl
 |n+1,t=>by
  simp only[Program.holdsPacked,oD n,iM T F G]
  try rfl
theorem ie:∀(n t:Nat),(⟨T,G⟩:R).methodsOfAPack n t=(⟨T,F⟩:R).methodsOfAPack n t
 |0,_=>rfl
 |n+1,t=>by
  simp only[Program.methodsOfAPack,ie n,iM T F G]
  try rfl
theorem je:∀(n t:Nat),(⟨T,G⟩:R).namesPacked n t=(⟨T,F⟩:R).namesPacked n t
 |0,_=>rfl
 |n+1,t=>by
  simp only[Program.namesPacked,je n,iM T F G]
  try rfl
def oE(t:Nat):(⟨T,G⟩:R).stoodInHeld t=(⟨T,F⟩:R).stoodInHeld t:=by
 simp only[Program.stoodInHeld,Program.stoodInAs,mM T F G]
 try rfl
theorem jf:∀(n t:Nat),(⟨T,G⟩:R).eqGuardType n t=(⟨T,F⟩:R).eqGuardType n t
 |0,_=>rfl
 |n+1,t=>by
  simp only[Program.eqGuardType,jf n]
  try rfl
end
section
variable{c:Ctx}
def kN{α}(r)(b:¬c.S r){f:Option (ZY×Nat) ->Y α}(h:∀s,TT c<|f s):TT c (shape r>>=f):=by
 intro k u w a;have e:w.shape? r=u.shape? r:=by unfold χ;rw[a.same _ b]
 refine jH (λd=>?_) rfl (.refl _ _)<|h _ k u w a
 simp_all
def qV{α}(r)(d:¬c.S r){f:Zj->Y α}(h:∀o,c.ok o->TT c (f o)):TT c (getObj r>>=f):=by
 intro k u w b;show kF _ _ _ _ _ _ _ (Sem.getObj r λo=>(Yp o).bind f) ((Sem.getObj r λo=>(Yp o).bind f).run c.P u);simp only[Θ,Z3];split
 trivial;rename_i o g a;refine vY (ev:=⟨.obj r,ο,o.isChan⟩) (λe=>?_) rfl (.refl _ _) ⟨d,(Γ.1 a).1⟩ (bY c.P (f o) u).2<|h o (b.safe _ _ a) k u w b;simp only[Z4,((b.same _ d).trans a)];trivial
def tY(r)(a:¬c.S r):TT c (Zo r):=by refine kN r a λs=>aI (λ_=>bX _) λ_=>?_;refine qV r a λo _=>?_;split<;>exact bX _
def RR(a)(b:¬c.S a.block):TT c (noView a):=by exact ae (tY _ b) λ_=>aI (λ_=>dx _) λ_=>bX _
def cW(p:R)(a:YX)(e:ZY):Y Nat:=
 if p.cellsOf e=0 then pure 0 else match Zp p p.depth e (a.off %p.cellsOf e)with
  |some b=>pure<|a.off/p.cellsOf e*p.bytesOf e+b
  |none=>stuck "byteOf: no such cell"
def oF(a e):cW c.Q a e=cW c.P a e:=by unfold cW;simp only[Ctx.Q,eZ c.T c.F c.G];rfl
def qW(a e):TT c (cW c.P a e):=by
 refine aI (λ_=>bX _) λ_=>?_;split
 exact bX _;exact ch _
def qX(p w a)(hs:a.spot=Z)(e m)(b:w.shape? a.block=V (e,m))(es):
 (ZN a).runT p w es=(cW p a e).runT p w es:=by
 unfold ZN cW noView Zo program shape;simp only[hs,bind,Z3,Z4,b,ZM,if_true,ZU,Option.isSome_none,Ξ,if_false]
 grind
def fq(a):TT c (ZN a):=by
 cases hs:a.spot with
 |some s=>unfold ZN;simp only[hs];exact bX _
 |none=>
  by_cases d:c.S a.block
  intro k u w f;obtain⟨cs,e,⟨j,b⟩,i,g⟩|b:=f.mask _ d
  have e1:u.shape? a.block=V (e,0):=by simp[χ,b]
  have r1:(ZN a).run c.P u=(cW c.P a e).run c.P u:=by rw[<-Zq c.P (ZN a) u #[],<-Zq c.P (cW c.P a e) u #[],qX _ _ _ hs _ _ e1]
  rw[r1];exact jH (z:=cW c.P a e) (u1:=u) (w1:=w) (λh=>by rw[qX _ _ _ hs _ _ (by simp[χ,g]:w.shape? a.block=V (e,cs.size)) h,oF]) rfl (.refl _ _)<|qW (c:=c) a e k u w f;have e1:u.shape? a.block=Z:=by simp[χ,b,bE]
  have r1:(ZN a).run c.P u=.halt (.unsupported<|.unsafePointer "memory seen as another type") u:=by unfold ZN noView Zo program shape getObj stuck unsupported;simp[hs,bind,Z3,Θ,e1,b,ZU,bE]
  rw[r1];exact bT (by simp);unfold ZN;simp only[hs];refine aM ?_<|ae (RR a d) λ_=>kN _ d λs=>?_;simp only[Ctx.Q,Ctx.P,eZ c.T c.F c.G];rfl;split
  refine aI (λ_=>bX _) λ_=>?_;split
  exact bX _;exact ch _;exact ch _
def DM(a m b):TT c (partAt a m b):=by exact ae (fq _) λ_=>ae (fq _) λ_=>bX _
def zT(a f):TT c (fieldPlace a f):=by exact ae (cX _) λ_=>aI (λ_=>DM _ _ _) λ_=>bX _
end
end
section
section
variable{c:Ctx}
attribute [simp] ae FA bX ch dx vZ aO iw fC qU aN bF cX cS jI jd lJ FC lI QC ij fa iL iq lH nu eQ Cm FB pP oC zT xg qT Av
theorem Cn{a b:Type}{f:a->Y b}(h:∀x,TT c<|f x):∀l:List a,TT c (l.mapM f)
 |[]=>bX _
 |x::l=>by rw[List.mapM_cons];exact ae (h x) λ_=>ae (Cn h l) λ_=>bX _
def xh{a b:Type}{f:a->Y b}(h:∀x,TT c<|f x)(l:Array a):TT c (l.mapM f):=by rw[Array.mapM_eq_mapM_toList];exact FA<|Cn h _
@[simp] def gT (v):TT c (YK v):=by unfold YK;split<;>simp
@[simp] def DN(t v):TT c (Yo t v):=by simp[Yo]
@[simp] def Aw(t a v):TT c (Yz t a v):=by simp[Yz]
@[simp] def Ay (s v f):TT c (Instr.fieldAt s v f):=by repeat' (first|(simp)|(refine ae ?_ λ_=>?_)|split)
@[simp] def Az (t x i):TT c (Yy t x i):=by
  unfold Yy
  repeat' (first|assumption|(simp)|(with_reducible first|refine ae ?_ λ_=>?_|apply FA|refine aI (λ_=>?_) λ_=>?_)|split|dsimp only)
@[simp] def th (x y b):TT c (Instr.sliceBound x y b):=by repeat' (first|(simp)|(refine ae ?_ λ_=>?_)|split)
@[simp] def kO (s len a l h m):TT c (Y5 s len a l h m):=by
  unfold Y5
  repeat' (first|(simp)|(refine ae ?_ λ_=>?_)|split)
@[simp] def FD (t x l h m):TT c (Instr.slice t x l h m):=by repeat' (first|(simp)|(refine ae ?_ λ_=>?_)|split)
@[simp] def AA (t x l h m):TT c (Instr.sliceAt t x l h m):=by repeat' (first|(simp)|(refine ae ?_ λ_=>?_)|split)
@[simp] def FE (t x i):TT c (Instr.index t x i):=by repeat' (first|(simp)|(refine ae ?_ λ_=>?_)|split)
@[simp] def FF (t x f):TT c (Instr.field t x f):=by repeat' (first|(simp)|(refine ae ?_ λ_=>?_)|split)
@[simp] def AB (x i):TT c (Yx x i):=by
  unfold Yx
  repeat' (first|(simp)|split)
@[simp] def FH(t):TT c (Yi t U<|.tuple #[]):=by simp[Yi]
@[simp] def R2(t v):TT c (Instr.box t v):=by simp[Instr.box]
@[simp] def FI (t a):TT c (Instr.build t a):=by repeat' (first|(simp)|(refine xh (λ_=>?_) _)|(refine ae ?_ λ_=>?_)|split)
@[simp] def tj (t len a):TT c (Instr.buildSlice t len a):=by repeat' (first|assumption|(simp)|(first|refine ae ?_ λ_=>?_|apply FA|refine aI (λ_=>?_) λ_=>?_)|split|dsimp only)
@[simp] def vh (t l k):TT c (YR t l k):=by
  unfold YR
  repeat' (first|assumption|(simp)|(first|refine ae ?_ λ_=>?_|apply FA|refine aI (λ_=>?_) λ_=>?_)|split|dsimp only)
@[simp] def AC (t r):TT c (Yw t r):=by
  unfold Yw
  repeat' (first|(simp;done)|exact kM _ (c.map _ _)|(refine ae ?_ λ_=>?_)|split)
@[simp] def oG (t x):TT c (Instr.makeInterface t x):=by repeat' (first|(simp)|(refine ae ?_ λ_=>?_)|split)
@[simp] def xi(f a b):TT c (YJ f a b):=by simp[YJ]
@[simp] def FJ (o x):TT c (Op.unary o x):=by unfold Op.unary Y4 YQ;split<;>simp
@[simp] def xj (x):TT c (Yh x):=by
  unfold Yh Instr.panicnil
  repeat' (first|(simp;done)|exact bO.env λ_=>bO.pure _|(refine aM rfl ?_)|(refine ae ?_ λ_=>?_)|split)
@[simp] def tk (x t a k):TT c (Instr.typeAssert x t a k):=by repeat' (first|(simp)|(refine ae ?_ λ_=>?_)|split)
@[simp] def xk (x):TT c (Zm x):=by unfold Zm;split<;>simp
@[simp] def yZ (s n x):TT c (Ψ s n x):=by unfold Ψ;split<;>simp
@[simp] def agM (a t x):TT c (YP a t x):=by
  unfold YP
  repeat' (first|(simp)|(refine ae ?_ λ_=>?_)|split)
@[simp] def R3 (a t x):TT c (YI a t x):=by
  unfold YI
  repeat' (first|(simp)|(refine dg _ (cl _) λ_ _ _=>?_)|(refine ae ?_ λ_=>?_)|split)
@[simp] def R4 (a t x):TT c (YH a t x):=by
  unfold YH
  repeat' (first|(simp)|(refine dg _ (cl _) λ_ _ _=>?_)|(refine ae ?_ λ_=>?_)|split)
@[simp] def K5 (x y):TT c (YG x y):=by
  unfold YG Zl
  repeat' (first|(simp)|split)
@[simp] def K6 (x y):TT c (YF x y):=by
  unfold YF Zl
  repeat' (first|(simp)|split)
end
end
section
section
variable{c:Ctx}
def aU{α}(t){f:TypeDesc->Y α}(h:∀d,c.P.underlying t=V d->TT c (f d)):TT c (Ys t>>=f):=by
 unfold Ys;rw[bind_assoc];refine aM rfl ?_;cases hd:c.P.underlying t with
 |some d=>exact h d hd
 |none=>exact qA<|f8<|cl _
def oH{α}(t){f:TypeInfo->Y α}(h:∀i,c.P.info? t=V i->TT c (f i)):TT c (ζ t>>=f):=by
 unfold ζ;rw[bind_assoc];refine aM rfl ?_;cases hd:c.P.info? t with
 |some d=>exact h d hd
 |none=>exact qA<|f8<|cl _
def Co(t:ZY)(a b:YX):Y Bool:=do
 let(a,b):=((<-Ω a).1,(<-Ω b).1)
 if a.block==b.block&&a.block<(<-program).globals.size then return (<-ZN a)==(<-ZN b)
 let .named "sync.copyChecker" _:=(<-ζ t).desc|unsupported .addressObserved
 if a==b then pure U else unsupported .addressObserved
def mN(t:ZY)(a b:YX):Y Bool:=do
 if a.block==b.block&&a.block<(<-program).globals.size then return (<-ZN a)==(<-ZN b)
 let .named "sync.copyChecker" _:=(<-ζ t).desc|unsupported .addressObserved
 if a==b then pure U else unsupported .addressObserved
def ft(T:Zy)(t:ZY):Prop:=∀F i u,(⟨T,F⟩:R).info? t=V i->i.desc≠.named "sync.copyChecker" u
variable(t:ZY)(P:R)(u:κ)(a b:YX)
def oI(b:ft c.T t)(x:Y Bool):TT c (do
 let .named "sync.copyChecker" _:=(<-ζ t).desc|unsupported .addressObserved
 x):=by
 refine oH t λi hi=>?_;split
 rename_i u a;exact absurd a<|b _ _ _ hi;simp
def mO(b:ft c.T t)(x:Y Bool):vg c.P (do
 let .named "sync.copyChecker" _:=(<-ζ t).desc|unsupported .addressObserved
 x):=by
 intro u;unfold ζ program stuck unsupported;simp only[bind,Z3,Θ];cases hi:c.P.info? t with
 |none=>exact⟨_,u,rfl,by simp⟩
 |some i=>
  simp only[ZU,Z3];split
  rename_i u a;exact absurd a<|b _ _ _ hi;simp
def DO(d:ft c.T t)(a b):TT c (mN t a b):=by refine aM rfl<|aI (λ_=>?_) λ_=>oI t d _;exact ae (fq _) λ_=>ae (fq _) λ_=>bX _
def P4(d:ft c.T t)(a b)(h:a.block≠b.block\/c.T.globals.size<=a.block):vg c.P (mN t a b):=by
 intro u;have hc:¬((a.block==b.block&&decide (a.block<c.P.globals.size))=U):=by
  show¬((a.block==b.block&&decide (a.block<c.T.globals.size))=U)
  grind
 have e:(mN t a b).run c.P u=(do
  let .named "sync.copyChecker" _:=(<-ζ t).desc|unsupported .addressObserved
  if a==b then pure U else unsupported .addressObserved:Y Bool).run c.P u:=by
  unfold mN program;simp only[bind,Z3,Θ,hc,Ξ,if_false]
 rw[e];exact mO t d _ u
def dR(r):(∃a,(ε r).run P u=.ok a u)\/∃e,(ε r).run P u=.halt e u/\(∀v,e≠.panic v)/\e≠.goexit:=by
 unfold ε shape getObj;simp only[bind,Z3,Θ];split
 simp;simp only[Θ];split
 simp;split<;>exact .inl ⟨_,rfl⟩
 simp
def gG{u r}(h:u.heap[r]?=V bE):(ε r).run P u=.ok Z u:=by unfold ε shape getObj;simp[Θ,h,bE]
def jg:(Ω a).run P u=((ε a.block).run P u).andThen λx w=>.ok (x.getD (a,ο)) w:=by unfold Ω;simp
def P5:Co t a b=Ω a>>=λx=>Ω b>>=λy=>mN t x.1 y.1:=rfl
def qY(g:ft c.T t)(a b u)(h:(u.heap[a.block]?=V bE/\c.T.globals.size<=a.block)\/(u.heap[b.block]?=V bE/\c.T.globals.size<=b.block)):
 ∃e i,(Co t a b).run c.P u=.halt e i/\(∀v,e≠.panic v)/\e≠.goexit:=by
 rw[P5,Δ,jg];obtain⟨k,e1⟩|⟨e,e1,d⟩:=dR c.P u a.block
 rw[e1];simp only[μ];rw[Δ,jg];obtain⟨j,e2⟩|⟨e,e2,d⟩:=dR c.P u b.block
 rw[e2];simp only[μ];refine P4 t g _ _ ?_ u;obtain⟨h,f⟩|⟨h,f⟩:=h
 rw[gG c.P h]at e1;cases e1
 exact .inr f;rw[gG c.P h]at e2
 grind
 rw[e2];exact⟨_,_,rfl,d⟩;rw[e1];exact⟨_,_,rfl,d⟩
def gH(r){k u w}(d:Rel c.ok c.T.globals.size c.S k u w)(h:¬(c.S r/\u.heap[r]?=V bE)):
 kF c.ok c.T.globals.size c.S c.Q k u w (ε r) ((ε r).run c.P u):=by
 by_cases b:c.S r
 obtain⟨cs,e,⟨j,f⟩,i,g⟩|f:=d.mask r b
 ·have e1:∀a,(ε r).runT c.P u a=(.ok Z u,a):=λa=>by unfold ε shape;simp only[bind,Z3,Z4,χ,f,ZM,if_true,ZU]
  have e2:∀a,(ε r).runT c.Q w a=(.ok Z w,a):=λa=>by unfold ε shape;simp only[bind,Z3,Z4,χ,g,ZM,if_true,ZU]
  rw[<-Zq c.P _ u #[],e1]
  exactλ_=>⟨w,#[],λa=>by rw[e2];simp,by rw[show u.drawn+k-u.drawn=k by omega];exact d,.refl _ _,by simp⟩
 ·exact absurd ⟨b,f⟩ h
 refine(?_:TT c (ε r)) k u w d;unfold ε;refine kN r b λs=>aI (λ_=>bX _) λ_=>?_;refine qV r b λo _=>?_;split<;>exact bX _
def FK(i:ft c.T t)(a b):TT c (Co t a b):=by
 intro k u w p;by_cases o:c.S a.block/\u.heap[a.block]?=V bE
 obtain⟨e,v,j,h⟩:=qY (c:=c) t i a b u<|.inl ⟨o.2,p.high _ o.1⟩;rw[j];exact bT h;by_cases hb:c.S b.block/\u.heap[b.block]?=V bE
 obtain⟨e,v,j,h⟩:=qY (c:=c) t i a b u<|.inr ⟨hb.2,p.high _ hb.1⟩;rw[j];exact bT h;have behind:∀(d:YX) (m:κ),Rel c.ok c.T.globals.size c.S k u m->¬(c.S d.block/\u.heap[d.block]?=V bE) ->∀{r:Type} (f:YX×Bool->Y r),(∀x,TT c<|f x) ->kF c.ok c.T.globals.size c.S c.Q k u m (Ω d>>=f) ((Ω d>>=f).run c.P u):=by
  intro d m l hd r f z;have h0:=gH (c:=c) d.block l hd;have g:(Ω d>>=f)=(ε d.block).bind λx=>f (x.getD (d,ο)):=by unfold Ω;rw[bind_assoc];rfl
  rw[g];obtain⟨s,e1⟩|⟨e,e1,n⟩:=dR c.P u d.block
  rw[e1]at h0;exact ip e1 h0 λq r1=>z _ _ _ _ r1;rw[ZF,e1];exact bT n
 have h0:=gH (c:=c) a.block p o;have g:Co t a b=(ε a.block).bind λx=>Ω b>>=λy=>mN t (x.getD (a,ο)).1 y.1:=by
  rw[P5]
  conv=>lhs;unfold Ω
  rw[bind_assoc];rfl
 rw[g];obtain⟨s,e1⟩|⟨e,e1,n⟩:=dR c.P u a.block
 rw[e1]at h0;refine ip e1 h0 λq r1=>?_;rw[show u.drawn+k-u.drawn=k by omega]at r1⊢;exact behind b q r1 hb _ λx=>DO t i _ _;rw[ZF,e1];exact bT n
def Scalar(T:Zy)(t:ZY):Prop:=(⟨T,#[]⟩:R).underlying t=V .bool\/(⟨T,#[]⟩:R).underlying t=V .string\/(∃k,(⟨T,#[]⟩:R).underlying t=V (.int k))/\ft T t
def iN(b:Scalar c.T t)(x y):∀d,TT c (ZI d t x y)
 |0=>dx _
 |d+1=>by
  unfold ZI;refine aU t λe f=>?_;have a:(⟨c.T,#[]⟩:R).underlying t=V e:=f;obtain h|h|⟨⟨k,h⟩,hn⟩:=b
  rw[h]at a;cases a;dsimp only;split<;>first|exact bX _|exact ch _|contradiction
  rw[h]at a;cases a;dsimp only;split<;>first|exact bX _|exact ch _|contradiction
  rw[h]at a;cases a;dsimp only;split<;>first|contradiction|exact bX _|exact ch _|exact dx _|exact aI (λ_=>bX _) (λ_=>ch _)|exact FK t hn _ _
def Flat(T:Zy)(t:ZY):Prop:=Scalar T t\/∃fs,(⟨T,#[]⟩:R).underlying t=V (.struct fs)/\∀f∈fs,Scalar T f.type
theorem xp{e d:Type}{f:e->d->Y (ForInStep d)}:∀(l:List e) (b:d),(∀a∈l,∀b,TT c<|f a b) ->TT c (forIn l b f)
 |[],b,_=>bX _
 |x::l,b,h=>by
  rw[List.forIn_cons];refine ae (h x (by simp) b) λr=>?_;cases r with
  |done b=>exact bX _
  |yield b=>exact xp l b λa g=>h a (by grind)
def oJ{e d:Type}{f}(l:Array e)(b:d)(h:∀a∈l,∀b,TT c<|f a b):TT c (forIn l b f):=by rw[<-Array.forIn_toList];exact xp _ _ λa g=>h a (by grind)
def kt(k:Flat c.T t)(x y):∀d,TT c (ZI d t x y)
 |0=>dx _
 |d+1=>by
  obtain k|⟨fs,h,hf⟩:=k
  exact iN t k x y _;unfold ZI;refine aU t λe m=>?_;have i:(⟨c.T,#[]⟩:R).underlying t=V e:=m;rw[h]at i;cases i;have loop:∀(g a:Array ι),TT c (do
   for f in fs do
    if f.name≠ "_"then
     if !(<-ZI d f.type (<-part f.type g f.offset) (<-part f.type a f.offset))then return ο
   pure U:Y Bool):=by
   intro g a;refine ae (oJ _ _ λf l b=>?_) λr=>?_;refine aI (λ_=>?_) λ_=>bX _;refine ae (ij _ _ _) λ_=>ae (ij _ _ _) λ_=>ae (iN _ (hf f l) _ _ _) λ_=>?_;exact aI (λ_=>bX _) λ_=>bX _;obtain⟨r1,r2⟩:=r;cases r1<;>exact bX _
  dsimp only;split<;>first|contradiction|skip
  rename_i j g a n;cases n
  refine aM (by rw[show c.Q.stoodInHeld t=c.P.stoodInHeld t from oE c.T c.F c.G t]) ?_;refine aI (λ_=>ae (dx _) λ_=>loop g a) λ_=>loop g a;exact ch _
end
end
section
def ig{α:Type}(P:R)(x:Y α)(u:κ):Prop:=∃r u',x.run P u=.halt r u'/\(∀v,r≠.panic v)/\r≠.goexit
def bz{a P u}(x):ig P (unsupported x:Y a) u:=⟨_,u,rfl,by simp⟩
def dr{c a P x}{f:c->Y a}{u}(h:ig P x u):ig P (x>>=f) u:=by obtain⟨r,d,e,b⟩:=h;exact⟨r,d,by rw[Δ,e];rfl,b⟩
def cP{d b P x}{f:d->Y b}{u u1 a}(e:x.run P u=.ok a u1)(h:ig P (f a) u1):ig P (x>>=f) u:=by obtain⟨r,i,g,c⟩:=h;exact⟨r,i,by rw[Δ,e];exact g,c⟩
def fc{c:Ctx}{a k u w}{x y:Y a}(h:ig c.P x u):kF c.ok c.T.globals.size c.S c.Q k u w y (x.run c.P u):=by obtain⟨r,d,e,b⟩:=h;rw[e];exact bT b
def xq{d c P x}{f:d->Y c}{u}(h:(∃a,x.run P u=.ok a u)\/ig P x u)(b:∀a,ig P (f a) u):ig P (x>>=f) u:=by
 obtain⟨a,e⟩|h:=h
 exact cP e<|b a;exact dr h
section
variable{c:Ctx}
def pB(P v u):(∃a,(asInt v).run P u=.ok a u)\/ig P (asInt v) u:=by
 cases v with
 |int k n=>exact .inl ⟨n,rfl⟩
 |pointer a=>cases a with
  |none=>exact .inr ⟨_,u,rfl,by simp⟩
  |some a=>exact .inr ⟨_,u,rfl,by simp⟩
 |_=>exact .inr ⟨_,u,rfl,by simp⟩
def jh(P u r):(shape r).run P u=.ok (u.shape? r) u:=rfl
def kP(P u):program.run P u=.ok P u:=rfl
def xu(P){u r}(h:u.heap[r]?=V bE):(Zo r).run P u=.ok (V (⟨0,0,V 0⟩,0)) u:=by unfold Zo shape getObj;simp[Θ,χ,h,bE]
def AD(P){u r e}(h:u.shape? r=V e):(Zo r).run P u=.ok Z u:=by unfold Zo shape getObj;simp[Θ,h]
def mP{u:κ}{r}(h:u.heap[r]?=V bE):u.shape? r=Z:=by simp[χ,h,bE]
def yD(P u a y t)(h:u.heap[a.block]?=V bE):ig P (η #[] t #[ZL (V a),y]) u:=by
 refine xq (pB P y u) λn=>?_;dsimp only;by_cases h0:n=0
 rw[if_pos h0];refine cP (xu P h) ?_;exact dr<|bz _;rw[if_neg h0];by_cases b:n<0
 rw[if_pos b];exact dr<|bz _;rw[if_neg b];refine cP (jh P u a.block) ?_;rw[mP h];exact bz _
def xy(P){u r e}(h:u.shape? r=V e)(es):(Zo r).runT P u es=(.ok Z u,es):=by unfold Zo shape getObj;simp only[bind,Z3,Z4,h,ZU,ZM,if_true]
def AE{b k u w y}{a:b}(d:Rel c.ok c.T.globals.size c.S k u w)(h:∀es,y.runT c.Q w es=(.ok a w,es)):kF c.ok c.T.globals.size c.S c.Q k u w y (.ok a u):=λ_=>⟨w,#[],λes=>by rw[h];simp,by rw[show u.drawn+k-u.drawn=k by omega];exact d,.refl _ _,by simp⟩
def oK(p d e off n):ZE p d e 0 off n=Z:=by
 unfold ZE;dsimp only;split
 rfl;obtain _|b:=Zp p d e<|off %p.cellsOf e
 rfl
 grind
theorem ku(T:Zy)(F G:Array Y6):∀(n t b:Nat),Yn ⟨T,G⟩ n t b=Yn ⟨T,F⟩ n t b
 |0,_,_=>rfl
 |n+1,t,b=>by
  simp only[Yn,ku T F G n]
  try rfl
def oL(c:Ctx)(d e m off:Nat)(n):ZE c.Q d e m off n=ZE c.P d e m off n:=by unfold ZE;simp only[Ctx.Q,eZ c.T c.F c.G,ku c.T c.F c.G];rfl
def vj(a y t):TT c (η #[] t #[ZL (V a),y]):=by
 intro k u w i;by_cases h:c.S a.block
 obtain⟨cs,e,⟨C,d⟩,F,l⟩|d:=i.mask _ h
 ·have e1:u.shape? a.block=V (e,0):=by simp[χ,d]
  have e2:w.shape? a.block=V (e,cs.size):=by simp[χ,l]
  revert k u w
  intro k u w i d l e1 e2;unfold η;obtain⟨n,m⟩|v:=pB c.P y u
  have o:=jd (c:=c) y k u w i;rw[m]at o;refine ip m o λq r1=>?_;dsimp only;have j:∃b f,q.heap[a.block]?=V (.cells b e f):=by
   obtain⟨b,D,⟨G,g⟩,A,r⟩|g:=r1.mask _ h
   rw[d]at g;cases g
   exact⟨b,A,r⟩;rw[d]at g;cases g
  obtain⟨b,E,j⟩:=j;by_cases h0:n=0
  rw[if_pos h0];refine ip (AD c.P e1) (AE r1 λz=>xy c.Q (e:=(e,b.size)) (by simp[χ,j]) z) λB r2=>?_;exact bX (c:=c) _ _ u B r2;rw[if_neg h0];refine fc ?_;by_cases h3:n<0
  rw[if_pos h3];exact dr<|bz _;rw[if_neg h3];refine cP (jh c.P u a.block) ?_;rw[e1];refine cP (kP c.P u) ?_;rw[Nat.zero_div,oK];exact bz _;exact fc<|dr v
 exact fc<|yD _ _ _ _ _ d;refine(?_:TT c _) k u w i;unfold η;refine ae (jd _) λn=>?_;dsimp only;refine aI (λ_=>ae (tY _ h) λ_=>aI (λ_=>ae (dx _) λ_=>bX _) λ_=>bX _) λ_=>?_;have rest:TT c (shape a.block>>=λx=>match x with
  |some (e,cells)=>program>>=λp=>match ZE p p.depth e (cells/p.cellsOf e) a.off n with
    |some off=>pure<|Value.pointer<|V {block:=a.block,off:=off,spot:=a.spot}
    |none=>unsupported<|Unsupported.unsafePointer "Add"
  |x=>unsupported (Unsupported.unsafePointer "Add")):=by
  refine kN _ h λs=>?_;split
  refine aM ?_ ?_
  ·rw[oL c];rfl
  split
  ·exact bX _
  exact dx _;exact dx _
 exact aI (λ_=>ae (dx _) λ_=>rest) λ_=>rest
def lK{α}(d){f:YX×Bool->Y α}(h:∀x,TT c<|f x)(hd:∀u,u.heap[d.block]?=V bE->c.T.globals.size<=d.block->ig c.P (f (d,ο)) u):TT c (Ω d>>=f):=by
 intro k u w b;have g:(Ω d>>=f)=(ε d.block).bind λx=>f (x.getD (d,ο)):=by unfold Ω;rw[bind_assoc];rfl
 rw[g];by_cases a:c.S d.block/\u.heap[d.block]?=V bE
 exact fc<|cP (gG c.P a.2)<|hd u a.2<|b.high _ a.1;have h0:=gH d.block b a;obtain⟨l,e1⟩|⟨e,e1,i⟩:=dR c.P u d.block
 rw[e1]at h0;exact ip e1 h0 λj r1=>h _ _ _ _ r1;rw[ZF,e1];exact bT i
def xz(a l):TT c (asNumber a l):=ae (kM _<|c.number _ _) λ_=>bX _
def eR(x y t):TT c (η #[] t #[x,y]):=by
 cases x with
 |pointer a=>
  obtain _|a:=a
  refine ae (jd _) λn=>?_;exact aI (λ_=>dx _) λ_=>aI (λ_=>ae (dx _) λ_=>dx _) λ_=>dx _;exact vj a y t
 |_=>exact ch _
def kQ(t x y):TT c (movedNumber t x y):=by
 refine aU t λd _=>?_;dsimp only;have a:TT c (match x with
  |ZL (V n)=>Ω n>>=λz=>η #[] t #[ZL (V z.1),y]>>=λv=>match v with
   |ZL (V b)=>asNumber b z.2
   |v=>pure v
  |_=>η #[] t #[x,y]):=by
  split
  refine lK _ (λz=>ae (eR _ _ _) λv=>?_) λu h _=>?_
  ·split
   ·exact xz _ _
   exact bX _
  exact dr<|yD _ _ _ _ _ h;exact eR _ _ _
 refine aI (λ_=>ae (dx _) λ_=>?_) λ_=>?_<;>exact a
def qi(t x y):TT c (movedPointer t x y):=by
 unfold movedPointer;dsimp only;split
 rename_i a;intro k u w f;by_cases b:c.S a.block/\u.heap[a.block]?=V bE
 refine fc<|cP (gG c.P b.2) ?_;rw[if_neg (by simp)];exact yD _ _ _ _ _ b.2;have h0:=gH (c:=c) a.block f b;obtain⟨h,e1⟩|⟨e,e1,d⟩:=dR c.P u a.block
 rw[e1]at h0;refine ip e1 h0 λg r1=>?_;refine(?_:TT c _) _ _ _ r1;exact aI (λ_=>ae (dx _) λ_=>eR _ _ _) λ_=>eR _ _ _;refine fc<|dr ⟨_,_,e1,d⟩;exact eR _ _ _
def nv(a b):TT c (Op.twoPlaces a b):=by have rest:TT c (ZN a>>=λx=>ZN b>>=λy=>pure (x,y)):=ae (fq _) λ_=>ae (fq _) λ_=>bX _;exact aI (λ_=>ae (dx _) λ_=>rest) λ_=>rest
def kw(a b u)(h:a.block≠b.block\/c.T.globals.size<=a.block):ig c.P (Op.twoPlaces a b) u:=by
 refine cP (kP _ _) ?_;rw[if_pos];exact dr<|bz _;obtain h|h:=h
 ·grind
 have:c.P.globals.size<=a.block:=h;simp[this]
def nx{α}(a b){f:YX->YX->Y α}(g:∀x y,TT c<|f x y)(hd:∀x y u,x.block≠y.block\/c.T.globals.size<=x.block->ig c.P (f x y) u):TT c (Ω a>>=λx=>Ω b>>=λy=>f x.1 y.1):=by
 refine lK a (λx=>lK b (λy=>g _ _) λu h j=>?_) λu h j=>?_
 grind
 unfold Ω;rw[bind_assoc];refine xq ?_ λd=>?_;obtain⟨d,e⟩|⟨r,e,i⟩:=dR c.P u b.block
 ·exact .inl ⟨d,e⟩
 exact .inr ⟨r,u,e,i⟩
 grind
def AF(k a b):TT c (Ω a>>=λx=>Ω b>>=λy=>Op.addrSub k x.1 y.1):=nx a b (λ_ _=>ae (nv _ _) λ_=>bX _) λx y u h=>dr<|kw x y u h
def AG(op a b):TT c (Ω a>>=λx=>Ω b>>=λy=>Op.addrCmp op x.1 y.1):=by refine nx a b (λ_ _=>ae (nv _ _) λ_=>?_) λx y u h=>dr<|kw x y u h;dsimp only;split<;>first|exact bX _|exact dx _
def vl{α}(r){f:Option (ZY×Nat) ->Y α}(h:∀s,TT c<|f s)(j:∀u,ig c.P (f Z) u)(hs:∀e m n,f (V (e,m))=f (V (e,n))):TT c (shape r>>=f):=by
 by_cases b:c.S r
 intro k u w d;obtain⟨cs,e,⟨o,a⟩,l,g⟩|a:=d.mask r b
 have e1:u.shape? r=V (e,0):=by simp[χ,a]
 refine jH (w1:=w) (λi=>?_) rfl (.refl _ _)<|h _ k u w d;show(Sem.shape r λs=>(Yp s).bind f).runT c.Q w i=_;simp only[Z4,e1,(by simp[χ,g]:w.shape? r=V (e,cs.size)),Z3,hs e cs.size 0];refine fc<|cP (jh c.P u r) ?_;rw[mP a];exact j u;exact kN r b h
def xA(k a n):TT c (YO k a n):=by
 refine vl _ (λs=>?_) (λu=>bz _) λe m n=>rfl;split
 refine ae (bF _) λi=>?_;exact aI (λ_=>ae (dx _) λ_=>ae (fq _) λ_=>bX _) λ_=>ae (fq _) λ_=>bX _;simp
def tn(k a n u)(h:u.heap[a.block]?=V bE):ig c.P (YO k a n) u:=by refine cP (jh c.P u _) ?_;rw[mP h];exact bz _
def AH(k a n):TT c (Ω a>>=λx=>YO k x.1 n):=lK a (λ_=>xA _ _ _) λu h _=>tn _ _ _ _ h
def xB(o k x y):TT c (Y4 o k x y):=by unfold Y4;split<;>first|exact bX _|exact ch _
def DP(o k x y):TT c (Op.intDiv o k x y):=by refine aI (λ_=>aO _) λ_=>?_;split<;>first|exact bX _|exact ch _
def AI(o k x y):TT c (YQ o k x y):=by unfold YQ;split<;>first|exact bX _|exact ch _
def DQ(o x y):TT c (Op.intCmp o x y):=by unfold Op.intCmp;split<;>first|exact bX _|exact ch _
def FL(o k x j y):TT c (Op.shift o k x j y):=by refine aI (λ_=>aO _) λ_=>?_;split<;>first|exact bX _|exact ch _
def If(o k x y):TT c (Op.floatArith o k x y):=by
 unfold Op.floatArith;have rest:∀r:Option Nat,TT c (match r with
  |some r=>pure<|Yg k r
  |none=>do pure (Yg k (<-choose (Question.nanBits k x y)))):=by
  intro r;split
  simp;simp
 split<;>first|exact ae (bX _) λ_=>rest _|exact ae (ch _) λ_=>rest _
def pC(o k x y):TT c (Op.floatCmp o k x y):=by unfold Op.floatCmp;split<;>first|exact bX _|exact ch _
def xC(o x y):TT c (Zl o x y):=by unfold Zl;split<;>first|exact bX _|exact ch _|exact aI (λ_=>dx _) λ_=>bX _
def tp(s b k):TT c (Conv.floatToInt s b k):=by
 unfold Conv.floatToInt;split
 exact aI (λ_=>bX _) λ_=>ae (pP _) λ_=>bX _;simp
def qj(s b k):TT c (Conv.floatToFloat s b k):=by repeat' (first|assumption|exact bX _|exact ch _|exact pP _|(refine ae ?_ λ_=>?_)|(refine aI (λ_=>?_) λ_=>?_)|split|dsimp only)
def AJ(o k x y):TT c (Op.Complex.arith o k x y):=by refine ae (If _ _ _ _) λv=>?_;split<;>first|exact bX _|exact ch _
def FM(o k x y):TT c (Op.Complex.cmp o k x y):=ae (pC _ _ _ _) λ_=>lI _
def DR(s x k):TT c (Op.Complex.conv s x k):=by refine aI (λ_=>bX _) λ_=>ae (qj _ _ _) λv=>?_;split<;>first|exact bX _|exact ch _
def vp(o k a b d e):TT c (Op.complexOp o k a b d e):=by
 unfold Op.complexOp Op.Complex.product Op.Complex.quotient Op.Complex.corrected Op.Complex.add Op.Complex.sub Op.Complex.mul Op.Complex.quo
 repeat' (first|assumption|exact bX _|exact ch _|(with_reducible exact AJ _ _ _ _)|(with_reducible exact FM _ _ _ _)|(with_reducible exact DR _ _ _)|(with_reducible refine ae ?_ λ_=>?_)|(with_reducible refine aI (λ_=>?_) λ_=>?_)|split|dsimp only)
def ji(o t x y)(h:o=.eql\/o=.neq->TT c (Op.equal t x y)):TT c (binOp o t x y):=by
 unfold binOp;split
 all_goals first
  |exact FL _ _ _ _ _
  |exact xC _ _ _
  |exact kQ _ _ _
  |exact AF _ _ _
  |exact AG _ _ _
  |exact AH _ _ _
  |exact dx _
  |exact ch _
  |exact ae (h<|.inl rfl) λ_=>bX _
  |exact ae (h<|.inr rfl) λ_=>bX _
  |skip
 ·refine aI (λ_=>ch _) λ_=>?_;split<;>first|exact xB _ _ _ _|exact DP _ _ _ _|exact AI _ _ _ _|exact DQ _ _ _
 refine aI (λ_=>ch _) λ_=>?_;split<;>first|exact If _ _ _ _|exact pC _ _ _ _
 exact aI (λ_=>ch _) λ_=>vp _ _ _ _ _ _;refine ae (aN _) λd=>?_;exact aI (λ_=>qi _ _ _) λ_=>kQ _ _ _
def fE(t x y)(h:(x=.nilIface\/y=.nilIface)\/x=Zt Z 0 0\/y=Zt Z 0 0\/x=.nilFunc\/y=.nilFunc\/x=.map Z\/y=.map Z):∀d,TT c (ZI d t x y)
 |0=>dx _
 |d+1=>by unfold ZI;refine aU t λe b=>?_;dsimp only;obtain(rfl|rfl)|rfl|rfl|rfl|rfl|rfl|rfl:=h<;>split<;>first|exact bX _|exact ch _|exact dx _|(rename_i a;cases a;done)|simp_all
def ii(t)(b:Scalar c.T t)(x y):∀d,TT c (Y7 d t x y)
 |0=>dx _
 |d+1=>by refine aU t λe f=>?_;have a:(⟨c.T,#[]⟩:R).underlying t=V e:=f;obtain h|h|⟨⟨k,h⟩,_⟩:=b<;>(rw[h]at a;cases a;exact bX _)
def iO(t)(i:Flat c.T t)(x y):∀d,TT c (Y7 d t x y)
 |0=>dx _
 |d+1=>by
  obtain i|⟨fs,h,hf⟩:=i
  exact ii t i x y _;unfold Y7;refine aU t λe k=>?_;have a:(⟨c.T,#[]⟩:R).underlying t=V e:=k;rw[h]at a;cases a;dsimp only;split<;>first|contradiction|skip
  rename_i g n m l;cases l
  refine ae (oJ _ _ λf j b=>?_) λr=>?_;refine aI (λ_=>?_) λ_=>bX _;refine ae (ij _ _ _) λ_=>ae (ij _ _ _) λ_=>ae (ii _ (hf f j) _ _ _) λ_=>?_;exact aI (λ_=>bX _) λ_=>bX _;obtain⟨r1,r2⟩:=r;cases r1<;>exact bX _
  exact bX _
def iy(op t x y a b)(h:Flat c.T t\/((x matches .const _)||(y matches .const _))=U/\((∀v,a≠.agg v)\/∀v,b≠.agg v)):TT c (eqGuard op t x y a b):=by
 unfold eqGuard;refine aI (λ_=>bX _) λ_=>?_;split
 refine aI (λ_=>bX _) λd=>?_;obtain h|h:=h
 exact ae (iO t h _ _ _) λb=>aI (λ_=>dx _) λ_=>bX _;exact absurd h.1 d;obtain h|h:=h
 ·refine aM ?_ (aM ?_<|aI (λ_=>bX _) λ_=>?_)
  ·simp only[Ctx.Q,Ctx.P,jf c.T c.F c.G];rfl
  rfl;exact ae (iO t h _ _ _) λb=>aI (λ_=>dx _) λ_=>bX _
 grind
 exact bX _
end
end
section
section
variable{c:Ctx}
def cK{d b}(a){f:d->Y b}(h:TT c (f a)):TT c (pure a>>=f):=by grind
def gJ{b a}(s){f:b->Y a}:TT c (stuck s>>=f):=qA<|f8<|cl _
def AK(b a x j k)(hs:(⟨c.T,#[]⟩:R).underlying b=V (.int j))(hd:(⟨c.T,#[]⟩:R).underlying a=V (.int k)):TT c (convert b a x):=by
 unfold convert;refine aU b λe f=>aU a λl d=>?_;have i:=f.symm.trans hs;have g:=d.symm.trans hd;cases i
 cases g
 split<;>first|contradiction|exact bX _|exact dx _|exact tp _ _ _|skip
 all_goals (rename_i h;cases h)
theorem oM{e d:Type}{f:d->e->Y d}(h:∀b a,TT c<|f b a):∀(l:List e) (b:d),TT c (l.foldlM f b)
 |[],b=>bX _
 |x::l,b=>by exact ae (h _ _) λ_=>oM h l _
def R5(a t xs):TT c (YE a t xs):=by
 unfold YE;split
 simp;exact oM (λ_ _=>K6 _ _) _ _
def R6(a t xs):TT c (YD a t xs):=by
 unfold YD;split
 simp;exact oM (λ_ _=>K5 _ _) _ _
def iz(b t)(f:Scalar c.T t)(v):∀d,TT c (ZC b d t v)
 |0=>dx _
 |d+1=>by refine aU t λe g=>?_;have a:(⟨c.T,#[]⟩:R).underlying t=V e:=g;obtain h|h|⟨⟨k,h⟩,_⟩:=f<;>(rw[h]at a;cases a;exact bX _)
def iP(b t)(i:Flat c.T t)(v):∀d,TT c (ZC b d t v)
 |0=>dx _
 |d+1=>by
  obtain i|⟨fs,h,hf⟩:=i
  exact iz b t i v _
  ·unfold ZC;refine aU t λe k=>?_;have a:(⟨c.T,#[]⟩:R).underlying t=V e:=k;rw[h]at a;cases a;split<;>first|contradiction|skip
   rename_i g m l;cases l
   refine ae (oJ _ _ λf j b=>?_) λ_=>bX _;exact aI (λ_=>ae (ij _ _ _) λ_=>ae (iz _ _ (hf f j) _ _) λ_=>bX _) λ_=>bX _
   all_goals first|exact ch _|exact bX _
theorem mz(t:ZY)(a:Flat c.T t)(k:ι):∀(es:List MapEntry) (i:Nat),TT c (Instr.findAsking t k es i)
 |[],_=>bX _
 |e::es,i=>by exact ae (kt t a _ _ _) λ_=>aI (λ_=>bX _) λ_=>mz t a k es _
def mQ(t)(a:Flat c.T t)(k es):TT c (Yv t k es):=by
 refine ae (aN _) λd=>?_;split
 simp;exact mz t a _ _ _
def qk(a b):TT c (Instr.keyThatStays a b):=by exact aI (λ_=>bX _) λ_=>ae (pP _) λ_=>bX _
def kR(T:Zy)(t:ZY):Prop:=∀k e,(⟨T,#[]⟩:R).underlying t=V (.map k e) ->Flat T k
variable(t:ZY)(x:ι)(P:R)
def DS(h:kR c.T t)(x i b):TT c (Ym t x i b):=by
 unfold Ym;refine aU t λd hd=>?_;split
 rename_i e a;have g:=h e a hd;have rest:∀f:Array MapEntry,TT c (do
  ZC f.isEmpty 10000 e i
  let(v,ok)<-match<-Yv e i f.toList with
   |some (_,v)=>pure (v,U)
   |none=>pure (<-ZZ a,ο)
  pure (if b then .tuple #[v,.bool ok]else v):Y ι):=by
  intro f;refine ae (iP _ _ g _ _) λ_=>ae (mQ _ g _ _) λr=>?_;dsimp only;split
  exact ae (bX _) λ_=>bX _;exact ae (cS _) λ_=>ae (bX _) λ_=>bX _
 dsimp only;split
 exact ae (bX _) λ_=>rest _;refine dg _ ?_ λo j k=>?_
 ·exact f8<|cl _
 split
 ·exact ae (bX _) λ_=>rest _
 exact ae (ch _) λ_=>rest _;exact ae (ch _) λ_=>rest _;exact ch _
def ny(g:kR c.T t)(m k v):TT c (YN t m k v):=by
 unfold YN;refine aU t λd hd=>?_;split
 rename_i b a;have e:=g b a hd;split
 exact aO _;refine dg _ (cl _) λo h f=>?_;split
 refine ae (iP _ _ e _ _) λ_=>ae (mQ _ e _ _) λr=>?_;split
 exact ae (qk _ _) λ_=>sX _ _ (c.map _ _) f;exact sX _ _ (c.map _ _) f;exact ch _;exact ch _;exact ch _
def DT(a)(h:∀t,a[0]?=V t->kR c.T t)(t xs):TT c (Y3 a t xs):=by
 unfold Y3;split
 rename_i mt m k h3;refine aU _ λd hd=>?_;split
 rename_i e b;have f:=(h mt (by simp only[Prod.mk.injEq]at h3;exact h3.1)) e b hd;dsimp only;split
 exact ae (iP _ _ f _ _) λ_=>bX _;refine dg _ (f8<|cl _) λo i g=>?_;split
 refine ae (iP _ _ f _ _) λ_=>ae (mQ _ f _ _) λr=>?_;split<;>exact ae (sX _ _ (c.map _ _) g) λ_=>bX _
 exact ae (ch _) λ_=>bX _;exact ae (ch _) λ_=>bX _;exact ch _;exact ch _
def FO:TT c (Instr.range t x):=by
 refine ae (aN _) λd=>?_;dsimp only;split
 exact cK _<|ae (kM _<|c.stringIter _ _) λ_=>bX _;exact cK _<|ae (kM _<|c.mapIter _ _ _ _) λ_=>bX _;refine dg _ (f8<|cl _) λo b a=>?_;split
 exact cK _<|ae (kM _<|c.mapIter _ _ _ _) λ_=>bX _;exact gJ _;exact gJ _
def K7(it b t):TT c (Instr.next it b t):=by
 unfold Instr.next;dsimp only;split
 ·rename_i r x;refine dg _ (cl _) λo g d=>?_;split
  refine aI (λ_=>?_) λ_=>bX _;exact ae (sX _ _ (c.stringIter _ _) d) λ_=>bX _;exact bX _
  ·refine dg _ (cl _) λj f e=>?_;split
   ·rename_i i a h
    try dsimp only
    refine aI (λ_=>ae (dx _) λ_=>?_) λ_=>?_
    all_goals
     refine ae (pP _) λn=>?_;split
     exact ae (sX _ _ (c.mapIter _ _ _ _) d) λ_=>bX _;exact bX _;exact ch _
   exact ch _
  exact ch _
 exact ch _
def FP(it):TT c (Yf it):=by
 unfold Yf;split
 ·refine dg _ (cl _) λo d e=>?_;split
  ·split
   ·refine dg _ (cl _) λf b a=>?_;split
    ·try dsimp only
     refine aI (λ_=>ae (dx _) λ_=>?_) λ_=>?_
     all_goals
      split
      exact bX _;exact dx _
    exact ch _
   exact ch _
  exact ch _
 exact ch _
def jj(a n u):∃b,(Zx a n).run P u=.ok b u:=by unfold Zx;rw[Δ,jh];simp only[μ];split<;>exact⟨_,rfl⟩
def AL(a u):(frozen a).run P u=.ok (u.frozen? a) u:=rfl
def qZ(size c n base x u):∃b,(ZS size c n base x).run P u=.ok b u:=by
 unfold ZS;have rest:∀d:Bool,∃b,(if(!d)=U then pure U else match x with
  |Zt (V b) a a_1=>do pure (!(<-Zx b (n*size))||base.any (·.block==b.block))
  |x=>pure ο:Y Bool).run P u=.ok b u:=by
  intro d;split
  exact⟨_,rfl⟩;split
  ·rename_i b _ _;obtain⟨z,e⟩:=jj P b (n*size) u;rw[Δ,e];exact⟨_,rfl⟩
  exact⟨_,rfl⟩
 dsimp only;obtain _|a:=base
 rw[pure_bind];exact rest U;obtain⟨z,e⟩:=jj P a (c*size) u;dsimp only;rw[Δ,e];simp only[μ];obtain _|_:=z
 exact rest ο;show∃b,(frozen (a.add<|c/2*size)>>=_).run P u=_;rw[Δ,AL];simp only[μ];rw[pure_bind];exact rest _
def DU(a t xs):TT c (Y2 a t xs):=by
 unfold Y2;split
 rename_i p s x q;refine ae (aN _) λd=>?_;split
 rename_i h;split
 rename_i base f j;refine ae (cX _) λsize=>?_;have o:∀(bP:Bool) (n g:Nat),TT c (do
  YW (g*(<-ζ h).bytes)
  let old<-Ψ size f (.slice base f j)
  let new<-(if !bP then Ψ size n x
   else if n*size=0 then pure #[]
   else do pure (ω (<-ZZ h).cells n):Y (Array ι))
  let rest:=ω (<-ZZ h).cells<|g-(f+n)
  pure (Zt (V (<-Yq h (old++new++rest))) (f+n) g):Y ι):=by
  intro bP n g;refine ae (bF _) λ_=>ae (qU _) λ_=>ae (yZ _ _ _) λ_=>ae ?_ λ_=>ae (cS _) λ_=>ae (lH _ _) λ_=>bX _;exact aI (λ_=>yZ _ _ _) λ_=>aI (λ_=>bX _) λ_=>ae (cS _) λ_=>bX _
 have rest:∀(bP:Bool) (n:Nat),TT c (do
  if f+n<=j then
   let new<-(if !bP then Ψ size n x
    else if n*size=0 then pure #[]
    else do pure (ω (<-ZZ h).cells n):Y (Array ι))
   if let V a:=base then Yr (a.add<|f*size) new.toList
   pure (.slice base (f+n) j)
  else
   if((f+n:Nat):Int)>IntKind.i64.max/\(bP\/(<-ζ h).bytes=0)then runtimePanic (.error "growslice: len out of range")
   if Zd (f+n) j*(<-ζ h).bytes>2^48 then(if bP then runtimePanic (.error "growslice: len out of range")else do
    if !(<-ZS size f n base x)then mark .noRoom
    unsupported (.resourceLimit "append: a slice or a string whose bytes no memory bears"))
   let g<-choose (.appendCap (f+n) j h)
   YW (g*(<-ζ h).bytes)
   let old<-Ψ size f (.slice base f j)
   let new<-(if !bP then Ψ size n x
    else if n*size=0 then pure #[]
    else do pure (ω (<-ZZ h).cells n):Y (Array ι))
   let rest:=ω (<-ZZ h).cells<|g-(f+n)
   pure (Zt (V (<-Yq h (old++new++rest))) (f+n) g):Y ι):=by
  intro bP n;have m:TT c (do
   let g<-choose (.appendCap (f+n) j h)
   YW (g*(<-ζ h).bytes)
   let old<-Ψ size f (.slice base f j)
   let new<-(if !bP then Ψ size n x
    else if n*size=0 then pure #[]
    else do pure (ω (<-ZZ h).cells n):Y (Array ι))
   let rest:=ω (<-ZZ h).cells<|g-(f+n)
   pure (Zt (V (<-Yq h (old++new++rest))) (f+n) g):Y ι):=ae (pP _) λk=>o bP n k
  have dead:vg c.P (do
   if !(<-ZS size f n base x)then mark .noRoom
   unsupported (.resourceLimit "append: a slice or a string whose bytes no memory bears"):Y Unit):=by
   intro u;obtain⟨b,e⟩:=qZ c.P size f n base x u;refine cP e ?_;dsimp only;split
   exact cP (u1:=u) (a:=()) rfl<|bz _;exact bz _
  refine aI (λ_=>?_) λ_=>?_;refine ae ?_ λnew=>?_
  ·exact aI (λ_=>yZ _ _ _) λ_=>aI (λ_=>bX _) λ_=>ae (cS _) λ_=>bX _
  dsimp only;split
  exact ae (eQ _ _ _) λ_=>bX _;exact bX _;refine ae (bF _) λi=>?_;dsimp only;refine aI (λ_=>ae (aO _) λ_=>?_) λ_=>?_<;>
   refine ae (bF _) λi=>aI (λ_=>ae (aI (λ_=>aO _) λ_=>qA dead) λ_=>m) λ_=>m
 have num:∀bP:Bool,TT c (do
  let n<-if bP then do
      let l:=IntKind.i64.wrap<|<-asInt x
      if l<0 then runtimePanic (.error "makeslice: len out of range")
      if l*(<-ζ h).bytes>2^48 then
       let made<-choose (.extern "append.ofMake.carriedOut" 2)
       runtimePanic (.error (if made==1 then "makeslice: len out of range"else "growslice: len out of range"))
      pure l.toNat
   else Zm x
  if f+n<=j then
   let new<-(if !bP then Ψ size n x
    else if n*size=0 then pure #[]
    else do pure (ω (<-ZZ h).cells n):Y (Array ι))
   if let V a:=base then Yr (a.add<|f*size) new.toList
   pure (.slice base (f+n) j)
  else
   if((f+n:Nat):Int)>IntKind.i64.max/\(bP\/(<-ζ h).bytes=0)then runtimePanic (.error "growslice: len out of range")
   if Zd (f+n) j*(<-ζ h).bytes>2^48 then(if bP then runtimePanic (.error "growslice: len out of range")else do
    if !(<-ZS size f n base x)then mark .noRoom
    unsupported (.resourceLimit "append: a slice or a string whose bytes no memory bears"))
   let g<-choose (.appendCap (f+n) j h)
   YW (g*(<-ζ h).bytes)
   let old<-Ψ size f (.slice base f j)
   let new<-(if !bP then Ψ size n x
    else if n*size=0 then pure #[]
    else do pure (ω (<-ZZ h).cells n):Y (Array ι))
   let rest:=ω (<-ZZ h).cells<|g-(f+n)
   pure (Zt (V (<-Yq h (old++new++rest))) (f+n) g):Y ι):=by
  intro bP;dsimp only;refine aI (λ_=>ae (jd _) λl=>?_) λ_=>ae (xk _) λn=>rest bP n;refine aI (λ_=>ae (aO _) λ_=>?_) λ_=>?_<;>
   refine ae (bF _) λi=>aI (λ_=>ae (pP _) λ_=>ae (aO _) λ_=>?_) λ_=>?_<;>
    exact ae (bX _) λn=>rest bP n
 obtain _|r:=a[1]?
 exact ae (bX _) λz=>num z;exact ae (aN _) λ_=>ae (bX _) λz=>num z;exact ch _;exact ch _;exact ch _
end
end
section
section
variable{c:Ctx}
def iA{α}(l){f:Loop->Y α}(h:∀r,c.ok (.loop r) ->¬c.S l->TT c (f r)):TT c (ZW l>>=f):=by
 unfold ZW;rw[bind_assoc];refine dg _ (f8<|cl _) λo b a=>?_;split
 grind
 exact gJ _
def vq(fn tmps e a b ar)(f:c.okF fn)(g:c.tX a)(hb:c.tX b):TT c (ZP fn tmps e a b ar):=by
 have rest:∀(d:Nat) (m:List Deferred),TT c (do pure (<-newObj (.loop {state:=.ready,pending:=Z,fn,tmps,params:=e,assign:=a,body:=b,defers:=d}),m):Y (Nat×List Deferred)):=λd m=>ae (kM _<|(c.loop _).2 ⟨f,g,hb,λj h=>by cases h⟩) λ_=>bX _
 obtain _|l:=ar
 exact ae (kM _<|(c.deferred _).2<|.inr rfl) λr=>cK _<|rest _ _;exact iA l λr k i=>cK _<|rest _ _
def FQ(l args):TT c (Zb l args):=by refine iA l λr b a=>?_;exact aI (λ_=>ae (ch _) λ_=>bX _) λ_=>bX _
def tq(l):TT c (Instr.beginRound l):=by refine iA l λr a b=>ae (sX _ _ ((c.loop _).2 ⟨((c.loop _).1 a).1,((c.loop _).1 a).2.1,((c.loop _).1 a).2.2.1,((c.loop _).1 a).2.2.2⟩) b) λ_=>?_;split<;>first|exact bX _|exact aO _
def xD(l j)(b:∀x,j=V x->c.tX x):TT c (ZB l j):=by refine iA l λr a d=>ae (sX _ _ ((c.loop _).2 ⟨((c.loop _).1 a).1,((c.loop _).1 a).2.1,((c.loop _).1 a).2.2.1,b⟩) d) λ_=>bX _
def AM(l):TT c (ZQ l):=by refine iA l λr a b=>?_;have rest:TT c (do setObj l (.loop {r with state:=.exhausted});pure r.pending:Y (Option Code)):=ae (sX _ _ ((c.loop _).2 ⟨((c.loop _).1 a).1,((c.loop _).1 a).2.1,((c.loop _).1 a).2.2.1,((c.loop _).1 a).2.2.2⟩) b) λ_=>bX _;exact aI (λ_=>ae (aO _) λ_=>rest) λ_=>rest
def qn(b):TT c (ZV b):=by
 refine dg _ (cl _) λo d a=>?_;split
 exact ae (sX _ _ ((c.deferred _).2<|.inl rfl) a) λ_=>bX _;simp
def kS(t)(x:Place):TT c (x.get t):=by
 cases x with
 |val v=>exact bX _
 |var a=>exact fa _ _
theorem jk:∀(l:List FieldStep) (t:ZY) (x:Place),TT c (follow l t x)
 |[],t,x=>bX _
 |s::rest,t,x=>by
  unfold follow;refine ae (aN _) λd=>?_;split
  split
  ·refine aI (λ_=>?_) λ_=>?_
   ·exact ae (kS _ _) λ_=>ae (lJ _) λ_=>ae (zT _ _) λ_=>jk rest _ _
   split
   ·exact ae (zT _ _) λ_=>jk rest _ _
   exact ae (ij _ _ _) λ_=>jk rest _ _;exact ch _
  exact ch _;exact ch _
def tr(a t p x y):TT c (Zi a t #[p,strVal x,strVal y]):=by
 unfold Zi strVal;cases p with
 |pointer q=>
  cases q with
  |some q=>exact bX _
  |none=>repeat' (first|assumption|(with_reducible first|exact bX _|exact ch _|exact dx _|exact aO _|exact pP _|exact aN _|exact bF _)|(refine ae ?_ λ_=>?_)|(with_reducible refine aI (λ_=>?_) λ_=>?_)|split|dsimp only)
 |_=>exact ch _
def Ih(t x p w):TT c (receiverAt t x p w):=by repeat' (first|assumption|(with_reducible first|exact bX _|exact ch _|exact kS _ _|exact tr _ _ _ _ _|exact fa _ _|exact lJ _|exact aN _)|(refine ae ?_ λ_=>?_)|split|dsimp only)
def M'(t v path p):TT c (receiverVia t v path p):=by exact ae (jk _ _ _) λ_=>Ih _ _ _ _
theorem tZ:∀(n:Nat) (t:ZY) (v:ι) (name:String),TT c (method n t v name)
 |0,_,_,_=>dx _
 |n+1,t,v,name=>by
  refine ae (bF _) λi=>?_;split
  refine ae (jk _ _ _) λr=>?_;dsimp only;split
  refine ae (kS _ _) λv=>?_;split
  exact tZ n _ _ _;exact aO _;exact ch _;exact ae (Ih _ _ _ _) λ_=>bX _;exact ch _
theorem iB:∀(l:List FieldStep) (t:ZY) (x:Option ι),TT c (followBlind l t x)
 |[],t,x=>bX _
 |s::rest,t,x=>by
  refine ae (aN _) λd=>?_;split
  split
  ·split<;>first|exact bX _|exact iB rest _ _|exact ch _|exact ae (ij _ _ _) λ_=>iB rest _ _
  exact ch _;exact ch _
theorem KB:∀(n:Nat) (t:ZY) (v:ι) (name:String),TT c (nilAhead n t v name)
 |0,_,_,_=>bX _
 |n+1,t,v,name=>by
  refine ae (bF _) λi=>?_;split
  refine ae (iB _ _ _) λr=>?_;split
  exact bX _;split<;>first|exact bX _|exact ch _|exact KB n _ _ _|skip
  refine ae (aN _) λd=>?_;split<;>exact bX _
  exact ch _
def jJ(c:Ctx):Prop:=∀f args,TT c (YC f args)
def I3(hc:jJ c)(r name args):TT c (Za r name args):=by
 unfold Za;split
 refine aM rfl<|ae (tZ _ _ _ _) λx=>hc _ _;simp;simp
def jl(T:Zy)(b:Builtin)(a:Array ZY):Prop:=
 match b with
 |.append|.cap|.copy|.len|.max|.min|.recover|.panic=>True
 |.delete=>∀t,a[0]?=V t->kR T t
 |_=>False
def AN(b a t cs args)(h:jl c.T b a):TT c (builtin b a t cs args):=by
 unfold builtin;cases b<;>first
  |exact False.elim h
  |exact ae (DU _ _ _) λ_=>bX _
  |exact ae (R3 _ _ _) λ_=>bX _
  |exact ae (agM _ _ _) λ_=>bX _
  |exact ae (R4 _ _ _) λ_=>bX _
  |exact ae (R5 _ _ _) λ_=>bX _
  |exact ae (R6 _ _ _) λ_=>bX _
  |exact ae (DT _ h _ _) λ_=>bX _
  |exact ae (xj _) λ_=>bX _
  |exact bX _
def nz(T:Zy):Target->Prop
 |.builtin b a _ _=>jl T b a
 |_=>True
def jm(hc:jJ c)(t args)(h:nz c.T t):TT c (Zw t args):=by
 unfold Zw;split
 exact aO _;exact AN _ _ _ _ _ h;exact hc _ _;split
 ·exact I3 hc _ _ _
 exact ch _;split
 ·refine ae (aN _) λd=>?_;exact I3 hc _ _ _
 exact ch _;split
 ·exact ae (M' _ _ _ _) λ_=>hc _ _
 exact ch _;exact FQ _ _;exact ch _;exact bX _
def AP(f args):TT c (Z7 f args):=by unfold Z7;split<;>first|exact bX _|exact ch _
def AS(a k t):TT c (ZD a k t):=by
 unfold ZD;split
 simp;simp;exact AP _ _
end
end
section
structure bu where
 flat:List ZY
 ints:List ZY
 maps:List ZY
structure bu.Sound(T:Zy)(L:bu):Prop where
 flat:∀t∈L.flat,Flat T t
 ints:∀t∈L.ints,∃k,(⟨T,#[]⟩:R).underlying t=V (.int k)
 maps:∀t∈L.maps,kR T t
def nD:Operand->Bool
 |.const .nilIface=>U
 |.const (Zt Z 0 0)=>U
 |_=>ο
def AT(L:bu)(k:Call):Bool:=
 match k.callee with
 |.builtin b=>match b with
  |.append|.cap|.copy|.len|.max|.min|.recover=>U
  |.delete=>match k.argTypes[0]? with
   |some t=>L.maps.contains t
   |none=>U
  |_=>ο
 |_=>U
def AU(L:bu):Op->Bool
 |.ready _|.waits _|.makeChan ..|.sliceToArrayPointer ..|.entryStore ..|.mapEntry ..|.go _|.send ..|.recv ..|.select ..=>ο
 |.binOp op t x y _=>!(op matches .eql|.neq)||L.flat.contains t||nD x||nD y
 |.convert s d _=>L.ints.contains s&&L.ints.contains d
 |.lookup t ..|.mapUpdate t ..|.insert t ..=>L.maps.contains t
 |.call k=>AT L k
 |.defer k=>match k.callee with
  |.builtin _=>ο
  |_=>U
 |_=>U
section
variable{c:Ctx}{L:bu}{T:Zy}
def nE{x}(h:nD x=U):x=.const .nilIface\/x=.const (Zt Z 0 0):=by
 unfold nD at h
 grind
def DV(f:L.Sound c.T){b:Operand->ι}(a:∀v,b (.const v)=v)(op t x y u)(h:AU L (.binOp op t x y u)=U):
 TT c (do eqGuard op t x y (b x) (b y);binOp op t (b x) (b y)):=by
 simp only[AU,Bool.or_eq_true]at h;obtain((h|h)|h)|h:=h
 ·refine ae ?_ λ_=>ji _ _ _ _ λe=>?_
  ·cases op<;>first|(simp at h;done)|exact bX _
  obtain rfl|rfl:=e<;>simp at h
 have d:=f.flat t<|υ.1 h;exact ae (iy _ _ _ _ _ _<|.inl d) λ_=>ji _ _ _ _ λ_=>kt _ d _ _ _;obtain rfl|rfl:=nE h<;>rw[a]
 ·exact ae (iy _ _ _ _ _ _<|.inr ⟨rfl,.inl<|by simp⟩) λ_=>ji _ _ _ _ λ_=>fE _ _ _ (by simp) _
 exact ae (iy _ _ _ _ _ _<|.inr ⟨rfl,.inl<|by simp⟩) λ_=>ji _ _ _ _ λ_=>fE _ _ _ (by simp) _;obtain rfl|rfl:=nE h<;>rw[a]
 ·exact ae (iy _ _ _ _ _ _<|.inr ⟨by cases x<;>rfl,.inr<|by simp⟩) λ_=>ji _ _ _ _ λ_=>fE _ _ _ (by simp) _
 exact ae (iy _ _ _ _ _ _<|.inr ⟨by cases x<;>rfl,.inr<|by simp⟩) λ_=>ji _ _ _ _ λ_=>fE _ _ _ (by simp) _
def xE(v:ι):TT c (match v with
 |ZL Z|.nilIface|.nilFunc=>runtimePanic .nilDeref
 |.func (.method name) first captured=>
  match(first[0]?:Option ι)with
  |some .nilIface=>runtimePanic .nilDeref
  |some (.iface t w)=>do
   if(<-nilAhead ((<-program).types.size+Made.depth) t w name) !=V ο then
    unsupported (.noEntry "op/nilCheck.the method's receiver behind this interface value is a nil pointer, or cannot be seen to be none, and the arguments act or may panic (ledger 612)")
   pure (.value<|.func (.method name) first captured)
  |_=>pure<|.value<|.func (.method name) first captured
 |x=>pure (.value x):Y Next):=by
 split
 simp;exact aO _;exact aO _;split
 ·exact aO _
 refine aM rfl<|ae (KB _ _ _ _) λr=>?_;exact aI (λ_=>ae (dx _) λ_=>bX _) λ_=>bX _;exact bX _;exact bX _
def kT(d:L.Sound c.T){b args a}(h:AT L ⟨.builtin b,args,a⟩=U):jl c.T b a:=by
 unfold AT at h;cases b<;>first|trivial|(cases h)|skip
 intro t e;simp only[e]at h;exact d.maps t<|υ.1 h
def kU{f args P u a d}(h:(Z7 f args).run P u=.ok d a):nz T d.target:=by
 unfold Z7 at h;split at h
 cases h;trivial
 cases h;trivial
 cases h
def Cp(hc:jJ c)(a f)(args:Array Operand):TT c (do let d<-Z7 (a f) (args.map a);Zw d.target d.args):=by
 unfold Z7;split
 exact cK _<|jm hc _ _ trivial;exact cK _<|jm hc _ _ trivial;exact gJ _
def DW(q:L.Sound c.T)(hc:jJ c){ρ}(z:∀v,ρ (.const v)=v)(o)(h:AU L o.op=U):TT c (YV ρ o):=by
 obtain⟨C,op,B,pos,after,guard⟩:=o;unfold YV;dsimp only at h⊢;cases op with
 |move x=>exact bX _
 |assign x=>exact bX _
 |pick a b d=>exact ae (lI _) λ_=>bX _
 |alloc e=>exact ae (FH _) λ_=>bX _
 |box e x=>exact ae (R2 _ _) λ_=>bX _
 |build t E=>exact ae (FI _ _) λ_=>bX _
 |buildSlice t n E=>exact ae (tj _ _ _) λ_=>bX _
 |insert t m k x=>exact ae (ny _ (q.maps t<|υ.1 h) _ _ _) λ_=>bX _
 |load t a=>exact ae (DN _ _) λ_=>bX _
 |store t a x=>exact ae (Aw _ _ _) λ_=>bX _
 |ready g=>cases h
 |waits g=>cases h
 |nilCheck x=>exact xE _
 |binOp op t x y u=>exact ae (DV q z _ _ _ _ _ h) λ_=>bX _
 |unOp o t x=>exact ae (FJ _ _) λ_=>bX _
 |convert s d x=>simp only[AU,ξ]at h;obtain⟨k,D⟩:=q.ints s<|υ.1 h.1;obtain⟨j,F⟩:=q.ints d<|υ.1 h.2;exact ae (AK _ _ _ _ _ D F) λ_=>bX _
 |sliceToArrayPointer d x=>cases h
 |makeInterface t x=>exact ae (oG _ _) λ_=>bX _
 |makeFunc f a b=>exact ae (xi _ _ _) λ_=>bX _
 |makeMap t r=>exact ae (AC _ _) λ_=>bX _
 |makeChan t s=>cases h
 |makeSlice t l k=>exact ae (vh _ _ _) λ_=>bX _
 |slice t x l G m=>exact ae (AA _ _ _ _ _) λ_=>bX _
 |fieldAddr t x f=>exact ae (Ay _ _ _) λ_=>bX _
 |field t x f=>exact ae (FF _ _ _) λ_=>bX _
 |indexAddr t x i=>exact ae (Az _ _ _) λ_=>bX _
 |index t x i=>exact ae (FE _ _ _) λ_=>bX _
 |lookup t x i ok=>exact ae (DS _ (q.maps t<|υ.1 h) _ _ _) λ_=>bX _
 |mapUpdate t m k x=>exact ae (ny _ (q.maps t<|υ.1 h) _ _ _) λ_=>bX _
 |mapEntry t m k=>cases h
 |entryStore t m s x=>cases h
 |range t x=>exact ae (FO _ _) λ_=>bX _
 |next it s=>exact ae (K7 _ _ _) λ_=>bX _
 |entry it=>exact ae (FP _) λ_=>bX _
 |typeAssert x t a ok=>exact ae (tk _ _ _ _) λ_=>bX _
 |extract t i=>exact ae (AB _ _) λ_=>bX _
 |call k=>
  dsimp only;unfold ZD;obtain⟨p,A,w⟩:=k;cases p with
  |value f=>exact Cp hc ρ _ _
  |invoke r m=>exact cK _<|jm hc _ _ trivial
  |builtin b=>exact cK _<|jm hc _ _<|kT q h
 |go k=>cases h
 |defer k=>exact ae (AS _ _ _) λ_=>bX _
 |panic x=>exact ae (xj _) λ_=>bX _
 |send a b=>cases h
 |recv a b d=>cases h
 |select a b=>cases h
end
end
section
section
variable{c:Ctx}
open Go.Extern.Rtype
def iQ(h):TT c (ofHandle h):=by refine aM rfl ?_;split<;>first|exact bX _|exact ch _
def t9(t):TT c (handle t):=aM rfl<|bX _
def lL(s t):TT c (noPack s t):=by exact aM (by rw[show c.Q.packed t=c.P.packed t from iM c.T c.F c.G t])<|aI (λ_=>dx _) λ_=>bX _
def dF(s t):TT c (noPackMethods s t):=by refine aM ?_<|aM rfl<|aI (λ_=>dx _) λ_=>bX _;simp only[Ctx.Q,ie c.T c.F c.G];rfl
def re(s t):TT c (noPackNamed s t):=by refine aM ?_<|aM rfl<|aI (λ_=>dx _) λ_=>bX _;simp only[Ctx.Q,je c.T c.F c.G];rfl
def rh(t):TT c (spelt t):=ae (re _ _) λ_=>Av _
def jn(t):TT c (under t):=by
 refine ae (bF _) λi=>?_;split
 simp;simp
def qB(t):TT c (kind t):=by refine ae (jn _) λi=>?_;dsimp only;split<;>first|exact bX _|exact ch _
def ri(t):TT c (hasName t):=by refine ae (bF _) λi=>?_;split<;>exact bX _
def xF(t):TT c (elem? t):=by refine ae (jn _) λi=>?_;split<;>exact bX _
def i6(t v):TT c (implements t v):=by
 refine ae (dF _ _) λ_=>ae (dF _ _) λ_=>ae (jn _) λ_=>ae (jn _) λ_=>?_;split
 simp;simp;simp
def fY(t v):TT c (directlyAssignable t v):=by
 unfold directlyAssignable;have rest:TT c (do
  let(t,ti)<-under t
  let(v,vi)<-under v
  match ti.desc,vi.desc with
  |.chan _ e,.chan .both e'=>pure<|t==v||e==e'
  |_,_=>pure (t==v):Y Bool):=by
  refine ae (jn _) λ_=>ae (jn _) λ_=>?_;dsimp only;split<;>exact bX _
 exact aI (λ_=>bX _) λ_=>ae (ri _) λ_=>ae (ri _) λ_=>aI (λ_=>bX _) λ_=>rest
open Go.Extern.ReflectliteType in
def oN(t):TT c (toType t):=ae (qT _) λ_=>ae (t9 _) λ_=>bX _
open Go.Extern.ReflectliteType in
def mR(v):TT c (ofRtype v):=by
 cases v with
 |agg cs=>
  obtain⟨l⟩:=cs
  match l with
  |[]=>exact ch _
  |[h]=>exact ae (iQ _) λ_=>ae (lL _ _) λ_=>bX _
  |_::_::_=>exact ch _
 |_=>exact ch _
open Go.Extern.ReflectliteType in
def DX(args):TT c (typeOf args):=by
 obtain⟨l⟩:=args
 match l with
 |[]=>exact ch _
 |[h]=>cases h with
  |nilIface=>exact bX _
  |iface t v=>exact oN t
  |_=>exact ch _
 |_::_::_=>exact ch _
open Go.Extern.ReflectliteType in
def xG(f)(a:∀t,TT c (f t))(args):TT c (Go.Extern.ReflectliteType.method f args):=by
 obtain⟨l⟩:=args
 match l with
 |[]=>exact ch _
 |[h]=>exact ae (mR _) λ_=>a _
 |_::_::_=>exact ch _
open Go.Extern.ReflectliteType in
def DY(t):TT c (elem t):=by
 refine ae (xF _) λe=>?_;split
 exact oN _;exact ae (rh _) λ_=>fC _
open Go.Extern.ReflectliteType in
def pE(s f)(a:∀t u,TT c (f t u))(args):TT c (relation s f args):=by
 obtain⟨l⟩:=args
 match l with
 |[]=>exact ch _
 |[h]=>exact ch _
 |[h,i]=>cases i with
  |nilIface=>exact fC _
  |iface t v=>exact ae (mR _) λ_=>ae (mR _) λ_=>ae (a _ _) λ_=>bX _
  |_=>exact ch _
 |_::_::_::_=>exact ch _
open Go.Extern.ReflectliteType in
def rj(u t):TT c (implements_ u t):=by refine ae (qB _) λ_=>?_;have rest:TT c (do noPackMethods "Implements" t;noPack "Implements" u;implements u t:Y Bool):=ae (dF _ _) λ_=>ae (lL _ _) λ_=>i6 _ _;exact aI (λ_=>ae (fC _) λ_=>rest) λ_=>rest
open Go.Extern.ReflectliteType in
def qo(u t):TT c (assignableTo u t):=by
 have rest:TT c (do pure ((<-directlyAssignable u t)||(<-implements u t)):Y Bool):=by exact ae (fY _ _) λ_=>ae (i6 _ _) λ_=>bX _
 exact aI (λ_=>ae (dF _ _) λ_=>ae (dF _ _) λ_=>rest) λ_=>rest
open Go.Extern.ReflectliteType in
def PL(f)(a:∀t,TT c (f t))(args):TT c (abiMethod f args):=by
 obtain⟨l⟩:=args
 match l with
 |[]=>exact ch _
 |[h]=>exact ae (iQ _) λ_=>ae (lL _ _) λ_=>a _
 |_::_::_=>exact ch _
end
section
variable{c:Ctx}
open Go.Extern.ReflectliteValue
def QE(t a f):TT c (mk t a f):=ae (t9 _) λ_=>ae (qB _) λ_=>bX _
def ua(v):TT c (unpack v):=by
 unfold unpack;split
 simp;exact ae (iq _ _) λ_=>QE _ _ _;simp
def d8{α}(s k):TT c (valueError s k:Y α):=ae (qT _) λ_=>ae (oC _) λ_=>ae (iq _ _) λ_=>vZ _
def pF(v):TT c (partsAny v):=by
 unfold partsAny;cases v with
 |agg cs=>
  obtain⟨l⟩:=cs
  match l with
  |[]=>exact ch _
  |[_]=>exact ch _
  |[_,_]=>exact ch _
  |[h,p,f]=>
   cases f with
   |int k n=>
    cases k with
    |u64=>
     have d:∀m:Int,(match m with|0=>False|_=>True) ->TT c (partsAny<|.agg #[h,p,.int .u64 m]):=by
      intro m b;cases p with
      |pointer a=>
       obtain _|a:=a
       cases m with
       |ofNat k=>cases k with
        |zero=>cases b
        |succ k=>exact ch _
       |negSucc k=>exact ch _
       cases m with
       |ofNat k=>cases k with
        |zero=>cases b
        |succ k=>exact ae (iQ _) λ_=>bX _
       |negSucc k=>exact ae (iQ _) λ_=>bX _
      |_=>
       cases m with
       |ofNat k=>cases k with
        |zero=>cases b
        |succ k=>exact ch _
       |negSucc k=>exact ch _
     cases n with
     |ofNat k=>cases k with
      |zero=>exact bX _
      |succ k=>exact d (.ofNat<|k+1) trivial
     |negSucc k=>exact d (.negSucc k) trivial
    |_=>exact ch _
   |_=>exact ch _
  |_::_::_::_::_=>exact ch _
 |_=>exact ch _
def rl(v):TT c (parts v):=by
 refine ae (pF _) λr=>?_;split
 exact ae (lL _ _) λ_=>bX _;simp
def pG(z f)(hz:TT c z)(b:∀t a n k,TT c<|f t a n k)(args):TT c (Zh z f args):=by
 obtain⟨l⟩:=args
 match l with
 |[]=>exact ch _
 |[h]=>
  refine ae (rl _) λr=>?_
  grind
 |_::_::_=>exact ch _
def Nv(z f)(hz:TT c z)(b:∀t a n k,TT c<|f t a n k)(args):TT c (methodAny z f args):=by
 obtain⟨l⟩:=args
 match l with
 |[]=>exact ch _
 |[h]=>
  refine ae (pF _) λr=>?_
  grind
 |_::_::_=>exact ch _
def AV(t a n k):TT c (isNil t a n k):=by
 have rest:TT c (do match<-Yj t a with
  |.chan Z|.nilFunc|.nilIface|.map Z|ZL Z|Zt Z _ _=>pure<|.bool U
  |_=>pure (.bool ο):Y ι):=by
  refine ae (fa _ _) λv=>?_;split<;>exact bX _
 exact aI (λ_=>ae (d8 _ _) λ_=>rest) λ_=>rest
def DZ(t a n k):TT c (Zg t a n k):=by
 have rest:TT c (do match k,<-Yj t a,<-Extern.Rtype.elem? t with
  |20,i,_=>unpack i
  |22,ZL Z,_=>pure zeroV
  |22,ZL (V p),V e=>mk e p flagAddr
  |_,_,_=>valueError "reflectlite.Value.Elem" k:Y ι):=by
  refine ae (fa _ _) λv=>ae (xF _) λe=>?_;split
  exact ua _;exact bX _;exact QE _ _ _;exact d8 _ _
 exact aI (λ_=>ae (d8 _ _) λ_=>rest) λ_=>rest
def FT(args):TT c (ZG args):=by
 unfold ZG;obtain⟨l⟩:=args
 match l with
 |[]=>exact ch _
 |[_]=>exact ch _
 |[v,x]=>
  refine ae (rl _) λr=>ae (rl _) λq=>?_;split
  have rest:∀d a e b,TT c (do
   let f<-Yj e b
   if<-Extern.Rtype.directlyAssignable d e then YL d a f
   else if<-Extern.Rtype.implements d e then
    if(<-Extern.Rtype.kind e)==20 then
     match f with
     |.nilIface=>unsupported<|.noEntry "extern/reflectlite: a nil value of one interface type handed on as a value of another"
     |_=>YL d a f
    else YL d a (.iface e f)
   else panicString ("reflectlite.Set: value of type "++(<-Extern.Rtype.spelt e)++ " is not assignable to type "++(<-Extern.Rtype.spelt d))
   pure (.tuple #[]):Y ι):=by
   intro d a e b;refine ae (fa _ _) λf=>ae (fY _ _) λ_=>aI (λ_=>ae (iL _ _ _) λ_=>bX _) λ_=>?_;refine ae (i6 _ _) λ_=>aI (λ_=>?_) λ_=>?_;refine ae (qB _) λ_=>aI (λ_=>?_) λ_=>ae (iL _ _ _) λ_=>bX _;split
   exact ae (dx _) λ_=>bX _;exact ae (iL _ _ _) λ_=>bX _;exact ae (rh _) λ_=>ae (rh _) λ_=>ae (fC _) λ_=>bX _
  exact aI (λ_=>ae (dx _) λ_=>rest _ _ _ _) λ_=>rest _ _ _ _;exact dx _
 |_::_::_::_=>exact ch _
end
structure vt(c:Ctx)(fn:Y6):Prop where
 name:(fn.name== "runtime.NumGoroutine")=ο
 body:fn.body.isNone=U
 next:Extern.findNext fn=Z
 row:∃e,Extern.find fn=V e/\∀args,TT c (e args)
structure xH(fn:Y6):Prop where
 name:(fn.name== "runtime.NumGoroutine")=ο
 body:fn.body.isNone=U
 next:Extern.findNext fn=Z
 row:Extern.find fn=Z
 init:(fn.name.endsWith ".init"&&!fn.name.startsWith "("&&!fn.name.startsWith "gosem.")=ο
inductive gV(c:Ctx):Option Y6->Option Y6->Prop where
 |none:gV c Z Z
 |oO (f g:Y6) (hf:f.body.isNone=ο) (hg:g.body.isNone=ο) (nf:(f.name== "runtime.NumGoroutine")=ο) (ng:(g.name== "runtime.NumGoroutine")=ο):gV c (V f) (V g)
 |row (f:Y6) (h:vt c f):gV c (V f) (V f)
 |dead (f:Y6) (g:Option Y6) (h:xH f):gV c (V f) g
section
variable{c:Ctx}
def pH(h:∀f:ZT,gV c c.F[f]? c.G[f]?):jJ c:=by
 intro f b;unfold YC;have i:c.P.funcs[f]?=c.F[f]?:=rfl;have j:c.Q.funcs[f]?=c.G[f]?:=rfl;refine qS ?_;rw[i,j];have a:=h f;generalize c.F[f]?=x at a⊢;generalize c.G[f]?=y at a⊢;cases a with
 |none=>exact ch _
 |oO f g a k m n=>dsimp only;rw[m,n,a,k];exact bX _
 |row fn h=>obtain⟨e,d,l⟩:=h.row;dsimp only;rw[h.name,h.body,h.next,d];exact ae (tg _) λ_=>ae (l _) λ_=>bX _
 |dead fn g h=>dsimp only;rw[h.name,h.body,h.next,h.row,h.init];exact bO.stop λu=>⟨_,u,rfl,by simp⟩
end
end
section
def Cq:Op->Bool
 |.defer _=>U
 |_=>ο
def jK(L:bu)(r:Bool)(o:Oper):Bool:=AU L o.op&&!(r&&Cq o.op)
def be(L:bu):Bool->Code->Bool
 |r,.region _ ops _=>ops.all<|jK L r
 |r,.seq a b=>be L r a&&be L r b
 |r,.cond _ a b=>be L r a&&be L r b
 |r,.block _ b=>be L r b
 |r,.loop b=>be L r b
 |r,.scope b=>be L r b
 |_,.rangeFunc _ _ a b=>be L U a&&be L U b
 |_,_=>U
def xI{L o}(h:jK L U o=U)(r):jK L r o=U:=by
 unfold jK at h⊢
 grind
theorem dM{L:bu}:∀{k:Code} (r:Bool),be L U k=U->be L r k=U
 |.region _ ops _,r,h=>by
  simp only[be,Y1]at h⊢
  exactλi hi=>xI (h i hi) r
 |.seq a b,r,h=>by simp only[be,ξ]at h⊢;exact⟨dM r h.1,dM r h.2⟩
 |.cond _ a b,r,h=>by simp only[be,ξ]at h⊢;exact⟨dM r h.1,dM r h.2⟩
 |.block _ b,r,h=>dM (k:=b) r h
 |.loop b,r,h=>dM (k:=b) r h
 |.scope b,r,h=>dM (k:=b) r h
 |.rangeFunc _ _ a b,r,h=>h
 |.skip,_,_=>rfl
 |.exit _,_,_=>rfl
 |.label _,_,_=>rfl
 |.goto _,_,_=>rfl
 |.ret,_,_=>rfl
 |.refuse _,_,_=>rfl
def dS(L:bu)(r:Bool):Item->Bool
 |.code k|.inLoop k|.inScope k=>be L r k
 |.inRegion ops _=>ops.all<|jK L r
 |.inBlock _|.inRangeFunc _|.endRangeFunc _|.beginRound=>U
 |.call ..|.extern ..=>ο
def nF(d:Deferred):Bool:=
 match d.target with
 |.builtin ..|.coroexit _=>ο
 |_=>U
structure ge(c:Ctx)(L:bu)(sp:ZT):Prop where
 pair:∀f:ZT,gV c c.F[f]? c.G[f]?
 same:∀f fn b,f≠sp->c.F[f]?=V fn->fn.body=V b->c.G[f]?=V fn/\be L ο b=U
 inits:∀f fn b,c.F[f]?=V fn->fn.body=V b->c.T.inits.idxOf? f=Z
 R7:∀g,c.P.stepOf g=Z
 ahead:c.T.follows .staticDataAhead=U
 tX:∀k,c.tX k↔be L U k=U
 okF:∀f,c.okF f↔f≠sp/\∃fn b,c.F[f]?=V fn/\fn.body=V b
 lists:L.Sound c.T
structure aJ(c:Ctx)(L:bu)(sp:ZT)(fr:Zs):Prop where
 fn:fr.fn≠sp/\∃f b,c.F[fr.fn]?=V f/\f.body=V b
 todo:∀i∈fr.todo,dS L fr.roundOf.isSome i=U
 defers:∀d∈fr.defers,nF d=U
 kind:fr.kind=.normal\/fr.kind=.deferred
section
variable{c:Ctx}{L:bu}{sp:ZT}{fr:Zs}
def aJ.finish(h:aJ c L sp fr)(v):aJ c L sp (fr.finish v):=by
 obtain⟨f,o,todo,defers,mode,kind,p⟩:=fr;obtain⟨g,e,h3,h4⟩:=h;unfold Frame.finish;split
 rename_i m i rest k d;dsimp only at d e;subst d;exact⟨g,λj n=>by
  obtain rfl|n:=ψ.1 n
  exact e (.inRegion m (i::rest)) (by simp);exact e j (by simp[n]),h3,h4⟩
 rename_i l k d;dsimp only at d e;subst d;exact⟨g,λi hi=>by
  obtain rfl|hi:=ψ.1 hi
  rfl;exact e i (by simp[hi]),h3,h4⟩
 rename_i k d;dsimp only at d e;subst d;exact⟨g,λi hi=>e i<|by simp[hi],h3,h4⟩;rename_i a b r s k d;dsimp only at d e;subst d;exact absurd (e (.call a b r s)<|by simp) (by simp[dS]);rename_i a b k d;dsimp only at d e;subst d;exact absurd (e (.extern a b)<|by simp) (by simp[dS]);exact⟨g,e,h3,h4⟩
def aJ.raise(h:aJ c L sp fr)(vs):aJ c L sp (fr.raise vs):=by unfold Frame.raise;split<;>exact⟨h.fn,h.todo,h.defers,h.kind⟩
theorem aJ.mode(h:aJ c L sp fr)(m:FrameMode):aJ c L sp {fr with mode:=m}:=⟨h.fn,h.todo,h.defers,h.kind⟩
def aJ.Cr(h:aJ c L sp fr)(t)(a:∀i∈t,dS L fr.roundOf.isSome i=U):aJ c L sp {fr with todo:=t}:=⟨h.fn,a,h.defers,h.kind⟩
def aJ.qC(h:aJ c L sp fr)(t)(a:∀i∈t,nF i=U):aJ c L sp {fr with defers:=t}:=⟨h.fn,h.todo,a,h.kind⟩
theorem eS:∀{fr:Zs} {cs:List Zs} {v:ι} {cs':List Zs},(∀x∈cs,aJ c L sp x) ->Zv fr cs=V (v,cs') ->∀x∈cs',aJ c L sp x
 |fr,[],v,cs',h,e=>by unfold Zv at e;split at e<;>simp_all
 |fr,caller::rest,v,cs',h,e=>by
  unfold Zv at e;split at e
  rename_i b hc;cases hc
  split at e
  cases e
  intro x a;obtain rfl|a:=ψ.1 a
  exact(h caller<|by simp).mode _;exact h x (by simp[a]);cases e
  rename_i b hc;cases hc
  obtain⟨⟨v1,r1⟩,e1,e2⟩:=Zf.1 e;cases e2
  intro x a;obtain rfl|a:=ψ.1 a
  exact h _ (by simp);exact eS (λy d=>h y<|by simp[d]) e1 x a;cases e
theorem eg:∀{l:Nat} {cs:List Zs} {v:ι} {cs':List Zs},(∀x∈cs,aJ c L sp x) ->Y' l cs=V (v,cs') ->∀x∈cs',aJ c L sp x
 |l,[],v,cs',h,e=>by simp[Y']at e
 |l,fr::rest,v,cs',h,e=>by
  obtain⟨⟨v1,r1⟩,e1,e2⟩:=Zf.1 e;cases e2
  have b:∀y∈rest,aJ c L sp y:=λy d=>h y (by simp[d]);intro x a;obtain rfl|a:=ψ.1 a
  exact h _ (by simp);split at e1
  ·exact eg b e1 x a
  split at e1
  ·exact eS b e1 x a
  exact eg b e1 x a;exact eg b e1 x a
theorem oP{r:Bool}:∀{id:Nat} {k t:List Item},(∀i∈k,dS L r i=U) ->exitTo id k=V t->∀i∈t,dS L r i=U
 |id,[],t,h,e=>by simp[exitTo]at e
 |id,i::k,t,h,e=>by
  have b:∀i∈k,dS L r i=U:=λi hi=>h i (by simp[hi]);unfold exitTo at e;split at e
  rename_i a;cases a
  split at e
  cases e;exact b
  exact oP b e;rename_i a;cases a
  exact oP b e
  grind
theorem jL{r:Bool}:∀{b:Code} {l:Nat} {t:Code},be L r b=U->Y0 b l=V t->be L r t=U
 |.seq a b,l,t,h,e=>by
  simp only[be,ξ]at h;unfold Y0 at e;split at e
  rename_i t1 c;cases e
  simp only[be,ξ];exact⟨jL h.1 c,h.2⟩;exact jL h.2 e
 |.label l',l,t,h,e=>by
  unfold Y0 at e;split at e
  cases e;rfl
  cases e
 |.skip,_,_,_,e|.region _ _ _,_,_,_,e|.cond _ _ _,_,_,_,e|.block _ _,_,_,_,e|.loop _,_,_,_,e|.rangeFunc _ _ _ _,_,_,_,e|.exit _,_,_,_,e|.scope _,_,_,_,e|.goto _,_,_,_,e|.ret,_,_,_,e|.refuse _,_,_,_,e=>by simp[Y0]at e
theorem oQ{r:Bool}:∀{l:Nat} {k t:List Item},(∀i∈k,dS L r i=U) ->gotoIn l k=V t->∀i∈t,dS L r i=U
 |l,[],t,h,e=>by simp[gotoIn]at e
 |l,i::k,t,h,e=>by
  have c:∀i∈k,dS L r i=U:=λi hi=>h i (by simp[hi]);unfold gotoIn at e;split at e
  rename_i body f a;cases a
  split at e
  rename_i rest hb;cases e
  have b:=h (.inScope body) (by simp);intro j d;obtain rfl|d:=ψ.1 d
  exact jL b hb
  grind
  exact oQ c e;rename_i a;cases a
  exact oQ c e;rename_i a;cases a
end
end
section
def Yields{α:Type}(P:R)(x:Y α)(Φ:α->Prop):Prop:=∀u a u',x.run P u=.ok a u'->Φ a
section
variable{c:Ctx}{L:bu}{sp:ZT}
def aW{d c P x}{f:d->Y c}{Φ}(h:∀a,Yields P (f a) Φ):Yields P (x>>=f) Φ:=by
 intro u b g e;rw[Δ]at e;cases hx:x.run P u with
 |ok a u1=>rw[hx]at e;exact h a u1 b g e
 |halt r u1=>simp_all
def bQ{c P a Φ}(h:Φ a):Yields P (pure a:Y c) Φ:=by
 intro u b d e
 simp_all
def iR{a P Φ}(r):Yields P (.halt r:Y a) Φ:=by intro u b c e;cases e
def vu{a P Φ}(s):Yields P (stuck s:Y a) Φ:=iR _
def cA{b P Φ}(e):Yields P (runtimePanic e:Y b) Φ:=by
 refine aW λp=>?_;cases e with
 |typeAssertion i d a m=>exact aW λ_=>aW λ_=>iR _
 |panicNil=>exact aW λ_=>aW λ_=>iR _
 |_=>exact iR _
def eM(c:Ctx)(L:bu):Next->Prop
 |.value _|.skip|.recover=>True
 |.enter f _=>∃fn b,c.F[f]?=V fn/\fn.body=V b
 |.round _ f _ a b=>c.okF f/\be L U a=U/\be L U b=U
 |.defer d=>nF d=U
 |_=>False
def i7(hF:ge c L sp)(f args):Yields c.P (YC f args) (eM c L):=by
 intro u n l e;unfold YC at e;rw[Δ,kP]at e;simp only[μ]at e;have d:=hF.pair f;rw[show c.P.funcs[f]?=c.F[f]? from rfl]at e;generalize j:c.F[f]?=x at d e;generalize c.G[f]?=y at d;cases d with
 |none=>cases e
 |oO fn g i o m q=>
  dsimp only at e;rw[m,i]at e;cases e
  cases hb:fn.body with
  |none=>rw[hb]at i;cases i
  |some b=>exact⟨fn,b,j,hb⟩
 |row fn h=>obtain⟨ex,k,p⟩:=h.row;dsimp only at e;rw[h.name,h.body,h.next,k]at e;exact(aW (Φ:=eM c L) λ_=>aW λx=>bQ (a:=Next.value x) trivial) u n l e
 |dead fn g h=>dsimp only at e;rw[h.name,h.body,h.next,h.row,h.init]at e;cases e
def kx(hF:ge c L sp)(r name args):Yields c.P (Za r name args) (eM c L):=by
 unfold Za;split
 exact aW λ_=>aW λ_=>i7 hF _ _;exact cA _;exact vu _
def vv(b a t cs args)(h:jl c.T b a):Yields c.P (builtin b a t cs args) (eM c L):=by
 cases b<;>first
  |exact False.elim h
  |exact aW λ_=>bQ trivial
  |exact bQ trivial
def ub(c:Ctx)(u:κ):Prop:=∀(b:Nat) o,u.heap[b]?=V o->c.ok o
variable{u' u:κ}{n:Next}
def pI{l r}(hs:ub c u)(e:(ZW l).run c.P u=.ok r u'):c.ok (.loop r)/\u'=u:=by
 unfold ZW getObj at e;simp only[bind,Z3,Θ]at e;split at e
 cases e
 rename_i o b a;split at e
 cases e
 exact⟨hs _ _ a,rfl⟩;cases e
 cases e
def AW(hF:ge c L sp)(hs:ub c u){l args}(e:(Zb l args).run c.P u=.ok n u'):eM c L n:=by
 unfold Zb at e;rw[Δ]at e;cases h:(ZW l).run c.P u with
 |halt r u1=>rw[h]at e;cases e
 |ok r u1=>
  rw[h]at e;have d:=(c.loop _).1 (pI hs h).1;have f:Yields c.P (do
   if args.size≠r.params.size then stuck "yield: the wrong number of arguments"
   pure (.round l r.fn ((r.params.zip args).foldl (λb (t,a)=>b.setIfInBounds t a) r.tmps) r.assign r.body)) (eM c L):=by
   split
   simp_all
   exact bQ ⟨d.1,(hF.tX _).1 d.2.1,(hF.tX _).1 d.2.2.1⟩
  exact f u1 n u' e
def kV(hF:ge c L sp)(hs:ub c u){t args}(b:nz c.T t)(a:∀x,t≠.coroexit x)(e:(Zw t args).run c.P u=.ok n u'):eM c L n:=by
 unfold Zw at e;split at e
 trivial;exact vv _ _ _ _ _ b u n u' e;exact i7 hF _ _ u n u' e;split at e
 ·exact kx hF _ _ _ u n u' e
 cases e
 split at e
 ·exact(aW λ_=>kx hF _ _ _) u n u' e
 cases e
 split at e
 ·exact(aW λ_=>i7 hF _ _) u n u' e
 cases e
 exact AW hF hs e;cases e
 exact absurd rfl<|a _
def kW{P a k t d}(e:(ZD a k t).run P u=.ok d u'):u'=u/\(∀x,d.target≠.coroexit x)/\((∀b,k.callee≠.builtin b) ->nF d=U):=by
 unfold ZD at e;split at e
 rename_i b hb;cases e
 exact⟨rfl,by simp,λh=>absurd hb<|h _⟩;cases e
 exact⟨rfl,by simp,λ_=>rfl⟩;unfold Z7 at e;split at e<;>cases e<;>exact⟨rfl,by simp,λ_=>rfl⟩
def xJ(hF:ge c L sp)(hs:ub c u){q o}(h:AU L o.op=U)(e:(YV q o).run c.P u=.ok n u'):eM c L n:=by
 obtain⟨B,op,l,pos,after,guard⟩:=o;unfold YV at e;dsimp only at h e;have i:∀{x:Y Unit},(x>>=λa=>pure Next.skip).run c.P u=.ok n u'->eM c L n:=λe=>(aW (Φ:=eM c L) λ_=>bQ (a:=Next.skip) trivial) u n u' e;cases op with
 |call k=>
  dsimp only at e;rw[Δ]at e;cases hd:(ZD q k l).run c.P u with
  |halt r u1=>rw[hd]at e;cases e
  |ok d u1=>
   rw[hd]at e;obtain⟨rfl,A,_⟩:=kW hd;refine kV hF hs ?_ A e;unfold ZD at hd;obtain⟨j,z,p⟩:=k;cases j with
   |value f=>exact kU hd
   |invoke r m=>cases hd;trivial
   |builtin b=>cases hd;exact kT hF.lists h
 |defer k=>
  dsimp only at e;rw[Δ]at e;cases hd:(ZD q k l).run c.P u with
  |halt r u1=>rw[hd]at e;cases e
  |ok d u1=>
   rw[hd]at e;obtain⟨rfl,A,y⟩:=kW hd;cases e
   refine y λb hb=>?_;simp only[AU,hb]at h;cases h
 |nilCheck x=>
  dsimp only at e;have y:Yields c.P (match q x with
  |ZL Z|.nilIface|.nilFunc=>runtimePanic .nilDeref
  |.func (.method name) first captured=>
   match(first[0]?:Option ι)with
   |some .nilIface=>runtimePanic .nilDeref
   |some (.iface t w)=>do
    if(<-nilAhead ((<-program).types.size+Made.depth) t w name) !=V ο then
     unsupported (.noEntry "op/nilCheck.the method's receiver behind this interface value is a nil pointer, or cannot be seen to be none, and the arguments act or may panic (ledger 612)")
    pure (.value<|.func (.method name) first captured)
   |_=>pure<|.value<|.func (.method name) first captured
  |x=>pure (.value x):Y Next) (eM c L):=by
   split
   exact cA _;exact cA _;exact cA _;split
   ·exact cA _
   refine aW λ_=>aW λ_=>?_;dsimp only;split
   exact aW λ_=>bQ trivial;exact bQ trivial;exact bQ trivial;exact bQ trivial
  exact y u n u' e
 |move x=>cases e;trivial
 |assign x=>cases e;trivial
 |pick a b d=>exact(aW (Φ:=eM c L) λv=>bQ (a:=Next.value (if(v:Bool)=U then q b else q d)) trivial) u n u' e
 |store t a x=>exact i e
 |mapUpdate t m k x=>exact i e
 |insert t m k x=>exact i e
 |go k=>cases h
 |send a b=>cases h
 |recv a b d=>cases h
 |select a b=>cases h
 |ready g=>cases h
 |entryStore t m s x=>cases h
 |_=>exact(λe=>(aW (Φ:=eM c L) λa=>bQ (a:=Next.value a) trivial) u n u' e) e
end
end
section
structure OkG(c:Ctx)(L:bu)(sp:ZT)(g:φ):Prop where
 frame:aJ c L sp g.frame
 callers:∀x∈g.callers,aJ c L sp x
 dying:g.dying=Z
def After(c:Ctx)(L:bu)(sp:ZT)(g' g'':φ):Prop:=
 (g''=g'/\OkG c L sp g')\/∃args kind cs,g'={frame:=Z9 c.P sp args kind,callers:=cs,status:=.running,dying:=Z}/\g''={frame:=Z9 c.Q sp args kind,callers:=cs,status:=.running,dying:=Z}/\
   ((kind=.normal\/kind=.deferred)/\cs≠[])/\∀x∈cs,aJ c L sp x
def Shape(g:φ):Prop:=(∀d,g.dying=V d->d.calling=ο)/\(g.status=.running\/g.status=.blocked\/g.status=.waiting\/g.status=.finished)
def aL{fr cs}:Shape {frame:=fr,callers:=cs,status:=.running,dying:=Z}:=⟨(λd h=>by cases h),.inl rfl⟩
def c7(c:Ctx)(L:bu)(sp:ZT)(k:Nat)(u w:κ)(s s':GStep):Prop:=
 match s with
 |.go g' u' _=>Shape g'/\(g'.status=.running->g'.dying=Z->u'.drawn<=u.drawn+k->
   ∃g'' w' es',s'=.go g'' w' es'/\After c L sp g' g''/\Rel c.ok c.T.globals.size c.S (u.drawn+k-u'.drawn) u' w'/\kE c.S u u' w w'/\(∀e∈es',jG c.S u' e)/\u.heap.size<=u')
 |.ended (.done v) u' _=>u'.drawn<=u.drawn+k->
   ∃w' es',s'=.ended (.done v) w' es'/\Rel c.ok c.T.globals.size c.S (u.drawn+k-u'.drawn) u' w'/\kE c.S u u' w w'/\(∀e∈es',jG c.S u' e)/\u.heap.size<=u'
 |.ended _ _ _=>True
 |_=>False
section
variable{c:Ctx}{L:bu}{sp:ZT}{fr:Zs}{cs:List Zs}{k:Nat}{u w:κ}
def rp(h:aJ c L sp fr):(fr.kind==.early)=ο:=by obtain e|e:=h.kind<;>rw[e]<;>rfl
def rq(hF:ge c L sp){f fn b}(e:f≠sp)(a:c.F[f]?=V fn)(d:fn.body=V b)(args kd):Z9 c.Q f args kd=Z9 c.P f args kd:=by have:=(hF.same f fn b e a d).1;unfold Z9;rw[show c.Q.funcs[f]?=V fn from this,show c.P.funcs[f]?=V fn from a]
def xK(hF:ge c L sp){f fn b}(e:f≠sp)(a:c.F[f]?=V fn)(d:fn.body=V b)(args){kd}(g:kd=.normal\/kd=.deferred):aJ c L sp (Z9 c.P f args kd):=by refine⟨⟨e,fn,b,a,d⟩,λi hi=>?_,by simp[Z9],g⟩;unfold Z9 at hi⊢;rw[show c.P.funcs[f]?=V fn from a]at hi;simp only[Option.bind_some,d,YZ]at hi;subst hi;exact(hF.same f fn b e a d).2
def pJ(hF:ge c L sp){f}(h:∃fn b,c.F[f]?=V fn/\fn.body=V b)(args){kd}(g:kd=.normal\/kd=.deferred)(a:∀x∈cs,aJ c L sp x)(e:cs≠[]):
 After c L sp {frame:=Z9 c.P f args kd,callers:=cs,status:=.running,dying:=Z} {frame:=Z9 c.Q f args kd,callers:=cs,status:=.running,dying:=Z}:=by
 obtain⟨fn,b,j,i⟩:=h;by_cases d:f=sp
 subst d;exact .inr ⟨args,kd,cs,rfl,rfl,⟨g,e⟩,a⟩;exact .inl ⟨by rw[rq hF d j i],xK hF d j i args g,a,rfl⟩
def xL{l f d a b kd}(hF:ge c L sp)(h:c.okF f/\be L U a=U/\be L U b=U)(e:kd=.normal\/kd=.deferred):aJ c L sp (Y9 l f d a b kd):=by
 refine⟨(hF.okF f).1 h.1,λi hi=>?_,by simp[Y9],e⟩;simp only[Y9,ψ,List.not_mem_nil,or_false]at hi;obtain rfl|rfl|rfl:=hi
 exact h.2.1;rfl;exact h.2.2
def cx{p f a B}(h:∀e∈a,jG c.S B e):∀e∈seen p f (#[]++a)++#[],jG c.S B e:=λe b=>h e (by have:=Go.Conc.mem_seen b;simpa using this)
def dD{a p}{s:Y a}{u r}(h:s.run p u=r):∃es,s.runT p u #[]=(r,es):=by simp_all
def aaU{s}{n:Next}{b f}(g:kF c.ok c.T.globals.size c.S c.Q k u w s (.ok n b))(d:u.heap.size<=b.heap.size)(hd:b.drawn<=u.drawn+k):∃w' a,s.runT c.Q w #[]=(Result.ok n w',a)/\Rel c.ok c.T.globals.size c.S (u.drawn+k-b.drawn) b w'/\kE c.S u b w w'/\(∀e∈seen c.Q f a++#[],jG c.S b e)/\u.heap.size<=b.heap.size:=
 let⟨w',a,q1,q2,q3,q4⟩:=g hd
 ⟨w',#[]++a,q1 #[],q2,q3,cx q4,d⟩
def oR(hF:ge c L sp)(i:aJ c L sp fr)(q:∀x∈cs,aJ c L sp x){s}(hs:TT c s)(hR:Rel c.ok c.T.globals.size c.S k u w)(hn:∀n E,s.run c.P u=.ok n E->eM c L n):
 c7 c L sp k u w (ZH c.P U fr cs Z s u) (ZH c.Q U fr cs Z s w):=by
 have G:=hs k u w hR;have J:∀x∈fr::cs,aJ c L sp x:=λx B=>(ψ.1 B).elim (λe=>e▸i)<|q x;cases B:s.run c.P u with
 |ok n E=>
  rw[B]at G;have C:=hn n E B;have D:u.heap.size<=E:=by have:=(bY c.P s u).2;rwa[B]at this
  obtain⟨O,N⟩:=dD B;unfold ZH;simp only[if_true,N,rp i,Ξ,if_false];have p:=aaU (f:=fr.fn) G D;generalize (s).runT c.Q w #[]=r at p⊢;cases n with
  |value v=>refine⟨aL,λ_ _ hd=>?_⟩;obtain⟨A,o,rfl,t⟩:=p hd;exact⟨_,_,_,rfl,.inl ⟨rfl,i.finish v,q,rfl⟩,t⟩
  |skip=>refine⟨aL,λ_ _ hd=>?_⟩;obtain⟨A,o,rfl,t⟩:=p hd;exact⟨_,_,_,rfl,.inl ⟨rfl,i.finish undef,q,rfl⟩,t⟩
  |enter f F=>refine⟨aL,λ_ _ hd=>?_⟩;obtain⟨A,o,rfl,t⟩:=p hd;exact⟨_,_,_,rfl,pJ hF C F (.inl (by split<;>first|rfl|(rename_i d r s t K;exact absurd (i.todo (.call d U r s) (by rw[K];simp))<|by simp[dS]))) J<|by simp,t⟩
  |round l f W a b=>refine⟨aL,λ_ _ hd=>?_⟩;obtain⟨A,o,rfl,t⟩:=p hd;exact⟨_,_,_,rfl,.inl ⟨rfl,xL hF C<|.inl rfl,J,rfl⟩,t⟩
  |defer d=>refine⟨aL,λ_ _ hd=>?_⟩;obtain⟨A,o,rfl,t⟩:=p hd;exact⟨_,_,_,rfl,.inl ⟨rfl,(i.qC (d::fr.defers) λx B=>(ψ.1 B).elim (λe=>e▸C)<|i.defers x).finish undef,q,rfl⟩,t⟩
  |recover=>
   have z:c.P.follows .rangeFuncRecover=c.T.follows .rangeFuncRecover:=rfl;have j:c.Q.follows .rangeFuncRecover=c.T.follows .rangeFuncRecover:=rfl;cases hro:fr.roundOf with
   |none=>
    cases hq:Zv fr cs with
    |none=>simp only[hro,hq];refine⟨aL,λ_ _ hd=>?_⟩;obtain⟨A,o,rfl,t⟩:=p hd;simp only[hro,hq];exact⟨_,_,_,rfl,.inl ⟨rfl,i.finish _,q,rfl⟩,t⟩
    |some y=>obtain⟨v,H⟩:=y;simp only[hro,hq];refine⟨aL,λ_ _ hd=>?_⟩;obtain⟨A,o,rfl,t⟩:=p hd;simp only[hro,hq];exact⟨_,_,_,rfl,.inl ⟨rfl,i.finish _,eS q hq,rfl⟩,t⟩
   |some l=>
    cases hfo:c.T.follows .rangeFuncRecover with
    |true=>
     cases hq:Zv fr cs with
     |none=>simp only[hro,hq,z,j,hfo,if_true];refine⟨aL,λ_ _ hd=>?_⟩;obtain⟨A,o,rfl,t⟩:=p hd;simp only[hro,hq,z,j,hfo,if_true];exact⟨_,_,_,rfl,.inl ⟨rfl,i.finish _,q,rfl⟩,t⟩
     |some y=>obtain⟨v,H⟩:=y;simp only[hro,hq,z,j,hfo,if_true];refine⟨aL,λ_ _ hd=>?_⟩;obtain⟨A,o,rfl,t⟩:=p hd;simp only[hro,hq,z,j,hfo,if_true];exact⟨_,_,_,rfl,.inl ⟨rfl,i.finish _,eS q hq,rfl⟩,t⟩
    |false=>
     cases hq:Y' l cs with
     |none=>simp only[hro,hq,z,j,hfo,Ξ,if_false];refine⟨aL,λ_ _ hd=>?_⟩;obtain⟨A,o,rfl,t⟩:=p hd;simp only[hro,hq,z,j,hfo,Ξ,if_false];exact⟨_,_,_,rfl,.inl ⟨rfl,i.finish _,q,rfl⟩,t⟩
     |some y=>obtain⟨v,H⟩:=y;simp only[hro,hq,z,j,hfo,Ξ,if_false];refine⟨aL,λ_ _ hd=>?_⟩;obtain⟨A,o,rfl,t⟩:=p hd;simp only[hro,hq,z,j,hfo,Ξ,if_false];exact⟨_,_,_,rfl,.inl ⟨rfl,i.finish _,eg q hq,rfl⟩,t⟩
  |_=>exact C.elim
 |halt r E=>
  rw[B]at G;have D:u.heap.size<=E:=by have:=(bY c.P s u).2;rwa[B]at this
  obtain⟨O,N⟩:=dD B;unfold ZH;simp only[if_true,N,rp i,Ξ,if_false];cases r with
  |panic v=>refine⟨aL,λ_ _ hd=>?_⟩;obtain⟨A,o,q1,q2,q3,q4⟩:=G hd;rw[q1 #[]];exact⟨_,_,seen c.Q fr.fn (#[]++o)++#[],rfl,.inl ⟨rfl,i.raise _,q,rfl⟩,q2,q3,cx q4,D⟩
  |goexit=>exact⟨aL,λ_ _ hd=>(G hd).elim⟩
  |blocked=>exact⟨⟨(λd h=>by cases h),.inr<|.inl rfl⟩,λh=>by cases h⟩
  |waiting=>exact⟨⟨(λd h=>by cases h),.inr<|.inr<|.inl rfl⟩,λh=>by cases h⟩
  |exit n=>trivial
  |fatal m=>
   unfold endFatal dieOf;dsimp only;split
   exact⟨⟨(λd h=>by cases h;rfl),.inl rfl⟩,λ_ h=>by cases h⟩;trivial;trivial
  |throw m=>exact⟨⟨(λd h=>by cases h;rfl),.inl rfl⟩,λ_ h=>by cases h⟩
  |unsupported x=>
   cases x with
   |initOrder g=>unfold early;have X:c.P.follows .staticDataAhead=U:=hF.ahead;simp only[X,hF.R7 g,Ze,Ξ,if_false];trivial
   |_=>trivial
  |stuck x=>trivial
def ik{p}[Decidable p]{a b a' d}(h:p->c7 c L sp k u w a a')(h':¬p->c7 c L sp k u w b d):c7 c L sp k u w (if p then a else b) (if p then a' else d):=by grind
def PM(hF:ge c L sp)(g:aJ c L sp fr)(j:∀x∈cs,aJ c L sp x){d}(hd:nF d=U)(J:Rel c.ok c.T.globals.size c.S k u w):
 c7 c L sp k u w (YU c.P fr cs Z d u) (YU c.Q fr cs Z d w):=by
 unfold YU;refine ik (λ_=>trivial) λ_=>?_;have G:nz c.T d.target:=by unfold nF at hd;cases h:d.target<;>rw[h]at hd<;>first|trivial|cases hd
 have C:∀x,d.target≠.coroexit x:=by intro x h;unfold nF at hd;rw[h]at hd;cases hd
 have A:=jm (pH hF.pair) d.target d.args G k u w J;have B:∀x∈fr::cs,aJ c L sp x:=λx p=>(ψ.1 p).elim (λe=>e▸g)<|j x;cases p:(Zw d.target d.args).run c.P u with
 |ok n E=>
  rw[p]at A;have s:=kV hF J.safe G C p;have q:u.heap.size<=E:=by have:=(bY c.P (Zw d.target d.args) u).2;rwa[p]at this
  obtain⟨F,D⟩:=dD p;simp only[D];have o:=aaU (f:=fr.fn) A q;generalize (Zw d.target d.args).runT c.Q w #[]=r at o⊢;cases n with
  |value v=>refine⟨aL,λ_ _ hd=>?_⟩;obtain⟨y,i,rfl,t⟩:=o hd;exact⟨_,_,_,rfl,.inl ⟨rfl,g,j,rfl⟩,t⟩
  |skip=>refine⟨aL,λ_ _ hd=>?_⟩;obtain⟨y,i,rfl,t⟩:=o hd;exact⟨_,_,_,rfl,.inl ⟨rfl,g,j,rfl⟩,t⟩
  |enter f z=>refine⟨aL,λ_ _ hd=>?_⟩;obtain⟨y,i,rfl,t⟩:=o hd;exact⟨_,_,_,rfl,pJ hF s z (.inr rfl) B<|by simp,t⟩
  |round l f H a b=>refine⟨aL,λ_ _ hd=>?_⟩;obtain⟨y,i,rfl,t⟩:=o hd;exact⟨_,_,_,rfl,.inl ⟨rfl,xL hF s<|.inr rfl,B,rfl⟩,t⟩
  |defer e=>refine⟨aL,λ_ _ hd=>?_⟩;obtain⟨y,i,rfl,t⟩:=o hd;exact⟨_,_,_,rfl,.inl ⟨rfl,g,j,rfl⟩,t⟩
  |recover=>
   cases hm:fr.mode<;>cases hq:Zv fr cs<;>simp only[hm,hq]<;>refine⟨aL,λ_ _ hd=>?_⟩<;>obtain⟨y,i,rfl,t⟩:=o hd<;>simp only[hm,hq]<;>
    first
    |exact⟨_,_,_,rfl,.inl ⟨rfl,g,j,rfl⟩,t⟩
    |exact⟨_,_,_,rfl,.inl ⟨rfl,g,eS j hq,rfl⟩,t⟩
  |_=>exact s.elim
 |halt r E=>
  rw[p]at A;have q:u.heap.size<=E:=by have:=(bY c.P (Zw d.target d.args) u).2;rwa[p]at this
  obtain⟨F,D⟩:=dD p;simp only[D];cases r with
  |panic v=>refine⟨aL,λ_ _ hd=>?_⟩;obtain⟨y,i,q1,O,K,N⟩:=A hd;rw[q1 #[]];exact⟨_,_,seen c.Q fr.fn (#[]++i)++#[],rfl,.inl ⟨rfl,g.raise _,j,rfl⟩,O,K,cx N,q⟩
  |goexit=>exact⟨aL,λ_ _ hd=>(A hd).elim⟩
  |blocked=>exact⟨⟨(λd h=>by cases h),.inr<|.inl rfl⟩,λh=>by cases h⟩
  |waiting=>exact⟨⟨(λd h=>by cases h),.inr<|.inr<|.inl rfl⟩,λh=>by cases h⟩
  |exit n=>trivial
  |fatal m=>
   unfold endFatal dieOf;dsimp only;split
   exact⟨⟨(λd h=>by cases h;rfl),.inl rfl⟩,λ_ h=>by cases h⟩;trivial;trivial
  |throw m=>exact⟨⟨(λd h=>by cases h;rfl),.inl rfl⟩,λ_ h=>by cases h⟩
  |unsupported x=>trivial
  |stuck x=>trivial
def AX(fn a):TT c (results fn a):=by
 refine ae (xh (λx=>?_) _) λb=>bX _;split
 simp;simp
def oS{u f b ds}(hs:ub c u)(e:(ZV b).run c.P u=.ok ds f):ds=[]:=by
 unfold ZV getObj setObj at e;simp only[bind,Z3,Θ]at e;split at e
 cases e
 rename_i o g d;split at e
 rename_i a hc;have:=(c.deferred _).1<|hs _ _ d;simp only[Θ]at e
 simp_all
 cases e
 cases e
end
end
section
section
variable{c:Ctx}{L:bu}{sp:ZT}{fr:Zs}{cs:List Zs}{k:Nat}{u w:κ}
def ru{s s' u1 w1 q b}(z:u1.drawn<=u.drawn+k)(D:u.drawn<=u1.drawn)(r:kE c.S u u1 w w1)(t:∀e∈b,jG c.S u1 e)(i:u.heap.size<=u1)(h:c7 c L sp (u.drawn+k-u1.drawn) u1 w1 s s'):
 c7 c L sp k u w (ZA q s) (ZA b s'):=by
 cases s with
 |go C g A=>
  refine⟨h.1,λy x h3=>?_⟩;obtain⟨p,j,d,q1,B,l,n,m,f⟩:=h.2 y x (by omega);refine⟨p,j,b++d,by rw[q1];rfl,B,by rw[show u.drawn+k-g.drawn=u1.drawn+(u.drawn+k-u1.drawn) -g.drawn by omega];exact l,r.trans n,λe a=>?_,Zc i f⟩;obtain a|a:=θ.1 a
  exact(t e a).mono f;exact m e a
 |ended o g A=>
  cases o with
  |done v=>
   intro h3;obtain⟨j,d,q1,l,n,m,f⟩:=h (by omega);refine⟨j,b++d,by rw[q1];rfl,by rw[show u.drawn+k-g.drawn=u1.drawn+(u.drawn+k-u1.drawn) -g.drawn by omega];exact l,r.trans n,λe a=>?_,Zc i f⟩;obtain a|a:=θ.1 a
   exact(t e a).mono f;exact m e a
  |_=>trivial
 |_=>exact h.elim
def xM(hF:ge c L sp)(a:aJ c L sp fr)(g:∀x∈cs,aJ c L sp x)(v):
 (∃g',Shape g'/\(∀u,Zz c.P U fr cs Z v u=.go g' u)/\(∀u,Zz c.Q U fr cs Z v u=.go g' u)/\OkG c L sp g')\/
 ((∀u,Zz c.P U fr cs Z v u=.ended (.done v) u)/\∀u,Zz c.Q U fr cs Z v u=.ended (.done v) u):=by
 unfold Zz;obtain _|⟨caller,rest⟩:=cs
 right;dsimp only;obtain⟨hs,f,b,d,h⟩:=a.fn;have hi:=hF.inits _ f b d h;have i:c.P.inits.idxOf? fr.fn=Z:=hi;have j:c.Q.inits.idxOf? fr.fn=Z:=hi;obtain e|e:=a.kind<;>simp only[e,i,j,Ze,Ξ,if_false]<;>
  exact⟨λ_=>trivial,λ_=>trivial⟩
 have d:=g caller (by simp);have h:∀x∈rest,aJ c L sp x:=λx k=>g x (by simp[k]);left;dsimp only;obtain e|e:=a.kind<;>rw[e]<;>dsimp only
 exact⟨_,aL,λ_=>rfl,λ_=>rfl,d.finish v,h,rfl⟩;refine⟨_,aL,λ_=>rfl,λ_=>rfl,?_,h,rfl⟩;dsimp only;split
 split
 ·exact d.mode _
 exact d.mode _;exact d
def pK(hF:ge c L sp)(i:aJ c L sp fr)(l:∀x∈cs,aJ c L sp x)(v){u1:κ}{f s'}(b:u.heap.size<=u1)(h:u1.drawn<=u.drawn+k->∃w1 a,s'=ZA a (Zz c.Q U fr cs Z v w1)/\Rel c.ok c.T.globals.size c.S (u.drawn+k-u1.drawn) u1 w1/\kE c.S u u1 w w1/\∀e∈a,jG c.S u1 e):
 c7 c L sp k u w (ZA f<|Zz c.P U fr cs Z v u1) s':=by
 obtain⟨o,h0,j,g,h3⟩|⟨j,g⟩:=xM hF i l v
 rw[j];refine⟨h0,λ_ _ hd=>?_⟩;obtain⟨w1,a,q1,n,m,d⟩:=h hd;exact⟨o,w1,a++#[],by rw[q1,g];rfl,.inl ⟨rfl,h3⟩,n,m,by simpa using d,b⟩;rw[j];intro hd;obtain⟨w1,a,q1,n,m,d⟩:=h hd;exact⟨w1,a++#[],by rw[q1,g];rfl,n,m,by simpa using d,b⟩
def rx{p f a B}(h:∀e∈a,jG c.S B e):∀e∈seen p f (#[]++a),jG c.S B e:=λe b=>h e (by have:=Go.Conc.mem_seen b;simpa using this)
def ry(hF:ge c L sp)(e:aJ c L sp fr)(g:∀x∈cs,aJ c L sp x)(t:Rel c.ok c.T.globals.size c.S k u w):
 c7 c L sp k u w (unwind c.P U fr cs Z u) (unwind c.Q U fr cs Z w):=by
 unfold unwind;split
 rename_i block E ds m;have n:=qn (c:=c) block k u w t;cases a:(ZV block).run c.P u with
 |ok B o=>
  rw[a]at n;obtain⟨l,i⟩:=dD a;have q:=oS t.safe a;have j:u.heap.size<=o:=by have:=(bY c.P (ZV block) u).2;rwa[a]at this
  simp only[i];refine⟨aL,λ_ _ hd=>?_⟩;obtain⟨D,p,q1,C,z,A⟩:=n hd;rw[q1 #[]];exact⟨_,_,seen c.Q fr.fn (#[]++p)++#[],rfl,.inl ⟨rfl,e.qC _ (by subst q;exact(λx a=>e.defers x (by rw[m];simp[a]):∀x∈ds,nF x=U)),g,rfl⟩,C,z,cx A,j⟩
 |halt r o=>obtain⟨l,i⟩:=dD a;simp only[i];trivial
 rename_i d ds m s;exact PM hF (e.qC ds λx a=>e.defers x (by rw[s];simp[a])) g (e.defers d (by rw[s];simp)) t;obtain⟨hs,f,b,G,J⟩:=e.fn;have H:c.P.funcs[fr.fn]?=V f:=G;have F:c.Q.funcs[fr.fn]?=V f:=(hF.same _ _ _ hs G J).1;split
 trivial;rename_i y K;have e1:fr.catches c.P=ο:=by unfold Yu;rw[H]
 have e2:fr.catches c.Q=ο:=by unfold Yu;rw[F]
 simp only[e1,e2,Ξ,if_false];obtain _|⟨caller,rest⟩:=cs
 dsimp only;refine ik (λ_=>⟨⟨(λd h=>by cases h),.inr<|.inr<|.inr rfl⟩,λh=>by cases h⟩) λ_=>?_;split
 exact⟨⟨(λd h=>by cases h;rfl),.inl rfl⟩,λ_ h=>by cases h⟩;trivial;trivial;exact⟨aL,λ_ _ hd=>⟨_,_,#[],rfl,.inl ⟨rfl,(g caller<|by simp).raise _,λx a=>g x<|by simp[a],rfl⟩,by rw[(by omega:u.drawn+k-u.drawn=k)];exact t,.refl _ _,by simp,.refl⟩⟩;rw[H,F];dsimp only;have n:=AX (c:=c) f fr.tmps k u w t;cases a:(results f fr.tmps).run c.P u with
 |ok v o=>
  rw[a]at n;obtain⟨l,i⟩:=dD a;have j:u.heap.size<=o:=by have:=(bY c.P (results f fr.tmps) u).2;rwa[a]at this
  simp only[i];refine pK hF e g v j λhd=>?_;obtain⟨D,p,q1,C,z,A⟩:=n hd;rw[q1 #[]];exact⟨D,_,rfl,C,z,rx A⟩
 |halt r o=>obtain⟨l,i⟩:=dD a;simp only[i];cases r<;>trivial
def AY(d:Rel c.ok c.T.globals.size c.S k u w){fr'}(a:aJ c L sp fr')(b:∀x∈cs,aJ c L sp x):
 c7 c L sp k u w (.go {frame:=fr',callers:=cs,status:=.running,dying:=Z} u) (.go {frame:=fr',callers:=cs,status:=.running,dying:=Z} w):=
 ⟨aL,λ_ _ hd=>⟨_,_,#[],rfl,.inl ⟨rfl,a,b,rfl⟩,by rw[show u.drawn+k-u.drawn=k by omega];exact d,.refl _ _,by simp,.refl⟩⟩
def xN(hF:ge c L sp){u d l j}(hs:ub c u)(e:(ZQ l).run c.P u=.ok j d):∀x,j=V x->be L U x=U:=by
 unfold ZQ at e;rw[Δ]at e;cases h:(ZW l).run c.P u with
 |halt r u1=>rw[h]at e;cases e
 |ok r u1=>
  rw[h]at e;have b:=(c.loop _).1 (pI hs h).1;have f:Yields c.P (do
   if r.state==.busy then runtimePanic (.error "range function recovered a loop body panic and did not resume panicking")
   setObj l (.loop {r with state:=.exhausted})
   pure r.pending) (λj=>∀x,j=V x->be L U x=U):=by
   split
   exact aW λ_=>aW λ_=>bQ λx a=>(hF.tX _).1<|b.2.2.2 x a;exact aW λ_=>bQ λx a=>(hF.tX _).1<|b.2.2.2 x a
  exact f u1 j d e
def tu{P u f fn c g a b ar l m}(e:(ZP fn c g a b ar).run P u=.ok (l,m) f):
 f.drawn=u.drawn/\∀d∈m,nF d=U:=by
 unfold ZP at e;obtain _|r:=ar
 cases e
 refine⟨rfl,λd hd=>?_⟩;simp only[YZ]at hd;subst hd;rfl;simp only[ZW,getObj,newObj,bind,Z3,Θ,ZU]at e;split at e
 cases e
 split at e
 ·simp only[Z3,Θ]at e
  grind
 cases e
 cases e
def vx(p:R)(fr:Zs)(callers:List Zs)(jump:Option Code)(w:κ):GStep:=
 match fr.roundOf with
 |none=>if jump matches Z|some .ret then .go {frame:={fr with mode:=.returning},callers,status:=.running,dying:=Z} w else .ended (.stuck "exit, goto: no such block or label"<|fr.pos p) w
 |some l=>
  let(r,es):=(ZB l jump).runT p w #[]
  ZA (seen p fr.fn es)<|match r with
  |.ok v w=>Zz p U fr callers Z v w
  |.halt _ w=>.ended (.stuck "range over a function: no such loop"<|fr.pos p) w
def lM(hF:ge c L sp)(a:aJ c L sp fr)(b:∀x∈cs,aJ c L sp x)(h:Rel c.ok c.T.globals.size c.S k u w)(j)(q:∀x,j=V x->c.tX x):
 c7 c L sp k u w (vx c.P fr cs j u) (vx c.Q fr cs j w):=by
 obtain⟨f,i,todo,defers,mode,kind,s⟩:=fr;unfold vx;cases s with
 |none=>dsimp only;exact ik (λ_=>AY h (a.mode .returning) b) λ_=>trivial
 |some l=>
  dsimp only;have m:=xD (c:=c) l j q k u w h;cases hx:(ZB l j).run c.P u with
  |ok v n=>
   rw[hx]at m;obtain⟨d,e⟩:=dD hx;have g:u.heap.size<=n:=by have:=(bY c.P (ZB l j) u).2;rwa[hx]at this
   simp only[e];refine pK hF a b v g λhd=>?_;obtain⟨p,z,q1,y,t,o⟩:=m hd;rw[q1 #[]];exact⟨p,_,rfl,y,t,rx o⟩
  |halt r n=>obtain⟨d,e⟩:=dD hx;simp only[e];trivial
def FU(hF:ge c L sp)(p:aJ c L sp fr)(A:∀x∈cs,aJ c L sp x)(F:Rel c.ok c.T.globals.size c.S k u w):
 c7 c L sp k u w (Z0 c.P U U fr cs Z u) (Z0 c.Q U U fr cs Z w):=by
 have hC:=pH hF.pair;have W:∀x:Code,(x=.ret\/(∃i,x=.exit i)\/∃i,x=.goto i) ->c.tX x:=λx q=>(hF.tX x).2 (by obtain rfl|⟨i,rfl⟩|⟨i,rfl⟩:=q<;>rfl);have to:∀(t:List Item),(∀i∈t,dS L fr.roundOf.isSome i=U) ->c7 c L sp k u w (.go {frame:={fr with todo:=t},callers:=cs,status:=.running,dying:=Z} u) (.go {frame:={fr with todo:=t},callers:=cs,status:=.running,dying:=Z} w):=λt ht=>AY F (p.Cr t ht) A
 have hok:=p.todo;obtain⟨f,h,todo,defers,mode,kind,B⟩:=fr;obtain _|⟨i,rest⟩:=todo
 exact lM hF p A F Z (by simp);have hi:=hok i (by simp);have K:∀x∈rest,dS L B.isSome x=U:=λx q=>hok x (by simp[q]);have two:∀{x y:Item},dS L B.isSome x=U->dS L B.isSome y=U->∀z∈x::y::rest,dS L B.isSome z=U:=λh1 h2 z hz=>by
  obtain rfl|hz:=ψ.1 hz
  exact h1;obtain rfl|hz:=ψ.1 hz
  ·exact h2
  exact K z hz
 have one:∀{x:Item},dS L B.isSome x=U->∀z∈x::rest,dS L B.isSome z=U:=λh1 z hz=>by
  obtain rfl|hz:=ψ.1 hz
  exact h1;exact K z hz
 cases i with
 |code b=>
  cases b with
  |skip=>exact to rest K
  |region id C draw=>
   have g:=hi;obtain _|_:=draw
   exact to _<|one g;unfold Z0;simp only[Ze,Ξ,if_false];have J:=pP (c:=c) (.order f id) k u w F;cases q:(choose<|.order f id).run c.P u with
   |ok t E=>
    rw[q]at J;have D:u.heap.size<=E:=by have:=(bY c.P (choose<|.order f id) u).2;rwa[q]at this
    refine⟨aL,λ_ _ hd=>?_⟩;obtain⟨w',H,q1,O,q3,q4⟩:=J hd;rw[(by rw[<-Zq c.Q _ w #[],q1 #[]]:(choose<|.order f id).run c.Q w=.ok t w')];exact⟨_,_,#[],rfl,.inl ⟨rfl,p.Cr _<|one (x:=.inRegion C<|Region.schedule (c.T.follows .mixedOrders) C t) g,A,rfl⟩,O,q3,by simp,D⟩
   |halt r E=>trivial
  |seq a b=>have g:(be L B.isSome a&&be L B.isSome b)=U:=hi;rw[ξ]at g;exact to _<|two g.1 g.2
  |cond x a b=>
   have g:(be L B.isSome a&&be L B.isSome b)=U:=hi;rw[ξ]at g;unfold Z0;dsimp only;split
   rename_i v _;obtain _|_:=v
   exact to _<|one g.2;exact to _<|one g.1;trivial
  |block id b=>exact to _<|two hi rfl
  |loop b=>exact to _<|two hi hi
  |rangeFunc x ps a b=>
   have g:(be L U a&&be L U b)=U:=hi;rw[ξ]at g;unfold Z0;dsimp only;have J:=vq (c:=c) f h ps a b B ((hF.okF f).2 p.fn) ((hF.tX _).2 g.1) ((hF.tX _).2 g.2) k u w F;cases q:(ZP f h ps a b B).run c.P u with
   |ok lm E=>
    obtain⟨l,m⟩:=lm;rw[q]at J;obtain⟨es0,X⟩:=dD q;have D:u.heap.size<=E:=by have:=(bY c.P (ZP f h ps a b B) u).2;rwa[q]at this
    obtain⟨hdr,hmk⟩:=tu q;obtain⟨w',H,q1,O,q3,q4⟩:=J (by omega);simp only[X,q1 #[]];have ahP:aJ c L sp ⟨f,h,.inRangeFunc l::rest,m++defers,mode,kind,B⟩:=(p.Cr _<|one (x:=.inRangeFunc l) rfl).qC (m++defers) λd hd=>(YB.1 hd).elim (hmk d)<|p.defers d
    refine ru (by omega) (by omega) q3 (rx q4) D ?_;refine oR hF ahP A ?_ O ?_;exact Cp hC (Zk ⟨f,h,.inRangeFunc l::rest,m++defers,mode,kind,B⟩) x #[.const (.func (.yield l) #[] #[])];intro n u2 e;rw[Δ]at e;cases hd:(ZD (Zk ⟨f,h,.inRangeFunc l::rest,m++defers,mode,kind,B⟩) {callee:=.value x,args:=#[.const (.func (.yield l) #[] #[])],argTypes:=#[]} 0).run c.P E with
    |halt r u3=>rw[hd]at e;cases e
    |ok d u3=>rw[hd]at e;obtain⟨rfl,hnx,_⟩:=kW hd;refine kV hF O.safe ?_ hnx e;unfold ZD at hd;exact kU hd
   |halt r E=>obtain⟨es0,X⟩:=dD q;simp only[X];trivial
  |exit id=>
   unfold Z0;dsimp only;cases he:exitTo id rest with
   |none=>exact lM hF p A F (V<|.exit id) λx q=>by cases q;exact W _<|.inr<|.inl ⟨_,rfl⟩
   |some t=>exact to t<|oP K he
  |scope b=>exact to _<|two hi hi
  |label l=>exact to rest K
  |goto l=>
   unfold Z0;dsimp only;cases he:gotoIn l rest with
   |none=>exact lM hF p A F (V<|.goto l) λx q=>by cases q;exact W _<|.inr<|.inr ⟨_,rfl⟩
   |some t=>exact to t<|oQ K he
  |ret=>exact lM hF p A F (V .ret) λx q=>by cases q;exact W _<|.inl rfl
  |refuse why=>trivial
 |inBlock id=>exact to rest K
 |inLoop b=>exact to _<|two hi hi
 |inScope b=>exact to rest K
 |inRegion C todo=>
  obtain _|⟨i,is⟩:=todo
  exact to rest K;unfold Z0;dsimp only;have g:C.all (jK L B.isSome)=U:=hi;refine ik (λ_=>?_) λ_=>AY F (p.finish undef) A;unfold stepG.oper;cases ho:C[i]? with
  |none=>simp only[Ye,ho];trivial
  |some o=>
   have G:jK L B.isSome o=U:=by obtain⟨h1,h2⟩:=Γ.1 ho;rw[Y1]at g;have:=g i h1;rwa[h2]at this
   unfold jK at G;rw[ξ]at G;have N:c7 c L sp k u w (ZH c.P U ⟨f,h,.inRegion C (i::is)::rest,defers,mode,kind,B⟩ cs Z (YV (Zk ⟨f,h,.inRegion C (i::is)::rest,defers,mode,kind,B⟩) o) u)
    (ZH c.Q U ⟨f,h,.inRegion C (i::is)::rest,defers,mode,kind,B⟩ cs Z (YV (Zk ⟨f,h,.inRegion C (i::is)::rest,defers,mode,kind,B⟩) o) w):=
    oR hF p A (DW hF.lists hC (λv=>rfl) o G.1) F λn E e=>xJ hF F.safe G.1 e
   simp only[Ye,ho];obtain _|l:=B
   exact N;cases hop:o.op with
   |defer kk=>rw[hop]at G;simp[Cq]at G
   |_=>exact N
 |inRangeFunc l=>trivial
 |endRangeFunc l=>
  unfold Z0;dsimp only;have J:=AM (c:=c) l k u w F;cases q:(ZQ l).run c.P u with
  |ok j E=>
   rw[q]at J;obtain⟨es0,X⟩:=dD q;have D:u.heap.size<=E:=by have:=(bY c.P (ZQ l) u).2;rwa[q]at this
   simp only[X];refine⟨aL,λ_ _ hd=>?_⟩;obtain⟨w',H,q1,O,q3,q4⟩:=J hd;rw[q1 #[]];refine⟨_,_,seen c.Q f (#[]++H)++#[],rfl,.inl ⟨rfl,p.Cr _ λz hz=>?_,A,rfl⟩,O,q3,cx q4,D⟩;obtain hz|hz:=YB.1 hz
   obtain _|b:=j
   simp at hz;simp at hz;subst hz;exact dM _<|(xN hF F.safe q) b rfl;exact K z hz
  |halt r E=>
   rw[q]at J;obtain⟨es0,X⟩:=dD q;have D:u.heap.size<=E:=by have:=(bY c.P (ZQ l) u).2;rwa[q]at this
   simp only[X];cases r with
   |panic v=>refine⟨aL,λ_ _ hd=>?_⟩;obtain⟨w',H,q1,O,q3,q4⟩:=J hd;rw[q1 #[]];exact⟨_,_,seen c.Q f (#[]++H)++#[],rfl,.inl ⟨rfl,p.raise _,A,rfl⟩,O,q3,cx q4,D⟩
   |_=>trivial
 |beginRound=>
  unfold Z0;dsimp only;refine oR hF p A ?_ F ?_;obtain _|l:=B
  exact ae (ch _) λ_=>bX _;exact ae (tq l) λ_=>bX _
  exactλn E e=>(aW (Φ:=eM c L) λ_=>bQ (a:=Next.skip) trivial) u n E e
 |call d w r s=>cases hi
 |extern r a=>cases hi
def kX(hF:ge c L sp){g}(f:OkG c L sp g)(d:Rel c.ok c.T.globals.size c.S k u w):c7 c L sp k u w (stepG c.P U g u) (stepG c.Q U g w):=by
 obtain⟨fr,cs,st,dying,a⟩:=g;obtain⟨e,b,h3⟩:=f;subst h3;unfold stepG;dsimp only;cases hm:fr.mode with
 |run=>exact FU hF e b d
 |returning=>exact ry hF e b d
 |panicking h=>exact ry hF e b d
end
end
end gO
namespace gO
open Go Go.Conc
section
def Ends(P:R)(Post:ι->Array Zj->Prop)(m:YT):Prop:=∃n v w,runN P n m=.ended (.done v) w/\Post v w.heap
section
variable{P:R}{Post:ι->Array Zj->Prop}{m m':YT}
def Ends.next(h:Ends P Post m)(hs:step P m=.next m'):Ends P Post m':=by
 obtain⟨n,v,w,a,b⟩:=h;cases n with
 |zero=>simp[runN]at a
 |succ n=>simp only[runN,hs]at a;exact⟨n,v,w,a,b⟩
def Ends.run:∀{k} {m},Ends P Post m->runN P k m=.next m'->Ends P Post m'
 |0,m,h,hk=>by simp only[runN]at hk;cases hk;exact h
 |k+1,m,h,hk=>by
  simp only[runN]at hk;cases hs:step P m with
  |next m1=>rw[hs]at hk;exact(h.next hs).run hk
  |ended o w=>rw[hs]at hk;cases hk
def Ends.inv{I:YT->Prop}(d:∀m,I m->(∃o w,step P m=.ended o w/\∀v,o≠.done v)\/∃a,step P m=.next a/\I a)(h:I m):¬Ends P Post m:=by
 rintro⟨n,v,w,b,c⟩
 induction n generalizing m with
 |zero=>simp[runN]at b
 |succ n e=>
  simp only[runN]at b
  grind
end
def FV(P:R):Prop:=∀v t recv name,panicText P ο v=.call t recv name->∀w f args w',(Zw (.fn (.method name) #[]) #[.iface t recv]).run P w≠.ok (.enter f args) w'
def K8(g:φ):Prop:=(g.status=.running/\∃d,g.dying=V d/\d.calling=ο)\/g.status=.blocked\/g.status=.waiting\/g.status=.finished
section
variable{P:R}{Post:ι->Array Zj->Prop}
def endWith_ended(w a t o)(b:∀v,o≠.done v):∃o' w' es,endWith w a t o=.ended o' w' es/\∀v,o'≠.done v:=by
 unfold endWith;dsimp only;split
 split
 ·grind
 simp
 grind
 simp
def D1(i:FV P)(fr d)(hd:d.calling=ο)(w):
 (∃o w' es,die P fr d w=.ended o w' es/\∀v,o≠.done v)\/∃g' w' es,die P fr d w=.go g' w' es/\K8 g':=by
 unfold die;split
 ·
  unfold writeOn;dsimp only;split
  exact .inl ⟨_,_,_,rfl,by simp⟩;split
  ·exact .inr ⟨_,_,_,rfl,.inl ⟨rfl,_,rfl,hd⟩⟩
  exact .inr ⟨_,_,_,rfl,.inr<|.inl rfl⟩;exact .inl ⟨_,_,_,rfl,by simp⟩;exact .inl ⟨_,_,_,rfl,by simp⟩
 split
 ·split
  ·exact .inr ⟨_,_,_,rfl,.inr<|.inl rfl⟩
  exact .inl<|endWith_ended _ _ _ _<|by simp
 dsimp only;split
 exact .inr ⟨_,_,_,rfl,.inl ⟨rfl,_,rfl,hd⟩⟩;split
 ·exact .inr ⟨_,_,_,rfl,.inl ⟨rfl,_,rfl,hd⟩⟩
 exact .inl ⟨_,_,_,rfl,by simp⟩;rename_i t a name g;cases hx:(Zw (.fn (.method name) #[]) #[.iface t a]).run P w with
 |ok n h=>
  obtain⟨c,e⟩:=dD hx;simp only[e];cases n with
  |enter f b=>exact absurd hx<|(i _ _ _ _ g w) f b h
  |value v=>
   cases v with
   |string s=>exact .inr ⟨_,_,_,rfl,.inl ⟨rfl,_,rfl,hd⟩⟩
   |_=>exact .inl ⟨_,_,_,rfl,by simp⟩
  |_=>exact .inl ⟨_,_,_,rfl,by simp⟩
 |halt r h=>
  obtain⟨c,e⟩:=dD hx;simp only[e];cases r with
  |panic v=>
   dsimp only;unfold endPrinting endThrow dieOf;dsimp only;split
   exact .inr ⟨_,_,_,rfl,.inl ⟨rfl,_,rfl,rfl⟩⟩;exact .inl ⟨_,_,_,rfl,by simp⟩
  |_=>exact .inl ⟨_,_,_,rfl,by simp⟩
 exact .inl ⟨_,_,_,rfl,by simp⟩
def cj{a w w' o es}(hs:a.status=.running)(h:stepG P U a w=.ended o w' es):step P (solo a w)=.ended o w':=by rw[step,stepT_solo hs];have:=runT_many_ended (gs:=#[a]) (sl:=Z) (i:=0) rfl h;rw[show solo a w=crowd #[a] w Z from rfl,this]
def qp{a w}(hs:a.status=.blocked\/a.status=.waiting\/a.status=.finished):
 (∃o w',step P (solo a w)=.ended o w'/\∀v,o≠.done v)\/step P (solo a w)=.next (solo a w):=by
 have c:∀o:Outcome,(∀v,o≠.done v) ->∀t,∃b w',(match endWith w 2 t o with|.ended o w _=>Move.machine (.ended o w)|_=>.machine<|.ended (.stuck "" "") default)=.machine (.ended b w')/\∀v,b≠.done v:=by intro o f t;obtain⟨b,w',g,e,d⟩:=endWith_ended w 2 t o f;rw[e];exact⟨b,w',rfl,d⟩
 obtain hs|hs|hs:=hs
 left;obtain⟨b,w',e,d⟩:=c (.fatal "all goroutines are asleep - deadlock!") (by simp)<|bytes<| "fatal error: "++ "all goroutines are asleep - deadlock!"++ "\n";refine⟨b,w',?_,d⟩;have:move P (solo a w)=.machine (.ended b w'):=by rw[<-e];simp[move,ask,askOn,solo,YA,due,ahead,Zu,hs,Zn,choose,pure,Θ,Zr];rfl
 rw[step,stepT,this]
 ·right;have:move P (solo a w)=.machine (.next<|solo a w):=by simp[move,ask,askOn,solo,YA,due,ahead,Zu,hs,Zn,choose,pure,Θ,Zr]
  rw[step,stepT,this]
 left;obtain⟨b,w',e,d⟩:=c (.fatal "no goroutines (main called runtime.Goexit) - deadlock!") (by simp)<|bytes<| "fatal error: "++ "no goroutines (main called runtime.Goexit) - deadlock!"++ "\n";refine⟨b,w',?_,d⟩;have:move P (solo a w)=.machine (.ended b w'):=by rw[<-e];simp[move,ask,askOn,solo,YA,due,ahead,Zu,hs,Zn,choose,pure,Θ,Zr];rfl
 rw[step,stepT,this]
def AZ(j:FV P){g}(b:K8 g)(w):¬Ends P Post (solo g w):=by
 refine Ends.inv (I:=λm=>∃g w,m=solo g w/\K8 g) ?_ ⟨g,w,rfl,b⟩;rintro m ⟨g,w,rfl,b⟩;obtain⟨hs,d,hd,hc⟩|b:=b
 obtain⟨fr,cs,st,dying,a⟩:=g;subst hd;have c:stepG P U ⟨fr,cs,st,V d,a⟩ w=die P fr d w:=by obtain⟨a1,p,r,n,s,t,q⟩:=d;dsimp only at hc;subst hc;rfl
 obtain⟨o,e,k,i,f⟩|⟨l,e,k,i,f⟩:=D1 j fr d hc w
 exact .inl ⟨o,e,cj hs<|c.trans i,f⟩;exact .inr ⟨_,step_solo_go hs<|c.trans i,l,e,rfl,f⟩;obtain h|h:=qp (P:=P) (w:=w) b
 ·exact .inl h
 exact .inr ⟨_,h,g,w,rfl,.inr b⟩
end
end
section
abbrev fG:=Nat->Question->Nat
def bL(u0:κ)(h:Array Zj)(τ:fG)(d:Nat):κ:={u0 with heap:=h,tape:=τ,drawn:=d}
def Ctx.eH(c:Ctx):Ctx:={c with G:=c.F,S:=λ_=>False}
def pL(c:Ctx)(h:Array Zj):Prop:=∀(b:Nat) o,h[b]?=V o->c.ok o
def akG(c:Ctx)(L:bu)(sp:ZT)(g:φ):Prop:=∃args kind cs,g={frame:=Z9 c.P sp args kind,callers:=cs,status:=.running,dying:=Z}/\((kind=.normal\/kind=.deferred)/\cs≠[])/\∀x∈cs,aJ c L sp x
def Node(c:Ctx)(L:bu)(sp:ZT)(g:φ)(h:Array Zj):Prop:=pL c h/\g.status=.running/\(OkG c L sp g\/akG c L sp g)
def gW(P:R)(u0:κ)(M:Nat)(δ:Nat)(σ:fG)(g:φ)(h:Array Zj)(g':φ)(h':Array Zj):Prop:=∀τ D,(∀j q,j<δ->τ (D+j) q=σ j q) ->runN P M (solo g<|bL u0 h τ D)=.next (solo g'<|bL u0 h' τ<|D+δ)
def Move(c:Ctx)(L:bu)(sp:ZT)(u0:κ)(g:φ)(h:Array Zj)(g':φ)(h':Array Zj):Prop:=Node c L sp g' h'/\∃M δ σ,0<M/\gW c.P u0 M δ σ g h g' h'
def aJ.eH{c L sp fr}(h:aJ c L sp fr):aJ c.eH L sp fr:=⟨h.fn,h.todo,h.defers,h.kind⟩
def aJ.rz{c L sp fr}(h:aJ c.eH L sp fr):aJ c L sp fr:=⟨h.fn,h.todo,h.defers,h.kind⟩
def OkG.eH{c L sp g}(h:OkG c L sp g):OkG c.eH L sp g:=⟨h.frame.eH,λx a=>(h.callers x a).eH,h.dying⟩
def OkG.rz{c L sp g}(h:OkG c.eH L sp g):OkG c L sp g:=⟨h.frame.rz,λx a=>(h.callers x a).rz,h.dying⟩
section
variable{c:Ctx}{L:bu}{sp:ZT}{u0:κ}
def nI{h}(hs:pL c h)(d a D b k)(e:∀j q,j<k->a (b+j) q=d (D+j) q):Rel c.eH.ok c.eH.T.globals.size c.eH.S k (bL u0 h d D) (bL u0 h a b):=⟨e,rfl,λ_ _=>rfl,λ_ hb=>hb.elim,λ_ hb=>hb.elim,rfl,hs⟩
def ug{k u w}(h:Rel c.eH.ok c.eH.T.globals.size c.eH.S k u w):w.heap=u.heap:=by apply Array.ext_getElem?;intro b;exact h.same b λhb=>hb
def Cs(hF:ge c.eH L sp){g g' h}(H:Node c L sp g h)(C:OkG c L sp g){l D d es}(hs:stepG c.P U g (bL u0 h l D)=.go g' d es)(u:g'.status=.running)(B:g'.dying=Z):
 Node c L sp g' d.heap/\∃w,d=bL u0 d.heap l (D+w)/\∀a i,(∀j q,j<w->a (i+j) q=l (D+j) q) ->
  ∃f,stepG c.P U g (bL u0 h a i)=.go g' (bL u0 d.heap a<|i+w) f:=by
 have base:∀(k:Nat) (a:fG) (i:Nat),(∀j q,j<k->a (i+j) q=l (D+j) q) ->d.drawn<=D+k->∃f,stepG c.P U g (bL u0 h a i)=.go g' (bL u0 d.heap a<|i+(d.drawn-D)) f/\D<=d.drawn/\Node c L sp g' d.heap:=by
  intro k a i z hd;have J:=kX (c:=c.eH) (L:=L) (sp:=sp) hF C.eH<|nI (u0:=u0) H.1 l a D i k z;rw[show stepG c.eH.P U g (bL u0 h l D)=.go g' d es from hs]at J;obtain⟨v,A,f,q1,N,G,r,q5,q6⟩:=J.2 u B hd;have n:v=g':=by
   obtain⟨e,_⟩|⟨m,E,cs,e1,e2,_⟩:=N
   exact e;rw[e1,e2];rfl
  have hw:A=bL u0 d.heap a (i+(d.drawn-D))/\D<=d.drawn:=by
   have s:=r.tape;have y:=r.os;have t:=r.output;have K:=r.drawn;have F:=ug G;simp only[bL]at s y t K;have k6:D<=d.drawn:=by
    have hm:(bL u0 h l D).drawn<=d.drawn:=by
     have p:=kX (c:=c.eH) (L:=L) (sp:=sp) hF C.eH<|nI (u0:=u0) H.1 l (λj=>l<|D+j) D 0 (d.drawn-D+D) λj q _=>by rw[ZK]
     rw[show stepG c.eH.P U g (bL u0 h l D)=.go g' d es from hs]at p;obtain⟨_,w0,_,_,_,_,O,_,_⟩:=p.2 u B (by simp only[bL];omega);have:=O.drawn;simp only[bL]at this⊢;omega
    exact hm
   refine⟨?_,k6⟩;obtain⟨a1,a2,S,a4,a5⟩:=A;simp only at s y t K F;unfold bL;subst s y t F;have:S=i+(d.drawn-D):=by omega
   rw[this]
  refine⟨f,by rw[<-n,<-hw.1];exact q1,hw.2,?_⟩;refine⟨λb o W=>G.safe b o W,u,?_⟩;obtain⟨e,T⟩|⟨m,E,cs,e1,e2,e3,e4⟩:=N
  exact .inl T.rz;exact .inr ⟨m,E,cs,e1,e3,λx hx=>(e4 x hx).rz⟩
 obtain⟨X,Q,b2,b3⟩:=base (d.drawn-D) l D (λ_ _ _=>rfl) (by omega);refine⟨b3,d.drawn-D,?_,λa i z=>?_⟩;have:=Q.symm.trans hs;injection this with _ e _
 exact e.symm;obtain⟨f,e1,_,_⟩:=base (d.drawn-D) a i z (by omega);exact⟨f,e1⟩
def D3(hF:ge c.eH L sp){g h}(n:Node c L sp g h)(l:OkG c L sp g){d D v e es}(hs:stepG c.P U g (bL u0 h d D)=.ended (.done v) e es)(a f)(k:∀j q,a (f+j) q=d (D+j) q):∃w' b,stepG c.P U g (bL u0 h a f)=.ended (.done v) w' b/\w'.heap=e.heap:=by have i:=kX hF l.eH<|nI (u0:=u0) n.1 d a D f e.drawn λj q _=>k j q;rw[show stepG c.eH.P U g (bL u0 h d D)=.ended (.done v) e es from hs]at i;obtain⟨w',b,q1,m,_⟩:=i (by simp);exact⟨w',b,q1,ug m⟩
def jo(c:Ctx)(Post:ι->Array Zj->Prop)(g:φ)(w:κ):Prop:=(∃v u' es,stepG c.P U g w=.ended (.done v) u' es/\Post v u'.heap)\/∃g' u' es,stepG c.P U g w=.go g' u' es/\g'.status=.running/\g'.dying=Z
def Live(c:Ctx)(u0:κ)(Post:ι->Array Zj->Prop)(g:φ)(h:Array Zj):Prop:=∀τ:fG,∃T D,(∀j q,T (D+j) q=τ j q)/\Ends c.P Post (solo g<|bL u0 h T D)
inductive FW(c:Ctx)(L:bu)(sp:ZT)(u0:κ)(Post:ι->Array Zj->Prop):φ->Array Zj->Prop
 |mk (g:φ) (h:Array Zj) (safe:OkG c L sp g->∀τ D,jo c Post g (bL u0 h τ D)) (live:Live c u0 Post g h) (next:∀g' h',Move c L sp u0 g h g' h'->FW c L sp u0 Post g' h'):FW c L sp u0 Post g h
theorem runN_add{P:R}:∀(a b:Nat) {m m1:YT},runN P a m=.next m1->runN P (a+b) m=runN P b m1
 |0,b,m,m1,h=>by simp only[runN]at h;cases h;rw[ZK]
 |a+1,b,m,m1,h=>by
  simp only[runN]at h;cases hs:step P m with
  |next m2=>rw[hs]at h;rw[show a+1+b=(a+b)+1 by omega];simp only[runN,hs];exact runN_add a b h
  |ended o w=>rw[hs]at h;cases h
def gW.refl(P u0 g h a):gW P u0 0 0 a g h g h:=λb D _=>rfl
def gW.trans{P M f c d r e g k i h o n}(a:gW P u0 M c r g h k o)(b:gW P u0 f d e k o i n):
 gW P u0 (M+f) (c+d) (λj q=>if j<c then r j q else e (j-c) q) g h i n:=by
 intro p D m;rw[runN_add M f (a p D λj q l=>(m j q<|by omega).trans<|if_pos l)];have:=b p (D+c) λj q l=>by
  rw[show D+c+j=D+(c+j) by omega,m (c+j) q<|by omega]
  grind
 rw[this,show D+c+d=D+(c+d) by omega]
inductive Reach(c:Ctx)(L:bu)(sp:ZT)(u0:κ):φ->Array Zj->φ->Array Zj->Prop
 |refl (g h):Reach c L sp u0 g h g h
 |step {g h g1 h1 g2 h2}:Reach c L sp u0 g h g1 h1->Move c L sp u0 g1 h1 g2 h2->Reach c L sp u0 g h g2 h2
def Reach.walks{g g' h h'}(r:Reach c L sp u0 g h g' h'):∃M a b,gW c.P u0 M a b g h g' h':=by
 induction r with
 |refl=>exact⟨0,0,λ_ _=>0,.refl _ _ _ _ _⟩
 |step r m f=>obtain⟨M,a,b,w⟩:=f;obtain⟨_,j,d,i,_,e⟩:=m;exact⟨_,_,_,w.trans e⟩
def Reach.node{g g' h h'}(a:Node c L sp g h)(r:Reach c L sp u0 g h g' h'):Node c L sp g' h':=by
 cases r with
 |refl=>exact a
 |step r m=>exact m.1
def tv(hF:ge c.eH L sp)(r:FV c.P){Post g h}(l:Node c L sp g h)(s:OkG c L sp g){a D}(hw:¬jo c Post g (bL u0 h a D)):
 ¬Ends c.P Post (solo g<|bL u0 h a D):=by
 have b:=kX (c:=c.eH) (L:=L) (sp:=sp) hF s.eH<|nI (u0:=u0) l.1 a a D D 0 λ_ _ _=>rfl;cases hs:stepG c.P U g (bL u0 h a D)with
 |go j i f=>
  rw[show stepG c.eH.P U g (bL u0 h a D)=.go j i f from hs]at b;have q:K8 j:=by
   cases hd:j.dying with
   |some d=>
    obtain e|e|e|e:=b.1.2
    exact .inl ⟨e,d,hd,b.1.1 d hd⟩;exact .inr<|.inl e;exact .inr<|.inr<|.inl e;exact .inr<|.inr<|.inr e
   |none=>
    obtain e|e|e|e:=b.1.2
    exact absurd (.inr ⟨j,i,f,hs,e,hd⟩) hw;exact .inr<|.inl e;exact .inr<|.inr<|.inl e;exact .inr<|.inr<|.inr e
  intro p;exact AZ r q i<|p.next<|step_solo_go l.2.1 hs
 |ended o i f=>
  rintro⟨n,v,w,k,m⟩;cases n with
  |zero=>simp[runN]at k
  |succ n=>
   simp only[runN,(cj (P:=c.P) l.2.1 hs)]at k;injection k with e1 e2
   subst e1 e2;exact hw<|.inl ⟨v,_,f,hs,m⟩
 |_=>rw[show stepG c.eH.P U g (bL u0 h a D)=_ from hs]at b;exact b.elim
def K9{P}{Post:ι->Array Zj->Prop}{m b n k o w}(h:runN P n m=.ended o w)(c:runN P k m=.next b):k<n:=by
 by_cases a:k<n
 omega;exfalso;obtain⟨j,rfl⟩:=Nat.exists_eq_add_of_le<|Nat.le_of_not_lt a;have:∀(n j:Nat) (m:YT),runN P n m=.ended o w->runN P (n+j) m=.ended o w:=by
  intro n
  induction n with
  |zero=>intro j m h;simp[runN]at h
  |succ n d=>
   intro j m h;rw[show n+1+j=(n+j)+1 by omega];simp only[runN]at h⊢
   grind
 grind
def A0(hF:ge c.eH L sp){Post g h}(n:Node c L sp g h)(m:OkG c L sp g){l a D f}(k:∀j q,a (f+j) q=l (D+j) q)(hw:jo c Post g (bL u0 h l D)):jo c Post g (bL u0 h a f):=by
 obtain⟨v,s,r,i,d⟩|⟨t,s,r,i,d,h3⟩:=hw
 obtain⟨o,b,e1,e2⟩:=D3 hF n m i a f k;exact .inl ⟨v,o,b,e1,by rw[e2];exact d⟩;obtain⟨_,u,_,p⟩:=Cs hF n m i d h3;obtain⟨b,e⟩:=p a f λj q _=>k j q;exact .inr ⟨t,_,b,e,d,h3⟩
def xO(hF:ge c.eH L sp)(hM:FV c.P){Post g h}(hn:Node c L sp g h)(he:∀B,Ends c.P Post<|solo g<|bL u0 h B 0):FW c L sp u0 Post g h:=by
 classical
 by_cases O:FW c L sp u0 Post g h
 exact O;exfalso;have safe:∀u z,Reach c L sp u0 g h u z->OkG c L sp u->∀B D,jo c Post u (bL u0 z B D):=by
  intro u z r C B D;by_cases hw:jo c Post u (bL u0 z B D)
  exact hw;exfalso;obtain⟨a,b,H,w⟩:=r.walks
  let T:fG:=λj q=>if j<b then H j q else B (D+(j-b)) q
  have l:=w T 0 λj q S=>by rw[ZK];exact if_pos S
  rw[ZK]at l;refine tv hF hM (r.node hn) C (λF=>hw<|A0 hF (r.node hn) C (λj q=>?_) F)<|(he T).run l;show B (D+j) q=T (b+j) q;simp only[T];rw[if_neg (by omega),show b+j-b=j by omega]
 have K:∀u z,Reach c L sp u0 g h u z->Live c u0 Post u z:=by
  intro u z r B;obtain⟨a,b,H,w⟩:=r.walks
  let T:fG:=λj q=>if j<b then H j q else B (j-b) q
  have l:=w T 0 λj q S=>by rw[ZK];exact if_pos S
  rw[ZK]at l;refine⟨T,b,λj q=>?_,(he T).run l⟩;show(if b+j<b then H (b+j) q else B (b+j-b) q)=_;rw[if_neg (by omega),show b+j-b=j by omega]
 have X:∀x:{x:φ×Array Zj//Reach c L sp u0 g h x.1 x.2/\¬FW c L sp u0 Post x.1 x.2},∃y:{x:φ×Array Zj//Reach c L sp u0 g h x.1 x.2/\¬FW c L sp u0 Post x.1 x.2},Move c L sp u0 x.1.1 x.1.2 y.1.1 y.1.2:=by
  rintro⟨⟨u,z⟩,r,hw⟩;by_cases A:∃t o,Move c L sp u0 u z t o/\¬FW c L sp u0 Post t o
  obtain⟨t,o,m,F⟩:=A;exact⟨⟨(t,o),.step r m,F⟩,m⟩;refine absurd (.mk u z (λC=>safe u z r C) (K u z r) λt o m=>?_) hw;by_cases E:FW c L sp u0 Post t o
  exact E;exact absurd ⟨t,o,m,E⟩ A
 obtain⟨f,hf⟩:=Classical.axiomOfChoice X
 let sq:Nat->{x:φ×Array Zj//Reach c L sp u0 g h x.1 x.2/\¬FW c L sp u0 Post x.1 x.2}:=λi=>Nat.rec ⟨(g,h),.refl g h,O⟩ (λ_ s=>f s) i
 have hm:∀i,∃p:Nat×Nat×fG,0<p.1/\gW c.P u0 p.1 p.2.1 p.2.2 (sq i).1.1 (sq i).1.2 (sq<|i+1).1.1 (sq<|i+1).1.2:=λi=>by obtain⟨_,a,b,H,h1,h2⟩:=hf<|sq i;exact⟨(a,b,H),h1,h2⟩
 obtain⟨p,hp⟩:=Classical.axiomOfChoice hm
 let D:Nat->Nat:=λi=>Nat.rec 0 (λi d=>d+(p i).2.1) i
 have Q:∀i,D (i+1)=D i+(p i).2.1:=λi=>rfl;have mono:∀i k,D i<=D (i+k):=by
  intro i k
  induction k with
  |zero=>exact .refl
  |succ k ih=>rw[<-Yl,Q];omega
 let T:fG:=λn q=>if A:∃i,D i<=n/\n<D (i+1)then(p<|Classical.choose A).2.2 (n-D (Classical.choose A)) q else 0
 have G:∀i j q,j<(p i).2.1->T (D i+j) q=(p i).2.2 j q:=by
  intro i j q S;have A:∃k,D k<=D i+j/\D i+j<D (k+1):=⟨i,by omega,by rw[Q];omega⟩;have hk:=Classical.choose_spec A;have e:Classical.choose A=i:=by
   generalize Classical.choose A=k at hk;obtain W|rfl|W:=Nat.lt_trichotomy k i
   have:=mono (k+1)<|i-(k+1);rw[show k+1+(i-(k+1))=i by omega]at this;omega;rfl;have:=mono (i+1)<|k-(i+1);rw[show i+1+(k-(i+1))=k by omega,Q]at this;omega
  show(if A:∃k,D k<=D i+j/\D i+j<D (k+1)then(p<|Classical.choose A).2.2 (D i+j-D (Classical.choose A)) q else 0)=_;rw[dif_pos A,e,show D i+j-D i=j by omega]
 have J:∀i,∃N,i<=N/\runN c.P N (solo g<|bL u0 h T 0)=.next (solo (sq i).1.1<|bL u0 (sq i).1.2 T<|D i):=by
  intro i
  induction i with
  |zero=>exact⟨0,.refl,rfl⟩
  |succ i ih=>obtain⟨N,hN,hr⟩:=ih;refine⟨N+(p i).1,by have:=(hp i).1;omega,?_⟩;rw[runN_add N (p i).1 hr,(hp i).2 T (D i)<|G i,Q]
 obtain⟨n,v,w,hn',_⟩:=he T;obtain⟨N,hN,hr⟩:=J n;have:=K9 (Post:=Post) hn' hr;omega
end
end
end gO
