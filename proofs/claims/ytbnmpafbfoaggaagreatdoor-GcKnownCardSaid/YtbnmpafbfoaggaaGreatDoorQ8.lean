/- A part of the proof of GcKnown; no conditions. -/
import GoSem.Step
import Derived.StepT
import Derived.Laws.Sem
import Derived.Conc.Events
set_option linter.unusedVariables false
set_option linter.unusedSimpArgs false
set_option maxRecDepth 100000
set_option maxHeartbeats 16000000
noncomputable section
open Go renaming TypeId->Ω,Value->Ψ,Program->Ξ,behindNumber->Θ,World->Γ,Addr->ξ,typeInfo->μ,numberAt->θ,Sem->ζ,zeroValue->Z9,FloatKind->Z2,IntKind->ZZ,byteOf->ZY,Operand->ZT,cellAtBytes->ZR,BinOp->ZQ,Tables->ZP,viewAt->ZM,askRoom->ZD,Event->ZC,underlying->ZA
open Nat renaming le_refl->Δ,le_trans->ZB
open Go.Builtin renaming firstCells->ω,zeroCells->χ,unsafeAdd_->υ,mayShare->Z3,holdsCells->ZO,lenOf->ZI,ssaWrapNilChk_->ZF,nextslicecap->ZE
open Go.Sem renaming run->ψ,runT->κ,run_bind->η,bind->ε,runT_bind'->ZV,run_bind'->ZS,runT_fst->Zz,pure->Zx
open Go.World renaming shape?->φ,setCell->Z4
open List renaming contains_iff_mem->ο
open Go.Result renaming andThen_ok->ι
open Pure renaming pure->Z8
open Go.Deferred renaming ofValue->Z7
open Bool renaming true->Z1,false->Z0
open Option renaming isSome_some->ZX,none->ZN
open Go.Instr renaming checkKey->ZW,findKey->ZG,makeInterface->Zy,keyThatStays->Zw,takeDeferred->Zv
open Go.Op renaming equalIn->ZU,addrMod->ZL,twoPlaces->ZK,eqGuardIn->ZJ,stringOp->ZH
namespace Go.Proofs.YtbnmpafbfoaggaaGreatDoor
namespace gO
open Go
section
def eY{α:Type}:Result α->Γ
 |.ok _ w=>w
 |.halt _ w=>w
def bE:Obj:=.view ⟨0,0,some 0⟩ 0
def mL(b:Nat)(u w:Γ):Prop:=(∃c e,(∃f,u.heap[b]?=some (.cells #[] e f))/\∃f,w.heap[b]?=some (.cells c e f))\/u.heap[b]?=some bE
structure Rel(ok:Obj->Prop)(N:Nat)(S:Nat->Prop)(k:Nat)(u w:Γ):Prop where
 ans:∀j q,j<k->w.tape (w.drawn+j) q=u.tape (u.drawn+j) q
 size:w.heap.size=u.heap.size
 same:∀b:Nat,¬S b->w.heap[b]?=u.heap[b]?
 mask:∀b:Nat,S b->mL b u w
 high:∀b:Nat,S b->N<=b
 env:w.os.env=u.os.env
 safe:∀(b:Nat) (o:Obj),u.heap[b]?=some o->ok o
def jG(S:Nat->Prop)(B:Nat)(e:ZC):Prop:=
 match e.loc with
 |.cell a=>¬S a.block/\a.block<B
 |.obj r=>¬S r/\r<B
 |.mark .noRoom=>True
 |.mark (.extern _)=>True
 |.output=>True
 |_=>False
theorem jG.mono{S:Nat->Prop}{B B':Nat}{e:ZC}(h:jG S B e)(hb:B<=B'):jG S B' e:=by
 obtain⟨loc,wr,b⟩:=e;cases loc with
 |cell a=>exact⟨h.1,Nat.lt_of_lt_of_le h.2 hb⟩
 |obj r=>exact⟨h.1,Nat.lt_of_lt_of_le h.2 hb⟩
 |output=>exact h
 |goroutines=>exact h
 |mark m=>cases m<;>first|exact h|trivial
structure kE(S:Nat->Prop)(u u' w w':Γ):Prop where
 tape:w'.tape=w.tape
 os:w'.os=w.os
 output:w'.output=w.output
 drawn:w'.drawn+u.drawn=w.drawn+u'.drawn
 Cl:u'.tape=u.tape
 still:∀b,b<w.heap.size->S b->w'.heap[b]?=w.heap[b]?
theorem kE.refl{S:Nat->Prop}(u w:Γ):kE S u u w w:=⟨rfl,rfl,rfl,by omega,rfl,fun _ _ _=>rfl⟩
theorem kE.trans{S:Nat->Prop}{u u' u'' w w' w'':Γ}(h:kE S u u' w w')(h':kE S u' u'' w' w''):kE S u u'' w w'':=⟨h'.tape.trans h.tape,h'.os.trans h.os,h'.output.trans h.output,by have:=h.drawn;have:=h'.drawn;omega,h'.Cl.trans h.Cl,fun b hb hs=>by have e:=h.still b hb hs;rw[Array.getElem?_eq_getElem hb]at e;rw[h'.still b (Array.getElem?_eq_some_iff.1 e).1 hs,h.still b hb hs]⟩
theorem Fy{α:Type}(x:Ask α)(u:Γ):u.drawn<=(u.ask x).2.drawn/\(u.ask x).2.heap=u.heap:=by
 induction x generalizing u with
 |done a=>exact⟨Δ _,rfl⟩
 |ask b range k c=>
  simp only[World.ask];split
  ·exact c _ _
  ·have h:=c ((Question.extern b range).cut (u.tape u.drawn (Question.extern b range))) {u with drawn:=u.drawn+1};exact⟨ZB (Nat.le_succ _) h.1,h.2⟩
theorem Fz(c:Sys)(u:Γ):u.drawn<=(u.sys c).2.drawn/\(u.sys c).2.heap=u.heap:=by have h:=Fy (Kernel.perform c u.os) u;unfold World.sys;generalize u.ask (Kernel.perform c u.os)=r at h;obtain⟨⟨a,b⟩,c⟩:=r;cases a<;>first|exact⟨h.1,h.2⟩|exact⟨Δ _,rfl⟩
theorem td{P:Ξ}{u u':Γ}{a:ξ}{v:Ψ}{at_:Bool}{l:List ξ}(h:u.farStore P a v at_=.ok (u',l)):u'.drawn=u.drawn/\u'.heap.size=u.heap.size:=by
 unfold World.farStore at h;split at h
 ·split at h
  ·rename_i r b;cases h
   unfold World.viewStore at b;simp only[bind,Except.bind,pure,Except.pure]at b
   repeat' split at b
   all_goals first|(cases b;done)|(cases b;simp)
  ·cases h
 ·cases h
theorem bY{α:Type}(P:Ξ)(x:ζ α)(u:Γ):u.drawn<=(eY (x.run P u)).drawn/\u.heap.size<=(eY (x.run P u)).heap.size:=by
 induction x generalizing u with
 |pure a=>exact⟨Δ _,Δ _⟩
 |load m a k b=>
  simp only[ψ];split
  ·exact b _ _
  ·split
   ·exact b _ _
   ·exact⟨Δ _,Δ _⟩
 |store m a v k b=>
  have d:u.drawn<=(eY (match u.cell? a with
   |some _=>if u.frozen? a then Result.halt (.unsupported (.unsafePointer "a write to bytes that a string shares")) u else k.run P (u.setCell a v)
   |none=>match u.farStore P a v (m==.atomic)with
    |.ok (w,_)=>k.run P w
    |.error h=>.halt h u)).drawn/\u.heap.size<=(eY (match u.cell? a with
   |some _=>if u.frozen? a then Result.halt (.unsupported (.unsafePointer "a write to bytes that a string shares")) u else k.run P (u.setCell a v)
   |none=>match u.farStore P a v (m==.atomic)with
    |.ok (w,_)=>k.run P w
    |.error h=>.halt h u)).heap.size:=by
   split
   ·split
    ·exact⟨Δ _,Δ _⟩
    ·have:=b (u.setCell a v);simpa[Z4]using this
   ·split
    ·rename_i e;have h:=td e;have:=b ‹Γ›;omega
    ·exact⟨Δ _,Δ _⟩
  cases v<;>first|(simp only[ψ];exact d)|(simp only[ψ,eY];exact⟨Δ _,Δ _⟩)
 |new o k b=>simp only[ψ];have:=b u.heap.size {u with heap:=u.heap.push o};simp only[Array.size_push]at this;exact⟨this.1,by omega⟩
 |shape r k b=>simp only[ψ];exact b _ _
 |freeze a n k b=>simp only[ψ];have:=b (u.freeze a n);unfold World.freeze at this⊢;split at this<;>simp_all
 |frozen a k b=>simp only[ψ];exact b _ _
 |getObj r k b=>
  simp only[ψ];split
  ·exact⟨Δ _,Δ _⟩
  ·exact b _ _
  ·exact⟨Δ _,Δ _⟩
 |setObj r o k b=>
  simp only[ψ];split
  ·exact⟨Δ _,Δ _⟩
  ·have:=b {u with heap:=u.heap.setIfInBounds r o};simpa using this
  ·exact⟨Δ _,Δ _⟩
 |choose q k b=>
  simp only[ψ];split
  ·exact b _ _
  ·have:=b (q.cut (u.tape u.drawn q)) {u with drawn:=u.drawn+1};exact⟨ZB (Nat.le_succ _) this.1,this.2⟩
 |sys c k b=>simp only[ψ];have h:=Fz c u;have:=b (u.sys c).1 (u.sys c).2;rw[h.2]at this;exact⟨ZB h.1 this.1,this.2⟩
 |program k b=>simp only[ψ];exact b _ _
 |mark m k b=>simp only[ψ];exact b _
 |halt h=>exact⟨Δ _,Δ _⟩
section
variable(ok:Obj->Prop)(N:Nat)(S:Nat->Prop)(P Q:Ξ)
def kF{α:Type}(k:Nat)(u w:Γ)(y:ζ α):Result α->Prop
 |.ok a u'=>u'.drawn<=u.drawn+k->∃(w':Γ) (es':Array ZC),(∀es,y.runT Q w es=(.ok a w',es++es'))/\Rel ok N S (u.drawn+k-u'.drawn) u' w'/\kE S u u' w w'/\∀e∈es',jG S u'.heap.size e
 |.halt (.panic v) u'=>u'.drawn<=u.drawn+k->∃(w':Γ) (es':Array ZC),(∀es,y.runT Q w es=(.halt (.panic v) w',es++es'))/\Rel ok N S (u.drawn+k-u'.drawn) u' w'/\kE S u u' w w'/\∀e∈es',jG S u'.heap.size e
 |.halt .goexit u'=>u'.drawn<=u.drawn+k->False
 |.halt _ _=>True
variable{β:Type}{u1:Γ}{α:Type}
def bO{α:Type}(x y:ζ α):Prop:=∀k u w,Rel ok N S k u w->kF ok N S Q k u w y (x.run P u)
variable{ok N S P Q}
theorem bO.pure(a:α):bO ok N S P Q (.pure a) (.pure a):=by intro k u w h _;exact⟨w,#[],fun b=>by simp only[κ,Array.append_empty],by rw[show u.drawn+k-u.drawn=k by omega];exact h,.refl _ _,by simp⟩
theorem bO.panic(v:Ψ):bO ok N S P Q (.halt (.panic v):ζ α) (.halt (.panic v)):=by intro k u w h _;exact⟨w,#[],fun a=>by simp only[κ,Array.append_empty],by rw[show u.drawn+k-u.drawn=k by omega];exact h,.refl _ _,by simp⟩
theorem bO.stop{x y:ζ α}(h:∀u,∃r u',x.run P u=.halt r u'/\(∀v,r≠.panic v)/\r≠.goexit):bO ok N S P Q x y:=by intro k u w _;obtain⟨r,u',e,a⟩:=h u;rw[e];cases r<;>first|trivial|exact absurd rfl (a.1 _)|exact absurd rfl a.2
theorem bO.bind{x y:ζ α}{f g:α->ζ β}(h:bO ok N S P Q x y)(hf:∀a,bO ok N S P Q (f a) (g a)):bO ok N S P Q (x.bind f) (y.bind g):=by
 intro k u w A;have m:=h k u w A;rw[ZS];cases hx:x.run P u with
 |ok a u1=>
  rw[hx]at m;simp only[ι];have s:=bY P (f a) u1;have n:=bY P x u;rw[hx]at n;simp only[eY]at n;have fin:∀u2,eY ((f a).run P u1)=u2->u2.drawn<=u.drawn+k->∃(d:Γ) (c:Array ZC),(∀o,y.runT Q w o=(.ok a d,o++c))/\Rel ok N S (u.drawn+k-u1.drawn) u1 d/\kE S u u1 w d/\(∀e∈c,jG S u1.heap.size e)/\u1.heap.size<=u2.heap.size/\u1.drawn<=u2.drawn:=by intro u2 e2 hd;rw[e2]at s;obtain⟨d,c,r1,r2,r3,r4⟩:=m (by omega);exact⟨d,c,r1,r2,r3,r4,s.2,s.1⟩
  cases hf2:(f a).run P u1 with
  |ok b u2=>
   intro hd;obtain⟨d,c,r1,r2,r3,r4,r5,r6⟩:=fin u2 (by rw[hf2];rfl) hd;have j:=hf a _ u1 d r2;rw[hf2]at j;obtain⟨t,l,q1,z,p,q⟩:=j (by omega);refine⟨t,c++l,fun o=>?_,?_,r3.trans p,?_⟩
   ·rw[ZV,r1];simp only;rw[q1,Array.append_assoc]
   ·rw[show u.drawn+k-u2.drawn=u1.drawn+(u.drawn+k-u1.drawn) -u2.drawn by omega];exact z
   ·intro e i;rcases Array.mem_append.1 i with i|i
    ·exact(r4 e i).mono r5
    ·exact q e i
  |halt r u2=>
   cases r with
   |panic v=>
    intro hd;obtain⟨d,c,r1,r2,r3,r4,r5,r6⟩:=fin u2 (by rw[hf2];rfl) hd;have j:=hf a _ u1 d r2;rw[hf2]at j;obtain⟨t,l,q1,z,p,q⟩:=j (by omega);refine⟨t,c++l,fun o=>?_,?_,r3.trans p,?_⟩
    ·rw[ZV,r1];simp only;rw[q1,Array.append_assoc]
    ·rw[show u.drawn+k-u2.drawn=u1.drawn+(u.drawn+k-u1.drawn) -u2.drawn by omega];exact z
    ·intro e i;rcases Array.mem_append.1 i with i|i
     ·exact(r4 e i).mono r5
     ·exact q e i
   |goexit=>intro hd;obtain⟨d,c,r1,r2,r3,r4,r5,r6⟩:=fin u2 (by rw[hf2];rfl) hd;have j:=hf a _ u1 d r2;rw[hf2]at j;exact j (by omega)
   |_=>trivial
 |halt r u1=>
  rw[hx]at m;simp only[Result.andThen_halt];cases r with
  |panic v=>intro hd;obtain⟨d,c,r1,r2,r3,r4⟩:=m hd;exact⟨d,c,fun o=>by rw[ZV,r1],r2,r3,r4⟩
  |goexit=>exact m
  |_=>trivial
theorem ip{x y:ζ α}{f g:α->ζ β}{k:Nat}{u w:Γ}{a:α}(hx:x.run P u=.ok a u1)(h1:kF ok N S Q k u w y (.ok a u1))(h2:∀w1,Rel ok N S (u.drawn+k-u1.drawn) u1 w1->kF ok N S Q (u.drawn+k-u1.drawn) u1 w1 (g a) ((f a).run P u1)):kF ok N S Q k u w (y.bind g) ((x.bind f).run P u):=by
 rw[ZS,hx];simp only[ι];have l:=bY P (f a) u1;have fin:∀u2,eY ((f a).run P u1)=u2->u2.drawn<=u.drawn+k->∃(w1:Γ) (c:Array ZC),(∀j,y.runT Q w j=(.ok a w1,j++c))/\Rel ok N S (u.drawn+k-u1.drawn) u1 w1/\kE S u u1 w w1/\(∀e∈c,jG S u1.heap.size e)/\u1.heap.size<=u2.heap.size/\u1.drawn<=u2.drawn:=by intro u2 e2 hd;rw[e2]at l;obtain⟨w1,c,r1,r2,r3,r4⟩:=h1 (by omega);exact⟨w1,c,r1,r2,r3,r4,l.2,l.1⟩
 cases hf2:(f a).run P u1 with
 |ok b u2=>
  intro hd;obtain⟨w1,c,r1,r2,r3,r4,r5,r6⟩:=fin u2 (by rw[hf2];rfl) hd;have h:=h2 w1 r2;rw[hf2]at h;obtain⟨o,i,q1,p,n,m⟩:=h (by omega);refine⟨o,c++i,fun j=>?_,?_,r3.trans n,?_⟩
  ·rw[ZV,r1];simp only;rw[q1,Array.append_assoc]
  ·rw[show u.drawn+k-u2.drawn=u1.drawn+(u.drawn+k-u1.drawn) -u2.drawn by omega];exact p
  ·intro e d;rcases Array.mem_append.1 d with d|d
   ·exact(r4 e d).mono r5
   ·exact m e d
 |halt q u2=>
  cases q with
  |panic v=>
   intro hd;obtain⟨w1,c,r1,r2,r3,r4,r5,r6⟩:=fin u2 (by rw[hf2];rfl) hd;have h:=h2 w1 r2;rw[hf2]at h;obtain⟨o,i,q1,p,n,m⟩:=h (by omega);refine⟨o,c++i,fun j=>?_,?_,r3.trans n,?_⟩
   ·rw[ZV,r1];simp only;rw[q1,Array.append_assoc]
   ·rw[show u.drawn+k-u2.drawn=u1.drawn+(u.drawn+k-u1.drawn) -u2.drawn by omega];exact p
   ·intro e d;rcases Array.mem_append.1 d with d|d
    ·exact(r4 e d).mono r5
    ·exact m e d
  |goexit=>intro hd;obtain⟨w1,c,r1,r2,r3,r4,r5,r6⟩:=fin u2 (by rw[hf2];rfl) hd;have h:=h2 w1 r2;rw[hf2]at h;exact h (by omega)
  |_=>trivial
theorem bO.bind'{x y:ζ α}{f g:α->ζ β}(h:bO ok N S P Q x y)(hf:∀a,bO ok N S P Q (f a) (g a)):bO ok N S P Q (x>>=f) (y>>=g):=h.bind hf
theorem bO.pure'(a:α):bO ok N S P Q (Z8 a) (Z8 a):=.pure a
theorem bO.program{k j:Ξ->ζ α}(h:bO ok N S P Q (k P) (j Q)):bO ok N S P Q (.program k) (.program j):=h
theorem bO.choose{α:Type}(q:Question){k j:Nat->ζ α}(h:∀n,bO ok N S P Q (k n) (j n)):bO ok N S P Q (.choose q k) (.choose q j):=by
 intro n u w b;simp only[ψ];split
 ·rename_i m;have:=h 0 n u w b;have e:∀c,(Sem.choose q j).runT Q w c=(j 0).runT Q w c:=fun c=>by simp only[κ,m,if_true]
  revert this
  cases (k 0).run P u with
  |ok a g=>simp only[kF,e];exact id
  |halt p g=>cases p<;>simp only[kF,e]<;>exact id
 ·rename_i m;have f:=bY P (k (q.cut (u.tape u.drawn q))) {u with drawn:=u.drawn+1};have e:0<n->∀c,(Sem.choose q j).runT Q w c=(j (q.cut (u.tape u.drawn q))).runT Q {w with drawn:=w.drawn+1} c:=fun d c=>by have:=b.ans 0 q d;simp only[Nat.add_zero]at this;simp only[κ,m,this];rfl
  have step:0<n->kF ok N S Q (n-1) {u with drawn:=u.drawn+1} {w with drawn:=w.drawn+1} (j (q.cut (u.tape u.drawn q))) ((k (q.cut (u.tape u.drawn q))).run P {u with drawn:=u.drawn+1}):=fun d=>h _ (n-1) _ _ ⟨fun i r hi=>by have:=b.ans (i+1) r (by omega);simpa[Nat.add_assoc,Nat.add_comm 1 i]using this,b.size,b.same,b.mask,b.high,b.env,b.safe⟩
  revert step f
  cases (k (q.cut (u.tape u.drawn q))).run P {u with drawn:=u.drawn+1}with
  |ok a g=>
   intro f step hd;simp only[eY]at f;have d:0<n:=by omega
   obtain⟨o,l,r1,r2,r3,r4⟩:=step d (by simp only;omega);refine⟨o,l,fun c=>by rw[e d,r1],?_,⟨r3.tape,r3.os,r3.output,by have:=r3.drawn;simp only at this;omega,r3.Cl,r3.still⟩,r4⟩;rw[show u.drawn+n-g.drawn=u.drawn+1+(n-1) -g.drawn by omega];exact r2
  |halt p g=>
   cases p with
   |panic v=>
    intro f step hd;simp only[eY]at f;have d:0<n:=by omega
    obtain⟨o,l,r1,r2,r3,r4⟩:=step d (by simp only;omega);refine⟨o,l,fun c=>by rw[e d,r1],?_,⟨r3.tape,r3.os,r3.output,by have:=r3.drawn;simp only at this;omega,r3.Cl,r3.still⟩,r4⟩;rw[show u.drawn+n-g.drawn=u.drawn+1+(n-1) -g.drawn by omega];exact r2
   |goexit=>intro f step hd;simp only[eY]at f;exact step (by omega) (by simp only;omega)
   |_=>intros;trivial
structure h7(ok:Obj->Prop):Prop where
 cells:∀c e f,ok (.cells c e f)
 view:∀a t,ok (.view a t) ->a.spot.isSome=Z1
theorem qR{w:Γ}{a:ξ}{v:Ψ}(h:w.cell? a=some v):∃c e f,w.heap[a.block]?=some (.cells c e f)/\a.spot.isSome=Z0/\c[a.off]?=some v:=by
 unfold World.cell? at h;split at h
 ·rename_i c e f hc;split at h
  ·cases h
  ·rename_i hs;exact⟨c,e,f,hc,by simpa using hs,h⟩
 ·cases h
theorem Rel.cell{k:Nat}{u w:Γ}(h:Rel ok N S k u w){a:ξ}{v:Ψ}(ha:u.cell? a=some v):w.cell? a=some v/\¬S a.block/\a.block<u.heap.size:=by
 obtain⟨c,e,f,d,j,i⟩:=qR ha;have g:¬S a.block:=by
  intro hs;rcases h.mask _ hs with⟨_,l,⟨_,b⟩,_⟩|b
  ·rw[d]at b;cases b
   simp at i
  ·rw[d]at b;cases b
 refine⟨?_,g,?_⟩
 ·unfold World.cell?;rw[h.same _ g,d];simp[j,i]
 ·exact(Array.getElem?_eq_some_iff.1 d).1
theorem Rel.heap{k:Nat}{u w:Γ}(h:Rel ok N S k u w){r:Nat}{o:Obj}(ho:u.heap[r]?=some o)(hn:∀c e f,o≠.cells c e f)(hp:o≠bE):w.heap[r]?=some o/\¬S r/\r<u.heap.size:=by
 have b:¬S r:=by
  intro hs;rcases h.mask _ hs with⟨_,d,⟨_,a⟩,_⟩|a
  ·rw[ho]at a;cases a
   exact hn _ _ _ rfl
  ·rw[ho]at a;cases a
   exact hp rfl
 exact⟨(h.same _ b).trans ho,b,(Array.getElem?_eq_some_iff.1 ho).1⟩
theorem kL(w:Γ)(a:ξ)(s:String):(∀v,w.noCell a s≠.panic v)/\w.noCell a s≠.goexit:=by unfold World.noCell;split<;>simp
theorem seen_spot(P:Ξ)(w:Γ)(x:ξ)(t:Ω)(k:ξ)(b:Bool)(hs:x.spot.isSome=Z1):w.seen P x t k b=.error "memory seen as another type: a place without cells":=by unfold World.seen;rw[if_pos (by simp[hs])];rfl
theorem xb(hl:h7 ok){k:Nat}{u w:Γ}(h:Rel ok N S k u w)(P:Ξ)(a:ξ)(at_:Bool):∃e,u.farLoad P a at_=.error e/\(∀v,e≠.panic v)/\e≠.goexit:=by
 unfold World.farLoad;split
 ·rename_i x t b;have hs:=hl.view _ _ (h.safe _ _ b);have e:u.viewLoad P x t a at_=.error "memory seen as another type: a place without cells":=by unfold World.viewLoad;rw[seen_spot _ _ _ _ _ _ hs];rfl
  rw[e];exact⟨_,rfl,by simp⟩
 ·exact⟨_,rfl,kL _ _ _⟩
theorem vf(hl:h7 ok){k:Nat}{u w:Γ}(h:Rel ok N S k u w)(P:Ξ)(a:ξ)(v:Ψ)(at_:Bool):∃e,u.farStore P a v at_=.error e/\(∀v,e≠.panic v)/\e≠.goexit:=by
 unfold World.farStore;split
 ·rename_i x t c;have hs:=hl.view _ _ (h.safe _ _ c);have e:∃s,u.viewStore P x t a v at_=.error s:=by
   unfold World.viewStore;rw[seen_spot _ _ _ _ _ _ hs];by_cases b:(!tight P P.depth t)=Z1
   ·exact⟨_,by rw[if_pos b];rfl⟩
   ·exact⟨_,by rw[if_neg b];rfl⟩
  obtain⟨s,e⟩:=e;rw[e];exact⟨_,rfl,by simp⟩
 ·exact⟨_,rfl,kL _ _ _⟩
theorem bT{k:Nat}{u w:Γ}{y:ζ α}{e:Halt}{u':Γ}(h:(∀v,e≠.panic v)/\e≠.goexit):kF ok N S Q k u w y (.halt e u'):=by cases e<;>first|trivial|exact absurd rfl (h.1 _)|exact absurd rfl h.2
theorem f6{k:Nat}{u w w1:Γ}{y z:ζ α}{ev:ZC}{r:Result α}(hz:∀es,y.runT Q w es=z.runT Q w1 (es.push ev))(hd:u1.drawn=u.drawn)(hK:kE S u u1 w w1)(hev:jG S u1.heap.size ev)(hm:u1.heap.size<=(eY r).heap.size)(h:kF ok N S Q k u1 w1 z r):kF ok N S Q k u w y r:=by
 cases r with
 |ok a i=>
  intro f;obtain⟨d,c,r1,r2,r3,r4⟩:=h (by omega);refine⟨d,#[ev]++c,fun es=>?_,by rw[hd]at r2;exact r2,hK.trans r3,fun e b=>?_⟩
  ·rw[hz,r1,<-Array.append_assoc];simp
  ·rcases Array.mem_append.1 b with b|b
   ·rw[Array.mem_singleton.1 b];exact hev.mono hm
   ·exact r4 e b
 |halt g i=>
  cases g with
  |panic v=>
   intro f;obtain⟨d,c,r1,r2,r3,r4⟩:=h (by omega);refine⟨d,#[ev]++c,fun es=>?_,by rw[hd]at r2;exact r2,hK.trans r3,fun e b=>?_⟩
   ·rw[hz,r1,<-Array.append_assoc];simp
   ·rcases Array.mem_append.1 b with b|b
    ·rw[Array.mem_singleton.1 b];exact hev.mono hm
    ·exact r4 e b
  |goexit=>exact fun f=>h (by omega)
  |_=>trivial
theorem jH{k:Nat}{u w w1:Γ}{y z:ζ α}{r:Result α}(hz:∀es,y.runT Q w es=z.runT Q w1 es)(hd:u1.drawn=u.drawn)(hK:kE S u u1 w w1)(h:kF ok N S Q k u1 w1 z r):kF ok N S Q k u w y r:=by
 cases r with
 |ok a f=>intro d;obtain⟨c,b,r1,r2,r3,r4⟩:=h (by omega);exact⟨c,b,fun es=>by rw[hz,r1],by rw[hd]at r2;exact r2,hK.trans r3,r4⟩
 |halt e f=>
  cases e with
  |panic v=>intro d;obtain⟨c,b,r1,r2,r3,r4⟩:=h (by omega);exact⟨c,b,fun es=>by rw[hz,r1],by rw[hd]at r2;exact r2,hK.trans r3,r4⟩
  |goexit=>exact fun d=>h (by omega)
  |_=>trivial
theorem bO.load(hl:h7 ok)(m:Go.Mode)(a:ξ){k j:Ψ->ζ α}(h:∀v,bO ok N S P Q (k v) (j v)):bO ok N S P Q (.load m a k) (.load m a j):=by
 intro n u w b;simp only[ψ];split
 ·rename_i v d;obtain⟨i,g,l⟩:=b.cell d;refine f6 (u1:=u) (w1:=w) (z:=j v) (ev:=⟨.cell a,Z0,m==.atomic⟩) (fun o=>by simp only[κ,i]) rfl (.refl _ _) ⟨g,l⟩ (bY P (k v) u).2 (h v n u w b)
 ·obtain⟨e,f,c⟩:=xb hl b P a (m==.atomic);simp only[f];exact bT c
theorem xf{k:Nat}{u w:Γ}(hR:Rel ok N S k u w){a:ξ}(hS:¬S a.block):w.frozen? a=u.frozen? a:=by unfold World.frozen?;rw[hR.same _ hS]
theorem Rel.setCell(hl:h7 ok){k:Nat}{u w:Γ}(hR:Rel ok N S k u w)(a:ξ)(v:Ψ)(hS:¬S a.block):Rel ok N S k (u.setCell a v) (w.setCell a v):=by
 refine⟨hR.ans,by simp[Z4,hR.size],fun b hb=>?_,fun b hb=>?_,hR.high,hR.env,fun b o c=>?_⟩
 ·simp only[Z4,Array.getElem?_modify,hR.same b hb]
 ·have d:a.block≠b:=fun e=>hS (e▸hb)
  have:=hR.mask b hb;simpa only[mL,Z4,Array.getElem?_modify,d,if_false]using this
 ·simp only[Z4,Array.getElem?_modify]at c;split at c
  ·rename_i g;cases hu:u.heap[b]? with
   |none=>rw[hu]at c;cases c
   |some f=>rw[hu]at c;simp only[Option.map_some,Option.some.injEq]at c;have:=hR.safe b f hu;cases f<;>simp only at c<;>subst c<;>first|exact hl.cells _ _ _|exact this
  ·exact hR.safe b o c
theorem bO.store(hl:h7 ok){α:Type}(m:Go.Mode)(a:ξ)(v:Ψ){k j:ζ α}(h:bO ok N S P Q k j):bO ok N S P Q (.store m a v k) (.store m a v j):=by
 intro n u w d;have f:(∀l,v≠.agg l) ->(∀l,v≠.tuple l) ->kF ok N S Q n u w (.store m a v j) ((Sem.store m a v k).run P u):=by
  intro o p;have e1:(Sem.store m a v k).run P u=match u.cell? a with
   |some _=>if u.frozen? a then .halt (.unsupported (.unsafePointer "a write to bytes that a string shares")) u else k.run P (u.setCell a v)
   |none=>match u.farStore P a v (m==.atomic)with
    |.ok (w,_)=>k.run P w
    |.error h=>.halt h u:=by
   cases v<;>first|rfl|exact absurd rfl (o _)|exact absurd rfl (p _)
  rw[e1];split
  ·rename_i v0 t;obtain⟨x,c,y⟩:=d.cell t;split
   ·exact bT (by simp)
   ·rename_i r;have i:¬w.frozen? a=Z1:=by rw[xf d c];exact r
    refine f6 (u1:=u.setCell a v) (w1:=w.setCell a v) (z:=j) (ev:=⟨.cell a,Z1,m==.atomic⟩) (fun A=>?_) rfl ⟨rfl,rfl,rfl,rfl,rfl,fun b _ hs=>by
     have g:a.block≠b:=fun e=>c (e▸hs)
     simp only[Z4,Array.getElem?_modify,g,if_false]⟩ ⟨c,by simpa[Z4]using y⟩ (bY P k (u.setCell a v)).2 (h n _ _ (d.setCell hl a v c))
    cases v<;>first|(simp only[κ,x,i];rfl)|exact absurd rfl (o _)|exact absurd rfl (p _)
  ·obtain⟨e,s,q⟩:=vf hl d P a v (m==.atomic);simp only[s];exact bT q
 cases v with
 |agg _=>exact bT (by simp)
 |tuple _=>exact bT (by simp)
 |_=>exact f (by simp) (by simp)
theorem Rel.push{k:Nat}{u w:Γ}(hR:Rel ok N S k u w)(o:Obj)(ho:ok o):Rel ok N S k {u with heap:=u.heap.push o} {w with heap:=w.heap.push o}:=by
 refine⟨hR.ans,by simp[hR.size],fun b hb=>?_,fun b hb=>?_,hR.high,hR.env,fun b h a=>?_⟩
 ·simp only[Array.getElem?_push,hR.size,hR.same b hb]
 ·have c:=hR.mask b hb;have e:b<u.heap.size:=by rcases c with⟨_,_,⟨_,d⟩,_⟩|d<;>exact(Array.getElem?_eq_some_iff.1 d).1
  have f:¬b=u.heap.size:=by omega
  have g:¬b=w.heap.size:=by have:=hR.size;omega
  simpa only[mL,Array.getElem?_push,f,g,if_false]using c
 ·simp only[Array.getElem?_push]at a;split at a
  ·cases a;exact ho
  ·exact hR.safe b h a
theorem bO.new(o:Obj)(ho:ok o){k j:Nat->ζ α}(h:∀r,bO ok N S P Q (k r) (j r)):bO ok N S P Q (.new o k) (.new o j):=by
 intro n u w a;simp only[ψ];exact jH (u1:={u with heap:=u.heap.push o}) (w1:={w with heap:=w.heap.push o}) (z:=j u.heap.size) (fun d=>by simp only[κ,a.size]) rfl ⟨rfl,rfl,rfl,rfl,rfl,fun b hb _=>by
  have c:¬b=w.heap.size:=by omega
  simp only[Array.getElem?_push,c,if_false]⟩ (h _ n _ _ (a.push o ho))
def vg{α:Type}(P:Ξ)(x:ζ α):Prop:=∀u,∃r u',x.run P u=.halt r u'/\(∀v,r≠.panic v)/\r≠.goexit
theorem bO.getObj(r:Nat){k j:Obj->ζ α}(hp:vg P (k bE))(h:∀o,ok o->¬S r->bO ok N S P Q (k o) (j o)):bO ok N S P Q (.getObj r k) (.getObj r j):=by
 intro n u w b;simp only[ψ];split
 ·exact bT (by simp)
 ·rename_i o l c;by_cases a:o=bE
  ·subst a;obtain⟨m,q,e,f⟩:=hp u;rw[e];exact bT f
  obtain⟨g,d,i⟩:=b.heap c l a;refine f6 (u1:=u) (w1:=w) (z:=j o) (ev:=⟨.obj r,Z0,o.isChan⟩) (fun p=>?_) rfl (.refl _ _) ⟨d,i⟩ (bY P (k o) u).2 (h o (b.safe _ _ c) d n u w b);simp only[κ,g]
 ·exact bT (by simp)
theorem Rel.setObj{k:Nat}{u w:Γ}(hR:Rel ok N S k u w)(r:Nat)(o:Obj)(ho:ok o)(hS:¬S r):Rel ok N S k {u with heap:=u.heap.setIfInBounds r o} {w with heap:=w.heap.setIfInBounds r o}:=by
 refine⟨hR.ans,by simp[hR.size],fun b hb=>?_,fun b hb=>?_,hR.high,hR.env,fun b d a=>?_⟩
 ·simp only[Array.getElem?_setIfInBounds,hR.size,hR.same b hb]
 ·have c:r≠b:=fun e=>hS (e▸hb)
  have:=hR.mask b hb;simpa only[mL,Array.getElem?_setIfInBounds,c,if_false]using this
 ·simp only[Array.getElem?_setIfInBounds]at a;split at a
  ·split at a
   ·cases a;exact ho
   ·cases a
  ·exact hR.safe b d a
theorem bO.setObj{α:Type}(r:Nat)(o:Obj)(ho:ok o)(hS:¬S r){k j:ζ α}(h:bO ok N S P Q k j):bO ok N S P Q (.setObj r o k) (.setObj r o j):=by
 intro n u w d;simp only[ψ];split
 ·exact bT (by simp)
 ·rename_i i m a;have f:=(d.same _ hS).trans a;have g:=(Array.getElem?_eq_some_iff.1 a).1;refine f6 (u1:={u with heap:=u.heap.setIfInBounds r o}) (w1:={w with heap:=w.heap.setIfInBounds r o}) (z:=j) (ev:=⟨.obj r,Z1,o.isChan⟩) (fun l=>?_) rfl ⟨rfl,rfl,rfl,rfl,rfl,fun b _ hs=>by
   have c:r≠b:=fun e=>hS (e▸hs)
   simp only[Array.getElem?_setIfInBounds,c,if_false]⟩ ⟨hS,by simpa using g⟩
   (by have:=(bY P k {u with heap:=u.heap.setIfInBounds r o}).2;simpa using this) (h n _ _ (d.setObj r o ho hS))
  simp only[κ,f]
 ·exact bT (by simp)
theorem bO.mark{α:Type}(m:Go.Mark)(hm:m=.noRoom\/∃f,m=.extern f){k j:ζ α}(h:bO ok N S P Q k j):bO ok N S P Q (.mark m k) (.mark m j):=by intro n u w a;simp only[ψ];refine f6 (u1:=u) (w1:=w) (z:=j) (ev:=⟨.mark m,Z0,Z1⟩) (fun b=>by simp only[κ]) rfl (.refl _ _) ?_ (bY P k u).2 (h n u w a);rcases hm with rfl|⟨f,rfl⟩<;>trivial
theorem bO.env{α:Type}{k j:SysRet->ζ α}(h:∀l,bO ok N S P Q (k (.strings l)) (j (.strings l))):bO ok N S P Q (.sys .env k) (.sys .env j):=by
 intro n u w a;have e:∀x:Γ,x.sys .env=(.strings x.os.env,x):=fun x=>rfl
 simp only[ψ,e];refine f6 (u1:=u) (w1:=w) (z:=j (.strings u.os.env)) (ev:=⟨.output,Z1,Z0⟩) (fun b=>by simp only[κ,e,a.env]) rfl (.refl _ _) trivial (bY P _ u).2 (h _ n u w a)
end
end
section
structure Ctx where
 ok:Obj->Prop
 S:Nat->Prop
 T:ZP
 F:Array Func
 G:Array Func
 K0:h7 ok
 map:∀es c,ok (.map es c)
 mapIter:∀m a b c,ok (.mapIter m a b c)
 stringIter:∀s p,ok (.stringIter s p)
 number:∀a b,ok (.number a b)
 tX:Code->Prop
 okF:FuncId->Prop
 loop:∀l:Loop,ok (.loop l)↔okF l.fn/\tX l.assign/\tX l.body/\∀j,l.pending=some j->tX j
 deferred:∀d,ok (.deferred d)↔d=ZN\/d=some []
def Ctx.P(c:Ctx):Ξ:=⟨c.T,c.F⟩
def Ctx.Q(c:Ctx):Ξ:=⟨c.T,c.G⟩
def TT(c:Ctx){α:Type}(x:ζ α):Prop:=bO c.ok c.T.globals.size c.S c.P c.Q x x
section
variable{c:Ctx}
theorem ag{α:Type}(a:α):TT c (Z8 a):=bO.pure' a
theorem ae{α β:Type}{x:ζ α}{f:α->ζ β}(h:TT c x)(hf:∀a,TT c (f a)):TT c (x>>=f):=bO.bind' h hf
theorem FA{α β:Type}{x:ζ α}{f:α->β}(h:TT c x):TT c (Functor.map f x):=bO.bind h fun a=>bO.pure (f a)
theorem qA{α:Type}{x:ζ α}(h:vg c.P x):TT c x:=bO.stop h
theorem aI{α:Type}{p:Prop}[Decidable p]{x y:ζ α}(h:p->TT c x)(h':¬p->TT c y):TT c (if p then x else y):=by
 split
 ·exact h ‹_›
 ·exact h' ‹_›
theorem ai{α:Type}(s:String):TT c (stuck s:ζ α):=bO.stop fun u=>⟨_,u,rfl,by simp⟩
theorem ay{α:Type}(x:Unsupported):TT c (unsupported x:ζ α):=bO.stop fun u=>⟨_,u,rfl,by simp⟩
theorem f7{α:Type}(v:Ψ):TT c (goPanic v:ζ α):=bO.panic v
theorem Cm(a:ξ)(m:Go.Mode):TT c (load a m):=bO.load c.K0 m a fun v=>bO.pure v
theorem FB(a:ξ)(v:Ψ)(m:Go.Mode):TT c (store a v m):=bO.store c.K0 m a v (bO.pure ())
theorem cG(q:Question):TT c (choose q):=bO.choose q fun n=>bO.pure n
theorem kM(o:Obj)(h:c.ok o):TT c (newObj o):=bO.new o h fun r=>bO.pure r
theorem te:TT c (mark .noRoom):=bO.mark _ (.inl rfl) (bO.pure ())
theorem tg(f:FuncId):TT c (mark (.extern f)):=bO.mark _ (.inr ⟨f,rfl⟩) (bO.pure ())
theorem qS{α:Type}{f:Ξ->ζ α}(h:bO c.ok c.T.globals.size c.S c.P c.Q (f c.P) (f c.Q)):TT c (program>>=f):=bO.program h
theorem aM{α:Type}{f:Ξ->ζ α}(e:f c.Q=f c.P)(h:TT c (f c.P)):TT c (program>>=f):=qS (by rw[e];exact h)
theorem dg{α:Type}(r:Nat){f:Obj->ζ α}(hp:vg c.P (f bE))(h:∀o,c.ok o->¬c.S r->TT c (f o)):TT c (getObj r>>=f):=bO.getObj r hp h
theorem eG(r:Nat)(o:Obj)(h:c.ok o)(hS:¬c.S r):TT c (setObj r o):=bO.setObj r o h hS (bO.pure ())
theorem cl{α:Type}{P:Ξ}(s:String):vg P (stuck s:ζ α):=fun u=>⟨_,u,rfl,by simp⟩
theorem f8{α β:Type}{P:Ξ}{x:ζ α}{f:α->ζ β}(h:vg P x):vg P (x>>=f):=by intro u;obtain⟨r,a,e,b⟩:=h u;exact⟨r,a,by rw[η,e];rfl,b⟩
theorem bF(t:Ω):TT c (μ t):=by
 unfold μ;refine aM rfl ?_;split
 ·exact ag _
 ·exact ai _
theorem aN(t:Ω):TT c (ZA t):=by
 unfold ZA;refine aM rfl ?_;split
 ·exact ag _
 ·exact ai _
theorem qT(n:String):TT c (cutType n):=by
 unfold cutType;refine aM rfl ?_;split
 ·exact ag _
 ·exact ai _
theorem cS(t:Ω):TT c (Z9 t):=by
 unfold Z9;refine ae (bF t) fun i=>?_
 split
 ·exact ag _
 ·exact ay _
theorem cX(t:Ω):TT c (sizeOf t):=ae (bF t) fun _=>ag _
theorem xg(t:Ω):TT c (isAgg t):=by
 unfold isAgg;refine ae (aN t) fun d=>?_
 split<;>exact ag _
theorem Av(t:Ω):TT c (typeStr t):=by unfold typeStr;refine ae (bF t) fun i=>aI (fun _=>ay _) fun _=>ag _
theorem jc(a:ξ):∀(n i:Nat) (acc:Array Ψ),TT c (loadCellsFrom a i n acc)
 |0,_,_=>ag _
 |n+1,i,acc=>ae (Cm _ _) fun v=>jc a n (i+1) (acc.push v)
theorem nu(a:ξ)(n:Nat):TT c (loadCells a n):=jc a n 0 #[]
theorem eQ(a:ξ):∀(vs:List Ψ) (i:Nat),TT c (storeCells a vs i)
 |[],_=>ag _
 |_::vs,i=>ae (FB _ _ _) fun _=>eQ a vs (i+1)
theorem fa(t:Ω)(a:ξ):TT c (loadVar t a):=by
 unfold loadVar;refine ae (xg t) fun b=>aI (fun _=>?_) fun _=>Cm _ _
 exact ae (cX t) fun n=>ae (nu a n) fun _=>ag _
theorem iL(t:Ω)(a:ξ)(v:Ψ):TT c (storeVar t a v):=by
 unfold storeVar;refine ae (cX t) fun n=>?_
 split
 ·exact ae (ai _) fun _=>eQ _ _ _
 ·exact eQ _ _ _
theorem lH(e:Ω)(cs:Array Ψ):TT c (newRow e cs):=ae (kM _ (c.K0.cells _ _ _)) fun _=>ag _
theorem iq(t:Ω)(v:Ψ):TT c (newVar t v):=lH _ _
theorem oC(t:Ω):TT c (elemOf t):=by
 unfold elemOf;refine ae (aN t) fun d=>?_
 split
 ·exact ag _
 ·exact ai _
theorem ij(t:Ω)(cs:Array Ψ)(off:Nat):TT c (part t cs off):=by
 unfold part;refine ae (xg t) fun b=>aI (fun _=>ae (cX t) fun n=>ag _) fun _=>?_
 split
 ·exact ag _
 ·exact ai _
theorem jI(v:Ψ):TT c (asIntOf v):=by
 unfold asIntOf;split
 ·exact ag _
 ·exact ay _
 ·exact ai _
theorem jd(v:Ψ):TT c (asInt v):=ae (jI v) fun _=>ag _
theorem lI(v:Ψ):TT c (asBool v):=by
 unfold asBool;split
 ·exact ag _
 ·exact ai _
theorem QC(v:Ψ):TT c (asString v):=by
 unfold asString;split
 ·exact ag _
 ·exact ai _
theorem FC(v:Ψ):TT c (asAgg v):=by
 unfold asAgg;split
 ·exact ag _
 ·exact ai _
theorem aO{α:Type}(e:RuntimeError):TT c (runtimePanic e:ζ α):=by
 unfold runtimePanic;refine aM rfl ?_;cases e with
 |typeAssertion i d a m=>exact ae (oC _) fun _=>ae (iq _ _) fun _=>f7 _
 |panicNil=>exact ae (oC _) fun _=>ae (iq _ _) fun _=>f7 _
 |_=>exact f7 _
theorem iw{α:Type}(k:ZZ)(x y:Int)(b:BoundsCode):TT c (boundsPanic k x y b:ζ α):=by unfold boundsPanic;dsimp only;exact aI (fun _=>ae (FA (cG _)) fun _=>aO _) fun _=>ae (ag _) fun _=>aO _
theorem lJ(v:Ψ):TT c (asAddr v):=by
 unfold asAddr;split
 ·exact ag _
 ·exact aO _
 ·exact ai _
theorem qU(n:Nat):TT c (ZD n):=by unfold ZD;exact aI (fun _=>te) fun _=>ag _
theorem fC{α:Type}(s:String):TT c (panicString s:ζ α):=by unfold panicString;exact aM rfl (f7 _)
end
section
variable(T:ZP)(F G:Array Func)
theorem eZ:∀(n t b:Nat),byteOfCell ⟨T,G⟩ n t b=byteOfCell ⟨T,F⟩ n t b
 |0,_,_=>rfl
 |n+1,t,b=>by
  simp only[byteOfCell,eZ n]
  try rfl
theorem mM:∀(n t u:Nat),(⟨T,G⟩:Ξ).alikeButTags n t u=(⟨T,F⟩:Ξ).alikeButTags n t u
 |0,_,_=>rfl
 |n+1,t,u=>by
  simp only[Program.alikeButTags,mM n]
  try rfl
theorem iM(t:Nat):(⟨T,G⟩:Ξ).packed t=(⟨T,F⟩:Ξ).packed t:=by
 simp only[Program.packed,Program.packedAs,mM T F G]
 try rfl
theorem oD:∀(n t:Nat),(⟨T,G⟩:Ξ).holdsPacked n t=(⟨T,F⟩:Ξ).holdsPacked n t
 |0,_=>rfl
 |n+1,t=>by
  simp only[Program.holdsPacked,oD n,iM T F G]
  try rfl
theorem ie:∀(n t:Nat),(⟨T,G⟩:Ξ).methodsOfAPack n t=(⟨T,F⟩:Ξ).methodsOfAPack n t
 |0,_=>rfl
 |n+1,t=>by
  simp only[Program.methodsOfAPack,ie n,iM T F G]
  try rfl
theorem je:∀(n t:Nat),(⟨T,G⟩:Ξ).namesPacked n t=(⟨T,F⟩:Ξ).namesPacked n t
 |0,_=>rfl
 |n+1,t=>by
  simp only[Program.namesPacked,je n,iM T F G]
  try rfl
theorem oE(t:Nat):(⟨T,G⟩:Ξ).stoodInHeld t=(⟨T,F⟩:Ξ).stoodInHeld t:=by
 simp only[Program.stoodInHeld,Program.stoodInAs,mM T F G]
 try rfl
theorem jf:∀(n t:Nat),(⟨T,G⟩:Ξ).eqGuardType n t=(⟨T,F⟩:Ξ).eqGuardType n t
 |0,_=>rfl
 |n+1,t=>by
  simp only[Program.eqGuardType,jf n]
  try rfl
end
section
variable{c:Ctx}
theorem kN{α:Type}(r:Nat)(hS:¬c.S r){f:Option (Ω×Nat) ->ζ α}(h:∀s,TT c (f s)):TT c (shape r>>=f):=by
 intro k u w a;have e:w.shape? r=u.shape? r:=by unfold φ;rw[a.same _ hS]
 refine jH (z:=f (u.shape? r)) (u1:=u) (w1:=w) (fun b=>?_) rfl (.refl _ _) (h _ k u w a);show(Sem.shape r fun s=>(Zx s).bind f).runT c.Q w b=_;simp only[κ,e,ε]
theorem qV{α:Type}(r:Nat)(hS:¬c.S r){f:Obj->ζ α}(h:∀o,c.ok o->TT c (f o)):TT c (getObj r>>=f):=by
 intro k u w b;show kF _ _ _ _ _ _ _ (Sem.getObj r fun o=>(Zx o).bind f) ((Sem.getObj r fun o=>(Zx o).bind f).run c.P u);simp only[ψ,ε];split
 ·exact bT (by simp)
 ·rename_i o g a;have d:=(b.same _ hS).trans a;refine f6 (u1:=u) (w1:=w) (z:=f o) (ev:=⟨.obj r,Z0,o.isChan⟩) (fun e=>?_) rfl (.refl _ _) ⟨hS,(Array.getElem?_eq_some_iff.1 a).1⟩ (bY c.P (f o) u).2 (h o (b.safe _ _ a) k u w b);simp only[κ,d]
 ·exact bT (by simp)
theorem tY(r:Nat)(hS:¬c.S r):TT c (ZM r):=by
 unfold ZM;refine kN r hS fun s=>aI (fun _=>ag _) fun _=>?_
 refine qV r hS fun o _=>?_
 split<;>exact ag _
theorem DL(a:ξ)(hS:¬c.S a.block):TT c (noView a):=by unfold noView;exact ae (tY _ hS) fun _=>aI (fun _=>ay _) fun _=>ag _
def cW(p:Ξ)(a:ξ)(e:Ω):ζ Nat:=
 if p.cellsOf e=0 then pure 0 else match byteOfCell p p.depth e (a.off %p.cellsOf e)with
  |some b=>pure (a.off/p.cellsOf e*p.bytesOf e+b)
  |none=>stuck "byteOf: no such cell"
theorem oF(a:ξ)(e:Ω):cW c.Q a e=cW c.P a e:=by unfold cW;simp only[Ctx.Q,Ctx.P,eZ c.T c.F c.G];rfl
theorem qW(a:ξ)(e:Ω):TT c (cW c.P a e):=by
 unfold cW;refine aI (fun _=>ag _) fun _=>?_
 split
 ·exact ag _
 ·exact ai _
theorem qX(p:Ξ)(w:Γ)(a:ξ)(hs:a.spot=ZN)(e:Ω)(m:Nat)(hx:w.shape? a.block=some (e,m))(es:Array ZC):
 (ZY a).runT p w es=(cW p a e).runT p w es:=by
 unfold ZY cW noView ZM program shape;simp only[hs,bind,ε,κ,hx,ZX,if_true,Z8,Option.isSome_none,Bool.false_eq_true,if_false];split
 ·rfl
 ·cases byteOfCell p p.depth e (a.off %p.cellsOf e)<;>rfl
theorem fq(a:ξ):TT c (ZY a):=by
 cases hs:a.spot with
 |some s=>unfold ZY;simp only[hs];exact ag _
 |none=>
  by_cases d:c.S a.block
  ·intro k u w f;rcases f.mask _ d with⟨cs,e,⟨j,b⟩,i,g⟩|b
   ·have e1:u.shape? a.block=some (e,0):=by simp[φ,b]
    have e2:w.shape? a.block=some (e,cs.size):=by simp[φ,g]
    have r1:(ZY a).run c.P u=(cW c.P a e).run c.P u:=by rw[<-Zz c.P (ZY a) u #[],<-Zz c.P (cW c.P a e) u #[],qX _ _ _ hs _ _ e1]
    rw[r1];exact jH (z:=cW c.P a e) (u1:=u) (w1:=w) (fun h=>by rw[qX _ _ _ hs _ _ e2 h,oF]) rfl (.refl _ _) (qW (c:=c) a e k u w f)
   ·have e1:u.shape? a.block=ZN:=by simp[φ,b,bE]
    have r1:(ZY a).run c.P u=.halt (.unsupported (.unsafePointer "memory seen as another type")) u:=by unfold ZY noView ZM program shape getObj stuck unsupported;simp[hs,bind,ε,ψ,e1,b,Z8,bE]
    rw[r1];exact bT (by simp)
  ·unfold ZY;simp only[hs];refine aM ?_ (ae (DL a d) fun _=>kN _ d fun s=>?_)
   ·simp only[Ctx.Q,Ctx.P,eZ c.T c.F c.G];rfl
   split
   ·refine aI (fun _=>ag _) fun _=>?_
    split
    ·exact ag _
    ·exact ai _
   ·exact ai _
theorem DM(a:ξ)(m b:Nat):TT c (partAt a m b):=by unfold partAt;exact ae (fq _) fun _=>ae (fq _) fun _=>ag _
theorem i5(a:ξ)(f:Field):TT c (fieldPlace a f):=by unfold fieldPlace;exact ae (cX _) fun _=>aI (fun _=>DM _ _ _) fun _=>ag _
end
end
section
section
variable{c:Ctx}
theorem Cn{α β:Type}{f:α->ζ β}(h:∀x,TT c (f x)):∀l:List α,TT c (l.mapM f)
 |[]=>ag _
 |x::l=>by rw[List.mapM_cons];exact ae (h x) fun _=>ae (Cn h l) fun _=>ag _
theorem xh{α β:Type}{f:α->ζ β}(h:∀x,TT c (f x))(l:Array α):TT c (l.mapM f):=by rw[Array.mapM_eq_mapM_toList];exact FA (Cn h _)
theorem gT(v:Ψ):TT c (Instr.sureAddr v):=by
 unfold Instr.sureAddr
 repeat' (first|assumption|(with_reducible first|exact ag _|exact ai _)|split|dsimp only)
theorem DN(t:Ω)(v:Ψ):TT c (Instr.loadAt t v):=by
 unfold Instr.loadAt
 repeat' (first|assumption|(with_reducible first|exact fa _ _|exact gT _)|(with_reducible refine ae ?_ fun _=>?_)|split|dsimp only)
theorem Aw(t:Ω)(a v:Ψ):TT c (Instr.storeAt t a v):=by
 unfold Instr.storeAt
 repeat' (first|assumption|(with_reducible first|exact iL _ _ _|exact gT _)|(with_reducible refine ae ?_ fun _=>?_)|split|dsimp only)
theorem Ay(s:Ω)(v:Ψ)(f:Nat):TT c (Instr.fieldAt s v f):=by
 unfold Instr.fieldAt
 repeat' (first|assumption|(with_reducible first|exact ag _|exact ai _|exact aN _|exact i5 _ _|exact gT _)|(with_reducible refine ae ?_ fun _=>?_)|split|dsimp only)
theorem Az(t:Ω)(x i:Ψ):TT c (Instr.indexAt t x i):=by
 unfold Instr.indexAt
 repeat' (first|assumption|(with_reducible first|exact ag _|exact ai _|exact ay _|exact iw _ _ _ _|exact aN _|exact cX _|exact jI _|exact gT _)|(with_reducible refine ae ?_ fun _=>?_)|(with_reducible refine aI (fun _=>?_) fun _=>?_)|split|dsimp only)
theorem th(x:Ψ)(y:Nat)(b:BoundsCode):TT c (Instr.sliceBound x y b):=by
 unfold Instr.sliceBound
 repeat' (first|assumption|(with_reducible first|exact ag _|exact iw _ _ _ _|exact jI _)|(with_reducible refine ae ?_ fun _=>?_)|(with_reducible refine aI (fun _=>?_) fun _=>?_)|split|dsimp only)
theorem kO(s:Bool)(len cap:Nat)(l h m:Option Ψ):TT c (Instr.sliceBounds s len cap l h m):=by
 unfold Instr.sliceBounds
 repeat' (first|assumption|(with_reducible first|exact ag _|exact ai _|exact th _ _ _)|(with_reducible refine ae ?_ fun _=>?_)|split|dsimp only)
theorem FD(t:Ω)(x:Ψ)(l h m:Option Ψ):TT c (Instr.slice t x l h m):=by
 unfold Instr.slice
 repeat' (first|assumption|(with_reducible first|exact ag _|exact ai _|exact aN _|exact cX _|exact lJ _|exact kO _ _ _ _ _ _)|(with_reducible refine ae ?_ fun _=>?_)|(with_reducible refine aI (fun _=>?_) fun _=>?_)|split|dsimp only)
theorem AA(t:Ω)(x:Ψ)(l h m:Option Ψ):TT c (Instr.sliceAt t x l h m):=by
 unfold Instr.sliceAt
 repeat' (first|assumption|(with_reducible first|exact ag _|exact aN _|exact cX _|exact gT _|exact kO _ _ _ _ _ _|exact FD _ _ _ _ _)|(with_reducible refine ae ?_ fun _=>?_)|split|dsimp only)
theorem FE(t:Ω)(x i:Ψ):TT c (Instr.index t x i):=by
 unfold Instr.index
 repeat' (first|assumption|(with_reducible first|exact ag _|exact ai _|exact iw _ _ _ _|exact aN _|exact cX _|exact jI _|exact ij _ _ _)|(with_reducible refine ae ?_ fun _=>?_)|(with_reducible refine aI (fun _=>?_) fun _=>?_)|split|dsimp only)
theorem FF(t:Ω)(x:Ψ)(f:Nat):TT c (Instr.field t x f):=by
 unfold Instr.field
 repeat' (first|assumption|(with_reducible first|exact ai _|exact aN _|exact FC _|exact ij _ _ _)|(with_reducible refine ae ?_ fun _=>?_)|split|dsimp only)
theorem AB(x:Ψ)(i:Nat):TT c (Instr.extract x i):=by
 unfold Instr.extract
 repeat' (first|assumption|(with_reducible first|exact ag _|exact ai _)|split|dsimp only)
theorem FH(t:Ω):TT c (Instr.alloc t Z1 (.tuple #[])):=by
 unfold Instr.alloc
 repeat' (first|assumption|(with_reducible first|exact ag _|exact cS _|exact iq _ _)|(with_reducible refine ae ?_ fun _=>?_)|split|dsimp only)
theorem R2(t:Ω)(v:Ψ):TT c (Instr.box t v):=by
 unfold Instr.box
 repeat' (first|assumption|(with_reducible first|exact ag _|exact iq _ _)|(with_reducible refine ae ?_ fun _=>?_)|split|dsimp only)
theorem FI(t:Ω)(ps:Array (Nat×Ψ)):TT c (Instr.build t ps):=by
 unfold Instr.build
 repeat' (first|assumption|(with_reducible first|exact ag _|exact ai _|exact aN _|exact cX _|exact cS _)|(with_reducible refine xh (fun _=>?_) _)|(with_reducible refine ae ?_ fun _=>?_)|split|dsimp only)
theorem tj(t:Ω)(len:Nat)(ps:Array (Nat×Ψ)):TT c (Instr.buildSlice t len ps):=by
 unfold Instr.buildSlice
 repeat' (first|assumption|(with_reducible first|exact ag _|exact ai _|exact ay _|exact aN _|exact cX _|exact cS _|exact lH _ _)|(with_reducible refine ae ?_ fun _=>?_)|(with_reducible refine aI (fun _=>?_) fun _=>?_)|split|dsimp only)
theorem vh(t:Ω)(l k:Ψ):TT c (Instr.makeSlice t l k):=by
 unfold Instr.makeSlice
 repeat' (first|assumption|(with_reducible first|exact ag _|exact ai _|exact aO _|exact qU _|exact aN _|exact bF _|exact cX _|exact cS _|exact jd _|exact lH _ _|exact cG _)|(with_reducible refine ae ?_ fun _=>?_)|(with_reducible refine aI (fun _=>?_) fun _=>?_)|split|dsimp only)
theorem AC(t:Ω)(r:Option Ψ):TT c (Instr.makeMap t r):=by
 unfold Instr.makeMap
 repeat' (first|assumption|(with_reducible first|exact ag _|exact ai _|exact aN _|exact jd _)|exact kM _ (c.map _ _)|(with_reducible refine ae ?_ fun _=>?_)|split|dsimp only)
theorem oG(t:Ω)(x:Ψ):TT c (Zy t x):=by
 unfold Zy
 repeat' (first|assumption|(with_reducible first|exact ag _|exact ai _|exact aN _)|(with_reducible refine ae ?_ fun _=>?_)|split|dsimp only)
theorem xi(f:Fn)(a b:Array Ψ):TT c (Instr.makeFunc f a b):=by
 unfold Instr.makeFunc
 repeat' (first|assumption|(with_reducible first|exact ag _)|split|dsimp only)
theorem FJ(o:UnOp)(x:Ψ):TT c (Op.unary o x):=by
 unfold Op.unary Op.intArith Op.intBits
 repeat' (first|assumption|(with_reducible first|exact ag _|exact ai _|exact ay _)|split|dsimp only)
theorem QD(k:ZZ)(n:Int):TT c (Conv.intToInt k n):=by
 unfold Conv.intToInt
 repeat' (first|assumption|(with_reducible first|exact ag _)|split|dsimp only)
theorem xj(x:Ψ):TT c (Instr.panic x):=by
 unfold Instr.panic Instr.panicnil
 repeat' (first|assumption|(with_reducible first|exact ag _|exact ai _|exact f7 _|exact aO _)|exact bO.env fun _=>bO.pure _|(with_reducible refine aM rfl ?_)|(with_reducible refine ae ?_ fun _=>?_)|(with_reducible refine aI (fun _=>?_) fun _=>?_)|split|dsimp only)
theorem tk(x:Ψ)(t a:Ω)(k:Bool):TT c (Instr.typeAssert x t a k):=by
 unfold Instr.typeAssert
 repeat' (first|assumption|(with_reducible first|exact ag _|exact ai _|exact aO _|exact aN _|exact bF _|exact cS _)|(with_reducible refine ae ?_ fun _=>?_)|(with_reducible refine aI (fun _=>?_) fun _=>?_)|split|dsimp only)
theorem xk(x:Ψ):TT c (ZI x):=by
 unfold ZI
 repeat' (first|assumption|(with_reducible first|exact ag _|exact ai _)|split|dsimp only)
theorem gF(s n:Nat)(x:Ψ):TT c (ω s n x):=by
 unfold ω
 repeat' (first|assumption|(with_reducible first|exact ag _|exact ai _|exact nu _ _)|split|dsimp only)
theorem K4(a:Array Ω)(t:Ω)(x:Array Ψ):TT c (Builtin.copy_ a t x):=by
 unfold Builtin.copy_
 repeat' (first|assumption|(with_reducible first|exact ag _|exact ai _|exact aN _|exact cX _|exact eQ _ _ _|exact xk _|exact gF _ _ _)|(with_reducible refine ae ?_ fun _=>?_)|split|dsimp only)
theorem R3(a:Array Ω)(t:Ω)(x:Array Ψ):TT c (Builtin.cap_ a t x):=by
 unfold Builtin.cap_
 repeat' (first|assumption|(with_reducible first|exact ag _|exact ai _|exact aN _)|(with_reducible refine dg _ (cl _) (fun _ _ _=>?_))|(with_reducible refine ae ?_ fun _=>?_)|split|dsimp only)
theorem R4(a:Array Ω)(t:Ω)(x:Array Ψ):TT c (Builtin.len_ a t x):=by
 unfold Builtin.len_
 repeat' (first|assumption|(with_reducible first|exact ag _|exact ai _|exact aN _)|(with_reducible refine dg _ (cl _) (fun _ _ _=>?_))|(with_reducible refine ae ?_ fun _=>?_)|split|dsimp only)
theorem K5(x y:Ψ):TT c (Builtin.min2 x y):=by
 unfold Builtin.min2 ZH
 repeat' (first|assumption|(with_reducible first|exact ag _|exact ai _|exact ay _|exact lI _|exact cG _)|(with_reducible refine ae ?_ fun _=>?_)|split|dsimp only)
theorem K6(x y:Ψ):TT c (Builtin.max2 x y):=by
 unfold Builtin.max2 ZH
 repeat' (first|assumption|(with_reducible first|exact ag _|exact ai _|exact ay _|exact lI _|exact cG _)|(with_reducible refine ae ?_ fun _=>?_)|split|dsimp only)
end
end
section
section
variable{c:Ctx}
theorem aU{α:Type}(t:Ω){f:TypeDesc->ζ α}(h:∀d,c.P.underlying t=some d->TT c (f d)):TT c (ZA t>>=f):=by
 unfold ZA;rw[bind_assoc];refine aM rfl ?_;cases hd:c.P.underlying t with
 |some d=>exact h d hd
 |none=>exact qA (f8 (cl _))
theorem oH{α:Type}(t:Ω){f:TypeInfo->ζ α}(h:∀i,c.P.info? t=some i->TT c (f i)):TT c (μ t>>=f):=by
 unfold μ;rw[bind_assoc];refine aM rfl ?_;cases hd:c.P.info? t with
 |some d=>exact h d hd
 |none=>exact qA (f8 (cl _))
def Co(t:Ω)(a b:ξ):ζ Bool:=do
 let(a,b):=((<-Θ a).1,(<-Θ b).1)
 if a.block==b.block&&a.block<(<-program).globals.size then return (<-ZY a)==(<-ZY b)
 let .named "sync.copyChecker" _:=(<-μ t).desc|unsupported .addressObserved
 if a==b then pure Z1 else unsupported .addressObserved
def mN(t:Ω)(a b:ξ):ζ Bool:=do
 if a.block==b.block&&a.block<(<-program).globals.size then return (<-ZY a)==(<-ZY b)
 let .named "sync.copyChecker" _:=(<-μ t).desc|unsupported .addressObserved
 if a==b then pure Z1 else unsupported .addressObserved
def ft(T:ZP)(t:Ω):Prop:=∀(F:Array Func) i u,(⟨T,F⟩:Ξ).info? t=some i->i.desc≠.named "sync.copyChecker" u
variable(t:Ω)(P:Ξ)(u:Γ)(a b:ξ)
theorem oI(ht:ft c.T t)(x:ζ Bool):TT c (do
 let .named "sync.copyChecker" _:=(<-μ t).desc|unsupported .addressObserved
 x):=by
 refine oH t fun i hi=>?_
 split
 ·rename_i u a;exact absurd a (ht _ _ _ hi)
 ·exact ay _
theorem mO(ht:ft c.T t)(x:ζ Bool):vg c.P (do
 let .named "sync.copyChecker" _:=(<-μ t).desc|unsupported .addressObserved
 x):=by
 intro u;unfold μ program stuck unsupported;simp only[bind,ε,ψ];cases hi:c.P.info? t with
 |none=>exact⟨_,u,rfl,by simp⟩
 |some i=>
  simp only[Z8,ε];split
  ·rename_i u a;exact absurd a (ht _ _ _ hi)
  ·exact⟨_,u,rfl,by simp⟩
theorem DO(ht:ft c.T t)(a b:ξ):TT c (mN t a b):=by unfold mN;refine aM rfl (aI (fun _=>?_) fun _=>oI t ht _);exact ae (fq _) fun _=>ae (fq _) fun _=>ag _
theorem xm(ht:ft c.T t)(a b:ξ)(h:a.block≠b.block\/c.T.globals.size<=a.block):vg c.P (mN t a b):=by
 intro u;have hc:¬((a.block==b.block&&decide (a.block<c.P.globals.size))=Z1):=by
  show ¬((a.block==b.block&&decide (a.block<c.T.globals.size))=Z1);rcases h with h|h
  ·simp[h]
  ·simp;omega
 have e:(mN t a b).run c.P u=(do
  let .named "sync.copyChecker" _:=(<-μ t).desc|unsupported .addressObserved
  if a==b then pure Z1 else unsupported .addressObserved:ζ Bool).run c.P u:=by
  unfold mN program;simp only[bind,ε,ψ,hc,Bool.false_eq_true,if_false]
 rw[e];exact mO t ht _ u
theorem dR(r:Nat):(∃ν,(θ r).run P u=.ok ν u)\/∃e,(θ r).run P u=.halt e u/\(∀v,e≠.panic v)/\e≠.goexit:=by
 unfold θ shape getObj;simp only[bind,ε,ψ];split
 ·exact .inl ⟨_,rfl⟩
 ·simp only[ψ];split
  ·exact .inr ⟨_,rfl,by simp⟩
  ·split<;>exact .inl ⟨_,rfl⟩
  ·exact .inr ⟨_,rfl,by simp⟩
theorem gG{u:Γ}{r:Nat}(h:u.heap[r]?=some bE):(θ r).run P u=.ok ZN u:=by unfold θ shape getObj;simp[bind,ε,ψ,φ,h,Z8,bE]
theorem jg:(Θ a).run P u=((θ a.block).run P u).andThen fun x w=>.ok (x.getD (a,Z0)) w:=by unfold Θ;rw[η];rfl
theorem xn:Co t a b=Θ a>>=fun x=>Θ b>>=fun y=>mN t x.1 y.1:=rfl
theorem qY(ht:ft c.T t)(a b:ξ)(u:Γ)(h:(u.heap[a.block]?=some bE/\c.T.globals.size<=a.block)\/(u.heap[b.block]?=some bE/\c.T.globals.size<=b.block)):
 ∃e u',(Co t a b).run c.P u=.halt e u'/\(∀v,e≠.panic v)/\e≠.goexit:=by
 rw[xn,η,jg];rcases dR c.P u a.block with⟨g,e1⟩|⟨e,e1,d⟩
 ·rw[e1];simp only[ι];rw[η,jg];rcases dR c.P u b.block with⟨i,e2⟩|⟨e,e2,d⟩
  ·rw[e2];simp only[ι];refine xm t ht _ _ ?_ u;rcases h with⟨h,f⟩|⟨h,f⟩
   ·rw[gG c.P h]at e1;cases e1
    exact .inr f
   ·rw[gG c.P h]at e2;cases e2
    by_cases hb:(g.getD (a,Z0)).1.block=b.block
    ·exact .inr (by rw[hb];exact f)
    ·exact .inl hb
  ·rw[e2];exact⟨_,_,rfl,d⟩
 ·rw[e1];exact⟨_,_,rfl,d⟩
theorem gH(r:Nat){k:Nat}{u w:Γ}(hR:Rel c.ok c.T.globals.size c.S k u w)(h:¬(c.S r/\u.heap[r]?=some bE)):
 kF c.ok c.T.globals.size c.S c.Q k u w (θ r) ((θ r).run c.P u):=by
 by_cases b:c.S r
 ·rcases hR.mask r b with⟨cs,e,⟨i,d⟩,g,f⟩|d
  ·have e1:∀a,(θ r).runT c.P u a=(.ok ZN u,a):=fun a=>by unfold θ shape;simp only[bind,ε,κ,φ,d,ZX,if_true,Z8]
   have e2:∀a,(θ r).runT c.Q w a=(.ok ZN w,a):=fun a=>by unfold θ shape;simp only[bind,ε,κ,φ,f,ZX,if_true,Z8]
   rw[<-Zz c.P _ u #[],e1];exact fun _=>⟨w,#[],fun a=>by rw[e2];simp,by rw[show u.drawn+k-u.drawn=k by omega];exact hR,.refl _ _,by simp⟩
  ·exact absurd ⟨b,d⟩ h
 ·refine(?_:TT c (θ r)) k u w hR;unfold θ;refine kN r b fun s=>aI (fun _=>ag _) fun _=>?_
  refine qV r b fun o _=>?_
  split<;>exact ag _
theorem FK(ht:ft c.T t)(a b:ξ):TT c (Co t a b):=by
 intro k u w o;by_cases n:c.S a.block/\u.heap[a.block]?=some bE
 ·obtain⟨e,s,i,h⟩:=qY (c:=c) t ht a b u (.inl ⟨n.2,o.high _ n.1⟩);rw[i];exact bT h
 by_cases hb:c.S b.block/\u.heap[b.block]?=some bE
 ·obtain⟨e,s,i,h⟩:=qY (c:=c) t ht a b u (.inr ⟨hb.2,o.high _ hb.1⟩);rw[i];exact bT h
 have behind:∀(d:ξ) (l:Γ),Rel c.ok c.T.globals.size c.S k u l->¬(c.S d.block/\u.heap[d.block]?=some bE) ->∀{q:Type} (f:ξ×Bool->ζ q),(∀x,TT c (f x)) ->kF c.ok c.T.globals.size c.S c.Q k u l (Θ d>>=f) ((Θ d>>=f).run c.P u):=by
  intro d l j hd q f v;have h0:=gH (c:=c) d.block j hd;have g:(Θ d>>=f)=(θ d.block).bind fun x=>f (x.getD (d,Z0)):=by unfold Θ;rw[bind_assoc];rfl
  rw[g];rcases dR c.P u d.block with⟨r,e1⟩|⟨e,e1,m⟩
  ·rw[e1]at h0;exact ip e1 h0 fun p r1=>v _ _ _ _ r1
  ·rw[ZS,e1];exact bT m
 have h0:=gH (c:=c) a.block o n;have g:Co t a b=(θ a.block).bind fun x=>Θ b>>=fun y=>mN t (x.getD (a,Z0)).1 y.1:=by
  rw[xn]
  conv=>lhs;unfold Θ
  rw[bind_assoc];rfl
 rw[g];rcases dR c.P u a.block with⟨r,e1⟩|⟨e,e1,m⟩
 ·rw[e1]at h0;refine ip e1 h0 fun p r1=>?_
  rw[show u.drawn+k-u.drawn=k by omega]at r1⊢;exact behind b p r1 hb _ fun x=>DO t ht _ _
 ·rw[ZS,e1];exact bT m
def Scalar(T:ZP)(t:Ω):Prop:=(⟨T,#[]⟩:Ξ).underlying t=some .bool\/(⟨T,#[]⟩:Ξ).underlying t=some .string\/(∃k,(⟨T,#[]⟩:Ξ).underlying t=some (.int k))/\ft T t
theorem iN(ht:Scalar c.T t)(x y:Ψ):∀d,TT c (ZU d t x y)
 |0=>ay _
 |d+1=>by
  unfold ZU;refine aU t fun e he=>?_
  have he':(⟨c.T,#[]⟩:Ξ).underlying t=some e:=he;rcases ht with h|h|⟨⟨k,h⟩,hn⟩
  ·rw[h]at he';cases he';dsimp only;split<;>first|exact ag _|exact ai _|contradiction
  ·rw[h]at he';cases he';dsimp only;split<;>first|exact ag _|exact ai _|contradiction
  ·rw[h]at he';cases he';dsimp only;split<;>first|contradiction|exact ag _|exact ai _|exact ay _|exact aI (fun _=>ag _) (fun _=>ai _)|exact FK t hn _ _
def Flat(T:ZP)(t:Ω):Prop:=Scalar T t\/∃fs:Array Field,(⟨T,#[]⟩:Ξ).underlying t=some (.struct fs)/\∀f∈fs,Scalar T f.type
theorem xp{α β:Type}{f:α->β->ζ (ForInStep β)}:∀(l:List α) (b:β),(∀a∈l,∀b,TT c (f a b)) ->TT c (forIn l b f)
 |[],b,_=>ag _
 |x::l,b,h=>by
  rw[List.forIn_cons];refine ae (h x (by simp) b) fun r=>?_
  cases r with
  |done b=>exact ag _
  |yield b=>exact xp l b fun a ha=>h a (by simp[ha])
theorem oJ{α β:Type}{f:α->β->ζ (ForInStep β)}(l:Array α)(b:β)(h:∀a∈l,∀b,TT c (f a b)):TT c (forIn l b f):=by rw[<-Array.forIn_toList];exact xp _ _ fun a d=>h a (by simpa using d)
theorem kt(ht:Flat c.T t)(x y:Ψ):∀d,TT c (ZU d t x y)
 |0=>ay _
 |d+1=>by
  rcases ht with ht|⟨fs,h,hf⟩
  ·exact iN t ht x y _
  ·unfold ZU;refine aU t fun e he=>?_
   have he':(⟨c.T,#[]⟩:Ξ).underlying t=some e:=he;rw[h]at he';cases he';have loop:∀(xs ys:Array Ψ),TT c (do
    for f in fs do
     if f.name≠ "_"then
      if !(<-ZU d f.type (<-part f.type xs f.offset) (<-part f.type ys f.offset))then return Z0
    pure Z1:ζ Bool):=by
    intro xs ys;refine ae (oJ _ _ fun f hm b=>?_) fun r=>?_
    ·refine aI (fun _=>?_) fun _=>ag _
     refine ae (ij _ _ _) fun _=>ae (ij _ _ _) fun _=>ae (iN _ (hf f hm) _ _ _) fun _=>?_
     exact aI (fun _=>ag _) fun _=>ag _
    ·obtain⟨r1,r2⟩:=r;cases r1<;>exact ag _
   dsimp only;split<;>first|contradiction|skip
   ·rename_i fields xs ys hh;cases hh
    refine aM (by rw[show c.Q.stoodInHeld t=c.P.stoodInHeld t from oE c.T c.F c.G t]) ?_;refine aI (fun _=>ae (ay _) fun _=>loop xs ys) fun _=>loop xs ys
   ·exact ai _
end
end
section
def ig{α:Type}(P:Ξ)(x:ζ α)(u:Γ):Prop:=∃r u',x.run P u=.halt r u'/\(∀v,r≠.panic v)/\r≠.goexit
theorem bz{α:Type}{P:Ξ}{u:Γ}(x:Unsupported):ig P (unsupported x:ζ α) u:=⟨_,u,rfl,by simp⟩
theorem dr{α β:Type}{P:Ξ}{x:ζ α}{f:α->ζ β}{u:Γ}(h:ig P x u):ig P (x>>=f) u:=by obtain⟨r,a,e,b⟩:=h;exact⟨r,a,by rw[η,e];rfl,b⟩
theorem cP{α β:Type}{P:Ξ}{x:ζ α}{f:α->ζ β}{u u1:Γ}{a:α}(e:x.run P u=.ok a u1)(h:ig P (f a) u1):ig P (x>>=f) u:=by obtain⟨r,b,c,d⟩:=h;exact⟨r,b,by rw[η,e];exact c,d⟩
theorem fc{c:Ctx}{α:Type}{k:Nat}{u w:Γ}{x y:ζ α}(h:ig c.P x u):kF c.ok c.T.globals.size c.S c.Q k u w y (x.run c.P u):=by obtain⟨r,b,e,a⟩:=h;rw[e];exact bT a
theorem xq{α β:Type}{P:Ξ}{x:ζ α}{f:α->ζ β}{u:Γ}(h:(∃a,x.run P u=.ok a u)\/ig P x u)(hf:∀a,ig P (f a) u):ig P (x>>=f) u:=by
 rcases h with⟨a,e⟩|h
 ·exact cP e (hf a)
 ·exact dr h
section
variable{c:Ctx}
theorem pB(P:Ξ)(v:Ψ)(u:Γ):(∃a,(asInt v).run P u=.ok a u)\/ig P (asInt v) u:=by
 unfold asInt asIntOf;cases v with
 |int k n=>exact .inl ⟨n,rfl⟩
 |pointer a=>cases a with
  |none=>exact .inr ⟨_,u,rfl,by simp⟩
  |some a=>exact .inr ⟨_,u,rfl,by simp⟩
 |_=>exact .inr ⟨_,u,rfl,by simp⟩
theorem jh(P:Ξ)(u:Γ)(r:Nat):(shape r).run P u=.ok (u.shape? r) u:=rfl
theorem kP(P:Ξ)(u:Γ):program.run P u=.ok P u:=rfl
theorem xu(P:Ξ){u:Γ}{r:Nat}(h:u.heap[r]?=some bE):(ZM r).run P u=.ok (some (⟨0,0,some 0⟩,0)) u:=by unfold ZM shape getObj;simp[bind,ε,ψ,φ,h,Z8,bE]
theorem AD(P:Ξ){u:Γ}{r:Nat}{e:Ω×Nat}(h:u.shape? r=some e):(ZM r).run P u=.ok ZN u:=by unfold ZM shape getObj;simp[bind,ε,ψ,h,Z8]
theorem mP{u:Γ}{r:Nat}(h:u.heap[r]?=some bE):u.shape? r=ZN:=by simp[φ,h,bE]
theorem ix(P:Ξ)(u:Γ)(a:ξ)(y:Ψ)(t:Ω)(h:u.heap[a.block]?=some bE):ig P (υ #[] t #[.pointer (some a),y]) u:=by
 unfold υ;refine xq (pB P y u) fun n=>?_
 dsimp only;by_cases h0:n=0
 ·rw[if_pos h0];refine cP (xu P h) ?_;exact dr (bz _)
 ·rw[if_neg h0];by_cases b:n<0
  ·rw[if_pos b];exact dr (bz _)
  ·rw[if_neg b];refine cP (jh P u a.block) ?_;rw[mP h];exact bz _
theorem xy(P:Ξ){u:Γ}{r:Nat}{e:Ω×Nat}(h:u.shape? r=some e)(es:Array ZC):(ZM r).runT P u es=(.ok ZN u,es):=by unfold ZM shape getObj;simp only[bind,ε,κ,h,Z8,ZX,if_true]
theorem AE{α:Type}{k:Nat}{u w:Γ}{y:ζ α}{a:α}(hR:Rel c.ok c.T.globals.size c.S k u w)(h:∀es,y.runT c.Q w es=(.ok a w,es)):kF c.ok c.T.globals.size c.S c.Q k u w y (.ok a u):=fun _=>⟨w,#[],fun es=>by rw[h];simp,by rw[show u.drawn+k-u.drawn=k by omega];exact hR,.refl _ _,by simp⟩
theorem oK(p:Ξ)(d:Nat)(e:Ω)(off:Nat)(n:Int):ZR p d e 0 off n=ZN:=by
 unfold ZR;dsimp only;split
 ·rfl
 ·cases byteOfCell p d e (off %p.cellsOf e)with
  |none=>rfl
  |some b=>
   simp only[bind,Option.bind,Nat.zero_mul];split
   ·rfl
   ·rename_i h;simp at h;omega
theorem ku(T:ZP)(F G:Array Func):∀(n t b:Nat),cellOfByte ⟨T,G⟩ n t b=cellOfByte ⟨T,F⟩ n t b
 |0,_,_=>rfl
 |n+1,t,b=>by
  simp only[cellOfByte,ku T F G n]
  try rfl
theorem oL(c:Ctx)(d e m off:Nat)(n:Int):ZR c.Q d e m off n=ZR c.P d e m off n:=by unfold ZR;simp only[Ctx.Q,Ctx.P,eZ c.T c.F c.G,ku c.T c.F c.G];rfl
theorem vj(a:ξ)(y:Ψ)(t:Ω):TT c (υ #[] t #[.pointer (some a),y]):=by
 intro k u w i;by_cases h:c.S a.block
 ·rcases i.mask _ h with⟨cs,e,⟨D,d⟩,G,l⟩|d
  ·have e1:u.shape? a.block=some (e,0):=by simp[φ,d]
   have e2:w.shape? a.block=some (e,cs.size):=by simp[φ,l]
   revert k u w
   intro k u w i d l e1 e2;unfold υ;rcases pB c.P y u with⟨n,m⟩|z
   ·have q:=jd (c:=c) y k u w i;rw[m]at q;refine ip m q fun r r1=>?_
    dsimp only;have j:∃b f,r.heap[a.block]?=some (.cells b e f):=by
     rcases r1.mask _ h with⟨b,E,⟨H,g⟩,B,v⟩|g
     ·rw[d]at g;cases g
      exact⟨b,B,v⟩
     ·rw[d]at g;cases g
    obtain⟨b,F,j⟩:=j;by_cases h0:n=0
    ·rw[if_pos h0];refine ip (AD c.P e1) (AE r1 fun A=>xy c.Q (e:=(e,b.size)) (by simp[φ,j]) A) fun C r2=>?_
     exact ag (c:=c) _ _ u C r2
    ·rw[if_neg h0];refine fc ?_;by_cases o:n<0
     ·rw[if_pos o];exact dr (bz _)
     ·rw[if_neg o];refine cP (jh c.P u a.block) ?_;rw[e1];refine cP (kP c.P u) ?_;rw[Nat.zero_div,oK];exact bz _
   ·exact fc (dr z)
  ·exact fc (ix _ _ _ _ _ d)
 ·refine(?_:TT c _) k u w i;unfold υ;refine ae (jd _) fun n=>?_
  dsimp only;refine aI (fun _=>ae (tY _ h) fun _=>aI (fun _=>ae (ay _) fun _=>ag _) fun _=>ag _) fun _=>?_
  have rest:TT c (shape a.block>>=fun x=>match x with
   |some (e,cells)=>program>>=fun p=>match ZR p p.depth e (cells/p.cellsOf e) a.off n with
     |some off=>pure (Value.pointer (some {block:=a.block,off:=off,spot:=a.spot}))
     |none=>unsupported (Unsupported.unsafePointer "Add")
   |x=>unsupported (Unsupported.unsafePointer "Add")):=by
   refine kN _ h fun s=>?_
   split
   ·refine aM ?_ ?_
    ·rw[oL c];rfl
    ·split
     ·exact ag _
     ·exact ay _
   ·exact ay _
  exact aI (fun _=>ae (ay _) fun _=>rest) fun _=>rest
theorem lK{α:Type}(d:ξ){f:ξ×Bool->ζ α}(hf:∀x,TT c (f x))
 (hd:∀u:Γ,u.heap[d.block]?=some bE->c.T.globals.size<=d.block->ig c.P (f (d,Z0)) u):TT c (Θ d>>=f):=by
 intro k u w b;have g:(Θ d>>=f)=(θ d.block).bind fun x=>f (x.getD (d,Z0)):=by unfold Θ;rw[bind_assoc];rfl
 rw[g];by_cases a:c.S d.block/\u.heap[d.block]?=some bE
 ·exact fc (cP (gG c.P a.2) (hd u a.2 (b.high _ a.1)))
 ·have h0:=gH (c:=c) d.block b a;rcases dR c.P u d.block with⟨j,e1⟩|⟨e,e1,h⟩
  ·rw[e1]at h0;exact ip e1 h0 fun i r1=>hf _ _ _ _ r1
  ·rw[ZS,e1];exact bT h
theorem xz(a:ξ)(l:Bool):TT c (asNumber a l):=ae (kM _ (c.number _ _)) fun _=>ag _
theorem eR(x y:Ψ)(t:Ω):TT c (υ #[] t #[x,y]):=by
 cases x with
 |pointer a=>
  cases a with
  |some a=>exact vj a y t
  |none=>
   unfold υ;refine ae (jd _) fun n=>?_
   dsimp only;exact aI (fun _=>ay _) fun _=>aI (fun _=>ae (ay _) fun _=>ay _) fun _=>ay _
 |_=>exact ai _
theorem kQ(t:Ω)(x y:Ψ):TT c (movedNumber t x y):=by
 unfold movedNumber;refine aU t fun d _=>?_
 dsimp only;have a:TT c (match x with
  |.pointer (some n)=>Θ n>>=fun z=>υ #[] t #[.pointer (some z.1),y]>>=fun v=>match v with
   |.pointer (some b)=>asNumber b z.2
   |v=>pure v
  |_=>υ #[] t #[x,y]):=by
  split
  ·refine lK _ (fun z=>ae (eR _ _ _) fun v=>?_) fun u h _=>?_
   ·split
    ·exact xz _ _
    ·exact ag _
   ·exact dr (ix _ _ _ _ _ h)
  ·exact eR _ _ _
 refine aI (fun _=>ae (ay _) fun _=>?_) fun _=>?_<;>exact a
theorem qi(t:Ω)(x y:Ψ):TT c (movedPointer t x y):=by
 unfold movedPointer;dsimp only;split
 ·rename_i a;intro k u w f;by_cases b:c.S a.block/\u.heap[a.block]?=some bE
  ·refine fc (cP (gG c.P b.2) ?_);rw[if_neg (by simp)];exact ix _ _ _ _ _ b.2
  ·have h0:=gH (c:=c) a.block f b;rcases dR c.P u a.block with⟨h,e1⟩|⟨e,e1,d⟩
   ·rw[e1]at h0;refine ip e1 h0 fun g r1=>?_
    refine(?_:TT c _) _ _ _ r1;exact aI (fun _=>ae (ay _) fun _=>eR _ _ _) fun _=>eR _ _ _
   ·refine fc (dr ⟨_,_,e1,d⟩)
 ·exact eR _ _ _
theorem nv(a b:ξ):TT c (ZK a b):=by
 unfold ZK;refine aM rfl ?_;dsimp only;have rest:TT c (ZY a>>=fun x=>ZY b>>=fun y=>pure (x,y)):=ae (fq _) fun _=>ae (fq _) fun _=>ag _
 exact aI (fun _=>ae (ay _) fun _=>rest) fun _=>rest
theorem kw(a b:ξ)(u:Γ)(h:a.block≠b.block\/c.T.globals.size<=a.block):ig c.P (ZK a b) u:=by
 unfold ZK;refine cP (kP _ _) ?_;dsimp only;rw[if_pos]
 ·exact dr (bz _)
 ·rcases h with h|h
  ·simp[h]
  ·have:c.P.globals.size<=a.block:=h;simp[this]
theorem nx{α:Type}(a b:ξ){f:ξ->ξ->ζ α}(hf:∀x y,TT c (f x y))
 (hd:∀(x y:ξ) (u:Γ),x.block≠y.block\/c.T.globals.size<=x.block->ig c.P (f x y) u):TT c (Θ a>>=fun x=>Θ b>>=fun y=>f x.1 y.1):=by
 refine lK a (fun x=>lK b (fun y=>hf _ _) fun u h d=>?_) fun u h d=>?_
 ·refine hd _ _ _ ?_;by_cases hb:x.1.block=b.block
  ·exact .inr (by rw[hb];exact d)
  ·exact .inl hb
 ·unfold Θ;rw[bind_assoc];refine xq ?_ fun g=>?_
  ·rcases dR c.P u b.block with⟨g,e⟩|⟨r,e,i⟩
   ·exact .inl ⟨g,e⟩
   ·exact .inr ⟨r,u,e,i⟩
  ·exact hd _ _ _ (.inr d)
theorem AF(k:ZZ)(a b:ξ):TT c (Θ a>>=fun x=>Θ b>>=fun y=>Op.addrSub k x.1 y.1):=nx a b (f:=fun x y=>Op.addrSub k x y) (fun _ _=>ae (nv _ _) fun _=>ag _) fun x y u h=>dr (kw x y u h)
theorem AG(op:ZQ)(a b:ξ):TT c (Θ a>>=fun x=>Θ b>>=fun y=>Op.addrCmp op x.1 y.1):=by
 refine nx a b (f:=fun x y=>Op.addrCmp op x y) (fun _ _=>ae (nv _ _) fun _=>?_) fun x y u h=>dr (kw x y u h)
 dsimp only;split<;>first|exact ag _|exact ay _
theorem vl{α:Type}(r:Nat){f:Option (Ω×Nat) ->ζ α}(h:∀s,TT c (f s))(hn:∀u,ig c.P (f ZN) u)(hs:∀e m n,f (some (e,m))=f (some (e,n))):TT c (shape r>>=f):=by
 by_cases b:c.S r
 ·intro k u w d;rcases d.mask r b with⟨cs,e,⟨l,a⟩,j,g⟩|a
  ·have e1:u.shape? r=some (e,0):=by simp[φ,a]
   have e2:w.shape? r=some (e,cs.size):=by simp[φ,g]
   refine jH (z:=f (u.shape? r)) (u1:=u) (w1:=w) (fun i=>?_) rfl (.refl _ _) (h _ k u w d);show(Sem.shape r fun s=>(Zx s).bind f).runT c.Q w i=_;simp only[κ,e1,e2,ε,hs e cs.size 0]
  ·refine fc (cP (jh c.P u r) ?_);rw[mP a];exact hn u
 ·exact kN r b h
theorem xA(k:ZZ)(a:ξ)(n:Int):TT c (ZL k a n):=by
 unfold ZL;refine vl _ (fun s=>?_) (fun u=>bz _) fun e m n=>rfl
 split
 ·refine ae (bF _) fun i=>?_
  dsimp only;exact aI (fun _=>ae (ay _) fun _=>ae (fq _) fun _=>ag _) fun _=>ae (fq _) fun _=>ag _
 ·exact ay _
theorem tn(k:ZZ)(a:ξ)(n:Int)(u:Γ)(h:u.heap[a.block]?=some bE):ig c.P (ZL k a n) u:=by unfold ZL;refine cP (jh c.P u _) ?_;rw[mP h];exact bz _
theorem AH(k:ZZ)(a:ξ)(n:Int):TT c (Θ a>>=fun x=>ZL k x.1 n):=lK a (fun _=>xA _ _ _) fun u h _=>tn _ _ _ _ h
theorem xB(o:ZQ)(k:ZZ)(x y:Int):TT c (Op.intArith o k x y):=by unfold Op.intArith;split<;>first|exact ag _|exact ai _
theorem DP(o:ZQ)(k:ZZ)(x y:Int):TT c (Op.intDiv o k x y):=by
 unfold Op.intDiv;refine aI (fun _=>aO _) fun _=>?_
 split<;>first|exact ag _|exact ai _
theorem AI(o:ZQ)(k:ZZ)(x y:Int):TT c (Op.intBits o k x y):=by unfold Op.intBits;split<;>first|exact ag _|exact ai _
theorem DQ(o:ZQ)(x y:Int):TT c (Op.intCmp o x y):=by unfold Op.intCmp;split<;>first|exact ag _|exact ai _
theorem FL(o:ZQ)(k:ZZ)(x:Int)(j:ZZ)(y:Int):TT c (Op.shift o k x j y):=by
 unfold Op.shift;refine aI (fun _=>aO _) fun _=>?_
 dsimp only;split<;>first|exact ag _|exact ai _
theorem my(o:ZQ)(k:Z2)(x y:Nat):TT c (Op.floatArith o k x y):=by
 unfold Op.floatArith;dsimp only;have rest:∀r:Option Nat,TT c (match r with
  |some r=>pure (Value.float k r)
  |none=>do pure (Value.float k (<-choose (Question.nanBits k x y)))):=by
  intro r;split
  ·exact ag _
  ·exact ae (cG _) fun _=>ag _
 split<;>first|exact ae (ag _) fun _=>rest _|exact ae (ai _) fun _=>rest _
theorem pC(o:ZQ)(k:Z2)(x y:Nat):TT c (Op.floatCmp o k x y):=by unfold Op.floatCmp;dsimp only;split<;>first|exact ag _|exact ai _
theorem xC(o:ZQ)(x y:ByteArray):TT c (ZH o x y):=by unfold ZH;dsimp only;split<;>first|exact ag _|exact ai _|exact aI (fun _=>ay _) fun _=>ag _
theorem tp(s:Z2)(b:Nat)(k:ZZ):TT c (Conv.floatToInt s b k):=by
 unfold Conv.floatToInt;dsimp only;split
 ·exact aI (fun _=>ag _) fun _=>ae (cG _) fun _=>ag _
 ·exact ae (cG _) fun _=>ag _
theorem qj(s:Z2)(b:Nat)(k:Z2):TT c (Conv.floatToFloat s b k):=by
 unfold Conv.floatToFloat
 repeat' (first|assumption|exact ag _|exact ai _|exact cG _|(with_reducible refine ae ?_ fun _=>?_)|(with_reducible refine aI (fun _=>?_) fun _=>?_)|split|dsimp only)
theorem AJ(o:ZQ)(k:Z2)(x y:Nat):TT c (Op.Complex.arith o k x y):=by
 unfold Op.Complex.arith;refine ae (my _ _ _ _) fun v=>?_
 split<;>first|exact ag _|exact ai _
theorem FM(o:ZQ)(k:Z2)(x y:Nat):TT c (Op.Complex.cmp o k x y):=ae (pC _ _ _ _) fun _=>lI _
theorem DR(s:Z2)(x:Nat)(k:Z2):TT c (Op.Complex.conv s x k):=by
 unfold Op.Complex.conv;refine aI (fun _=>ag _) fun _=>ae (qj _ _ _) fun v=>?_
 split<;>first|exact ag _|exact ai _
theorem vp(o:ZQ)(k:Z2)(a b d e:Nat):TT c (Op.complexOp o k a b d e):=by
 unfold Op.complexOp Op.Complex.product Op.Complex.quotient Op.Complex.corrected Op.Complex.add Op.Complex.sub Op.Complex.mul Op.Complex.quo
 repeat' (first|assumption|exact ag _|exact ai _|(with_reducible exact AJ _ _ _ _)|(with_reducible exact FM _ _ _ _)|(with_reducible exact DR _ _ _)|(with_reducible refine ae ?_ fun _=>?_)|(with_reducible refine aI (fun _=>?_) fun _=>?_)|split|dsimp only)
theorem ji(o:ZQ)(t:Ω)(x y:Ψ)(h:o=.eql\/o=.neq->TT c (Op.equal t x y)):TT c (binOp o t x y):=by
 unfold binOp;split
 all_goals first
  |exact FL _ _ _ _ _
  |exact xC _ _ _
  |exact kQ _ _ _
  |exact AF _ _ _
  |exact AG _ _ _
  |exact AH _ _ _
  |exact ay _
  |exact ai _
  |exact ae (h (.inl rfl)) fun _=>ag _
  |exact ae (h (.inr rfl)) fun _=>ag _
  |skip
 ·refine aI (fun _=>ai _) fun _=>?_
  split<;>first|exact xB _ _ _ _|exact DP _ _ _ _|exact AI _ _ _ _|exact DQ _ _ _
 ·refine aI (fun _=>ai _) fun _=>?_
  split<;>first|exact my _ _ _ _|exact pC _ _ _ _
 ·exact aI (fun _=>ai _) fun _=>vp _ _ _ _ _ _
 ·refine ae (aN _) fun d=>?_
  exact aI (fun _=>qi _ _ _) fun _=>kQ _ _ _
theorem fE(t:Ω)(x y:Ψ)(h:(x=.nilIface\/y=.nilIface)\/x=.slice ZN 0 0\/y=.slice ZN 0 0\/x=.nilFunc\/y=.nilFunc\/x=.map ZN\/y=.map ZN):∀d,TT c (ZU d t x y)
 |0=>ay _
 |d+1=>by
  unfold ZU;refine aU t fun e he=>?_
  dsimp only;rcases h with(rfl|rfl)|rfl|rfl|rfl|rfl|rfl|rfl<;>split<;>first|exact ag _|exact ai _|exact ay _|(rename_i hh;cases hh;done)|simp_all
theorem ii(t:Ω)(ht:Scalar c.T t)(x y:Ψ):∀d,TT c (ZJ d t x y)
 |0=>ay _
 |d+1=>by
  unfold ZJ;refine aU t fun e he=>?_
  have he':(⟨c.T,#[]⟩:Ξ).underlying t=some e:=he;rcases ht with h|h|⟨⟨k,h⟩,_⟩<;>(rw[h]at he';cases he';exact ag _)
theorem iO(t:Ω)(ht:Flat c.T t)(x y:Ψ):∀d,TT c (ZJ d t x y)
 |0=>ay _
 |d+1=>by
  rcases ht with ht|⟨fs,h,hf⟩
  ·exact ii t ht x y _
  ·unfold ZJ;refine aU t fun e he=>?_
   have he':(⟨c.T,#[]⟩:Ξ).underlying t=some e:=he;rw[h]at he';cases he';dsimp only;split<;>first|contradiction|skip
   ·rename_i fields xs ys hh;cases hh
    refine ae (oJ _ _ fun f hm b=>?_) fun r=>?_
    ·refine aI (fun _=>?_) fun _=>ag _
     refine ae (ij _ _ _) fun _=>ae (ij _ _ _) fun _=>ae (ii _ (hf f hm) _ _ _) fun _=>?_
     exact aI (fun _=>ag _) fun _=>ag _
    ·obtain⟨r1,r2⟩:=r;cases r1<;>exact ag _
   ·exact ag _
theorem iy(op:ZQ)(t:Ω)(x y:ZT)(a b:Ψ)
 (h:Flat c.T t\/((x matches .const _)||(y matches .const _))=Z1/\((∀v,a≠.agg v)\/∀v,b≠.agg v)):TT c (eqGuard op t x y a b):=by
 unfold eqGuard;refine aI (fun _=>ag _) fun _=>?_
 split
 ·refine aI (fun _=>ag _) fun d=>?_
  rcases h with h|h
  ·exact ae (iO t h _ _ _) fun b=>aI (fun _=>ay _) fun _=>ag _
  ·exact absurd h.1 d
 ·rcases h with h|h
  ·refine aM ?_ (aM ?_ (aI (fun _=>ag _) fun _=>?_))
   ·simp only[Ctx.Q,Ctx.P,jf c.T c.F c.G];rfl
   ·rfl
   ·exact ae (iO t h _ _ _) fun b=>aI (fun _=>ay _) fun _=>ag _
  ·rcases h.2 with h|h
   ·exact absurd rfl (h _)
   ·exact absurd rfl (h _)
 ·exact ag _
end
end
section
section
variable{c:Ctx}
theorem cK{α β:Type}(a:α){f:α->ζ β}(h:TT c (f a)):TT c (pure a>>=f):=by rw[pure_bind];exact h
theorem gJ{α β:Type}(s:String){f:α->ζ β}:TT c (stuck s>>=f):=qA (f8 (cl _))
theorem AK(src dst:Ω)(x:Ψ)(j k:ZZ)(hs:(⟨c.T,#[]⟩:Ξ).underlying src=some (.int j))(hd:(⟨c.T,#[]⟩:Ξ).underlying dst=some (.int k)):TT c (convert src dst x):=by
 unfold convert;refine aU src fun e b=>aU dst fun h a=>?_
 have g:some e=some (.int j):=b.symm.trans hs;have d:some h=some (.int k):=a.symm.trans hd;cases g
 cases d
 split<;>first|contradiction|exact ag _|exact ay _|exact tp _ _ _|skip
 all_goals (rename_i f;cases f)
theorem oM{α β:Type}{f:β->α->ζ β}(h:∀b a,TT c (f b a)):∀(l:List α) (b:β),TT c (l.foldlM f b)
 |[],b=>ag _
 |x::l,b=>by rw[List.foldlM_cons];exact ae (h _ _) fun _=>oM h l _
theorem R5(a:Array Ω)(t:Ω)(xs:Array Ψ):TT c (Builtin.max_ a t xs):=by
 unfold Builtin.max_;split
 ·exact ai _
 ·exact oM (fun _ _=>K6 _ _) _ _
theorem R6(a:Array Ω)(t:Ω)(xs:Array Ψ):TT c (Builtin.min_ a t xs):=by
 unfold Builtin.min_;split
 ·exact ai _
 ·exact oM (fun _ _=>K5 _ _) _ _
theorem iz(b:Bool)(t:Ω)(ht:Scalar c.T t)(v:Ψ):∀d,TT c (ZW b d t v)
 |0=>ay _
 |d+1=>by
  unfold ZW;refine aU t fun e he=>?_
  have he':(⟨c.T,#[]⟩:Ξ).underlying t=some e:=he;rcases ht with h|h|⟨⟨k,h⟩,_⟩<;>(rw[h]at he';cases he';exact ag _)
theorem iP(b:Bool)(t:Ω)(ht:Flat c.T t)(v:Ψ):∀d,TT c (ZW b d t v)
 |0=>ay _
 |d+1=>by
  rcases ht with ht|⟨fs,h,hf⟩
  ·exact iz b t ht v _
  ·unfold ZW;refine aU t fun e he=>?_
   have he':(⟨c.T,#[]⟩:Ξ).underlying t=some e:=he;rw[h]at he';cases he';split<;>first|contradiction|skip
   ·rename_i fields xs hh;cases hh
    refine ae (oJ _ _ fun f hm b=>?_) fun _=>ag _
    exact aI (fun _=>ae (ij _ _ _) fun _=>ae (iz _ _ (hf f hm) _ _) fun _=>ag _) fun _=>ag _
   all_goals first|exact ai _|exact ag _
theorem mz(t:Ω)(ht:Flat c.T t)(k:Ψ):∀(es:List MapEntry) (i:Nat),TT c (Instr.findAsking t k es i)
 |[],_=>ag _
 |e::es,i=>by unfold Instr.findAsking;exact ae (kt t ht _ _ _) fun _=>aI (fun _=>ag _) fun _=>mz t ht k es _
theorem mQ(t:Ω)(ht:Flat c.T t)(k:Ψ)(es:List MapEntry):TT c (ZG t k es):=by
 unfold ZG;refine ae (aN _) fun d=>?_
 split
 ·exact ag _
 ·exact mz t ht _ _ _
theorem qk(a b:Ψ):TT c (Zw a b):=by unfold Zw;exact aI (fun _=>ag _) fun _=>ae (cG _) fun _=>ag _
def kR(T:ZP)(t:Ω):Prop:=∀k e,(⟨T,#[]⟩:Ξ).underlying t=some (.map k e) ->Flat T k
variable(t:Ω)(x:Ψ)(P:Ξ)
theorem DS(ht:kR c.T t)(x i:Ψ)(b:Bool):TT c (Instr.lookup t x i b):=by
 unfold Instr.lookup;refine aU t fun d hd=>?_
 split
 ·rename_i e a;have g:=ht e a hd;have rest:∀f:Array MapEntry,TT c (do
   ZW f.isEmpty 10000 e i
   let(v,ok)<-match<-ZG e i f.toList with
    |some (_,v)=>pure (v,Z1)
    |none=>pure (<-Z9 a,Z0)
   pure (if b then .tuple #[v,.bool ok]else v):ζ Ψ):=by
   intro f;refine ae (iP _ _ g _ _) fun _=>ae (mQ _ g _ _) fun r=>?_
   dsimp only;split
   ·exact ae (ag _) fun _=>ag _
   ·exact ae (cS _) fun _=>ae (ag _) fun _=>ag _
  dsimp only;split
  ·exact ae (ag _) fun _=>rest _
  ·refine dg _ ?_ fun o h j=>?_
   ·exact f8 (cl _)
   ·split
    ·exact ae (ag _) fun _=>rest _
    ·exact ae (ai _) fun _=>rest _
  ·exact ae (ai _) fun _=>rest _
 ·exact ai _
theorem ny(ht:kR c.T t)(m k v:Ψ):TT c (Instr.mapUpdate t m k v):=by
 unfold Instr.mapUpdate;refine aU t fun d hd=>?_
 split
 ·rename_i b a;have e:=ht b a hd;split
  ·exact aO _
  ·refine dg _ (cl _) fun o g f=>?_
   split
   ·refine ae (iP _ _ e _ _) fun _=>ae (mQ _ e _ _) fun r=>?_
    split
    ·exact ae (qk _ _) fun _=>eG _ _ (c.map _ _) f
    ·exact eG _ _ (c.map _ _) f
   ·exact ai _
  ·exact ai _
 ·exact ai _
theorem DT(a:Array Ω)(ht:∀t,a[0]?=some t->kR c.T t)(t:Ω)(xs:Array Ψ):TT c (Builtin.delete_ a t xs):=by
 unfold Builtin.delete_;split
 ·rename_i mt m k g;have h:=ht mt (by simp only[Prod.mk.injEq]at g;exact g.1);refine aU _ fun d hd=>?_
  split
  ·rename_i e b;have f:=h e b hd;dsimp only;split
   ·exact ae (iP _ _ f _ _) fun _=>ag _
   ·refine dg _ (f8 (cl _)) fun o j i=>?_
    split
    ·refine ae (iP _ _ f _ _) fun _=>ae (mQ _ f _ _) fun r=>?_
     split<;>exact ae (eG _ _ (c.map _ _) i) fun _=>ag _
    ·exact ae (ai _) fun _=>ag _
   ·exact ae (ai _) fun _=>ag _
  ·exact ai _
 ·exact ai _
theorem FO:TT c (Instr.range t x):=by
 unfold Instr.range;refine ae (aN _) fun d=>?_
 dsimp only;split
 ·exact cK _ (ae (kM _ (c.stringIter _ _)) fun _=>ag _)
 ·exact cK _ (ae (kM _ (c.mapIter _ _ _ _)) fun _=>ag _)
 ·refine dg _ (f8 (cl _)) fun o b a=>?_
  split
  ·exact cK _ (ae (kM _ (c.mapIter _ _ _ _)) fun _=>ag _)
  ·exact gJ _
 ·exact gJ _
theorem K7(it:Ψ)(b:Bool)(t:Ω):TT c (Instr.next it b t):=by
 unfold Instr.next;dsimp only;split
 ·rename_i r x;refine dg _ (cl _) fun o g d=>?_
  split
  ·refine aI (fun _=>?_) fun _=>ag _
   exact ae (eG _ _ (c.stringIter _ _) d) fun _=>ag _
  ·exact ag _
  ·refine dg _ (cl _) fun j f e=>?_
   split
   ·rename_i i a h
    try dsimp only
    refine aI (fun _=>ae (ay _) fun _=>?_) fun _=>?_
    all_goals
     refine ae (cG _) fun n=>?_
     split
     ·exact ae (eG _ _ (c.mapIter _ _ _ _) d) fun _=>ag _
     ·exact ag _
     ·exact ai _
   ·exact ai _
  ·exact ai _
 ·exact ai _
theorem FP(it:Ψ):TT c (Instr.entry it):=by
 unfold Instr.entry;split
 ·refine dg _ (cl _) fun o d e=>?_
  split
  ·split
   ·refine dg _ (cl _) fun f b a=>?_
    split
    ·try dsimp only
     refine aI (fun _=>ae (ay _) fun _=>?_) fun _=>?_
     all_goals
      split
      ·exact ag _
      ·exact ay _
    ·exact ai _
   ·exact ai _
  ·exact ai _
 ·exact ai _
theorem jj(a:ξ)(n:Nat)(u:Γ):∃b,(ZO a n).run P u=.ok b u:=by unfold ZO;rw[η,jh];simp only[ι];split<;>exact⟨_,rfl⟩
theorem AL(a:ξ)(u:Γ):(frozen a).run P u=.ok (u.frozen? a) u:=rfl
theorem qZ(size sLen n:Nat)(base:Option ξ)(x:Ψ)(u:Γ):∃b,(Z3 size sLen n base x).run P u=.ok b u:=by
 unfold Z3;have rest:∀c:Bool,∃b,(if(!c)=Z1 then pure Z1 else match x with
  |.slice (some b) a a_1=>do pure (!(<-ZO b (n*size))||base.any (·.block==b.block))
  |x=>pure Z0:ζ Bool).run P u=.ok b u:=by
  intro c;split
  ·exact⟨_,rfl⟩
  ·split
   ·rename_i b _ _;obtain⟨z,e⟩:=jj P b (n*size) u;rw[η,e];exact⟨_,rfl⟩
   ·exact⟨_,rfl⟩
 dsimp only;cases base with
 |none=>rw[pure_bind];exact rest Z1
 |some a=>
  obtain⟨z,e⟩:=jj P a (sLen*size) u;dsimp only;rw[η,e];simp only[ι];cases z with
  |false=>exact rest Z0
  |true=>show ∃b,(frozen (a.add (sLen/2*size))>>=_).run P u=_;rw[η,AL];simp only[ι];rw[pure_bind];exact rest _
theorem DU(a:Array Ω)(t:Ω)(xs:Array Ψ):TT c (Builtin.append_ a t xs):=by
 unfold Builtin.append_;split
 ·rename_i q s x r;refine ae (aN _) fun d=>?_
  split
  ·rename_i h;split
   ·rename_i base f j;refine ae (cX _) fun size=>?_
    have o:∀(bP:Bool) (n g:Nat),TT c (do
     ZD (g*(<-μ h).bytes)
     let old<-ω size f (.slice base f j)
     let new<-(if !bP then ω size n x
      else if n*size=0 then pure #[]
      else do pure (χ (<-Z9 h).cells n):ζ (Array Ψ))
     let rest:=χ (<-Z9 h).cells (g-(f+n))
     pure (.slice (some (<-newRow h (old++new++rest))) (f+n) g):ζ Ψ):=by
     intro bP n g;refine ae (bF _) fun _=>ae (qU _) fun _=>ae (gF _ _ _) fun _=>ae ?_ fun _=>ae (cS _) fun _=>ae (lH _ _) fun _=>ag _
     exact aI (fun _=>gF _ _ _) fun _=>aI (fun _=>ag _) fun _=>ae (cS _) fun _=>ag _
    have rest:∀(bP:Bool) (n:Nat),TT c (do
     if f+n<=j then
      let new<-(if !bP then ω size n x
       else if n*size=0 then pure #[]
       else do pure (χ (<-Z9 h).cells n):ζ (Array Ψ))
      if let some a:=base then storeCells (a.add (f*size)) new.toList
      pure (.slice base (f+n) j)
     else
      if((f+n:Nat):Int)>IntKind.i64.max/\(bP\/(<-μ h).bytes=0)then runtimePanic (.error "growslice: len out of range")
      if ZE (f+n) j*(<-μ h).bytes>2^48 then(if bP then runtimePanic (.error "growslice: len out of range")else do
       if !(<-Z3 size f n base x)then mark .noRoom
       unsupported (.resourceLimit "append: a slice or a string whose bytes no memory bears"))
      let g<-choose (.appendCap (f+n) j h)
      ZD (g*(<-μ h).bytes)
      let old<-ω size f (.slice base f j)
      let new<-(if !bP then ω size n x
       else if n*size=0 then pure #[]
       else do pure (χ (<-Z9 h).cells n):ζ (Array Ψ))
      let rest:=χ (<-Z9 h).cells (g-(f+n))
      pure (.slice (some (<-newRow h (old++new++rest))) (f+n) g):ζ Ψ):=by
     intro bP n;have m:TT c (do
      let g<-choose (.appendCap (f+n) j h)
      ZD (g*(<-μ h).bytes)
      let old<-ω size f (.slice base f j)
      let new<-(if !bP then ω size n x
       else if n*size=0 then pure #[]
       else do pure (χ (<-Z9 h).cells n):ζ (Array Ψ))
      let rest:=χ (<-Z9 h).cells (g-(f+n))
      pure (.slice (some (<-newRow h (old++new++rest))) (f+n) g):ζ Ψ):=ae (cG _) fun k=>o bP n k
     have dead:vg c.P (do
      if !(<-Z3 size f n base x)then mark .noRoom
      unsupported (.resourceLimit "append: a slice or a string whose bytes no memory bears"):ζ Unit):=by
      intro u;obtain⟨b,e⟩:=qZ c.P size f n base x u;refine cP e ?_;dsimp only;split
      ·exact cP (u1:=u) (a:=()) rfl (bz _)
      ·exact bz _
     refine aI (fun _=>?_) fun _=>?_
     ·refine ae ?_ fun new=>?_
      ·exact aI (fun _=>gF _ _ _) fun _=>aI (fun _=>ag _) fun _=>ae (cS _) fun _=>ag _
      ·dsimp only;split
       ·exact ae (eQ _ _ _) fun _=>ag _
       ·exact ag _
     ·refine ae (bF _) fun i=>?_
      dsimp only;refine aI (fun _=>ae (aO _) fun _=>?_) fun _=>?_<;>
       refine ae (bF _) fun i=>aI (fun _=>ae (aI (fun _=>aO _) fun _=>qA dead) fun _=>m) fun _=>m
    have p:∀bP:Bool,TT c (do
     let n<-if bP then do
         let l:=IntKind.i64.wrap (<-asInt x)
         if l<0 then runtimePanic (.error "makeslice: len out of range")
         if l*(<-μ h).bytes>2^48 then
          let made<-choose (.extern "append.ofMake.carriedOut" 2)
          runtimePanic (.error (if made==1 then "makeslice: len out of range"else "growslice: len out of range"))
         pure l.toNat
      else ZI x
     if f+n<=j then
      let new<-(if !bP then ω size n x
       else if n*size=0 then pure #[]
       else do pure (χ (<-Z9 h).cells n):ζ (Array Ψ))
      if let some a:=base then storeCells (a.add (f*size)) new.toList
      pure (.slice base (f+n) j)
     else
      if((f+n:Nat):Int)>IntKind.i64.max/\(bP\/(<-μ h).bytes=0)then runtimePanic (.error "growslice: len out of range")
      if ZE (f+n) j*(<-μ h).bytes>2^48 then(if bP then runtimePanic (.error "growslice: len out of range")else do
       if !(<-Z3 size f n base x)then mark .noRoom
       unsupported (.resourceLimit "append: a slice or a string whose bytes no memory bears"))
      let g<-choose (.appendCap (f+n) j h)
      ZD (g*(<-μ h).bytes)
      let old<-ω size f (.slice base f j)
      let new<-(if !bP then ω size n x
       else if n*size=0 then pure #[]
       else do pure (χ (<-Z9 h).cells n):ζ (Array Ψ))
      let rest:=χ (<-Z9 h).cells (g-(f+n))
      pure (.slice (some (<-newRow h (old++new++rest))) (f+n) g):ζ Ψ):=by
     intro bP;dsimp only;refine aI (fun _=>ae (jd _) fun l=>?_) fun _=>ae (xk _) fun n=>rest bP n
     refine aI (fun _=>ae (aO _) fun _=>?_) fun _=>?_<;>
      refine ae (bF _) fun i=>aI (fun _=>ae (cG _) fun _=>ae (aO _) fun _=>?_) fun _=>?_<;>
       exact ae (ag _) fun n=>rest bP n
    cases a[1]? with
    |some v=>exact ae (aN _) fun _=>ae (ag _) fun z=>p z
    |none=>exact ae (ag _) fun z=>p z
   ·exact ai _
  ·exact ai _
 ·exact ai _
end
end
section
section
variable{c:Ctx}
theorem iA{α:Type}(l:Nat){f:Loop->ζ α}(h:∀r,c.ok (.loop r) ->¬c.S l->TT c (f r)):TT c (Instr.getLoop l>>=f):=by
 unfold Instr.getLoop;rw[bind_assoc];refine dg _ (f8 (cl _)) fun o b a=>?_
 split
 ·exact cK _ (h _ b a)
 ·exact gJ _
theorem vq(fn:FuncId)(tmps:Array Ψ)(ps:Array Tmp)(a b:Code)(ar:Option Nat)(hf:c.okF fn)(ha:c.tX a)(hb:c.tX b):TT c (Instr.enterLoop fn tmps ps a b ar):=by
 unfold Instr.enterLoop;have rest:∀(d:Nat) (m:List Deferred),TT c (do pure (<-newObj (.loop {state:=.ready,pending:=ZN,fn,tmps,params:=ps,assign:=a,body:=b,defers:=d}),m):ζ (Nat×List Deferred)):=fun d m=>ae (kM _ ((c.loop _).2 ⟨hf,ha,hb,fun j h=>by cases h⟩)) fun _=>ag _
 dsimp only;cases ar with
 |some l=>exact iA l fun r f e=>cK _ (rest _ _)
 |none=>exact ae (kM _ ((c.deferred _).2 (.inr rfl))) fun r=>cK _ (rest _ _)
theorem FQ(l:Nat)(args:Array Ψ):TT c (Instr.yield l args):=by
 unfold Instr.yield;refine iA l fun r b a=>?_
 dsimp only;exact aI (fun _=>ae (ai _) fun _=>ag _) fun _=>ag _
theorem tq(l:Nat):TT c (Instr.beginRound l):=by
 unfold Instr.beginRound;refine iA l fun r a b=>ae (eG _ _ ((c.loop _).2 ⟨((c.loop _).1 a).1,((c.loop _).1 a).2.1,((c.loop _).1 a).2.2.1,((c.loop _).1 a).2.2.2⟩) b) fun _=>?_
 split<;>first|exact ag _|exact aO _
theorem xD(l:Nat)(j:Option Code)(hj:∀x,j=some x->c.tX x):TT c (Instr.endRound l j):=by unfold Instr.endRound;refine iA l fun r a b=>ae (eG _ _ ((c.loop _).2 ⟨((c.loop _).1 a).1,((c.loop _).1 a).2.1,((c.loop _).1 a).2.2.1,hj⟩) b) fun _=>ag _
theorem AM(l:Nat):TT c (Instr.endLoop l):=by
 unfold Instr.endLoop;refine iA l fun r a b=>?_
 dsimp only;have rest:TT c (do setObj l (.loop {r with state:=.exhausted});pure r.pending:ζ (Option Code)):=ae (eG _ _ ((c.loop _).2 ⟨((c.loop _).1 a).1,((c.loop _).1 a).2.1,((c.loop _).1 a).2.2.1,((c.loop _).1 a).2.2.2⟩) b) fun _=>ag _
 exact aI (fun _=>ae (aO _) fun _=>rest) fun _=>rest
theorem qn(b:Nat):TT c (Zv b):=by
 unfold Zv;refine dg _ (cl _) fun o d a=>?_
 split
 ·exact ae (eG _ _ ((c.deferred _).2 (.inl rfl)) a) fun _=>ag _
 ·exact ai _
theorem kS(t:Ω)(x:Place):TT c (x.get t):=by
 cases x with
 |val v=>exact ag _
 |var a=>exact fa _ _
theorem jk:∀(l:List FieldStep) (t:Ω) (x:Place),TT c (follow l t x)
 |[],t,x=>ag _
 |s::rest,t,x=>by
  unfold follow;refine ae (aN _) fun d=>?_
  split
  ·split
   ·refine aI (fun _=>?_) fun _=>?_
    ·exact ae (kS _ _) fun _=>ae (lJ _) fun _=>ae (i5 _ _) fun _=>jk rest _ _
    ·split
     ·exact ae (i5 _ _) fun _=>jk rest _ _
     ·exact ae (ij _ _ _) fun _=>jk rest _ _
     ·exact ai _
   ·exact ai _
  ·exact ai _
theorem tr(a:Array Ω)(t:Ω)(p:Ψ)(x y:String):TT c (ZF a t #[p,strVal x,strVal y]):=by
 unfold ZF strVal;cases p with
 |pointer q=>
  cases q with
  |some q=>exact ag _
  |none=>
   refine ae (cG _) fun n=>?_
   repeat' (first|assumption|(with_reducible first|exact ag _|exact ai _|exact ay _|exact aO _|exact cG _|exact aN _|exact bF _)|(with_reducible refine ae ?_ fun _=>?_)|(with_reducible refine aI (fun _=>?_) fun _=>?_)|split|dsimp only)
 |_=>exact ai _
theorem mA(t:Ω)(x:Place)(p:Bool)(w:Option String):TT c (receiverAt t x p w):=by
 unfold receiverAt
 repeat' (first|assumption|(with_reducible first|exact ag _|exact ai _|exact kS _ _|exact tr _ _ _ _ _|exact fa _ _|exact lJ _|exact aN _)|(with_reducible refine ae ?_ fun _=>?_)|split|dsimp only)
theorem q9(t:Ω)(v:Ψ)(path:Array FieldStep)(p:Bool):TT c (receiverVia t v path p):=by unfold receiverVia;exact ae (jk _ _ _) fun _=>mA _ _ _ _
theorem tZ:∀(n:Nat) (t:Ω) (v:Ψ) (name:String),TT c (method n t v name)
 |0,_,_,_=>ay _
 |n+1,t,v,name=>by
  unfold method;refine ae (bF _) fun i=>?_
  split
  ·refine ae (jk _ _ _) fun r=>?_
   dsimp only;split
   ·refine ae (kS _ _) fun v=>?_
    split
    ·exact tZ n _ _ _
    ·exact aO _
    ·exact ai _
   ·exact ae (mA _ _ _ _) fun _=>ag _
  ·exact ai _
theorem iB:∀(l:List FieldStep) (t:Ω) (x:Option Ψ),TT c (followBlind l t x)
 |[],t,x=>ag _
 |s::rest,t,x=>by
  unfold followBlind;refine ae (aN _) fun d=>?_
  split
  ·split
   ·split<;>first|exact ag _|exact iB rest _ _|exact ai _|exact ae (ij _ _ _) fun _=>iB rest _ _
   ·exact ai _
  ·exact ai _
theorem pD:∀(n:Nat) (t:Ω) (v:Ψ) (name:String),TT c (nilAhead n t v name)
 |0,_,_,_=>ag _
 |n+1,t,v,name=>by
  unfold nilAhead;refine ae (bF _) fun i=>?_
  split
  ·refine ae (iB _ _ _) fun r=>?_
   split
   ·exact ag _
   ·split<;>first|exact ag _|exact ai _|exact pD n _ _ _|skip
    refine ae (aN _) fun d=>?_
    split<;>exact ag _
  ·exact ai _
def jJ(c:Ctx):Prop:=∀(f:FuncId) (args:Array Ψ),TT c (callFunc f args)
theorem mB(hc:jJ c)(r:Ψ)(name:String)(args:Array Ψ):TT c (callMethod r name args):=by
 unfold callMethod;split
 ·refine aM rfl (ae (tZ _ _ _ _) fun x=>hc _ _)
 ·exact aO _
 ·exact ai _
def jl(T:ZP)(b:Builtin)(a:Array Ω):Prop:=
 match b with
 |.append|.cap|.copy|.len|.max|.min|.recover|.panic=>True
 |.delete=>∀t,a[0]?=some t->kR T t
 |_=>False
theorem AN(b:Builtin)(a:Array Ω)(t:Ω)(cs:Array Bool)(args:Array Ψ)(h:jl c.T b a):TT c (builtin b a t cs args):=by
 unfold builtin;cases b<;>first
  |exact False.elim h
  |exact ae (DU _ _ _) fun _=>ag _
  |exact ae (R3 _ _ _) fun _=>ag _
  |exact ae (K4 _ _ _) fun _=>ag _
  |exact ae (R4 _ _ _) fun _=>ag _
  |exact ae (R5 _ _ _) fun _=>ag _
  |exact ae (R6 _ _ _) fun _=>ag _
  |exact ae (DT _ h _ _) fun _=>ag _
  |exact ae (xj _) fun _=>ag _
  |exact ag _
def nz(T:ZP):Target->Prop
 |.builtin b a _ _=>jl T b a
 |_=>True
theorem jm(hc:jJ c)(t:Target)(args:Array Ψ)(h:nz c.T t):TT c (invoke t args):=by
 unfold invoke;split
 ·exact aO _
 ·exact AN _ _ _ _ _ h
 ·exact hc _ _
 ·split
  ·exact mB hc _ _ _
  ·exact ai _
 ·split
  ·refine ae (aN _) fun d=>?_
   exact mB hc _ _ _
  ·exact ai _
 ·split
  ·exact ae (q9 _ _ _ _) fun _=>hc _ _
  ·exact ai _
 ·exact FQ _ _
 ·exact ai _
 ·exact ag _
theorem AP(f:Ψ)(args:Array Ψ):TT c (Z7 f args):=by unfold Z7;split<;>first|exact ag _|exact ai _
theorem AS(ρ:ZT->Ψ)(k:Call)(t:Ω):TT c (resolve ρ k t):=by
 unfold resolve;dsimp only;split
 ·exact ag _
 ·exact ag _
 ·exact AP _ _
end
end
section
structure bu where
 flat:List Ω
 ints:List Ω
 maps:List Ω
structure bu.Sound(T:ZP)(L:bu):Prop where
 flat:∀t∈L.flat,Flat T t
 ints:∀t∈L.ints,∃k,(⟨T,#[]⟩:Ξ).underlying t=some (.int k)
 maps:∀t∈L.maps,kR T t
def nD:ZT->Bool
 |.const .nilIface=>Z1
 |.const (.slice ZN 0 0)=>Z1
 |_=>Z0
def AT(L:bu)(k:Call):Bool:=
 match k.callee with
 |.builtin b=>match b with
  |.append|.cap|.copy|.len|.max|.min|.recover=>Z1
  |.delete=>match k.argTypes[0]? with
   |some t=>L.maps.contains t
   |none=>Z1
  |_=>Z0
 |_=>Z1
def AU(L:bu):Op->Bool
 |.ready _|.waits _|.makeChan ..|.sliceToArrayPointer ..|.entryStore ..|.mapEntry ..|.go _|.send ..|.recv ..|.select ..=>Z0
 |.binOp op t x y _=>!(op matches .eql|.neq)||L.flat.contains t||nD x||nD y
 |.convert s d _=>L.ints.contains s&&L.ints.contains d
 |.lookup t ..|.mapUpdate t ..|.insert t ..=>L.maps.contains t
 |.call k=>AT L k
 |.defer k=>match k.callee with
  |.builtin _=>Z0
  |_=>Z1
 |_=>Z1
section
variable{c:Ctx}{L:bu}{T:ZP}
theorem nE{x:ZT}(h:nD x=Z1):x=.const .nilIface\/x=.const (.slice ZN 0 0):=by
 unfold nD at h;split at h
 ·exact .inl rfl
 ·exact .inr rfl
 ·cases h
theorem DV(hL:L.Sound c.T){ρ:ZT->Ψ}(hρ:∀v,ρ (.const v)=v)(op:ZQ)(t:Ω)(x y:ZT)(u:Ω)(h:AU L (.binOp op t x y u)=Z1):
 TT c (do eqGuard op t x y (ρ x) (ρ y);binOp op t (ρ x) (ρ y)):=by
 simp only[AU,Bool.or_eq_true]at h;rcases h with((h|h)|h)|h
 ·refine ae ?_ fun _=>ji _ _ _ _ fun b=>?_
  ·cases op<;>first|(simp at h;done)|exact ag _
  ·rcases b with rfl|rfl<;>simp at h
 ·have a:=hL.flat t (ο.1 h);exact ae (iy _ _ _ _ _ _ (.inl a)) fun _=>ji _ _ _ _ fun _=>kt _ a _ _ _
 ·rcases nE h with rfl|rfl<;>rw[hρ]
  ·exact ae (iy _ _ _ _ _ _ (.inr ⟨rfl,.inl (by simp)⟩)) fun _=>ji _ _ _ _ fun _=>fE _ _ _ (by simp) _
  ·exact ae (iy _ _ _ _ _ _ (.inr ⟨rfl,.inl (by simp)⟩)) fun _=>ji _ _ _ _ fun _=>fE _ _ _ (by simp) _
 ·rcases nE h with rfl|rfl<;>rw[hρ]
  ·exact ae (iy _ _ _ _ _ _ (.inr ⟨by cases x<;>rfl,.inr (by simp)⟩)) fun _=>ji _ _ _ _ fun _=>fE _ _ _ (by simp) _
  ·exact ae (iy _ _ _ _ _ _ (.inr ⟨by cases x<;>rfl,.inr (by simp)⟩)) fun _=>ji _ _ _ _ fun _=>fE _ _ _ (by simp) _
theorem xE(v:Ψ):TT c (match v with
 |.pointer ZN|.nilIface|.nilFunc=>runtimePanic .nilDeref
 |.func (.method name) first captured=>
  match(first[0]?:Option Ψ)with
  |some .nilIface=>runtimePanic .nilDeref
  |some (.iface t w)=>do
   if(<-nilAhead ((<-program).types.size+Made.depth) t w name) !=some Z0 then
    unsupported (.noEntry "op/nilCheck.the method's receiver behind this interface value is a nil pointer, or cannot be seen to be none, and the arguments act or may panic (ledger 612)")
   pure (.value (.func (.method name) first captured))
  |_=>pure (.value (.func (.method name) first captured))
 |x=>pure (.value x):ζ Next):=by
 split
 ·exact aO _
 ·exact aO _
 ·exact aO _
 ·split
  ·exact aO _
  ·refine aM rfl (ae (pD _ _ _ _) fun r=>?_);exact aI (fun _=>ae (ay _) fun _=>ag _) fun _=>ag _
  ·exact ag _
 ·exact ag _
theorem kT(hL:L.Sound c.T){b:Builtin}{args:Array ZT}{ts:Array Ω}(h:AT L ⟨.builtin b,args,ts⟩=Z1):jl c.T b ts:=by
 unfold AT at h;unfold jl;cases b<;>first|trivial|(cases h;done)|skip
 intro t a;simp only[a]at h;exact hL.maps t (ο.1 h)
theorem kU{f:Ψ}{args:Array Ψ}{P:Ξ}{u u':Γ}{d:Deferred}(h:(Z7 f args).run P u=.ok d u'):nz T d.target:=by
 unfold Z7 at h;split at h
 ·cases h;trivial
 ·cases h;trivial
 ·cases h
theorem Cp(hc:jJ c)(ρ:ZT->Ψ)(f:ZT)(args:Array ZT):TT c (do let d<-Z7 (ρ f) (args.map ρ);invoke d.target d.args):=by
 unfold Z7;split
 ·exact cK _ (jm hc _ _ trivial)
 ·exact cK _ (jm hc _ _ trivial)
 ·exact gJ _
theorem DW(hL:L.Sound c.T)(hc:jJ c){ρ:ZT->Ψ}(hρ:∀v,ρ (.const v)=v)(o:Oper)(h:AU L o.op=Z1):TT c (execOp ρ o):=by
 obtain⟨A,op,z,pos,after,guard⟩:=o;unfold execOp;dsimp only at h⊢;cases op with
 |move x=>exact ag _
 |assign x=>exact ag _
 |pick a b d=>exact ae (lI _) fun _=>ag _
 |alloc e=>exact ae (FH _) fun _=>ag _
 |box e x=>exact ae (R2 _ _) fun _=>ag _
 |build t C=>exact ae (FI _ _) fun _=>ag _
 |buildSlice t n C=>exact ae (tj _ _ _) fun _=>ag _
 |insert t m k x=>exact ae (ny _ (hL.maps t (ο.1 h)) _ _ _) fun _=>ag _
 |load t a=>exact ae (DN _ _) fun _=>ag _
 |store t a x=>exact ae (Aw _ _ _) fun _=>ag _
 |ready g=>cases h
 |waits g=>cases h
 |nilCheck x=>exact xE _
 |binOp op t x y u=>exact ae (DV hL hρ _ _ _ _ _ h) fun _=>ag _
 |unOp o t x=>exact ae (FJ _ _) fun _=>ag _
 |convert s d x=>simp only[AU,Bool.and_eq_true]at h;obtain⟨k,B⟩:=hL.ints s (ο.1 h.1);obtain⟨j,D⟩:=hL.ints d (ο.1 h.2);exact ae (AK _ _ _ _ _ B D) fun _=>ag _
 |sliceToArrayPointer d x=>cases h
 |makeInterface t x=>exact ae (oG _ _) fun _=>ag _
 |makeFunc f a b=>exact ae (xi _ _ _) fun _=>ag _
 |makeMap t r=>exact ae (AC _ _) fun _=>ag _
 |makeChan t s=>cases h
 |makeSlice t l k=>exact ae (vh _ _ _) fun _=>ag _
 |slice t x l E m=>exact ae (AA _ _ _ _ _) fun _=>ag _
 |fieldAddr t x f=>exact ae (Ay _ _ _) fun _=>ag _
 |field t x f=>exact ae (FF _ _ _) fun _=>ag _
 |indexAddr t x i=>exact ae (Az _ _ _) fun _=>ag _
 |index t x i=>exact ae (FE _ _ _) fun _=>ag _
 |lookup t x i ok=>exact ae (DS _ (hL.maps t (ο.1 h)) _ _ _) fun _=>ag _
 |mapUpdate t m k x=>exact ae (ny _ (hL.maps t (ο.1 h)) _ _ _) fun _=>ag _
 |mapEntry t m k=>cases h
 |entryStore t m s x=>cases h
 |range t x=>exact ae (FO _ _) fun _=>ag _
 |next it s=>exact ae (K7 _ _ _) fun _=>ag _
 |entry it=>exact ae (FP _) fun _=>ag _
 |typeAssert x t a ok=>exact ae (tk _ _ _ _) fun _=>ag _
 |extract t i=>exact ae (AB _ _) fun _=>ag _
 |call k=>
  dsimp only;unfold resolve;obtain⟨p,w,q⟩:=k;cases p with
  |value f=>exact Cp hc ρ _ _
  |invoke r m=>exact cK _ (jm hc _ _ trivial)
  |builtin b=>exact cK _ (jm hc _ _ (kT hL h))
 |go k=>cases h
 |defer k=>exact ae (AS _ _ _) fun _=>ag _
 |panic x=>exact ae (xj _) fun _=>ag _
 |send a b=>cases h
 |recv a b d=>cases h
 |select a b=>cases h
end
end
end gO
