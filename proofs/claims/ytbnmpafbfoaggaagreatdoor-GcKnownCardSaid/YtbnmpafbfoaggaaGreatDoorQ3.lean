/- A part of the proof of GcKnown; no conditions. -/
import Derived.Test.YtbnmpafbfoaggaaGreatDoorQ2
import Derived.Deep.AppendLies
import Derived.ArgAppend
import Derived.Deep.Cut
import Derived.Deep.DeepCutAuto
import Derived.Test.YtbnmpafbfoaggaaGreatDoorQ1
import Derived.BigRegion
set_option linter.unusedVariables false
set_option linter.unusedSimpArgs false
set_option maxRecDepth 100000
set_option maxHeartbeats 16000000
noncomputable section
open Option renaming none->Ω,some->Θ
open Array renaming getElem?_eq_some_iff->Ψ,replicate_succ->ZV,replicate_zero->ZU
open Go.Lib renaming hid->Ξ
open Go.Obj renaming cells->Δ
open Go.Value renaming slice->Γ,int->μ,pointer->κ
open Go renaming heap_alloc_new->ω,Value->χ,World->υ,TypeId->η,Calls->ZX,maxLen->ZW
open Go.World renaming cell?->ψ,frozen?->θ,size_alloc->Z8,size_drew->Z7,putObj_heap_other->Z4,grownBy_alloc->Z0,setCell->ZZ
open And renaming intro->φ
open Go.RowKit renaming Below->ο
open Go.IntKind renaming i64->ξ
open Go.RowKit.Below renaming heap_setCell->ι,refl->ε,heap_alloc->ZY
open Bool renaming false->ζ
open Ne renaming symm->Z9
open Go.Builtin renaming append_->Z3
open Go.Fence renaming wide->Z2
open Go.Addr renaming add->Z1
namespace Go.Proofs.YtbnmpafbfoaggaaGreatDoor
namespace Kn
open Go Go.RowKit Md
section
variable{l:List (Int×χ)}{n:Nat}{w:υ}{a:Option Addr}{m B:Nat}
def mp(w:υ)(B b:Nat)(cs:List HC)(roots:List HV):Prop:=∃c r aw mw ad md l,B<=b/\w.heap[b]?=Θ (Δ #[c,r,.slice aw 0 mw,.slice ad 0 md] 159 (0,0))/\mw<=9223372036854775807/\md<=9223372036854775807/\
 OC w B c l/\df w B l cs/\OV w B r roots/\∀(i:Nat) p,l[i]?=Θ p->∀g,p.2.ownBlock=Θ g->r.ownBlock≠Θ g
theorem qP(h:m<=9223372036854775807):n9 w (.slice a 0 m) []:=⟨a,m,rfl,Nat.zero_le _,h,fun h0=>absurd h0 (Nat.lt_irrefl 0)⟩
theorem mp.reads{w:υ}{B b:Nat}{cs:List HC}{roots:List HV}(h:mp w B b cs roots):qw w b ⟨cs,roots,[],[]⟩:=by obtain⟨c,r,aw,j,ad,a,l,k,hb,f,d,i,e,g,_⟩:=h;exact⟨c,r,.slice aw 0 j,.slice ad 0 a,by simp[ψ,hb],by simp[ψ,hb],by simp[ψ,hb],by simp[ψ,hb],i.reads e.hold,g.reads,qP f,qP d⟩
theorem mp.below{w w':υ}{B b:Nat}{cs:List HC}{roots:List HV}(h:mp w B b cs roots)(hk:ο w.heap.size w w'):mp w' B b cs roots:=by obtain⟨c,r,aw,m,ad,d,l,j,hb,g,e,k,f,i,a⟩:=h;exact⟨c,r,aw,m,ad,d,l,j,(hk.block b (Ψ.1 hb).1).trans hb,g,e,k.below hk,f.below hk,i.below hk,a⟩
theorem afc{g:Nat}(h:OC w B (Γ (Θ ⟨g,0,Ω⟩) n m) l):∀j u,(l.flatMap dW)[j]?=Θ u->w.cell? ((⟨g,0,Ω⟩:Addr).add j)=Θ u:=by
 intro j u c;have b:0<l.length:=by
  rcases Nat.eq_zero_or_pos l.length with h0|h0
  ·have:l=[]:=List.eq_nil_of_length_eq_zero h0;subst this;simp at c
  ·exact h0
 obtain⟨a,f,e,_,_,d⟩:=aF h;cases e
 obtain⟨i,e,_,_,_,hc⟩:=d b;cases e
 have:=hc j u c;unfold Z1;split
 ·rename_i h0;subst h0;exact this
 ·simpa using this
theorem Dz(h:OC w B (.slice a n m) l):n=l.length/\(a=Ω\/∃g,a=Θ ⟨g,0,Ω⟩):=by
 obtain⟨d,i,e,_,_,f⟩:=aF h;cases e
 refine⟨rfl,?_⟩;rcases h.2 with⟨e,_⟩|⟨g,c,b,e,_⟩
 ·injection e with e1 e2 e3
  exact .inl e1
 ·injection e with e1 e2 e3
  exact .inr ⟨g,e1⟩
theorem tP{ty:η}{bx:Nat}{k:Int}{x:χ}{t:η}{fr:Nat×Nat}(h:OC w B (.slice a n m) l)(hx:w.heap[bx]?=Θ (Δ #[μ ξ k,x] t fr))(h1:x.oneCell'=true)(hl:l.length<=1000000):
 ∃v' w',(Z3 #[22,22] ty #[.slice a n n,Γ (Θ ⟨bx,0,Ω⟩) 1 1]).run aD.prog w=.ok v' w'/\OC w' w.heap.size v' (l++[(k,x)])/\ο w.heap.size w w'/\∃g m',v'=Γ (Θ ⟨g,0,Ω⟩) (l.length+1) m':=by
 obtain⟨z,hi,o,p,f⟩:=info_parts ni;have c:∀j u,(dW (k,x))[j]?=Θ u->w.cell? ((⟨bx,0,Ω⟩:Addr).add j)=Θ u:=by
  intro j u d
  match j,d with
  |0,d=>cases d;simp[ψ,hx,Z1]
  |1,d=>cases d;simp[ψ,hx,Z1]
  |j+2,d=>simp[dW]at d
 have v:∀u∈dW (k,x),u.oneCell'=true:=by
  intro u A;simp[dW]at A;rcases A with rfl|rfl
  ·rfl
  ·exact h1
 have fin:∀v' w',w'.ownsRow w.heap.size 76 2 v' (l.length+1) (l.flatMap dW++dW (k,x)) ->OC w' w.heap.size v' (l++[(k,x)])/\∃g m',v'=Γ (Θ ⟨g,0,Ω⟩) (l.length+1) m':=by
  intro v' w' r1;have q:OC w' w.heap.size v' (l++[(k,x)]):=by unfold OC;rw[List.flatMap_append,List.length_append];simpa using r1
  refine⟨q,?_⟩;obtain⟨g,r,e,_⟩:=r1.form (by omega);exact⟨g,r,e⟩
 obtain⟨rfl,rfl|⟨g,rfl⟩⟩:=Dz h
 ·have i:l=[]:=by
   rcases Nat.eq_zero_or_pos l.length with s|s
   ·exact List.eq_nil_of_length_eq_zero s
   ·obtain⟨_,_,e,_,_,C⟩:=aF h;cases e
    obtain⟨_,e,_⟩:=C s;cases e
  subst i;obtain⟨v',w',b,r1,r2,_⟩:=run_append_own (P:=aD.prog) w w.heap.size 22 ty 76 z _ 2 32 mF hi o p f rfl (by decide) (Γ Ω 0 0) 0 [] (World.ownsRow_nil w _ 76 2) ⟨bx,0,Ω⟩ 1 1 (dW (k,x)) rfl c v (by unfold ZW;omega) (by omega) (Nat.le_refl _);obtain⟨q1,y⟩:=fin v' w' (by simpa using r1);exact⟨v',w',b,q1,(ε _ w).grown r2 (Nat.le_refl _) (fun k e=>by cases e),y⟩
 ·obtain⟨v',w',b,r1,r2⟩:=run_append_arg_grows (P:=aD.prog) w 22 ty 76 z _ 2 32 mF hi o p f rfl (by decide) ⟨g,0,Ω⟩ l.length l.length (l.flatMap dW) (iu l) (afc h) ⟨bx,0,Ω⟩ 1 1 (dW (k,x)) rfl c (by omega) (by unfold ZW;omega) (by omega);obtain⟨q1,y⟩:=fin v' w' r1;exact⟨v',w',b,q1,(ε _ w).grown r2 (Nat.le_refl _) (fun k e=>by cases e),y⟩
theorem zR{g:Nat}{l:List HV}{z:Array χ}(hl:l.length=n)(hB:B<=g)(hw:w.heap[g]?=Θ (.cells (l.flatMap lU++(madeCells z (n*2)).toList.drop (l.flatMap lU).length).toArray 50 (0,0)))(hn:n<=1000000):OV w B (Γ (Θ ⟨g,0,Ω⟩) n n) l:=by subst hl;have a:=fx l;have b:(madeCells z (l.length*2)).toList.drop (l.flatMap lU).length=[]:=List.drop_eq_nil_of_le (by rw[a];have:=jz z (l.length*2);simp at this⊢;omega);rw[b,List.append_nil]at hw;refine⟨a,.inr ⟨g,l.length,_,rfl,hB,hw,Nat.le_refl _,by unfold ZW;omega,by simpa using a,?_⟩⟩;simp only[List.toList_toArray];exact List.take_of_length_le (by rw[a];exact Nat.le_refl _)
theorem aq{b i k:Nat}{v:χ}(h:k≠b):(w.setCell ⟨b,i,Ω⟩ v).heap[k]?=w.heap[k]?:=ι _ _ _ _ h
theorem Oi{w2:υ}{b gg mg:Nat}{cs:List HC}{roots vs:List HV}{k:Int}{c r x:χ}{aw ad:Option Addr}{mw md:Nat}(hBb:B<=b)(hb:w.heap[b]?=Θ (Δ #[c,r,.slice aw 0 mw,.slice ad 0 md] 159 (0,0)))(h1:mw<=9223372036854775807)(h2:md<=9223372036854775807)(h4:df w B l cs)(h5:OV w B r roots)(h6:∀(i:Nat) p,l[i]?=Θ p->∀g,p.2.ownBlock=Θ g->r.ownBlock≠Θ g)(hk:ο w.heap.size w w2)(hoc:OC w2 w.heap.size (Γ (Θ ⟨gg,0,Ω⟩) (l.length+1) mg) (l++[(k,x)]))(hx:OV w2 w.heap.size x vs)(hB:B<=w.heap.size):
 mp (w2.setCell ⟨b,0,Ω⟩ (Γ (Θ ⟨gg,0,Ω⟩) (l.length+1) mg)) B b (cs++[(k,vs)]) roots/\ο B w (w2.setCell ⟨b,0,Ω⟩ (Γ (Θ ⟨gg,0,Ω⟩) (l.length+1) mg)):=by
 have o:=(Ψ.1 hb).1;have j:=(hk.block b o).trans hb;have m:=heap_setCell_same (i:=0) (v:=Γ (Θ ⟨gg,0,Ω⟩) (l.length+1) mg) j;have t:∀g,r.ownBlock=Θ g->g<w.heap.size:=fun g a=>(h5.lt g a).2
 refine⟨⟨Γ (Θ ⟨gg,0,Ω⟩) (l.length+1) mg,r,aw,mw,ad,md,l++[(k,x)],hBb,?_,h1,h2,?_,?_,?_,?_⟩,?_⟩
 ·rw[m];rfl
 ·refine OC.less (aS hoc fun g a=>aq fun e=>?_) hB;subst e;have:=(hoc.lt _ a).1;omega
 ·have f:df w2 B l cs:=h4.below hk;have h:∀{y:χ} {n:List HV} {B0:Nat},OV w2 B0 y n->OV (w2.setCell ⟨b,0,Ω⟩ (Γ (Θ ⟨gg,0,Ω⟩) (l.length+1) mg)) B0 y n:=fun z=>aS z fun g a=>aq fun e=>by subst e;exact cF z j (by decide) a
  have s:df (w2.setCell ⟨b,0,Ω⟩ (Γ (Θ ⟨gg,0,Ω⟩) (l.length+1) mg)) B l cs:=⟨f.1,fun i k y u n e1 e2=>⟨(f.2.1 i k y u n e1 e2).1,h (f.2.1 i k y u n e1 e2).2⟩,f.2.2⟩;refine s.snoc ((h hx).less hB) fun i p hi g a q=>?_
  have d:i<cs.length:=by rw[<-h4.1];exact(List.getElem?_eq_some_iff.1 hi).1
  obtain⟨C,D,e3⟩:=cQ d;have:=((h4.2.1 i p.1 p.2 C D hi e3).2.lt g a).2;have:=(hx.lt g q).1;omega
 ·exact aS (h5.below hk) fun g a=>aq fun e=>by subst e;exact cF h5 hb (by decide) a
 ·intro i p hi g a A;rcases Nat.lt_or_ge i l.length with d|d
  ·rw[List.getElem?_append_left d]at hi;exact h6 i p hi g a A
  ·rw[List.getElem?_append_right d]at hi;have E:p=(k,x):=by
    rcases Nat.eq_zero_or_pos (i-l.length)with h0|h0
    ·rw[h0]at hi;simpa using hi.symm
    ·rw[List.getElem?_eq_none (by simp;omega)]at hi;cases hi
   subst E;have:=(hx.lt g a).1;have:=t g A;omega
 ·exact(hk.mono hB).setCell (p:=⟨b,0,Ω⟩) hBb _
end
section
def d6:χ->Option Nat
 |Γ (Θ a) _ _=>Θ a.block
 |_=>Ω
def OQ(w:υ)(B:Nat)(s:χ)(l:List Int):Prop:=∃a m,s=.slice a l.length m/\l.length<=m/\m<=9223372036854775807/\(a=Ω->m=0)/\
 ∀ad,a=Θ ad->∃g o cur,ad=⟨g,o,Ω⟩/\B<=g/\w.heap[g]?=Θ (.cells cur 3 (0,0))/\o+m<=cur.size/\∀i n,l[i]?=Θ n->cur[o+i]?=Θ (μ ξ n)
theorem OQ.nil(w:υ)(B:Nat):OQ w B (Γ Ω 0 0) []:=⟨Ω,0,rfl,Nat.le_refl _,by decide,fun _=>rfl,fun ad e=>by cases e⟩
theorem OQ.lt{w:υ}{B:Nat}{s:χ}{l:List Int}(h:OQ w B s l){g:Nat}(hg:d6 s=Θ g):B<=g/\g<w.heap.size/\∃cur,w.heap[g]?=Θ (.cells cur 3 (0,0)):=by
 obtain⟨a,m,rfl,_,_,_,b⟩:=h;cases a with
 |none=>cases hg
 |some ad=>
  cases hg
  obtain⟨g,o,cur,rfl,c,hb,_⟩:=b _ rfl;exact⟨c,(Ψ.1 hb).1,cur,hb⟩
theorem OQ.of_block{w w':υ}{B:Nat}{s:χ}{l:List Int}(h:OQ w B s l)(hk:∀g,d6 s=Θ g->w'.heap[g]?=w.heap[g]?):OQ w' B s l:=by obtain⟨a,m,rfl,c,j,d,f⟩:=h;refine⟨a,m,rfl,c,j,d,fun ad e=>?_⟩;subst e;obtain⟨g,o,b,rfl,i,hb,r⟩:=f _ rfl;exact⟨g,o,b,rfl,i,(hk g rfl).trans hb,r⟩
theorem OQ.below{w w':υ}{B:Nat}{s:χ}{l:List Int}(h:OQ w B s l)(hk:ο w.heap.size w w'):OQ w' B s l:=h.of_block fun g a=>hk.block g (h.lt a).2.1
theorem Wi{w:υ}{bx:Nat}{n:Int}{t:η}{fr:Nat×Nat}(hx:w.heap[bx]?=Θ (Δ #[μ ξ n] t fr)):∀j u,([μ ξ n])[j]?=Θ u->w.cell? ((⟨bx,0,Ω⟩:Addr).add j)=Θ u:=by
 intro j u a
 match j,a with
 |0,a=>cases a;simp[ψ,hx,Z1]
 |j+1,a=>simp at a
theorem Wj:∀l:List Int,(l.flatMap eP).length=l.length
 |[]=>rfl
 |a::l=>by rw[List.flatMap_cons,List.length_append,Wj l];simp[eP];omega
theorem wF(w:υ)(b o:Nat)(v:χ):w.setCells b o [v]=w.setCell ⟨b,o,Ω⟩ v:=by rfl
theorem aB{w:υ}{b:Nat}{cur:Array χ}{t:η}{fr:Nat×Nat}(h:w.heap[b]?=Θ (.cells cur t fr))(i:Nat)(v:χ):(w.setCell ⟨b,i,Ω⟩ v).heap[b]?=Θ (.cells (cur.setIfInBounds i v) t fr):=by simp[ZZ,Array.getElem?_modify,h]
theorem wG{w:υ}{ty:η}{B bx:Nat}{s:χ}{l:List Int}{n:Int}{t:η}{fr:Nat×Nat}(h:OQ w B s l)(hx:w.heap[bx]?=Θ (Δ #[μ ξ n] t fr))(hl:l.length<=1000000)(hB:B<=w.heap.size):
 ∃s' w',(Z3 #[24,24] ty #[s,Γ (Θ ⟨bx,0,Ω⟩) 1 1]).run aD.prog w=.ok s' w'/\OQ w' B s' (l++[n])/\w.grownBy w' (d6 s)/\(∀g,d6 s'=Θ g->d6 s=Θ g\/w.heap.size<=g)/\∃a' m',s'=.slice a' (l.length+1) m':=by
 obtain⟨T,hi,D,q,F⟩:=info_parts Dq;obtain⟨a,m,rfl,h2,h3,h4,h5⟩:=h;have d:=Wi hx;have fin:∀f w',w'.ownsRow w.heap.size 3 1 f (l.length+1) (l.flatMap eP++[μ ξ n]) ->OQ w' B f (l++[n])/\(∀g,d6 f=Θ g->w.heap.size<=g)/\∃a' m',f=.slice a' (l.length+1) m':=by
  intro f w' r1;obtain⟨g,O,rfl,hg1,hg2⟩:=r1.form (by omega);rcases r1.2 with⟨e,_⟩|⟨g',Y,G,e,r,hb,W,R,A,M⟩
  ·cases e
  ·injection e with e1 e2 e3
   injection e1 with e1
   injection e1 with e1 _ _
   subst e1;subst e3;refine⟨⟨Θ ⟨g,0,Ω⟩,O,by simp,by simpa using W,by unfold ZW at R;omega,⟨fun e=>(by cases e),fun ad e=>?_⟩⟩,fun g0 e=>(by cases e;exact r),_,_,rfl⟩;cases e
   refine⟨g,0,G,rfl,Nat.le_trans hB r,hb,by rw[Nat.zero_add,A,Nat.mul_one];exact Nat.le_refl _,fun i x c=>?_⟩;have v:(l.flatMap eP++[μ ξ n]).length=l.length+1:=by rw[List.length_append,Wj];rfl
   have y:(l.flatMap eP++[μ ξ n])[i]?=Θ (μ ξ x):=by have:=zn eP (fun n=>μ ξ n) (fun _=>rfl) (l++[n]) i x c;rw[List.flatMap_append]at this;simpa[eP]using this
   rw[<-M]at y;rw[List.getElem?_take]at y;split at y
   ·rw[Nat.zero_add];simpa using y
   ·cases y
 cases a with
 |none=>have Q:=h4 rfl;subst Q;have H:l=[]:=List.eq_nil_of_length_eq_zero (by omega);subst H;obtain⟨f,w',b,r1,r2,_⟩:=run_append_own (P:=aD.prog) w w.heap.size 24 ty 3 T _ 1 8 se hi D q F rfl (by decide) (Γ Ω 0 0) 0 [] (World.ownsRow_nil w _ 3 1) ⟨bx,0,Ω⟩ 1 1 [μ ξ n] rfl d (by simp[Value.oneCell']) (by unfold ZW;omega) (by omega) (Nat.le_refl _);obtain⟨q1,X,S⟩:=fin f w' (by simpa using r1);exact⟨f,w',b,q1,r2,fun g K=>.inr (X g K),S⟩
 |some ad=>
  obtain⟨g,o,G,rfl,r,hb,A,E⟩:=h5 _ rfl;have K:=(Ψ.1 hb).1;by_cases p:l.length+1<=m
  ·have b:=run_append_room_cells (P:=aD.prog) w 24 ty 3 T se hi g o l.length m ⟨bx,0,Ω⟩ 1 1 [μ ξ n] (by rw[q];rfl) d (by simp[Value.oneCell']) p
    (fun j C=>by rw[q];simp at C;subst C;simp[ψ,hb];omega)
    (fun j C=>by simp[θ,hb])
   rw[q,Nat.mul_one,wF]at b;have J:=aB hb (o+l.length) (μ ξ n);refine⟨_,_,b,⟨Θ ⟨g,o,Ω⟩,m,by simp,by simpa using p,h3,⟨fun e=>(by cases e),fun ad e=>?_⟩⟩,⟨rfl,rfl,rfl,by simp[ZZ],fun k Z L=>ι _ _ _ _ (fun e=>L (by rw[e];rfl))⟩,fun g0 U=>.inl U,_,_,rfl⟩;cases e
   refine⟨g,o,_,rfl,r,J,by simpa using A,fun i x c=>?_⟩;rcases Nat.lt_or_ge i l.length with I|I
   ·rw[List.getElem?_append_left I]at c;rw[Array.getElem?_setIfInBounds_ne (by omega)];exact E i x c
   ·have V:i=l.length:=by have:=(List.getElem?_eq_some_iff.1 c).1;simp at this;omega
    subst V;simp at c;subst c;rw[Array.getElem?_setIfInBounds_self_of_lt (by omega)]
  ·have v:(l.flatMap eP).length=l.length*1:=by rw[Wj,Nat.mul_one]
   have z:∀j u,(l.flatMap eP)[j]?=Θ u->w.cell? ((⟨g,o,Ω⟩:Addr).add j)=Θ u:=by
    intro j u C;have N:j<l.length:=by have:=(List.getElem?_eq_some_iff.1 C).1;omega
    obtain⟨x,hx⟩:=lw N;have y:=zn eP (fun n=>μ ξ n) (fun _=>rfl) l j x hx;rw[y]at C;cases C
    have:=E j x hx;unfold Z1;split
    ·rename_i h0;subst h0;simpa[ψ,hb]using this
    ·simpa[ψ,hb]using this
   obtain⟨f,w',b,r1,r2⟩:=run_append_arg_grows (P:=aD.prog) w 24 ty 3 T _ 1 8 se hi D q F rfl (by decide) ⟨g,o,Ω⟩ l.length m (l.flatMap eP) v z ⟨bx,0,Ω⟩ 1 1 [μ ξ n] rfl d (by omega) (by unfold ZW;omega) (by omega);obtain⟨q1,X,S⟩:=fin f w' r1;exact⟨f,w',b,q1,⟨r2.os,r2.tape,r2.output,r2.size,fun k Z _=>r2.block k Z (by simp)⟩,fun g K=>.inr (X g K),S⟩
theorem ow{P:Program}{w:υ}{ops:Array Oper}{rest:List Oper}{o:Oper}{a:Act}{Q:Exit->Act->υ->Prop}(hgd:o.guard=Ω)(s x:Operand)(t:η)
 (ho:o.op=.call {callee:=.builtin .append,args:=#[s,x],argTypes:=#[t,t]}) (v v2:χ) (hs:a.eval s=v) (hx:a.eval x=v2) (R:χ->υ->Prop)
 (hrun:∃v' w',(Z3 #[t,t] o.type #[v,v2]).run P w=.ok v' w'/\R v' w') (h:∀v' w',R v' w'->wpList P ops Q rest (a.put o.dst v') w'):wpList P ops Q (o::rest) a w:=by
 refine wpList_plain hgd fun K b=>?_
 obtain⟨v',w',d,c⟩:=hrun;unfold Oper.wp execOp;simp only[ho,resolve,invoke,builtin,Sem.run_bind,Sem.run_pure,Result.andThen_ok,List.map_toArray,List.map_cons,List.map_nil,hs,hx,d];exact b _ _ (h v' w' c)
def zS(w:υ)(B bq:Nat)(s:χ)(l:List Int):Prop:=w.heap[bq]?=Θ (Δ #[s] 305 (0,0))/\OQ w B s l
structure ox(w w':υ)(bq bm:Nat)(s s':χ):Prop where
 os:w'.os=w.os
 tape:w'.tape=w.tape
 output:w'.output=w.output
 size:w.heap.size<=w'.heap.size
 block:∀k,k<w.heap.size->k≠bq->k≠bm->d6 s≠Θ k->w'.heap[k]?=w.heap[k]?
 own:∀k,d6 s'=Θ k->d6 s=Θ k\/w.heap.size<=k
theorem ox.bK{w w':υ}{bq bm:Nat}{s:χ}(h:ο w.heap.size w w'):ox w w' bq bm s s:=⟨h.os,h.tape,h.output,h.size,fun k a _ _ _=>h.block k a,fun k e=>.inl e⟩
theorem ox.trans{w w' w'':υ}{bq bm:Nat}{s s' s'':χ}(h:ox w w' bq bm s s')(k:ox w' w'' bq bm s' s''):ox w w'' bq bm s s'':=
 ⟨k.os.trans h.os,k.tape.trans h.tape,k.output.trans h.output,Nat.le_trans h.size k.size,
   fun i hi a b c=>(k.block i (Nat.lt_of_lt_of_le hi h.size) a b (fun e=>by rcases h.own i e with e|e;exact c e;omega)).trans (h.block i hi a b c),
   fun i e=>by
    rcases k.own i e with e|e
    ·exact h.own i e
    ·exact .inr (Nat.le_trans h.size e)⟩
theorem ox.below{w w':υ}{B bq bm:Nat}{s s':χ}{l:List Int}(h:ox w w' bq bm s s')(hq:OQ w B s l)(h1:B<=bq)(h2:B<=bm)(hB:B<=w.heap.size):ο B w w':=⟨h.os,h.tape,h.output,h.size,fun k a=>h.block k (by omega) (by omega) (by omega) (fun e=>by have:=(hq.lt e).1;omega)⟩
theorem zS.ne{w:υ}{B bq:Nat}{s:χ}{cs:Array χ}{l:List Int}(hb:w.heap[bq]?=Θ (.cells cs 305 (0,0)))(hq:OQ w B s l):d6 s≠Θ bq:=fun e=>by obtain⟨_,_,a,hc⟩:=hq.lt e;rw[hb]at hc;cases hc
section
variable{w w1:υ}{B bq n0:Nat}{s s':χ}{l l':List Int}{o:Obj}
theorem pr(hb:w.heap[bq]?=Θ (Δ #[s] 305 (0,0)))(hq:OQ w B s l)(hg:(w.alloc o).grownBy w1 (d6 s)):w1.heap[bq]?=Θ (Δ #[s] 305 (0,0)):=by have a:=(Ψ.1 hb).1;rw[hg.block bq (by simp;omega) (Z9 (zS.ne hb hq)),ZY w o bq a];exact hb
theorem I4(hb:w.heap[bq]?=Θ (Δ #[s] 305 (0,0)))(hq:OQ w B s l)(hg:(w.alloc o).grownBy w1 (d6 s)):w1.cell? ⟨bq,0,Ω⟩=Θ s:=by simp[ψ,pr hb hq hg]
theorem BO(hb:w.heap[bq]?=Θ (Δ #[s] 305 (0,0)))(hq:OQ w B s l)(hg:(w.alloc o).grownBy w1 (d6 s)):w1.frozen? ⟨bq,0,Ω⟩=ζ:=by simp[θ,pr hb hq hg]
theorem Oj{bm:Nat}(hb:w.heap[bq]?=Θ (Δ #[s] 305 (0,0)))(hq:OQ w B s l)(ho:OQ w1 B s' l')(hg:(w.alloc o).grownBy w1 (d6 s))(hn:∀g,d6 s'=Θ g->d6 s=Θ g\/(w.alloc o).heap.size<=g):
 ∃s'',zS (w1.setCell ⟨bq,0,Ω⟩ s') B bq s'' l'/\ox w (w1.setCell ⟨bq,0,Ω⟩ s') bq bm s s'':=by
 have a:=pr hb hq hg;have f:=(Ψ.1 hb).1;have b:w.heap.size<=w1.heap.size:=by have:=hg.size;simp at this;omega
 refine⟨s',⟨?_,ho.of_block fun g e=>ι _ _ _ _ fun e2=>?_⟩,⟨hg.os,hg.tape,hg.output,by simpa[ZZ]using b,fun k d c j i=>?_,fun k e=>?_⟩⟩
 ·rw[aB a];rfl
 ·subst e2;exact zS.ne a ho e
 ·rw[ι _ _ _ _ c,hg.block k (by simp;omega) (Z9 i),ZY w o k d]
 ·rcases hn k e with h|h
  ·exact .inl h
  ·right;simp at h;omega
end
theorem afd(w:υ)(B bq bm:Nat)(s:χ)(l:List Int)(n:Int)(h:zS w B bq s l)(hB:B<=w.heap.size)(hl:l.length<=1000000):
 ZX aD.prog 258 #[κ (Θ ⟨bq,0,Ω⟩),μ ξ n] w fun e w'=>e=.returned (.tuple #[])/\∃s',zS w' B bq s' (l++[n])/\ox w w' bq bm s s':=by
 obtain⟨hb,f⟩:=h;have g:=(Ψ.1 hb).1;have b:=Ξ f;obtain⟨a,m,rfl,t,x,j,o⟩:=f;have c0:w.cell? ⟨bq,0,Ω⟩=Θ (.slice a l.length m):=by simp[ψ,hb]
 have c:=Ξ hb;clear o j hb
 go_enter aD.func258,Tryz.ntmps258
 go_wp2_with (at_builtin;refine ow rfl _ _ 24 rfl (.slice a l.length m) (Γ (Θ ⟨w.heap.size,0,Ω⟩) 1 1) rfl rfl _ (wG (b.out.below (af w _)) (ω w _) hl (by simp;omega)) ?_;rintro r p ⟨i,d,k,u,y,rfl⟩;have v:=I4 c.out b.out d;have q:=BO c.out b.out d)
 go_end0;exact⟨rfl,Oj c.out b.out i d k⟩
end
section
def sK(w:υ)(B bo:Nat)(t:η)(rest:List χ)(cs:List HC):Prop:=∃sc l,B<=bo/\w.heap[bo]?=Θ (.cells (sc::rest).toArray t (0,0))/\OC w B sc l/\df w B l cs
theorem fy{w w':υ}{B B2:Nat}{e e2:η}{size size2 n n2:Nat}{v s:χ}{xs xs2:List χ}(h:w.ownsRow B e size v n xs)(hs:w.ownsRow B2 e2 size2 s n2 xs2)(ht:e≠e2)(hg:w.grownBy w' s.ownBlock):w'.ownsRow B e size v n xs:=
 aS h fun g a=>hg.block g (h.lt g a).2 fun c=>by
  rcases h.2 with⟨e1,_⟩|⟨l,i,k,e1,_,d,_⟩
  ·rw[e1]at a;cases a
  ·rw[e1]at a;cases a;rcases hs.2 with⟨e3,_⟩|⟨m,j,f,e3,_,b,_⟩
   ·rw[e3]at c;cases c
   ·rw[e3]at c;cases c;rw[d]at b;injection b with b
    injection b with _ h4 _
    exact ht h4
theorem bp{w w':υ}{B b:Nat}{e:η}{size n:Nat}{v:χ}{xs:List χ}{c:Array χ}{t:η}{fr:Nat×Nat}(h:w.ownsRow B e size v n xs)(hb:w.heap[b]?=Θ (.cells c t fr))(ht:t≠e)(hk:∀k,k≠b->w'.heap[k]?=w.heap[k]?):w'.ownsRow B e size v n xs:=aS h fun g a=>hk g fun d=>by subst d;exact cF h hb ht a
section
variable{w w1 w2 w3:υ}{B bo:Nat}{t:η}{rest:List χ}{cs:List HC}
theorem sK.below(h:sK w B bo t rest cs)(hk:ο w.heap.size w w1):sK w1 B bo t rest cs:=by obtain⟨c,l,d,hb,a,b⟩:=h;exact⟨c,l,d,(hk.block bo (Ψ.1 hb).1).trans hb,a.below hk,b.below hk⟩
theorem Ok{sc s':χ}{l:List (Int×χ)}{k:Int}{x:χ}{vs:List HV}(hB:B<=bo)(hb:w.heap[bo]?=Θ (.cells (sc::rest).toArray t (0,0)))(h1:OC w B sc l)(h2:df w B l cs)(hBw:B<=w.heap.size)(ht:t≠76/\t≠50)
 (hk:ο w.heap.size w w2) (hx:OV w2 w.heap.size x vs) (hg:w2.grownBy w3 sc.ownBlock) (ho:OC w3 B s' (l++[(k,x)])):
 sK (w3.setCell ⟨bo,0,Ω⟩ s') B bo t rest (cs++[(k,vs)])/\ο B w (w3.setCell ⟨bo,0,Ω⟩ s'):=by
 have c:OC w2 B sc l:=h1.below hk;have b:=h2.below hk;have a:=(hk.block bo (Ψ.1 hb).1).trans hb;have f:=(hg.block bo (Ψ.1 a).1 (fun e=>by
  rcases c.2 with⟨e1,_⟩|⟨A,u,v,e1,_,r,_⟩
  ·rw[e1]at e;cases e
  ·rw[e1]at e;cases e;rw[r]at a;injection a with a
   injection a with _ h4 _
   exact ht.1 h4.symm)).trans a
 have n:OV w3 w.heap.size x vs:=fy hx c (by decide) hg;have d:df w3 B l cs:=⟨b.1,fun i k x m vs e1 e2=>⟨(b.2.1 i k x m vs e1 e2).1,fy (b.2.1 i k x m vs e1 e2).2 c (by decide) hg⟩,b.2.2⟩;have j:∀k,k≠bo->(w3.setCell ⟨bo,0,Ω⟩ s').heap[k]?=w3.heap[k]?:=fun k h=>aq h
 refine⟨⟨s',l++[(k,x)],hB,?_,bp ho f ht.1 j,?_⟩,?_⟩
 ·rw[aB f];simp
 ·have s:df (w3.setCell ⟨bo,0,Ω⟩ s') B l cs:=⟨d.1,fun i k x m vs e1 e2=>⟨(d.2.1 i k x m vs e1 e2).1,bp (d.2.1 i k x m vs e1 e2).2 f ht.2 j⟩,d.2.2⟩;refine s.snoc (OV.less (bp n f ht.2 j) hBw) fun i p hi g hg o=>?_
  have q:i<cs.length:=by rw[<-h2.1];exact(List.getElem?_eq_some_iff.1 hi).1
  obtain⟨y,z,e3⟩:=cQ q;have:=((h2.2.1 i p.1 p.2 y z hi e3).2.lt g hg).2;have:=(hx.lt g o).1;omega
 ·refine((hk.mono hBw).grown hg (Nat.le_trans hBw hk.size) fun k e=>?_).setCell (p:=⟨bo,0,Ω⟩) hB _;exact(c.lt k e).1
end
end
section
variable{r d:χ}{b:Nat}{ln:List (Int×χ)}{wi:χ}{cs:List HC}{w':υ}{l:List (Int×χ)}{S0:Nat}{lo:List (Int×χ)}{w:υ}{B:Nat}
theorem I5{g:GH}{n o m:χ}(hB:B<=b)(hb:w.heap[b]?=Θ (Δ #[n,o,r,wi,d,m] 114 (0,0)))(hn:OC w B n ln)(en:df w B ln g.new)(ho:OC w B o lo)(eo:df w B lo g.old)(hr:OV w B r g.roots)(hw:OV w B wi g.aA)(hd:OV w B d g.done)(hm:OI w B m g.marked)(a34:∀p∈ln,∀q∈lo,Apart p.2 q.2)(a3:∀p∈ln,Apart p.2 r/\Apart p.2 wi/\Apart p.2 d)(a4:∀p∈lo,Apart p.2 r/\Apart p.2 wi/\Apart p.2 d)(b1:Apart r wi)(b2:Apart r d)(b3:Apart wi d):dm w B b g:=by
 have c3:cellsOf (dp ln lo r wi d) 3 g.new=ln:=by simpa using iY (ln:=ln) (lo:=lo) (r:=r) (wi:=wi) (d:=d) (kind:=3) (.inl rfl) (by simpa using en)
 have K:cellsOf (dp ln lo r wi d) 4 g.old=lo:=by simpa using iY (ln:=ln) (lo:=lo) (r:=r) (wi:=wi) (d:=d) (kind:=4) (.inr rfl) (by simpa using eo)
 have l:∀i:Nat,i<g.new.length->∃p c,ln[i]?=Θ p/\g.new[i]?=Θ c/\dp ln lo r wi d (3,(i:Int))=p.2:=by intro i hi;obtain⟨p,q,e⟩:=cQ hi;have:=bH (row:=dp ln lo r wi d) (kind:=3) e;rw[c3]at this;exact⟨_,_,this,e,rfl⟩
 have f:∀i:Nat,i<g.old.length->∃p c,lo[i]?=Θ p/\g.old[i]?=Θ c/\dp ln lo r wi d (4,(i:Int))=p.2:=by intro i hi;obtain⟨p,q,e⟩:=cQ hi;have:=bH (row:=dp ln lo r wi d) (kind:=4) e;rw[K]at this;exact⟨_,_,this,e,rfl⟩
 have s:∀k,IsKey g k->(∃i:Nat,i<g.new.length/\k=(3,(i:Int)))\/(∃i:Nat,i<g.old.length/\k=(4,(i:Int)))\/k=(0,0)\/k=(0,1)\/k=(0,2):=by
  rintro⟨a,c⟩ (⟨v,C,E⟩|⟨v,C,E⟩|⟨v,C,E⟩)
  ·dsimp only at v C E;subst v;have:c=0\/c=1\/c=2:=by omega
   rcases this with rfl|rfl|rfl<;>simp
  ·dsimp only at v C E;subst v;exact .inl ⟨c.toNat,by omega,by simp;omega⟩
  ·dsimp only at v C E;subst v;exact .inr (.inl ⟨c.toNat,by omega,by simp;omega⟩)
 refine⟨n,o,m,dp ln lo r wi d,hB,hb,by rw[c3];exact hn.rc,by rw[K];exact ho.rc,hm,fun k H=>?_,fun k L H G u=>?_⟩
 ·rcases s k H with⟨i,hi,rfl⟩|⟨i,hi,rfl⟩|rfl|rfl|rfl
  ·obtain⟨p,c,e1,e2,e3⟩:=l i hi;rw[e3,(oi e2).2];exact(en.2.1 i p.1 p.2 c.1 c.2 e1 e2).2
  ·obtain⟨p,c,e1,e2,e3⟩:=f i hi;rw[e3,(j6 e2).2];exact(eo.2.1 i p.1 p.2 c.1 c.2 e1 e2).2
  ·exact hr
  ·exact hw
  ·exact hd
 ·have z:∀i:Nat,i<g.new.length->Apart (dp ln lo r wi d (3,(i:Int))) r/\Apart (dp ln lo r wi d (3,(i:Int))) wi/\Apart (dp ln lo r wi d (3,(i:Int))) d:=fun i hi=>by obtain⟨p,c,e1,e2,e3⟩:=l i hi;rw[e3];exact a3 p (List.mem_of_getElem? e1)
  have A:∀i:Nat,i<g.old.length->Apart (dp ln lo r wi d (4,(i:Int))) r/\Apart (dp ln lo r wi d (4,(i:Int))) wi/\Apart (dp ln lo r wi d (4,(i:Int))) d:=fun i hi=>by obtain⟨p,c,e1,e2,e3⟩:=f i hi;rw[e3];exact a4 p (List.mem_of_getElem? e1)
  have D:∀i j:Nat,i<g.new.length->j<g.old.length->Apart (dp ln lo r wi d (3,(i:Int))) (dp ln lo r wi d (4,(j:Int))):=fun i j hi t=>by obtain⟨p,c,e1,e2,e3⟩:=l i hi;obtain⟨y,I,x,J,F⟩:=f j t;rw[e3,F];exact a34 p (List.mem_of_getElem? e1) y (List.mem_of_getElem? x)
  rcases s k H with⟨i,hi,rfl⟩|⟨i,hi,rfl⟩|rfl|rfl|rfl<;>rcases s L G with⟨j,t,rfl⟩|⟨j,t,rfl⟩|rfl|rfl|rfl
  ·obtain⟨p,c,e1,e2,e3⟩:=l i hi;obtain⟨y,I,x,J,F⟩:=l j t;rw[e3,F];rcases Nat.lt_trichotomy i j with h|h|h
   ·exact en.2.2 i j p y h e1 x
   ·subst h;exact absurd rfl u
   ·exact Apart.symm (en.2.2 j i y p h x e1)
  ·exact D i j hi t
  ·exact(z i hi).1
  ·exact(z i hi).2.1
  ·exact(z i hi).2.2
  ·exact(D j i t hi).symm
  ·obtain⟨p,c,e1,e2,e3⟩:=f i hi;obtain⟨y,I,x,J,F⟩:=f j t;rw[e3,F];rcases Nat.lt_trichotomy i j with h|h|h
   ·exact eo.2.2 i j p y h e1 x
   ·subst h;exact absurd rfl u
   ·exact Apart.symm (eo.2.2 j i y p h x e1)
  ·exact(A i hi).1
  ·exact(A i hi).2.1
  ·exact(A i hi).2.2
  ·exact(z j t).1.symm
  ·exact(A j t).1.symm
  ·exact absurd rfl u
  ·exact b1
  ·exact b2
  ·exact(z j t).2.1.symm
  ·exact(A j t).2.1.symm
  ·exact b1.symm
  ·exact absurd rfl u
  ·exact b3
  ·exact(z j t).2.2.symm
  ·exact(A j t).2.2.symm
  ·exact b2.symm
  ·exact b3.symm
  ·exact absurd rfl u
theorem eJ{e:η}{size n:Nat}{v:χ}{xs:List χ}{c:Array χ}{t:η}{fr:Nat×Nat}(h:w.ownsRow B e size v n xs)(hb:w.heap[b]?=Θ (.cells c t fr))(ht:t≠e):v.ownBlock≠Θ b:=fun a=>by
 rcases h.2 with⟨e1,_⟩|⟨i,f,g,e1,_,d,_⟩
 ·rw[e1]at a;cases a
 ·rw[e1]at a;cases a;rw[d]at hb;injection hb with hb
  injection hb with _ h4 _
  exact ht h4.symm
def Ol(w:υ)(B b S0:Nat)(r wi d:χ)(news bw:List HC):Prop:=∃sn so ln lo,B<=b/\w.heap[b]?=Θ (Δ #[sn,so,r,wi,d,Γ Ω 0 0] 114 (0,0))/\OC w B sn ln/\df w S0 ln news/\OC w B so lo/\df w S0 lo bw/\Apart sn so/\∀p∈ln,∀q∈lo,Apart p.2 q.2
theorem uW{e:η}{size n:Nat}{v s:χ}{xs:List χ}(h:w.ownsRow B e size v n xs)(ha:Apart v s)(hg:w.grownBy w' s.ownBlock):w'.ownsRow B e size v n xs:=aS h fun g a=>hg.block g (h.lt g a).2 fun b=>ha g a b.symm
theorem kj{l2:List (Int×χ)}{s:χ}(h:df w S0 l cs)(hs:OC w B s l2)(hg:w.grownBy w' s.ownBlock):df w' S0 l cs:=⟨h.1,fun i k x a b e1 e2=>⟨(h.2.1 i k x a b e1 e2).1,fy (h.2.1 i k x a b e1 e2).2 hs (by decide) hg⟩,h.2.2⟩
theorem lA{c:Array χ}{t:η}{fr:Nat×Nat}(h:df w S0 l cs)(hb:w.heap[b]?=Θ (.cells c t fr))(ht:t≠50)(hk:∀k,k≠b->w'.heap[k]?=w.heap[k]?):df w' S0 l cs:=⟨h.1,fun i k x a d e1 e2=>⟨(h.2.1 i k x a d e1 e2).1,bp (h.2.1 i k x a d e1 e2).2 hb ht hk⟩,h.2.2⟩
theorem lY(h:df w S0 l cs){p:Int×χ}(hp:p∈l){g:Nat}(hg:p.2.ownBlock=Θ g):S0<=g/\g<w.heap.size:=by
 obtain⟨i,hi⟩:=List.mem_iff_getElem?.1 hp;have a:i<cs.length:=by rw[<-h.1];exact(List.getElem?_eq_some_iff.1 hi).1
 obtain⟨b,c,e3⟩:=cQ a;exact(h.2.1 i p.1 p.2 b c hi e3).2.lt g hg
theorem I6{w2 w3:υ}{sn so s':χ}{news bw:List HC}{k:Int}{x:χ}{vs:List HV}(hB:B<=b)(hb:w.heap[b]?=Θ (Δ #[sn,so,r,wi,d,Γ Ω 0 0] 114 (0,0)))(h1:OC w B sn ln)(h2:df w S0 ln news)(h3:OC w B so lo)(h4:df w S0 lo bw)(h5:Apart sn so)(h6:∀p∈ln,∀q∈lo,Apart p.2 q.2)(hBw:B<=w.heap.size)(hS:S0<=w.heap.size)(hk:ο w.heap.size w w2)(hx:OV w2 w.heap.size x vs)(hg:w2.grownBy w3 sn.ownBlock)(ho:OC w3 B s' (ln++[(k,x)]))(hn:s'.ownBlock=sn.ownBlock\/∀g,s'.ownBlock=Θ g->w2.heap.size<=g):
 Ol (w3.setCell ⟨b,0,Ω⟩ s') B b S0 r wi d (news++[(k,vs)]) bw/\ο B w (w3.setCell ⟨b,0,Ω⟩ s'):=by
 have f:=h1.below hk;have n:=h3.below hk;have j:=(hk.block b (Ψ.1 hb).1).trans hb;have a:=(hg.block b (Ψ.1 j).1 (fun e=>by have:=eJ f j (by decide);exact this e.symm)).trans j
 have c:∀k,k≠b->(w3.setCell ⟨b,0,Ω⟩ s').heap[k]?=w3.heap[k]?:=fun k h=>aq h
 have o:OV w3 w.heap.size x vs:=fy hx f (by decide) hg;refine⟨⟨s',so,ln++[(k,x)],lo,hB,?_,bp ho a (by decide) c,?_,bp (uW n h5.symm hg) a (by decide) c,lA (kj (h4.below hk) f hg) a (by decide) c,?_,?_⟩,?_⟩
 ·rw[aB a];simp
 ·refine(lA (kj (h2.below hk) f hg) a (by decide) c).snoc (OV.less (bp o a (by decide) c) hS) fun i p hi g s m=>?_
  have:=(lY h2 (List.mem_of_getElem? hi) s).2;have:=(hx.lt g m).1;omega
 ·intro g e1 e2;rcases hn with hn|hn
  ·rw[hn]at e1;exact h5 g e1 e2
  ·have:=hn g e1;have:=(n.lt g e2).2;omega
 ·intro p l q t;rcases List.mem_append.1 l with l|l
  ·exact h6 p l q t
  ·simp at l;subst l;intro g e1 e2;have:=(hx.lt g e1).1;have:=(lY h4 t e2).2;omega
 ·exact((hk.mono hBw).grown hg (Nat.le_trans hBw hk.size) fun k e=>(f.lt k e).1).setCell (p:=⟨b,0,Ω⟩) hB _
theorem I7{w2 w3:υ}{sn so s':χ}{news bw:List HC}{k:Int}{x:χ}{vs:List HV}(hB:B<=b)(hb:w.heap[b]?=Θ (Δ #[sn,so,r,wi,d,Γ Ω 0 0] 114 (0,0)))(h1:OC w B sn ln)(h2:df w S0 ln news)(h3:OC w B so lo)(h4:df w S0 lo bw)(h5:Apart sn so)(h6:∀p∈ln,∀q∈lo,Apart p.2 q.2)(hBw:B<=w.heap.size)(hS:S0<=w.heap.size)(hk:ο w.heap.size w w2)(hx:OV w2 w.heap.size x vs)(hg:w2.grownBy w3 so.ownBlock)(ho:OC w3 B s' (lo++[(k,x)]))(hn:s'.ownBlock=so.ownBlock\/∀g,s'.ownBlock=Θ g->w2.heap.size<=g):
 Ol (w3.setCell ⟨b,1,Ω⟩ s') B b S0 r wi d news (bw++[(k,vs)])/\ο B w (w3.setCell ⟨b,1,Ω⟩ s'):=by
 have n:=h1.below hk;have f:=h3.below hk;have j:=(hk.block b (Ψ.1 hb).1).trans hb;have a:=(hg.block b (Ψ.1 j).1 (fun e=>by have:=eJ f j (by decide);exact this e.symm)).trans j
 have c:∀k,k≠b->(w3.setCell ⟨b,1,Ω⟩ s').heap[k]?=w3.heap[k]?:=fun k h=>aq h
 have o:OV w3 w.heap.size x vs:=fy hx f (by decide) hg;refine⟨⟨sn,s',ln,lo++[(k,x)],hB,?_,bp (uW n h5 hg) a (by decide) c,lA (kj (h2.below hk) f hg) a (by decide) c,bp ho a (by decide) c,?_,?_,?_⟩,?_⟩
 ·rw[aB a];simp
 ·refine(lA (kj (h4.below hk) f hg) a (by decide) c).snoc (OV.less (bp o a (by decide) c) hS) fun i p hi g s m=>?_
  have:=(lY h4 (List.mem_of_getElem? hi) s).2;have:=(hx.lt g m).1;omega
 ·intro g e1 e2;rcases hn with hn|hn
  ·rw[hn]at e2;exact h5 g e1 e2
  ·have:=hn g e2;have:=(n.lt g e1).2;omega
 ·intro p t q l;rcases List.mem_append.1 l with l|l
  ·exact h6 p t q l
  ·simp at l;subst l;intro g e1 e2;have:=(hx.lt g e2).1;have:=(lY h2 t e1).2;omega
 ·exact((hk.mono hBw).grown hg (Nat.le_trans hBw hk.size) fun k e=>(f.lt k e).1).setCell (p:=⟨b,1,Ω⟩) hB _
end
section
variable{k:Nat}{t:η}{w:υ}
theorem eW{ty:η}{B bx:Nat}{s:χ}{l:List (Int×χ)}{k:Int}{x:χ}{fr:Nat×Nat}(h:OC w B s l)(hx:w.heap[bx]?=Θ (Δ #[μ ξ k,x] t fr))(h1:x.oneCell'=true)(hl:l.length<=1000000)(hB:B<=w.heap.size):
 ∃v' w',(Z3 #[22,22] ty #[s,Γ (Θ ⟨bx,0,Ω⟩) 1 1]).run aD.prog w=.ok v' w'/\(OC w' B v' (l++[(k,x)])/\w.grownBy w' s.ownBlock/\(v'.ownBlock=s.ownBlock\/∀g,v'.ownBlock=Θ g->w.heap.size<=g)/\∃g m,v'=Γ (Θ ⟨g,0,Ω⟩) (l.length+1) m):=by
 obtain⟨q,hi,d,i,c⟩:=info_parts ni;have a:∀j u,(dW (k,x))[j]?=Θ u->w.cell? ((⟨bx,0,Ω⟩:Addr).add j)=Θ u:=by
  intro j u b
  match j,b with
  |0,b=>cases b;simp[ψ,hx,Z1]
  |1,b=>cases b;simp[ψ,hx,Z1]
  |j+2,b=>simp[dW]at b
 have n:∀u∈dW (k,x),u.oneCell'=true:=by
  intro u o;simp[dW]at o;rcases o with rfl|rfl
  ·rfl
  ·exact h1
 obtain⟨v',w',r,r1,r2,_,r4⟩:=run_append_own_at (P:=aD.prog) w B 22 ty 76 q _ 2 32 mF hi d i c rfl (by decide) s l.length (l.flatMap dW) h ⟨bx,0,Ω⟩ 1 1 (dW (k,x)) rfl a n (by unfold ZW;omega) (by omega) hB;refine⟨v',w',r,?_,r2,?_,?_⟩
 ·unfold OC;rw[List.flatMap_append,List.length_append];simpa using r1
 ·rcases r4 with e|e
  ·exact .inl e
  ·right;intro g p;rw[e]at p;cases p
   exact Nat.le_refl _
 ·obtain⟨g,f,e,_⟩:=r1.form (by omega);exact⟨g,f,e⟩
theorem I8{cs:List HC}{bw:Nat}{c:HC}(h:cs[k]?=Θ c)(hk:k<bw):(cs.take (k+1)).take bw=(cs.take k).take bw++[c]/\(cs.take (k+1)).drop bw=(cs.take k).drop bw:=by
 rw[bW h];refine⟨?_,?_⟩
 ·have a:(cs.take k++[c]).length<=bw:=by simp;omega
  have b:(cs.take k).length<=bw:=by simp;omega
  rw[List.take_of_length_le a,List.take_of_length_le b]
 ·have a:(cs.take k++[c]).length<=bw:=by simp;omega
  have b:(cs.take k).length<=bw:=by simp;omega
  rw[List.drop_eq_nil_of_le a,List.drop_eq_nil_of_le b]
theorem I9{cs:List HC}{bw:Nat}{c:HC}(h:cs[k]?=Θ c)(hk:bw<=k):(cs.take (k+1)).take bw=(cs.take k).take bw/\(cs.take (k+1)).drop bw=(cs.take k).drop bw++[c]:=by
 have a:=(List.getElem?_eq_some_iff.1 h).1;rw[bW h];refine⟨?_,?_⟩
 ·rw[List.take_append_of_le_length (by simp;omega)]
 ·rw[List.drop_append_of_le_length (by simp;omega)]
theorem DA{cur:Array χ}{a b:χ}(h:w.heap[k]?=Θ (.cells cur t (0,0)))(hc:cur=#[a,b]:=by rfl):w.cell? ⟨k,0,Ω⟩=Θ a/\w.cell? ⟨k,1,Ω⟩=Θ b/\w.frozen? ⟨k,0,Ω⟩=ζ/\w.frozen? ⟨k,1,Ω⟩=ζ:=by subst hc;simp[ψ,θ,h]
theorem cr{g i j:Nat}{u v:χ}(h:k≠g):((w.setCell ⟨g,i,Ω⟩ u).setCell ⟨g,j,Ω⟩ v).heap[k]?=w.heap[k]?:=by rw[ι _ _ _ _ h,ι _ _ _ _ h]
theorem zT{o:Obj}(h:w.heap[k]?=Θ o):k<w.heap.size:=(Ψ.1 h).1
theorem Om{a b:χ}(h:w.heap[k]?=Θ (Δ #[a,b] t (0,0))):w.cell? ⟨k,0,Ω⟩=Θ a/\w.cell? ⟨k,1,Ω⟩=Θ b/\w.frozen? ⟨k,0,Ω⟩=ζ/\w.frozen? ⟨k,1,Ω⟩=ζ:=by simp[ψ,θ,h]
structure I'(h:PH):Prop where
 cells:∀c∈h.cells,c.2.length<=1000/\∀v∈c.2,Sm v.2
 many:h.cells.length<=1000
 roots:h.roots.length<=1000/\∀v∈h.roots,Sm v.2
 aA:h.aA.length<=1000/\∀v∈h.aA,Sm v
 done:h.done.length<=1000/\∀v∈h.done,Sm v
theorem On(w:υ)(v:χ)(h:PH)(bw:Nat)(hv:tH w v h)(hs:I' h)(hol:bw<=1000000):
 ZX aD.prog 226 #[v,μ ξ (bw:Int)] w fun e w'=>(∃b,e=.returned (κ (Θ ⟨b,0,Ω⟩))/\dm w' w.heap.size b (Ij h bw))/\ο w.heap.size w w':=by
 have HS:=Ξ hs;obtain⟨c,r,wi,d,rfl,D,I,S,h4⟩:=hv;have H1:=Ξ D;have H2:=Ξ I;have H3:=Ξ S;have H4:=Ξ h4;obtain⟨ac,mc,rfl,_,_,hac⟩:=D;obtain⟨ar,mr,rfl,_,_,_⟩:=I;obtain⟨aw,mw,rfl,_,_,_⟩:=S;obtain⟨ad,md,rfl,_,_,_⟩:=h4;have HC:=Ξ hac;have hoi:(0:Int)<=(bw:Int)/\(bw:Int)<=1000000:=by omega
 have hb1:=af w (Δ #[.slice ac h.cells.length mc,.slice ar h.roots.length mr,.slice aw h.aA.length mw,.slice ad h.done.length md] 56);have hrl:h.roots.length<=1000000:=by have:=hs.roots.1;omega
 have hwl:h.aA.length<=1000000:=by have:=hs.aA.1;omega
 have hdl:h.done.length<=1000000:=by have:=hs.done.1;omega
 have Oo:(h.aA.map fun n=>((1,n):HV)).length<=1000000:=by rw[List.length_map];exact hwl
 have Oq:(h.done.map fun n=>((1,n):HV)).length<=1000000:=by rw[List.length_map];exact hdl
 have hws:∀x∈h.aA.map fun n=>((1,n):HV),Sm x.2:=fun x hx=>by obtain⟨n,hn,rfl⟩:=List.mem_map.1 hx;exact hs.aA.2 n hn
 have hds:∀x∈h.done.map fun n=>((1,n):HV),Sm x.2:=fun x hx=>by obtain⟨n,hn,rfl⟩:=List.mem_map.1 hx;exact hs.done.2 n hn
 clear hs hac
 go_enter aD.func226,Tryz.ntmps226
 go_wp2_with fail
 have f0:(w.alloc (Δ #[.slice ac h.cells.length mc,.slice ar h.roots.length mr,.slice aw h.aA.length mw,.slice ad h.done.length md] 56)).drew.cell? ⟨w.heap.size,0,Ω⟩=Θ (.slice ac h.cells.length mc):=by go_simp
 have f1:(w.alloc (Δ #[.slice ac h.cells.length mc,.slice ar h.roots.length mr,.slice aw h.aA.length mw,.slice ad h.done.length md] 56)).drew.cell? ⟨w.heap.size,1,Ω⟩=Θ (.slice ar h.roots.length mr):=by go_simp
 have f2:(w.alloc (Δ #[.slice ac h.cells.length mc,.slice ar h.roots.length mr,.slice aw h.aA.length mw,.slice ad h.done.length md] 56)).drew.cell? ⟨w.heap.size,2,Ω⟩=Θ (.slice aw h.aA.length mw):=by go_simp
 have f3:(w.alloc (Δ #[.slice ac h.cells.length mc,.slice ar h.roots.length mr,.slice aw h.aA.length mw,.slice ad h.done.length md] 56)).drew.cell? ⟨w.heap.size,3,Ω⟩=Θ (.slice ad h.done.length md):=by go_simp
 have hd1:=hb1.drew;have qv:w.heap.size<(w.alloc (Δ #[.slice ac h.cells.length mc,.slice ar h.roots.length mr,.slice aw h.aA.length mw,.slice ad h.done.length md] 56)).drew.heap.size:=by simp
 go_region_held3 (fun x=>x.cell? ⟨w.heap.size,1,Ω⟩=Θ (.slice ar h.roots.length mr)/\x.cell? ⟨w.heap.size,2,Ω⟩=Θ (.slice aw h.aA.length mw)/\x.cell? ⟨w.heap.size,3,Ω⟩=Θ (.slice ad h.done.length md))
  (first|(refine⟨?_,?_,?_⟩<;>assumption)|go_keep)
  (first
    |(go_at_call 262;(with_reducible refine(zo _ (.slice ar h.roots.length mr) h.roots _ (H2.out.below hd1) hrl HS.out.roots.2 hoi).mono ?_);rintro e w4 ⟨⟨r4,rfl,Ja⟩,hb4⟩;have hB4:ο w.heap.size w w4:=hd1.trans (hb4.mono hd1.size);have Fx:=Ξ Ja;obtain⟨a4,m4,rfl,_⟩:=aF Ja;clear Ja;simp only[List.length_map]at Fx;have q40:=(hb4.cell (p:=⟨w.heap.size,0,Ω⟩) qv).trans f0;have q41:=(hb4.cell (p:=⟨w.heap.size,1,Ω⟩) qv).trans f1;have q42:=(hb4.cell (p:=⟨w.heap.size,2,Ω⟩) qv).trans f2;have q43:=(hb4.cell (p:=⟨w.heap.size,3,Ω⟩) qv).trans f3;have hs4:=Nat.lt_of_lt_of_le qv hb4.size)
    |(go_at_call 132;(with_reducible refine(Ip _ (.slice aw h.aA.length mw) h.aA (H3.out.below hB4) hwl).mono ?_);rintro e w5 ⟨⟨r5,rfl,J⟩,s⟩;have z:ο w.heap.size w w5:=hB4.trans (s.mono hB4.size);have M:=Ξ J;obtain⟨F,E,rfl,_⟩:=aF J;clear J;simp only[List.length_map]at M;have Wk:=(s.cell (p:=⟨w.heap.size,0,Ω⟩) hs4).trans q40;have Wl:=(s.cell (p:=⟨w.heap.size,1,Ω⟩) hs4).trans q41;have OE:=(s.cell (p:=⟨w.heap.size,2,Ω⟩) hs4).trans q42;have q53:=(s.cell (p:=⟨w.heap.size,3,Ω⟩) hs4).trans q43;have hs5:=Nat.lt_of_lt_of_le hs4 s.size)
    |(go_at_call 262;(with_reducible refine(zo _ (.slice F h.aA.length E) (h.aA.map fun n=>((1,n):HV)) _ M.out.reads Oo hws hoi).mono ?_);rintro e w6 ⟨⟨r6,rfl,Jb⟩,G⟩;have hB6:ο w.heap.size w w6:=z.trans (G.mono z.size);have Jc:=Ξ Jb;obtain⟨a6,m6,rfl,_⟩:=aF Jb;clear Jb;simp only[List.length_map]at Jc;have q60:=(G.cell (p:=⟨w.heap.size,0,Ω⟩) hs5).trans Wk;have q61:=(G.cell (p:=⟨w.heap.size,1,Ω⟩) hs5).trans Wl;have q62:=(G.cell (p:=⟨w.heap.size,2,Ω⟩) hs5).trans OE;have q63:=(G.cell (p:=⟨w.heap.size,3,Ω⟩) hs5).trans q53;have hs6:=Nat.lt_of_lt_of_le hs5 G.size)
    |(go_at_call 132;(with_reducible refine(Ip _ (.slice ad h.done.length md) h.done (H4.out.below hB6) hdl).mono ?_);rintro e w7 ⟨⟨r7,rfl,Jd⟩,B⟩;have Wm:ο w.heap.size w w7:=hB6.trans (B.mono hB6.size);have Je:=Ξ Jd;obtain⟨a7,m7,rfl,_⟩:=aF Jd;clear Jd;simp only[List.length_map]at Je;have q70:=(B.cell (p:=⟨w.heap.size,0,Ω⟩) hs6).trans q60;have q71:=(B.cell (p:=⟨w.heap.size,1,Ω⟩) hs6).trans q61;have rJ:=(B.cell (p:=⟨w.heap.size,2,Ω⟩) hs6).trans q62;have q73:=(B.cell (p:=⟨w.heap.size,3,Ω⟩) hs6).trans q63;have hs7:=Nat.lt_of_lt_of_le hs6 B.size)
    |(go_at_call 262;(with_reducible refine(zo _ (.slice a7 h.done.length m7) (h.done.map fun n=>((1,n):HV)) _ Je.out.reads Oq hds hoi).mono ?_);rintro e w8 ⟨⟨r8,rfl,DF⟩,u⟩;have Wn:ο w.heap.size w w8:=Wm.trans (u.mono Wm.size);have Or:=Ξ DF;obtain⟨a8,m8,rfl,_⟩:=aF DF;clear DF;simp only[List.length_map]at Or;have Eh:=(u.cell (p:=⟨w.heap.size,0,Ω⟩) hs7).trans q70;have yq:=(u.cell (p:=⟨w.heap.size,1,Ω⟩) hs7).trans q71;have q82:=(u.cell (p:=⟨w.heap.size,2,Ω⟩) hs7).trans rJ;have q83:=(u.cell (p:=⟨w.heap.size,3,Ω⟩) hs7).trans q73;have hs8:=Nat.lt_of_lt_of_le hs7 u.size))
 clear f1 f2 f3 q40 q41 q42 q43 Wk Wl OE q53 q60 q61 q62 q63 q70 q71 rJ q73 yq q82 q83;have hk8:=ω w8 (Δ #[Γ Ω 0 0,Γ Ω 0 0,.slice a4 h.roots.length m4,.slice a6 h.aA.length m6,.slice a8 h.done.length m8,Γ Ω 0 0] 114);have BP:=af w8 (Δ #[Γ Ω 0 0,Γ Ω 0 0,.slice a4 h.roots.length m4,.slice a6 h.aA.length m6,.slice a8 h.done.length m8,Γ Ω 0 0] 114);have Dv:=Wn.trans (BP.mono Wn.size);have t4:OV w8 w.heap.size (.slice a4 h.roots.length m4) (h.roots.map (ed (bw:Int))):=(((((Fx.out.below s).below G).below B).below u).less hd1.size);have t6:OV w8 w5.heap.size (.slice a6 h.aA.length m6) ((h.aA.map fun n=>((1,n):HV)).map (ed (bw:Int))):=(Jc.out.below B).below u;have t8:OV w8 w7.heap.size (.slice a8 h.done.length m8) ((h.done.map fun n=>((1,n):HV)).map (ed (bw:Int))):=Or.out;have t4':=(((Fx.out.below s).below G).below B).below u;have l4:∀g,(Γ a4 h.roots.length m4).ownBlock=Θ g->g<w4.heap.size:=fun g T=>(Fx.out.lt g T).2
 have l6:∀g,(Γ a6 h.aA.length m6).ownBlock=Θ g->w5.heap.size<=g/\g<w6.heap.size:=fun g T=>Jc.out.lt g T
 have l8:∀g,(Γ a8 h.done.length m8).ownBlock=Θ g->w7.heap.size<=g/\g<w8.heap.size:=fun g T=>Or.out.lt g T
 have afe:Apart (.slice a4 h.roots.length m4) (.slice a6 h.aA.length m6):=fun g D I=>by have:=l4 g D;have:=(l6 g I).1;have:=s.size;omega
 have aff:Apart (.slice a4 h.roots.length m4) (.slice a8 h.done.length m8):=fun g D I=>by have:=l4 g D;have:=(l8 g I).1;have:=s.size;have:=G.size;have:=B.size;omega
 have afg:Apart (.slice a6 h.aA.length m6) (.slice a8 h.done.length m8):=fun g D I=>by have:=(l6 g D).2;have:=(l8 g I).1;have:=B.size;omega
 have hlow:∀g,((Γ a4 h.roots.length m4).ownBlock=Θ g\/(Γ a6 h.aA.length m6).ownBlock=Θ g\/(Γ a8 h.done.length m8).ownBlock=Θ g) ->g<w8.heap.size:=by
  rintro g (D|D|D)
  ·have:=l4 g D;have:=s.size;have:=G.size;have:=B.size;have:=u.size;omega
  ·have:=(l6 g D).2;have:=B.size;have:=u.size;omega
  ·exact(l8 g D).2
 have R:=Wn.size;have h58:w5.heap.size<=w8.heap.size/\w.heap.size<=w5.heap.size/\w.heap.size<=w7.heap.size:=⟨by have:=G.size;have:=B.size;have:=u.size;omega,z.size,Wm.size⟩;have HT:=Ξ (φ t4 (φ (t6.less h58.2.1) (φ (t8.less h58.2.2) (φ afe (φ aff (φ afg hlow))))));have htw:Ol (w8.alloc (Δ #[Γ Ω 0 0,Γ Ω 0 0,.slice a4 h.roots.length m4,.slice a6 h.aA.length m6,.slice a8 h.done.length m8,Γ Ω 0 0] 114)) w8.heap.size w8.heap.size w8.heap.size (.slice a4 h.roots.length m4) (.slice a6 h.aA.length m6) (.slice a8 h.done.length m8) [] []:=⟨_,_,[],[],Nat.le_refl _,hk8,OC.nil _ _,⟨rfl,fun i k x k' o e1 _=>by simp at e1,fun i j p q _ e1 _=>by simp at e1⟩,OC.nil _ _,⟨rfl,fun i k x k' o e1 _=>by simp at e1,fun i j p q _ e1 _=>by simp at e1⟩,fun g e=>(by cases e),fun p hp=>(by cases hp)⟩
 have f9:=(BP.cell (p:=⟨w.heap.size,0,Ω⟩) hs8).trans Eh;have HW:=Ξ (φ htw (φ BP Wn));have Wo:w8.heap.size<(w8.alloc (Δ #[Γ Ω 0 0,Γ Ω 0 0,.slice a4 h.roots.length m4,.slice a6 h.aA.length m6,.slice a8 h.done.length m8,Γ Ω 0 0] 114)).heap.size:=by simp
 generalize (w8.alloc (Δ #[Γ Ω 0 0,Γ Ω 0 0,.slice a4 h.roots.length m4,.slice a6 h.aA.length m6,.slice a8 h.done.length m8,Γ Ω 0 0] 114))=w9 at HW f9 Wo⊢;clear t4 t6 t8 t4' l4 l6 l8 afe aff afg hlow htw hk8 BP Dv Eh hb4 s G B u hB4 z hB6 Wm Wn Fx M Jc Je Or qv hs4 hs5 hs6 hs7 hs8 f0 hd1 hb1;obtain⟨m,hS0⟩:∃m,m=w8.heap.size:=⟨_,rfl⟩;rw[<-hS0]at HW HT Wo R⊢;replace hS0:=Ξ hS0;clear h58
 go_wp2_with fail
 clear f9
 go_loopw [29] (fun i wr=>∃k:Nat,k<=h.cells.length/\i=μ ξ k/\Hid (Ol wr m m m (.slice a4 h.roots.length m4) (.slice a6 h.aA.length m6) (.slice a8 h.done.length m8) (((h.cells.take k).drop bw).map (qO (bw:Int))) (((h.cells.take k).take bw).map (qO (bw:Int))))/\ο m w8 wr/\m<wr.heap.size) (fun i _=>h.cells.length-(intOf i).toNat)
 case atStart=>exact⟨0,Nat.zero_le _,rfl,Ξ (by simpa using HW.out.1),HW.out.2.1,Wo⟩
 case round=>
  have HB8:=Ξ HW.out.2.2;clear HW;obtain⟨k,hk,rfl,HK,W,l⟩:=hrel;have hbw:ο w.heap.size w wr:=HB8.out.trans (W.mono R);have hsz:=hbw.size;by_cases hlt:k<h.cells.length
  ·obtain⟨ba,oa,e,hba,hat⟩:=HC.out (by omega);cases e
   obtain⟨y,o,e1⟩:=cQ hlt;obtain⟨d1,x,d2,hx⟩:=(hat.below hbw hba) k y o e1;have hsc:=HS.out.cells _ (List.mem_of_getElem? e1);dsimp only at hsc;have HX:=Ξ hx;obtain⟨ax,mx,rfl,_,_,_⟩:=hx;have E1:=Ξ e1;have hvl:o.length<=1000000:=by omega
   clear hat e1
   go_wp2_with fail
   have X:=af wr (Δ #[μ ξ y,.slice ax o.length mx] 76);have n0:(wr.alloc (Δ #[μ ξ y,.slice ax o.length mx] 76)).cell? ⟨wr.heap.size,0,Ω⟩=Θ (μ ξ y):=by go_simp
   have n1:(wr.alloc (Δ #[μ ξ y,.slice ax o.length mx] 76)).cell? ⟨wr.heap.size,1,Ω⟩=Θ (.slice ax o.length mx):=by go_simp
   have hn1:wr.heap.size<(wr.alloc (Δ #[μ ξ y,.slice ax o.length mx] 76)).heap.size:=by simp
   generalize (wr.alloc (Δ #[μ ξ y,.slice ax o.length mx] 76))=C at X n0 n1 hn1⊢;have hd0:=X.drew;have hv1:=HX.out.below X;have afh:=ε C.heap.size C;have aru:¬C.heap.size=wr.heap.size:=by omega
   go_region_held3 (fun x=>x.cell? ⟨wr.heap.size,0,Ω⟩=Θ (μ ξ y)/\x.cell? ⟨wr.heap.size,1,Ω⟩=Θ (.slice ax o.length mx))
    (first|(refine⟨?_,?_⟩<;>assumption)|go_keep)
    (first
      |(go_at_call 262;(with_reducible refine(zo _ (.slice ax o.length mx) o _ (hv1.below afh.drew) hvl hsc.2 hoi).mono ?_);rintro e w5 ⟨⟨r5,rfl,J⟩,s⟩;have z:ο C.heap.size C w5:=afh.drew.trans s;have M:=Ξ J;obtain⟨F,E,rfl,_⟩:=aF J;clear J;simp only[List.length_map]at M;have Wk:=(z.cell (p:=⟨wr.heap.size,0,Ω⟩) hn1).trans n0;have Wl:=(z.cell (p:=⟨wr.heap.size,1,Ω⟩) hn1).trans n1)
      |(go_at_call 262;(with_reducible refine(zo _ (.slice ax o.length mx) o _ (hv1.below (af C _).drew) hvl hsc.2 hoi).mono ?_);rintro e w5 ⟨⟨r5,rfl,J⟩,s⟩;have z:ο C.heap.size C w5:=(af C _).drew.trans (s.mono (af C _).drew.size);have M:=Ξ J;obtain⟨F,E,rfl,_⟩:=aF J;clear J;simp only[List.length_map]at M;have Wk:=(z.cell (p:=⟨wr.heap.size,0,Ω⟩) hn1).trans n0;have Wl:=(z.cell (p:=⟨wr.heap.size,1,Ω⟩) hn1).trans n1;have xo:=(s.block _ (zT (ω _ _))).trans (ω _ _);have xc0:=(Om xo).1;have xc1:=(Om xo).2.1;have xf0:=(Om xo).2.2.1;have xf1:=(Om xo).2.2.2))
   all_goals
    clear Wk Wl n0 n1
   ·have H:=ω w5 (Δ #[μ ξ y,.slice F o.length E] 76);have Dv:ο C.heap.size C (w5.alloc (Δ #[μ ξ y,.slice F o.length E] 76)):=z.alloc z.size _;have V:=Ξ ((M.out.alloc (Δ #[μ ξ y,.slice F o.length E] 76)).less (B':=C.heap.size) (by simp));have hl9:w5.heap.size<(w5.alloc (Δ #[μ ξ y,.slice F o.length E] 76)).heap.size:=by simp
    generalize hw9:(w5.alloc (Δ #[μ ξ y,.slice F o.length E] 76))=f at H Dv V hl9⊢;clear hw9 M;generalize w5.heap.size=b8 at H hl9⊢;clear z s;have a:ο wr.heap.size wr f:=X.trans (Dv.mono X.size);obtain⟨sn,so,ln,lo,hSb,L,D,I,S,h4,h5,h6⟩:=HK.out;have P:=Ξ (φ hSb (φ L (φ D (φ I (φ S (φ h4 (φ h5 h6)))))));have t:=(a.block m l).trans L;replace D:=D.below a;replace S:=S.below a;have hln:ln.length<=1000000/\lo.length<=1000000:=by have e1:=I.1;have e2:=h4.1;have:=HS.out.many;simp at e1 e2;omega
    obtain⟨an,mn,rfl,_⟩:=aF D;obtain⟨ao,mo,rfl,_⟩:=aF S;have c8a:f.cell? ⟨b8,0,Ω⟩=Θ (μ ξ y):=(DA H).1;have c8b:f.cell? ⟨b8,1,Ω⟩=Θ (.slice F o.length E):=(DA H).2.1;have cs0:f.cell? ⟨m,0,Ω⟩=Θ (.slice an ln.length mn):=by simp[ψ,t]
    have cs1:f.cell? ⟨m,1,Ω⟩=Θ (.slice ao lo.length mo):=by simp[ψ,t]
    have fs0:f.frozen? ⟨m,0,Ω⟩=ζ:=by simp[θ,t]
    have fs1:f.frozen? ⟨m,1,Ω⟩=ζ:=by simp[θ,t]
    have O:m<f.heap.size:=(Ψ.1 t).1;have anj:w.heap.size<=f.heap.size:=Nat.le_trans hsz a.size;have Q:(Γ an ln.length mn).ownBlock≠Θ m:=eJ D t (by decide);have K:(Γ ao lo.length mo).ownBlock≠Θ m:=eJ S t (by decide);have HN:=Ξ (φ Q K);clear t L D I S h4 h5 h6 Q K H;by_cases hko:k<bw
    ·have hki:(k:Int)<(bw:Int):=by omega
     go_wp2_with fail
     go_region_law ((refine aX rfl _ _ 22 (by rfl) (.slice ao lo.length mo) (Γ (Θ ⟨f.heap.size,0,Ω⟩) 1 1) (by rfl) (by rfl) _ (eW (k:=y) (x:=.slice F o.length E) ((P.out.2.2.2.2.1.below a).below (by first|exact(af f _).drew|exact(af f _))) (ω f _) (by rfl) (by omega) (by simp;omega)) ?_;intro v' w2 I;obtain⟨Z,A,Y,gg,mg,rfl⟩:=I;have gc:=(A.cell_far ⟨m,1,Ω⟩ (by simp;omega) (Z9 HN.out.2)).trans ((((af f _).drew).cell (p:=⟨m,1,Ω⟩) O).trans cs1);have gf:=(A.frozen_far ⟨m,1,Ω⟩ (by simp;omega) (Z9 HN.out.2)).trans ((((af f _).drew).frozen (p:=⟨m,1,Ω⟩) O).trans fs1)))
     all_goals
      go_wp2_with fail
      have U:=OV.less (B':=wr.heap.size) (V.out.below ((af f (Δ #[μ ξ y,.slice F o.length E] 76)).drew)) (by omega);obtain⟨p1,p2,p3,p4,p5,p6,p7,p8⟩:=P.out;obtain⟨e1,e2⟩:=I7 (w2:=(f.alloc (Δ #[μ ξ y,.slice F o.length E] 76)).drew) p1 p2 p3 p4 p5 p6 p7 p8 (Nat.le_of_lt l) (Nat.le_of_lt l) (a.trans ((af f _).drew.mono a.size)) U A Z (Y.imp_right fun hh g T=>by have:=hh g T;exact this);have N:=I8 (bw:=bw) E1.out hko
      go_roundw
      case rel=>refine⟨k+1,by omega,by go_num,Ξ ?_,W.trans e2,Nat.lt_of_lt_of_le l e2.size⟩;rw[N.1,N.2,List.map_append];exact e1
      case measure=>simp[intOf];omega
    ·have hki:¬(k:Int)<(bw:Int):=by omega
     go_wp2_with fail
     go_region_law ((refine aX rfl _ _ 22 (by rfl) (.slice an ln.length mn) (Γ (Θ ⟨f.heap.size,0,Ω⟩) 1 1) (by rfl) (by rfl) _ (eW (k:=y) (x:=.slice F o.length E) ((P.out.2.2.1.below a).below (by first|exact(af f _).drew|exact(af f _))) (ω f _) (by rfl) (by omega) (by simp;omega)) ?_;intro v' w2 I;obtain⟨Z,A,Y,gg,mg,rfl⟩:=I;have gc:=(A.cell_far ⟨m,0,Ω⟩ (by simp;omega) (Z9 HN.out.1)).trans ((((af f _).drew).cell (p:=⟨m,0,Ω⟩) O).trans cs0);have gf:=(A.frozen_far ⟨m,0,Ω⟩ (by simp;omega) (Z9 HN.out.1)).trans ((((af f _).drew).frozen (p:=⟨m,0,Ω⟩) O).trans fs0)))
     all_goals
      go_wp2_with fail
      have U:=OV.less (B':=wr.heap.size) (V.out.below ((af f (Δ #[μ ξ y,.slice F o.length E] 76)).drew)) (by omega);obtain⟨p1,p2,p3,p4,p5,p6,p7,p8⟩:=P.out;obtain⟨e1,e2⟩:=I6 (w2:=(f.alloc (Δ #[μ ξ y,.slice F o.length E] 76)).drew) p1 p2 p3 p4 p5 p6 p7 p8 (Nat.le_of_lt l) (Nat.le_of_lt l) (a.trans ((af f _).drew.mono a.size)) U A Z (Y.imp_right fun hh g T=>by have:=hh g T;exact this);have N:=I9 (bw:=bw) E1.out (by omega)
      go_roundw
      case rel=>refine⟨k+1,by omega,by go_num,Ξ ?_,W.trans e2,Nat.lt_of_lt_of_le l e2.size⟩;rw[N.1,N.2,List.map_append];exact e1
      case measure=>simp[intOf];omega
   ·have H:=aB (aB xo 0 (μ ξ y)) 1 (.slice F o.length E);have Dv:ο C.heap.size C ((w5.setCell ⟨C.heap.size,0,Ω⟩ (μ ξ y)).setCell ⟨C.heap.size,1,Ω⟩ (.slice F o.length E)):=(z.setCell (p:=⟨C.heap.size,0,Ω⟩) (Nat.le_refl _) _).setCell (p:=⟨C.heap.size,1,Ω⟩) (Nat.le_refl _) _;have V:=Ξ (OV.less (B':=C.heap.size) (bp (w':=(w5.setCell ⟨C.heap.size,0,Ω⟩ (μ ξ y)).setCell ⟨C.heap.size,1,Ω⟩ (.slice F o.length E)) M.out xo (by decide) (fun k hk=>cr hk)) (by simp));have hl9:C.heap.size<((w5.setCell ⟨C.heap.size,0,Ω⟩ (μ ξ y)).setCell ⟨C.heap.size,1,Ω⟩ (.slice F o.length E)).heap.size:=(Ψ.1 H).1;generalize hw9:((w5.setCell ⟨C.heap.size,0,Ω⟩ (μ ξ y)).setCell ⟨C.heap.size,1,Ω⟩ (.slice F o.length E))=f at H Dv V hl9⊢;clear hw9 M xo xc0 xc1 xf0 xf1 z s;obtain⟨b8,u⟩:∃x,x=C.heap.size:=⟨_,rfl⟩;rw[<-u]at H hl9⊢;clear u;have a:ο wr.heap.size wr f:=X.trans (Dv.mono X.size);obtain⟨sn,so,ln,lo,hSb,L,D,I,S,h4,h5,h6⟩:=HK.out;have P:=Ξ (φ hSb (φ L (φ D (φ I (φ S (φ h4 (φ h5 h6)))))));have t:=(a.block m l).trans L;replace D:=D.below a;replace S:=S.below a;have hln:ln.length<=1000000/\lo.length<=1000000:=by have e1:=I.1;have e2:=h4.1;have:=HS.out.many;simp at e1 e2;omega
    obtain⟨an,mn,rfl,_⟩:=aF D;obtain⟨ao,mo,rfl,_⟩:=aF S;have c8a:f.cell? ⟨b8,0,Ω⟩=Θ (μ ξ y):=(DA H).1;have c8b:f.cell? ⟨b8,1,Ω⟩=Θ (.slice F o.length E):=(DA H).2.1;have cs0:f.cell? ⟨m,0,Ω⟩=Θ (.slice an ln.length mn):=by simp[ψ,t]
    have cs1:f.cell? ⟨m,1,Ω⟩=Θ (.slice ao lo.length mo):=by simp[ψ,t]
    have fs0:f.frozen? ⟨m,0,Ω⟩=ζ:=by simp[θ,t]
    have fs1:f.frozen? ⟨m,1,Ω⟩=ζ:=by simp[θ,t]
    have O:m<f.heap.size:=(Ψ.1 t).1;have anj:w.heap.size<=f.heap.size:=Nat.le_trans hsz a.size;have Q:(Γ an ln.length mn).ownBlock≠Θ m:=eJ D t (by decide);have K:(Γ ao lo.length mo).ownBlock≠Θ m:=eJ S t (by decide);have HN:=Ξ (φ Q K);clear t L D I S h4 h5 h6 Q K H;by_cases hko:k<bw
    ·have hki:(k:Int)<(bw:Int):=by omega
     go_wp2_with fail
     go_region_law ((refine aX rfl _ _ 22 (by rfl) (.slice ao lo.length mo) (Γ (Θ ⟨f.heap.size,0,Ω⟩) 1 1) (by rfl) (by rfl) _ (eW (k:=y) (x:=.slice F o.length E) ((P.out.2.2.2.2.1.below a).below (by first|exact(af f _).drew|exact(af f _))) (ω f _) (by rfl) (by omega) (by simp;omega)) ?_;intro v' w2 I;obtain⟨Z,A,Y,gg,mg,rfl⟩:=I;have gc:=(A.cell_far ⟨m,1,Ω⟩ (by simp;omega) (Z9 HN.out.2)).trans ((((af f _).drew).cell (p:=⟨m,1,Ω⟩) O).trans cs1);have gf:=(A.frozen_far ⟨m,1,Ω⟩ (by simp;omega) (Z9 HN.out.2)).trans ((((af f _).drew).frozen (p:=⟨m,1,Ω⟩) O).trans fs1)))
     all_goals
      go_wp2_with fail
      have U:=OV.less (B':=wr.heap.size) (V.out.below ((af f (Δ #[μ ξ y,.slice F o.length E] 76)).drew)) (by omega);obtain⟨p1,p2,p3,p4,p5,p6,p7,p8⟩:=P.out;obtain⟨e1,e2⟩:=I7 (w2:=(f.alloc (Δ #[μ ξ y,.slice F o.length E] 76)).drew) p1 p2 p3 p4 p5 p6 p7 p8 (Nat.le_of_lt l) (Nat.le_of_lt l) (a.trans ((af f _).drew.mono a.size)) U A Z (Y.imp_right fun hh g T=>by have:=hh g T;exact this);have N:=I8 (bw:=bw) E1.out hko
      go_roundw
      case rel=>refine⟨k+1,by omega,by go_num,Ξ ?_,W.trans e2,Nat.lt_of_lt_of_le l e2.size⟩;rw[N.1,N.2,List.map_append];exact e1
      case measure=>simp[intOf];omega
    ·have hki:¬(k:Int)<(bw:Int):=by omega
     go_wp2_with fail
     go_region_law ((refine aX rfl _ _ 22 (by rfl) (.slice an ln.length mn) (Γ (Θ ⟨f.heap.size,0,Ω⟩) 1 1) (by rfl) (by rfl) _ (eW (k:=y) (x:=.slice F o.length E) ((P.out.2.2.1.below a).below (by first|exact(af f _).drew|exact(af f _))) (ω f _) (by rfl) (by omega) (by simp;omega)) ?_;intro v' w2 I;obtain⟨Z,A,Y,gg,mg,rfl⟩:=I;have gc:=(A.cell_far ⟨m,0,Ω⟩ (by simp;omega) (Z9 HN.out.1)).trans ((((af f _).drew).cell (p:=⟨m,0,Ω⟩) O).trans cs0);have gf:=(A.frozen_far ⟨m,0,Ω⟩ (by simp;omega) (Z9 HN.out.1)).trans ((((af f _).drew).frozen (p:=⟨m,0,Ω⟩) O).trans fs0)))
     all_goals
      go_wp2_with fail
      have U:=OV.less (B':=wr.heap.size) (V.out.below ((af f (Δ #[μ ξ y,.slice F o.length E] 76)).drew)) (by omega);obtain⟨p1,p2,p3,p4,p5,p6,p7,p8⟩:=P.out;obtain⟨e1,e2⟩:=I6 (w2:=(f.alloc (Δ #[μ ξ y,.slice F o.length E] 76)).drew) p1 p2 p3 p4 p5 p6 p7 p8 (Nat.le_of_lt l) (Nat.le_of_lt l) (a.trans ((af f _).drew.mono a.size)) U A Z (Y.imp_right fun hh g T=>by have:=hh g T;exact this);have N:=I9 (bw:=bw) E1.out (by omega)
      go_roundw
      case rel=>refine⟨k+1,by omega,by go_num,Ξ ?_,W.trans e2,Nat.lt_of_lt_of_le l e2.size⟩;rw[N.1,N.2,List.map_append];exact e1
      case measure=>simp[intOf];omega
  ·have hke:k=h.cells.length:=by omega
   subst hke;clear hlt;have h8':ο w8.heap.size w8 wr:=hS0.out▸W;have HE:Hid (dm wr w.heap.size m (Ij h bw)):=Ξ (by
    obtain⟨sn,so,ln,lo,q1,q2,q3,q4,q5,q6,q7,q8⟩:=HK.out;obtain⟨t1,t2,t3,t4,t5,t6,t7⟩:=HT.out;rw[List.take_length]at q4 q6;have wl:∀p,(p∈ln\/p∈lo) ->∀g,p.2.ownBlock=Θ g->m<=g:=fun p hp g T=>by
     rcases hp with hp|hp
     ·exact(lY q4 hp T).1
     ·exact(lY q6 hp T).1
    have fr:∀p,(p∈ln\/p∈lo) ->Apart p.2 (.slice a4 h.roots.length m4)/\Apart p.2 (.slice a6 h.aA.length m6)/\Apart p.2 (.slice a8 h.done.length m8):=fun p hp=>⟨fun g e1 e2=>Nat.lt_irrefl _ (Nat.lt_of_lt_of_le (t7 g (.inl e2)) (wl p hp g e1)),fun g e1 e2=>Nat.lt_irrefl _ (Nat.lt_of_lt_of_le (t7 g (.inr (.inl e2))) (wl p hp g e1)),fun g e1 e2=>Nat.lt_irrefl _ (Nat.lt_of_lt_of_le (t7 g (.inr (.inr e2))) (wl p hp g e1))⟩
    exact I5 R q2 (q3.less R) (q4.less R) (q5.less R) (q6.less R) (t1.below h8') (t2.below h8') (t3.below h8') (OI.nil _ _) q8 (fun p hp=>fr p (.inl hp)) (fun p hp=>fr p (.inr hp)) t4 t5 t6)
   have hfin:ο w.heap.size w wr:=HB8.out.trans (W.mono R);clear h8' HT HK
   go_wp2_with fail
   go_ret;exact⟨⟨_,rfl,HE.out⟩,hfin⟩
end
section
variable{s8:χ}{B:Nat}{l4:List HV}{x:χ}{l8:List Int}{w:υ}{l6:List Int}{s4:χ}{S:Nat}{s6:χ}{t:η}
theorem dx{k:Nat}{o:Obj}(h:w.heap[k]?=Θ o):k<w.heap.size:=(Ψ.1 h).1
theorem km{k:Nat}{a b c d:χ}(h:w.heap[k]?=Θ (Δ #[a,b,c,d] t (0,0))):w.cell? ⟨k,0,Ω⟩=Θ a/\w.cell? ⟨k,1,Ω⟩=Θ b/\w.cell? ⟨k,2,Ω⟩=Θ c/\w.cell? ⟨k,3,Ω⟩=Θ d/\
 w.frozen? ⟨k,0,Ω⟩=ζ/\w.frozen? ⟨k,1,Ω⟩=ζ/\w.frozen? ⟨k,2,Ω⟩=ζ/\w.frozen? ⟨k,3,Ω⟩=ζ:=by simp[ψ,θ,h]
theorem dB{o:Obj}{a:Addr}(h:w.cell? a=Θ x):(w.alloc o).cell? a=Θ x:=by simp[World.cell?_alloc_some,h]
theorem dO{a:Addr}(h:w.cell? a=Θ x):w.drew.cell? a=Θ x:=h
theorem da{i b j:Nat}{v:χ}(hne:¬B=b)(h:w.cell? ⟨b,j,Ω⟩=Θ x):(w.setCell ⟨B,i,Ω⟩ v).cell? ⟨b,j,Ω⟩=Θ x:=(World.cell?_setCell_far w ⟨B,i,Ω⟩ ⟨b,j,Ω⟩ v hne).trans h
structure Small(g:GH):Prop where
 cells:∀c∈g.old++g.new,c.2.length<=1000/\∀v∈c.2,Sm v.2
 roots:g.roots.length<=1000/\∀v∈g.roots,Sm v.2
 aA:g.aA.length<=1000/\∀v∈g.aA,Sm v.2
 done:g.done.length<=1000/\∀v∈g.done,Sm v.2
 bw:g.old.length<=1000
 news:g.new.length<=1000
def uX(g:GH)(j:Nat):List HC:=if j=0 then []else if j=1 then g.old else g.old++g.new
def qx(w V:υ)(S B:Nat)(s4 s6 s8:χ)(l4:List HV)(l6 l8:List Int)(cs:List HC):Prop:=ο S w V/\sK V S B 56 [s4,s6,s8] cs/\OV V S s4 l4/\OI V S s6 l6/\OI V S s8 l8
theorem jD{w8:υ}(hS:ο S w w8)(hB:S<=B)(xo:w8.heap[B]?=Θ (Δ #[Γ Ω 0 0,Γ Ω 0 0,Γ Ω 0 0,Γ Ω 0 0] 56 (0,0)))(h4:OV w8 S s4 l4)(h6:OI w8 S s6 l6)(h8:OI w8 S s8 l8):
 qx w ((((w8.setCell ⟨B,0,Ω⟩ (Γ Ω 0 0)).setCell ⟨B,1,Ω⟩ s4).setCell ⟨B,2,Ω⟩ s6).setCell ⟨B,3,Ω⟩ s8) S B s4 s6 s8 l4 l6 l8 []:=by
 have b:=aB (aB (aB (aB xo 0 (Γ Ω 0 0)) 1 s4) 2 s6) 3 s8;have a:∀k,k≠B->((((w8.setCell ⟨B,0,Ω⟩ (Γ Ω 0 0)).setCell ⟨B,1,Ω⟩ s4).setCell ⟨B,2,Ω⟩ s6).setCell ⟨B,3,Ω⟩ s8).heap[k]?=w8.heap[k]?:=fun k h=>by rw[aq h,aq h,aq h,aq h]
 exact⟨(((hS.setCell (p:=⟨B,0,Ω⟩) hB _).setCell (p:=⟨B,1,Ω⟩) hB _).setCell (p:=⟨B,2,Ω⟩) hB _).setCell (p:=⟨B,3,Ω⟩) hB _,
  ⟨_,[],hB,b,OC.nil _ _,⟨rfl,fun i k x d c e1 _=>by simp at e1,fun i j p q _ e1 _=>by simp at e1⟩⟩,bp h4 xo (by decide) a,bp h6 xo (by decide) a,bp h8 xo (by decide) a⟩
theorem BQ{w8:υ}(hS:ο S w w8)(hB:S<=w8.heap.size)(h4:OV w8 S s4 l4)(h6:OI w8 S s6 l6)(h8:OI w8 S s8 l8):
 qx w (w8.alloc (Δ #[Γ Ω 0 0,s4,s6,s8] 56)) S w8.heap.size s4 s6 s8 l4 l6 l8 []:=
 ⟨hS.alloc hB _,⟨_,[],hB,ω _ _,OC.nil _ _,⟨rfl,fun i k x b a e1 _=>by simp at e1,fun i j p q _ e1 _=>by simp at e1⟩⟩,h4.below (af _ _),h6.below (af _ _),h8.below (af _ _)⟩
theorem qx.below{w V V':υ}{S B:Nat}{s4 s6 s8:χ}{l4:List HV}{l6 l8:List Int}{cs:List HC}(h:qx w V S B s4 s6 s8 l4 l6 l8 cs)(hs:S<=V.heap.size)(hk:ο V.heap.size V V'):qx w V' S B s4 s6 s8 l4 l6 l8 cs:=⟨h.1.trans (hk.mono hs),h.2.1.below hk,h.2.2.1.below hk,h.2.2.2.1.below hk,h.2.2.2.2.below hk⟩
theorem sK.Wp{bo:Nat}{rest:List χ}{cs:List HC}(h:sK w B bo t rest cs):B<=bo:=by obtain⟨b,l,a,_⟩:=h;exact a
theorem tQ{b:Nat}{e:η}{size n:Nat}{v:χ}{xs:List χ}{c:Array χ}{fr:Nat×Nat}(h:w.ownsRow B e size v n xs)(hb:w.heap[b]?=Θ (.cells c t fr))(ht:t≠e):v.ownBlock≠Θ b:=fun a=>cF h hb ht a
theorem qx.step{V w2 w3:υ}{bx:Nat}{sc s' so sn:χ}{cs:List HC}{l:List (Int×χ)}{k:Int}{vs:List HV}(h:qx w V S B s4 s6 s8 l4 l6 l8 cs)(hs:S<=V.heap.size)(hB:S<=B)(hb:V.heap[B]?=Θ (Δ #[sc,s4,s6,s8] 56 (0,0)))(h1:OC V S sc l)(h2:df V S l cs)(hx:V.heap[bx]?=Θ (Δ #[so,sn] 22 (0,0)))(hk:ο V.heap.size V w2)(hv:OV w2 V.heap.size x vs)(hg:w2.grownBy w3 sc.ownBlock)(ho:OC w3 S s' (l++[(k,x)])):
 qx w (w3.setCell ⟨B,0,Ω⟩ s') S B s4 s6 s8 l4 l6 l8 (cs++[(k,vs)])/\(w3.setCell ⟨B,0,Ω⟩ s').heap[bx]?=Θ (Δ #[so,sn] 22 (0,0)):=by
 obtain⟨q1,n,j,i,m⟩:=h;obtain⟨r1,r2⟩:=Ok (rest:=[s4,s6,s8]) hB hb h1 h2 hs (by decide) hk hv hg ho;have a:OC w2 S sc l:=h1.below hk;have c:=(hk.block B (Ψ.1 hb).1).trans hb;have d:=(hk.block bx (Ψ.1 hx).1).trans hx;have f:=(hg.block B (Ψ.1 c).1 (fun e=>cF a c (by decide) e.symm)).trans c;have g:=(hg.block bx (Ψ.1 d).1 (fun e=>cF a d (by decide) e.symm)).trans d;have b:∀k,k≠B->(w3.setCell ⟨B,0,Ω⟩ s').heap[k]?=w3.heap[k]?:=fun k h=>aq h
 refine⟨⟨q1.trans r2,r1,bp (fy (j.below hk) a (by decide) hg) f (by decide) b,bp (fy (i.below hk) a (by decide) hg) f (by decide) b,bp (fy (m.below hk) a (by decide) hg) f (by decide) b⟩,?_⟩;rw[b bx (fun e=>by subst e;rw[hb]at hx;injection hx with hx;injection hx with _ h4 _;exact absurd h4 (by decide))];exact g
theorem DB(w:υ)(b:Nat)(g:GH)(h:mi w b g)(hs:Small g):
 ZX aD.prog 119 #[κ (Θ ⟨b,0,Ω⟩)] w fun e w'=>(∃r,e=.returned r/\tH w' r (plain g))/\ο w.heap.size w w':=by
 have HS:=Ξ hs;obtain⟨n,o,r,wi,d,m,c0,c1,c2,c3,c4,c5,h1,h2,h3,h4,h5,h6⟩:=h;have hb:=az c0;have H1:=Ξ h1;have H2:=Ξ h2;have H3:=Ξ h3;have H4:=Ξ h4;have H5:=Ξ h5;obtain⟨an,mn,rfl,_,_,_⟩:=h1;obtain⟨ao,mo,rfl,_,_,_⟩:=h2;obtain⟨ar,mr,rfl,_,_,_⟩:=h3;obtain⟨aw,mw,rfl,_,_,_⟩:=h4;obtain⟨ad,md,rfl,_,_,_⟩:=h5;have hol:(0:Int)<=(g.old.length:Int)/\(g.old.length:Int)<=1000000:=by have:=hs.bw;omega
 have q:=af w (Δ #[Γ Ω 0 0,Γ Ω 0 0,Γ Ω 0 0,Γ Ω 0 0] 56);have C:=Ξ (φ c0 (φ c1 (φ c2 (φ c3 c4))));clear hs h6 c0 c5
 go_enter aD.func119,Tryz.ntmps119
 go_upto_region 2 with fail
 have hob:=ω w (Δ #[Γ Ω 0 0,Γ Ω 0 0,Γ Ω 0 0,Γ Ω 0 0] 56);have J:w.heap.size<(w.alloc (Δ #[Γ Ω 0 0,Γ Ω 0 0,Γ Ω 0 0,Γ Ω 0 0] 56)).heap.size:=by simp
 generalize (w.alloc (Δ #[Γ Ω 0 0,Γ Ω 0 0,Γ Ω 0 0,Γ Ω 0 0] 56))=t at q hob J⊢;replace H1:=Ξ (H1.out.below q);replace H2:=Ξ (H2.out.below q);replace H3:=Ξ (H3.out.below q);replace H4:=Ξ (H4.out.below q);replace H5:=Ξ (H5.out.below q);replace C:=Ξ (φ ((q.cell (p:=⟨b,0,Ω⟩) hb).trans C.out.1) ((q.cell (p:=⟨b,1,Ω⟩) hb).trans C.out.2.1));replace c2:=(q.cell (p:=⟨b,2,Ω⟩) hb).trans c2;replace c3:=(q.cell (p:=⟨b,3,Ω⟩) hb).trans c3;replace c4:=(q.cell (p:=⟨b,4,Ω⟩) hb).trans c4;clear c1;replace hb:b<t.heap.size:=Nat.lt_of_lt_of_le hb q.size;have HB1:=Ξ q;have HOB:=Ξ hob;clear q hob;generalize hrb:w.heap.size=G at HOB J⊢;have hd1:ο t.heap.size t t.drew:=(ε _ _).drew;have q:ο t.heap.size t t:=ε _ _;have q2:=(hd1.cell (p:=⟨b,2,Ω⟩) hb).trans c2;have q3:=(hd1.cell (p:=⟨b,3,Ω⟩) hb).trans c3;have q4:=(hd1.cell (p:=⟨b,4,Ω⟩) hb).trans c4;have hrl:g.roots.length<=1000000:=by have:=HS.out.roots.1;omega
 have hwl:g.aA.length<=1000000:=by have:=HS.out.aA.1;omega
 have hdl:g.done.length<=1000000:=by have:=HS.out.done.1;omega
 have Oo:(g.aA.map (cp (g.old.length:Int))).length<=1000000:=by rw[List.length_map];exact hwl
 have Oq:(g.done.map (cp (g.old.length:Int))).length<=1000000:=by rw[List.length_map];exact hdl
 go_cut [4]from 15 to 38 (fun s wx=>∃B Q N R O M P,s=κ (Θ ⟨B,0,Ω⟩)/\Hid (qx t wx t.heap.size B (.slice Q g.roots.length N) (.slice R g.aA.length O) (.slice M g.done.length P) (g.roots.map (cp (g.old.length:Int))) ((g.aA.map (cp (g.old.length:Int))).map (·.2)) ((g.done.map (cp (g.old.length:Int))).map (·.2)) []))
 case first=>
  go_region_held3 (fun x=>x.cell? ⟨b,2,Ω⟩=Θ (.slice ar g.roots.length mr)/\x.cell? ⟨b,3,Ω⟩=Θ (.slice aw g.aA.length mw)/\x.cell? ⟨b,4,Ω⟩=Θ (.slice ad g.done.length md))
   ((refine⟨?_,?_,?_⟩<;>(repeat (first|with_reducible assumption|with_reducible refine dB ?_|with_reducible refine dO ?_|with_reducible refine da T ?_))))
   (first
     |(go_at_call 173;(with_reducible refine(gz _ (.slice ar g.roots.length mr) g.roots _ (H3.out.below hd1) hrl HS.out.roots.2 hol).mono ?_);rintro e w4 ⟨⟨r4,rfl,Ja⟩,hb4⟩;have D:ο t.heap.size t w4:=hd1.trans (hb4.mono hd1.size);have Fx:=Ξ Ja;obtain⟨Q,N,rfl,_⟩:=aF Ja;clear Ja;simp only[List.length_map]at Fx;have q42:=(D.cell (p:=⟨b,2,Ω⟩) hb).trans c2;have q43:=(D.cell (p:=⟨b,3,Ω⟩) hb).trans c3;have q44:=(D.cell (p:=⟨b,4,Ω⟩) hb).trans c4;(first|(have y:=(hb4.block _ (dx y)).trans y)|skip))
     |(go_at_call 173;(with_reducible refine(gz _ (.slice aw g.aA.length mw) g.aA _ (H4.out.below D) hwl HS.out.aA.2 hol).mono ?_);rintro e w5 ⟨⟨r5,rfl,L⟩,Z⟩;have f:ο t.heap.size t w5:=D.trans (Z.mono D.size);have z5:ο w4.heap.size w4 w5:=Z;have X:=Ξ L;obtain⟨a5,m5,rfl,_⟩:=aF L;clear L;simp only[List.length_map]at X;have OE:=(f.cell (p:=⟨b,2,Ω⟩) hb).trans c2;have q53:=(f.cell (p:=⟨b,3,Ω⟩) hb).trans c3;have q54:=(f.cell (p:=⟨b,4,Ω⟩) hb).trans c4;(first|(have y:=(Z.block _ (dx y)).trans y)|skip))
     |(go_at_call 174;(with_reducible refine(lV _ (.slice a5 g.aA.length m5) (g.aA.map (cp (g.old.length:Int))) X.out.reads Oo).mono ?_);rintro e W ⟨⟨r6,rfl,Jb⟩,hb6⟩;have E:ο t.heap.size t W:=f.trans (hb6.mono f.size);have z6:ο w5.heap.size w5 W:=hb6;have Jc:=Ξ Jb;obtain⟨R,O,rfl,_⟩:=aF Jb;clear Jb;simp only[List.length_map]at Jc;have q62:=(E.cell (p:=⟨b,2,Ω⟩) hb).trans c2;have q63:=(E.cell (p:=⟨b,3,Ω⟩) hb).trans c3;have q64:=(E.cell (p:=⟨b,4,Ω⟩) hb).trans c4;(first|(have y:=(hb6.block _ (dx y)).trans y)|skip))
     |(go_at_call 173;(with_reducible refine(gz _ (.slice ad g.done.length md) g.done _ (H5.out.below E) hdl HS.out.done.2 hol).mono ?_);rintro e w7 ⟨⟨r7,rfl,Jd⟩,hb7⟩;have A:ο t.heap.size t w7:=E.trans (hb7.mono E.size);have z7:ο W.heap.size W w7:=hb7;have Je:=Ξ Jd;obtain⟨a7,m7,rfl,_⟩:=aF Jd;clear Jd;simp only[List.length_map]at Je;have rJ:=(A.cell (p:=⟨b,2,Ω⟩) hb).trans c2;have q73:=(A.cell (p:=⟨b,3,Ω⟩) hb).trans c3;have q74:=(A.cell (p:=⟨b,4,Ω⟩) hb).trans c4;(first|(have y:=(hb7.block _ (dx y)).trans y)|skip))
     |(go_at_call 174;(with_reducible refine(lV _ (.slice a7 g.done.length m7) (g.done.map (cp (g.old.length:Int))) Je.out.reads Oq).mono ?_);rintro e w8 ⟨⟨r8,rfl,DF⟩,hb8⟩;have Y:ο t.heap.size t w8:=A.trans (hb8.mono A.size);have z8:ο w7.heap.size w7 w8:=hb8;have Or:=Ξ DF;obtain⟨M,P,rfl,_⟩:=aF DF;clear DF;simp only[List.length_map]at Or;have q82:=(Y.cell (p:=⟨b,2,Ω⟩) hb).trans c2;have q83:=(Y.cell (p:=⟨b,3,Ω⟩) hb).trans c3;have q84:=(Y.cell (p:=⟨b,4,Ω⟩) hb).trans c4;(first|(have y:=(hb8.block _ (dx y)).trans y)|skip);(first|(have xc0:=(km y).1;have xc1:=(km y).2.1;have xc2:=(km y).2.2.1;have xc3:=(km y).2.2.2.1;have xf0:=(km y).2.2.2.2.1;have xf1:=(km y).2.2.2.2.2.1;have xf2:=(km y).2.2.2.2.2.2.1;have xf3:=(km y).2.2.2.2.2.2.2)|skip))
     |(go_at_call 173;(with_reducible refine(gz _ (.slice ar g.roots.length mr) g.roots _ ((H3.out.below q).below ((af _ _).drew)) hrl HS.out.roots.2 hol).mono ?_);rintro e w4 ⟨⟨r4,rfl,Ja⟩,hb4⟩;have D:ο t.heap.size t w4:=(q.alloc q.size _).drew.trans (hb4.mono (q.alloc q.size _).drew.size);have Fx:=Ξ Ja;obtain⟨Q,N,rfl,_⟩:=aF Ja;clear Ja;simp only[List.length_map]at Fx;have q42:=(D.cell (p:=⟨b,2,Ω⟩) hb).trans c2;have q43:=(D.cell (p:=⟨b,3,Ω⟩) hb).trans c3;have q44:=(D.cell (p:=⟨b,4,Ω⟩) hb).trans c4;have y:=(hb4.block _ (dx (ω _ _))).trans (ω _ _);have T:¬t.heap.size=b:=(by omega);(try simp only[Z8,Z7]at y))
     |(go_at_call 173;(with_reducible refine(gz _ (.slice aw g.aA.length mw) g.aA _ ((H4.out.below D).below (af _ _)) hwl HS.out.aA.2 hol).mono ?_);rintro e w5 ⟨⟨r5,rfl,L⟩,Z⟩;have f:ο t.heap.size t w5:=(D.alloc D.size _).trans (Z.mono (D.alloc D.size _).size);have z5:ο w4.heap.size w4 w5:=(af w4 _).trans (Z.mono (af w4 _).size);have X:=Ξ L;obtain⟨a5,m5,rfl,_⟩:=aF L;clear L;simp only[List.length_map]at X;have OE:=(f.cell (p:=⟨b,2,Ω⟩) hb).trans c2;have q53:=(f.cell (p:=⟨b,3,Ω⟩) hb).trans c3;have q54:=(f.cell (p:=⟨b,4,Ω⟩) hb).trans c4;have y:=(Z.block _ (dx (ω _ _))).trans (ω _ _);have T:¬w4.heap.size=b:=(by have:=D.size;omega);(try simp only[Z8,Z7]at y))
     |(go_at_call 174;(with_reducible refine(lV _ (.slice a5 g.aA.length m5) (g.aA.map (cp (g.old.length:Int))) (X.out.alloc _).reads Oo).mono ?_);rintro e W ⟨⟨r6,rfl,Jb⟩,hb6⟩;have E:ο t.heap.size t W:=(f.alloc f.size _).trans (hb6.mono (f.alloc f.size _).size);have z6:ο w5.heap.size w5 W:=(af w5 _).trans (hb6.mono (af w5 _).size);have Jc:=Ξ Jb;obtain⟨R,O,rfl,_⟩:=aF Jb;clear Jb;simp only[List.length_map]at Jc;have q62:=(E.cell (p:=⟨b,2,Ω⟩) hb).trans c2;have q63:=(E.cell (p:=⟨b,3,Ω⟩) hb).trans c3;have q64:=(E.cell (p:=⟨b,4,Ω⟩) hb).trans c4;have y:=(hb6.block _ (dx (ω _ _))).trans (ω _ _);have T:¬w5.heap.size=b:=(by have:=f.size;omega);(try simp only[Z8,Z7]at y))
     |(go_at_call 173;(with_reducible refine(gz _ (.slice ad g.done.length md) g.done _ ((H5.out.below E).below (af _ _)) hdl HS.out.done.2 hol).mono ?_);rintro e w7 ⟨⟨r7,rfl,Jd⟩,hb7⟩;have A:ο t.heap.size t w7:=(E.alloc E.size _).trans (hb7.mono (E.alloc E.size _).size);have z7:ο W.heap.size W w7:=(af W _).trans (hb7.mono (af W _).size);have Je:=Ξ Jd;obtain⟨a7,m7,rfl,_⟩:=aF Jd;clear Jd;simp only[List.length_map]at Je;have rJ:=(A.cell (p:=⟨b,2,Ω⟩) hb).trans c2;have q73:=(A.cell (p:=⟨b,3,Ω⟩) hb).trans c3;have q74:=(A.cell (p:=⟨b,4,Ω⟩) hb).trans c4;have y:=(hb7.block _ (dx (ω _ _))).trans (ω _ _);have T:¬W.heap.size=b:=(by have:=E.size;omega);(try simp only[Z8,Z7]at y))
     |(go_at_call 174;(with_reducible refine(lV _ (.slice a7 g.done.length m7) (g.done.map (cp (g.old.length:Int))) (Je.out.alloc _).reads Oq).mono ?_);rintro e w8 ⟨⟨r8,rfl,DF⟩,hb8⟩;have Y:ο t.heap.size t w8:=(A.alloc A.size _).trans (hb8.mono (A.alloc A.size _).size);have z8:ο w7.heap.size w7 w8:=(af w7 _).trans (hb8.mono (af w7 _).size);have Or:=Ξ DF;obtain⟨M,P,rfl,_⟩:=aF DF;clear DF;simp only[List.length_map]at Or;have q82:=(Y.cell (p:=⟨b,2,Ω⟩) hb).trans c2;have q83:=(Y.cell (p:=⟨b,3,Ω⟩) hb).trans c3;have q84:=(Y.cell (p:=⟨b,4,Ω⟩) hb).trans c4;have y:=(hb8.block _ (dx (ω _ _))).trans (ω _ _);have T:¬w7.heap.size=b:=(by have:=A.size;omega);(try simp only[Z8,Z7]at y);have xc0:=(km y).1;have xc1:=(km y).2.1;have xc2:=(km y).2.2.1;have xc3:=(km y).2.2.2.1;have xf0:=(km y).2.2.2.2.1;have xf1:=(km y).2.2.2.2.2.1;have xf2:=(km y).2.2.2.2.2.2.1;have xf3:=(km y).2.2.2.2.2.2.2))
  all_goals
   obtain⟨S,z⟩:∃S,S=t.heap.size:=⟨_,rfl⟩;have U:ο S t w8:=by rw[z];exact Y
   have S4:OV w8 S (.slice Q g.roots.length N) (g.roots.map (cp (g.old.length:Int))):=OV.less ((((Fx.out.below z5).below z6).below z7).below z8) (by rw[z];first|exact hd1.size|exact(q.alloc q.size _).drew.size);have S6:OI w8 S (.slice R g.aA.length O) ((g.aA.map (cp (g.old.length:Int))).map (·.2)):=OI.less ((Jc.out.below z7).below z8) (by rw[z];first|exact f.size|exact(f.alloc f.size _).size);have S8:OI w8 S (.slice M g.done.length P) ((g.done.map (cp (g.old.length:Int))).map (·.2)):=OI.less Or.out (by rw[z];first|exact A.size|exact(A.alloc A.size _).size);have hlw:=Y.size
   first
    |(have H:=Ξ (jD (B:=t.heap.size) U (by rw[z];exact Nat.le_refl _) y S4 S6 S8)
      generalize ((((w8.setCell ⟨t.heap.size,0,Ω⟩ (Γ Ω 0 0)).setCell ⟨t.heap.size,1,Ω⟩ (.slice Q g.roots.length N)).setCell ⟨t.heap.size,2,Ω⟩ (.slice R g.aA.length O)).setCell ⟨t.heap.size,3,Ω⟩ (.slice M g.done.length P))=v9 at H⊢;generalize t.heap.size=B at H⊢)
    |(have H:=Ξ (jD (B:=w4.heap.size) U (by rw[z];exact D.size) y S4 S6 S8)
      generalize ((((w8.setCell ⟨w4.heap.size,0,Ω⟩ (Γ Ω 0 0)).setCell ⟨w4.heap.size,1,Ω⟩ (.slice Q g.roots.length N)).setCell ⟨w4.heap.size,2,Ω⟩ (.slice R g.aA.length O)).setCell ⟨w4.heap.size,3,Ω⟩ (.slice M g.done.length P))=v9 at H⊢;generalize w4.heap.size=B at H⊢)
    |(have H:=Ξ (jD (B:=w5.heap.size) U (by rw[z];exact f.size) y S4 S6 S8)
      generalize ((((w8.setCell ⟨w5.heap.size,0,Ω⟩ (Γ Ω 0 0)).setCell ⟨w5.heap.size,1,Ω⟩ (.slice Q g.roots.length N)).setCell ⟨w5.heap.size,2,Ω⟩ (.slice R g.aA.length O)).setCell ⟨w5.heap.size,3,Ω⟩ (.slice M g.done.length P))=v9 at H⊢;generalize w5.heap.size=B at H⊢)
    |(have H:=Ξ (jD (B:=W.heap.size) U (by rw[z];exact E.size) y S4 S6 S8)
      generalize ((((w8.setCell ⟨W.heap.size,0,Ω⟩ (Γ Ω 0 0)).setCell ⟨W.heap.size,1,Ω⟩ (.slice Q g.roots.length N)).setCell ⟨W.heap.size,2,Ω⟩ (.slice R g.aA.length O)).setCell ⟨W.heap.size,3,Ω⟩ (.slice M g.done.length P))=v9 at H⊢;generalize W.heap.size=B at H⊢)
    |(have H:=Ξ (jD (B:=w7.heap.size) U (by rw[z];exact A.size) y S4 S6 S8)
      generalize ((((w8.setCell ⟨w7.heap.size,0,Ω⟩ (Γ Ω 0 0)).setCell ⟨w7.heap.size,1,Ω⟩ (.slice Q g.roots.length N)).setCell ⟨w7.heap.size,2,Ω⟩ (.slice R g.aA.length O)).setCell ⟨w7.heap.size,3,Ω⟩ (.slice M g.done.length P))=v9 at H⊢;generalize w7.heap.size=B at H⊢)
    |(have H:=Ξ (BQ U (by rw[z];exact hlw) S4 S6 S8)
      generalize (w8.alloc (Δ #[Γ Ω 0 0,.slice Q g.roots.length N,.slice R g.aA.length O,.slice M g.done.length P] 56))=v9 at H⊢;generalize w8.heap.size=B at H⊢)
   clear S4 S6 S8;rw[z]at H
   go_wp2_with fail
   go_meet
   exact⟨B,Q,N,R,O,M,P,rfl,H⟩
 case rest=>
  obtain⟨B,Q,N,R,O,M,P,rfl,H⟩:=hcut;generalize wc=v9 at H⊢;obtain⟨S,z⟩:∃S,S=t.heap.size:=⟨_,rfl⟩;rw[<-z]at H;have BP:ο t.heap.size t v9:=by rw[<-z];exact H.out.1
  have hlS:S<=v9.heap.size:=by rw[z];exact BP.size
  have hlB:S<=B:=H.out.2.1.Wp;have d0:=(BP.cell (p:=⟨b,0,Ω⟩) hb).trans C.out.1;have d1:=(BP.cell (p:=⟨b,1,Ω⟩) hb).trans C.out.2;clear q2 q3 q4 c2 c3 c4 hd1 q
  go_wp2_with fail
  go_region_held3 (fun x=>x.cell? ⟨b,1,Ω⟩=Θ (.slice ao g.old.length mo)/\x.cell? ⟨b,0,Ω⟩=Θ (.slice an g.new.length mn)) ((refine⟨?_,?_⟩<;>(repeat (first|with_reducible assumption|with_reducible refine dB ?_|with_reducible refine dO ?_)))) (fail)
  go_wp2_with fail
  have hx0:((v9.alloc (Δ #[.slice ao g.old.length mo,.slice an g.new.length mn] 22)).drew).heap[v9.heap.size]?=Θ (Δ #[.slice ao g.old.length mo,.slice an g.new.length mn] 22 (0,0)):=ω v9 _;have HPX:=Ξ (H.out.below hlS ((af v9 (Δ #[.slice ao g.old.length mo,.slice an g.new.length mn] 22)).drew));have hlx:S<=((v9.alloc (Δ #[.slice ao g.old.length mo,.slice an g.new.length mn] 22)).drew).heap.size:=by simp;omega
  clear H d0 d1 BP hlS;generalize ((v9.alloc (Δ #[.slice ao g.old.length mo,.slice an g.new.length mn] 22)).drew)=u9 at hx0 HPX hlx⊢;generalize v9.heap.size=bx at hx0⊢;have HL:∀j:Nat,j<2->∃ax mx l,(#[Γ ao g.old.length mo,.slice an g.new.length mn]:Array χ)[j]?=Θ (.slice ax l.length mx)/\sa t (.slice ax l.length mx) l/\uX g (j+1)=uX g j++l/\(∀c∈l,c∈g.old++g.new)/\l.length<=1000:=by
   intro j hj
   match j,hj with
   |0,_=>exact⟨ao,mo,g.old,rfl,H2.out,rfl,fun c hc=>List.mem_append_left _ hc,HS.out.bw⟩
   |1,_=>exact⟨an,mn,g.new,rfl,H1.out,rfl,fun c hc=>List.mem_append_right _ hc,HS.out.news⟩
  replace HL:=Ξ HL
  go_loopw [51] (fun i wr=>∃j:Nat,j<=2/\i=μ ξ j/\Hid (qx t wr S B (.slice Q g.roots.length N) (.slice R g.aA.length O) (.slice M g.done.length P) (g.roots.map (cp (g.old.length:Int))) ((g.aA.map (cp (g.old.length:Int))).map (·.2)) ((g.done.map (cp (g.old.length:Int))).map (·.2)) ((uX g j).map (Bz (g.old.length:Int))))/\wr.heap[bx]?=Θ (Δ #[.slice ao g.old.length mo,.slice an g.new.length mn] 22 (0,0))/\S<=wr.heap.size) (fun i _=>2-(intOf i).toNat)
  case atStart=>exact⟨0,by omega,rfl,HPX,hx0,hlx⟩
  case round=>
   clear HPX hx0 hlx;obtain⟨j,hj,rfl,HR,hxr,hlr⟩:=hrel;by_cases hlt:j<2
   ·obtain⟨ax,mx,l,hax,hvl,hpt,hin,hll⟩:=HL.out j hlt;have hcx:wr.cell? ⟨bx,j,Ω⟩=Θ (.slice ax l.length mx):=by simp only[ψ,hxr];exact hax
    have HV:=Ξ hvl;obtain⟨ax',mx',he,hmx,N4,haz⟩:=hvl;cases he
    have HZ:=Ξ haz;have HIN:=Ξ hin;have HPT:=Ξ hpt;clear hax haz hin hpt;have HXR:=Ξ hxr;clear hxr
    go_wp2_with fail
    clear hcx
    go_loopw [57] (fun i wr=>∃k:Nat,k<=l.length/\i=μ ξ k/\Hid (qx t wr S B (.slice Q g.roots.length N) (.slice R g.aA.length O) (.slice M g.done.length P) (g.roots.map (cp (g.old.length:Int))) ((g.aA.map (cp (g.old.length:Int))).map (·.2)) ((g.done.map (cp (g.old.length:Int))).map (·.2)) ((uX g j++l.take k).map (Bz (g.old.length:Int))))/\wr.heap[bx]?=Θ (Δ #[.slice ao g.old.length mo,.slice an g.new.length mn] 22 (0,0))/\S<=wr.heap.size) (fun i _=>l.length-(intOf i).toNat)
    case atStart=>exact⟨0,by omega,rfl,by simpa using HR,HXR.out,hlr⟩
    case round=>
     clear HR HXR hlr;obtain⟨k,hk,rfl,HR,hxr,hlr⟩:=hrel;by_cases hlk:k<l.length
     ·obtain⟨ba,oa,e,hba,hat⟩:=HZ.out (by omega);cases e
      obtain⟨kd,vs,e1⟩:=cQ hlk;have hbr:ο t.heap.size t wr:=by rw[<-z];exact HR.out.1
      obtain⟨f1,x,f2,hx⟩:=(hat.below hbr hba) k kd vs e1;have hsc:=HS.out.cells _ (HIN.out _ (List.mem_of_getElem? e1));dsimp only at hsc;have HX:=Ξ hx;obtain⟨av,mv,rfl,_,_,_⟩:=hx;have E1:=Ξ e1;have hvn:vs.length<=1000000:=by omega
      obtain⟨sc,ln,hSb,F,h1,h2⟩:=HR.out.2.1;have HXR:=Ξ hxr;have HPP:=Ξ (φ F (φ h1 h2));have hln:ln.length<=1000000:=by
       have e1:=h2.1;have:=HS.out.bw;have:=HS.out.news;have e2:(uX g j).length<=g.old.length+g.new.length:=by unfold uX;split<;>(try split)<;>simp
       simp at e1;omega
      obtain⟨an1,mn1,rfl,_⟩:=aF h1;have hBl:B<wr.heap.size:=(Ψ.1 F).1;have cs0:wr.cell? ⟨B,0,Ω⟩=Θ (.slice an1 ln.length mn1):=by simp[ψ,F]
      have fs0:wr.frozen? ⟨B,0,Ω⟩=ζ:=by simp[θ,F]
      have HN:=Ξ (tQ h1 F (by decide));have HN2:Hid ((Γ an1 ln.length mn1).ownBlock≠Θ wr.heap.size):=Ξ fun e=>Nat.lt_irrefl _ (h1.lt _ e).2
      have hsz:=hbr.size;clear hat e1 hxr F h1 h2
      go_wp2_with fail
      have I:=af wr (Δ #[μ ξ kd,.slice av vs.length mv] 76);have n0:(wr.alloc (Δ #[μ ξ kd,.slice av vs.length mv] 76)).cell? ⟨wr.heap.size,0,Ω⟩=Θ (μ ξ kd):=by go_simp
      have n1:(wr.alloc (Δ #[μ ξ kd,.slice av vs.length mv] 76)).cell? ⟨wr.heap.size,1,Ω⟩=Θ (.slice av vs.length mv):=by go_simp
      have J:wr.heap.size<(wr.alloc (Δ #[μ ξ kd,.slice av vs.length mv] 76)).heap.size:=by simp
      have cs1:=(I.cell (p:=⟨B,0,Ω⟩) hBl).trans cs0;have fs1:=(I.frozen (p:=⟨B,0,Ω⟩) hBl).trans fs0;generalize (wr.alloc (Δ #[μ ξ kd,.slice av vs.length mv] 76))=u1 at I n0 n1 J cs1 fs1⊢;have hd0:=I.drew;have Wq:B<u1.heap.size:=Nat.lt_of_lt_of_le hBl I.size;have T:¬B=wr.heap.size:=by omega
      clear cs0 fs0 f1 f2;refine Rg.aaH 7 4 (fun x=>x.cell? ⟨wr.heap.size,0,Ω⟩=Θ (μ ξ kd)/\x.cell? ⟨wr.heap.size,1,Ω⟩=Θ (.slice av vs.length mv)/\x.cell? ⟨B,0,Ω⟩=Θ (.slice an1 ln.length mn1)) (by kernel_rfl) (by kernel_rfl) (fun c a d v w h=>by cases d<;>exact h) ⟨n0,n1,cs1⟩ ?_;simp only[Nat.reduceAdd,List.take_succ_cons,List.take_zero,List.drop_succ_cons,List.drop_zero]
      iterate 7
       (refine Rg.fp.step (v:=?_) (by rfl) (fun u hu=>?_) ?_
        rotate_left
        (obtain⟨hu0,hu1,hu2⟩:=hu
         go_simp
         try rfl))
      refine Rg.fp.nil (Rg.pA.succ ?_);simp only[Act.put,List.setIfInBounds_toArray,List.set_cons_zero,List.set_cons_succ];refine wpOp_step rfl (fun K hK=>?_);go_simp
      with_reducible refine(gz _ (.slice av vs.length mv) vs _ ((HX.out.below I).below ((ε _ _).drew)) hvn hsc.2 hol).mono ?_
      rintro e w5 ⟨⟨r5,rfl,L⟩,Z⟩;have f:ο u1.heap.size u1 w5:=((ε u1.heap.size u1).drew).trans Z;have X:=Ξ L;obtain⟨a5,m5,rfl,_⟩:=aF L;clear L;simp only[List.length_map]at X;have Wk:=(f.cell (p:=⟨wr.heap.size,0,Ω⟩) J).trans n0;have Wl:=(f.cell (p:=⟨wr.heap.size,1,Ω⟩) J).trans n1;have OE:=(f.cell (p:=⟨B,0,Ω⟩) Wq).trans cs1;have q53:=(f.frozen (p:=⟨B,0,Ω⟩) Wq).trans fs1;have afj:B<w5.heap.size:=Nat.lt_of_lt_of_le Wq f.size;have hn5:wr.heap.size<w5.heap.size:=Nat.lt_of_lt_of_le J f.size;refine hK _ _ ⟨⟨Wk,Wl,OE⟩,Rg.pA.succ ?_⟩;clear hK K;refine wpOp_step rfl (fun K hK=>?_);go_simp;refine hK _ _ ⟨⟨Wk,Wl,OE⟩,Rg.pA.succ ?_⟩;clear hK K;refine wpOp_step rfl (fun K hK=>?_);go_simp;refine hK _ _ ⟨⟨dB Wk,dB Wl,dB OE⟩,Rg.pA.succ ?_⟩;clear hK K;refine wpOp_step rfl (fun K hK=>?_);refine aX rfl _ _ 22 (by rfl) (.slice an1 ln.length mn1) (Γ (Θ ⟨w5.heap.size,0,Ω⟩) 1 1) (by rfl) (by rfl) _ (eW (k:=kd) (x:=.slice a5 vs.length m5) ((HPP.out.2.1.below (I.trans (f.mono I.size))).below (by first|exact(af w5 _).drew|exact(af w5 _))) (ω w5 _) (by rfl) (by omega) (by simp;omega)) ?_;intro v' W h2;obtain⟨hoc,hgr,hnb,gg,mg,rfl⟩:=h2;have gc:=(hgr.cell_far ⟨B,0,Ω⟩ (by simp;omega) (Z9 HN.out)).trans ((((af w5 _).drew).cell (p:=⟨B,0,Ω⟩) afj).trans OE);have gf:=(hgr.frozen_far ⟨B,0,Ω⟩ (by simp;omega) (Z9 HN.out)).trans ((((af w5 _).drew).frozen (p:=⟨B,0,Ω⟩) afj).trans q53);have gn0:=(hgr.cell_far ⟨wr.heap.size,0,Ω⟩ (by simp;omega) (Z9 HN2.out)).trans ((((af w5 _).drew).cell (p:=⟨wr.heap.size,0,Ω⟩) hn5).trans Wk);have gn1:=(hgr.cell_far ⟨wr.heap.size,1,Ω⟩ (by simp;omega) (Z9 HN2.out)).trans ((((af w5 _).drew).cell (p:=⟨wr.heap.size,1,Ω⟩) hn5).trans Wl);refine hK _ _ ⟨⟨gn0,gn1,gc⟩,Rg.pA.zero ?_⟩;clear hK K
      all_goals
       go_wp2_with fail
       obtain⟨p1,p2,p3⟩:=HPP.out;obtain⟨e1,e2⟩:=qx.step HR.out hlr hlB p1 p2 p3 HXR.out (by first|exact I.trans ((f.trans ((af w5 _).mono f.size)).mono I.size)|exact I.trans ((f.trans ((af w5 _).drew.mono f.size)).mono I.size)) (by first|exact OV.less (B':=wr.heap.size) (X.out.below (af w5 _)) (Nat.le_of_lt J)|exact OV.less (B':=wr.heap.size) (X.out.below (af w5 _).drew) (Nat.le_of_lt J)) hgr hoc;have e3:S<=((W.setCell ⟨B,0,Ω⟩ (Γ (Θ ⟨gg,0,Ω⟩) (ln.length+1) mg))).heap.size:=by have:=e1.1.size;rw[z];exact this
       go_roundw
       case rel=>refine⟨k+1,by omega,by go_num,Ξ ?_,e2,e3⟩;rw[bW E1.out,<-List.append_assoc,List.map_append];exact e1
       case measure=>simp[intOf];omega
     ·have hke:k=l.length:=by omega
      subst hke;rw[List.take_length,<-HPT.out]at HR;clear hlk
      go_wp2_with fail
      go_roundw
      case rel=>exact⟨j+1,by omega,by go_num,HR,hxr,hlr⟩
      case measure=>simp[intOf];omega
   ·have hje:j=2:=by omega
    subst hje;obtain⟨sc,ln,hSb,F,h1,h2⟩:=HR.out.2.1;have Jf:wr.heap[G]?=Θ (Δ #[Γ Ω 0 0,Γ Ω 0 0,Γ Ω 0 0,Γ Ω 0 0] 56 (0,0)):=(HR.out.1.block G (by rw[z];exact J)).trans HOB.out;have HF:=Ξ (φ F (φ h1 (φ h2 Jf)));obtain⟨y0,y1,y2,y3,_,_,_,_⟩:=km F;obtain⟨z0,z1,z2,z3,v0,v1,v2,v3⟩:=km Jf;have hfin:ο G w wr:=by rw[<-hrb];exact HB1.out.trans (HR.out.1.mono (by rw[z,hrb];exact Nat.le_of_lt J))
    obtain⟨Wr,Ws,rfl,_⟩:=aF h1;clear F h1 h2 Jf hxr
    go_wp2_with fail
    have hk:((((wr.setCell ⟨G,0,Ω⟩ (.slice Wr ln.length Ws)).setCell ⟨G,1,Ω⟩ (.slice Q g.roots.length N)).setCell ⟨G,2,Ω⟩ (.slice R g.aA.length O)).setCell ⟨G,3,Ω⟩ (.slice M g.done.length P)).heap[G]?=Θ (Δ #[.slice Wr ln.length Ws,.slice Q g.roots.length N,.slice R g.aA.length O,.slice M g.done.length P] 56 (0,0)):=aB (aB (aB (aB HF.out.2.2.2 0 (.slice Wr ln.length Ws)) 1 (.slice Q g.roots.length N)) 2 (.slice R g.aA.length O)) 3 (.slice M g.done.length P);have hne:∀k,k≠G->((((wr.setCell ⟨G,0,Ω⟩ (.slice Wr ln.length Ws)).setCell ⟨G,1,Ω⟩ (.slice Q g.roots.length N)).setCell ⟨G,2,Ω⟩ (.slice R g.aA.length O)).setCell ⟨G,3,Ω⟩ (.slice M g.done.length P)).heap[k]?=wr.heap[k]?:=fun k h=>by rw[aq h,aq h,aq h,aq h]
    have Q6:ο G w ((((wr.setCell ⟨G,0,Ω⟩ (.slice Wr ln.length Ws)).setCell ⟨G,1,Ω⟩ (.slice Q g.roots.length N)).setCell ⟨G,2,Ω⟩ (.slice R g.aA.length O)).setCell ⟨G,3,Ω⟩ (.slice M g.done.length P)):=(((hfin.setCell (p:=⟨G,0,Ω⟩) (Nat.le_refl _) _).setCell (p:=⟨G,1,Ω⟩) (Nat.le_refl _) _).setCell (p:=⟨G,2,Ω⟩) (Nat.le_refl _) _).setCell (p:=⟨G,3,Ω⟩) (Nat.le_refl _) _;generalize ((((wr.setCell ⟨G,0,Ω⟩ (.slice Wr ln.length Ws)).setCell ⟨G,1,Ω⟩ (.slice Q g.roots.length N)).setCell ⟨G,2,Ω⟩ (.slice R g.aA.length O)).setCell ⟨G,3,Ω⟩ (.slice M g.done.length P))=V at hk hne Q6⊢;obtain⟨x0,x1,x2,x3,_,_,_,_⟩:=km hk;refine bodyPost_ret (v:=.agg #[.slice Wr ln.length Ws,.slice Q g.roots.length N,.slice R g.aA.length O,.slice M g.done.length P]) (by simp[results,Tryz.results119,go_sem,x0,x1,x2,x3]) rfl ⟨⟨_,rfl,?_⟩,Q6⟩;obtain⟨g1,g2,g3,g4⟩:=HF.out;obtain⟨p1,p2,p3,p4,p5⟩:=HR.out;exact⟨_,_,_,_,rfl,N5.reads ⟨ln,bp g2 g4 (by decide) hne,lA g3 g4 (by decide) hne⟩,OV.reads (B:=S) (bp p3 g4 (by decide) hne),OI.reads (B:=S) (bp p4 g4 (by decide) hne),OI.reads (B:=S) (bp p5 g4 (by decide) hne)⟩
end
section
variable(w:υ){bm:Nat}(B bq:Nat)(s:χ)
theorem EY(h:zS w B bq s []):
 ZX aD.prog 260 #[κ (Θ ⟨bq,0,Ω⟩)] w fun e w'=>e=.returned (.tuple #[μ ξ 0,.bool ζ])/\w'=w:=by
 obtain⟨hb,b⟩:=h;obtain⟨a,m,rfl,f,g,c,d⟩:=b;have c0:w.cell? ⟨bq,0,Ω⟩=Θ (.slice a 0 m):=by simp[ψ,hb]
 clear d c hb
 go_enter aD.func260,Tryz.ntmps260
 go_wp2
 go_ret2
 exact⟨rfl,rfl⟩
theorem zU{w:υ}{B bq g o o' m:Nat}{cur:Array χ}{n:Int}{l:List Int}(hb:w.heap[bq]?=Θ (Δ #[Γ (Θ ⟨g,o,Ω⟩) (l.length+1) m] 305 (0,0)))(h2:l.length+1<=m)(h3:m<=9223372036854775807)(H:B<=g/\w.heap[g]?=Θ (.cells cur 3 (0,0))/\o+m<=cur.size/\∀i n',(n::l)[i]?=Θ n'->cur[o+i]?=Θ (μ ξ n'))(ho:o'=o+1\/(o'=o/\m=1)):
 ∃s',zS (w.setCell ⟨bq,0,Ω⟩ (Γ (Θ ⟨g,o',Ω⟩) l.length (m-1))).drew B bq s' l/\ox w (w.setCell ⟨bq,0,Ω⟩ (Γ (Θ ⟨g,o',Ω⟩) l.length (m-1))).drew bq bm (Γ (Θ ⟨g,o,Ω⟩) (l.length+1) m) s':=by
 obtain⟨b,d,j,f⟩:=H;have c:g≠bq:=fun e=>by subst e;rw[hb]at d;cases d
 refine⟨Γ (Θ ⟨g,o',Ω⟩) l.length (m-1),⟨?_,Θ ⟨g,o',Ω⟩,m-1,rfl,by omega,by omega,⟨fun e=>(by cases e),fun ad e=>?_⟩⟩,⟨rfl,rfl,rfl,by simp[ZZ],fun k p h q r=>ι _ _ _ _ h,fun k e=>.inl ?_⟩⟩
 ·exact aB hb 0 _
 ·cases e
  refine⟨g,o',cur,rfl,b,(ι _ _ _ _ c).trans d,by omega,fun i x a=>?_⟩;rcases ho with rfl|⟨rfl,rfl⟩
  ·have:=f (i+1) x (by simpa using a);rw[show o+1+i=o+(i+1) by omega];exact this
  ·have:=(List.getElem?_eq_some_iff.1 a).1;omega
 ·exact e
theorem EZ(bm:Nat)(s:χ)(n:Int)(l:List Int)(h:zS w B bq s (n::l))(hl:l.length<=1000000):
 ZX aD.prog 260 #[κ (Θ ⟨bq,0,Ω⟩)] w fun e w'=>e=.returned (.tuple #[μ ξ n,.bool true])/\∃s',zS w' B bq s' l/\ox w w' bq bm s s':=by
 obtain⟨hb,x⟩:=h;have C:=Ξ x;obtain⟨a,m,rfl,k,A,y,z⟩:=x;have c0:w.drew.cell? ⟨bq,0,Ω⟩=Θ (.slice a (n::l).length m):=by show w.cell? _=_;simp[ψ,hb]
 have q:w.cell? ⟨bq,0,Ω⟩=Θ (.slice a (n::l).length m):=c0;have J:w.frozen? ⟨bq,0,Ω⟩=ζ:=by simp[θ,hb]
 have u:=Ξ hb;cases a with
 |none=>have:=y rfl;subst this;simp at k
 |some ad=>
  obtain⟨g,o,c,rfl,t,r,f,b⟩:=z _ rfl;have h0:=b 0 n rfl;have d0:w.cell? ⟨g,o,Ω⟩=Θ (μ ξ n):=by simpa[ψ,r]using h0
  have H5:=Ξ (⟨t,r,f,b⟩:B<=g/\w.heap[g]?=Θ (.cells c 3 (0,0))/\o+m<=c.size/\∀i v,(n::l)[i]?=Θ v->c[o+i]?=Θ (μ ξ v));have j:(n::l).length=l.length+1:=rfl;rw[j]at c0 q k u C⊢;have F:(1:Int)<=(m:Int):=by omega
  have G:(l.length:Int)+1<=(m:Int):=by omega
  have H:(1:Int)<=(l.length:Int)+1:=by omega
  have D:(0:Int)<(l.length:Int)+1:=by omega
  clear z b r f y hb c0 h0 j;by_cases E:m=1
  ·subst E;have p:l.length=0:=by omega
   have d:l=[]:=List.eq_nil_of_length_eq_zero p;subst d
   go_enter aD.func260,Tryz.ntmps260
   go_wp2
   go_region
   all_goals go_wp2
   go_ret2
   exact⟨rfl,zU u.out k A H5.out (.inr ⟨rfl,rfl⟩)⟩
  ·have I:¬m-1=0:=by omega
   go_enter aD.func260,Tryz.ntmps260
   go_wp2
   go_region
   all_goals go_wp2
   go_ret2
   exact⟨rfl,zU u.out k A H5.out (.inl rfl)⟩
theorem ox.ye{w w':υ}{bq:Nat}{s s':χ}(h:ox w w' bq bq s s'):ox w w' bq bm s s':=⟨h.os,h.tape,h.output,h.size,fun k c a _ b=>h.block k c a a b,h.own⟩
theorem ox.sC{w w':υ}{bq:Nat}{s:χ}(h:w.grownBy w' (Θ bm)):ox w w' bq bm s s:=⟨h.os,h.tape,h.output,h.size,fun k a _ b _=>h.block k a (fun e=>b (Option.some.inj e)),fun k e=>.inl e⟩
def iG(x:List Int×List Int)(n:Int):List Int×List Int:=if x.2.contains n then x else(x.1++[n],x.2++[n])
theorem DC(b3 bq bm bmc:Nat)(s:χ)(q met:List Int)(n:Int)(hq:zS w B bq s q)(hm:bk w bm met)(hc:w.cell? ⟨bmc,0,Ω⟩=Θ (.map (Θ bm)))(h3:w.cell? ⟨b3,0,Ω⟩=Θ (μ ξ (-1)))(hn:0<=n)(hB:B<=w.heap.size)(hl:q.length<=1000000):
 ZX aD.prog 257 #[μ ξ n,κ (Θ ⟨bmc,0,Ω⟩),κ (Θ ⟨b3,0,Ω⟩),κ (Θ ⟨bq,0,Ω⟩)] w fun e w'=>e=.returned (.tuple #[])/\
  ∃s',zS w' B bq s' (iG (q,met) n).1/\bk w' bm (iG (q,met) n).2/\ox w w' bq bm s s':=by
 have F:=Ξ hq;have D:=Ξ hm;have p:=fun W=>ke (w:=W) (b:=bm) (l:=met) n
 have h:=ke n hm;by_cases k:n∈met
 ·have d:iG (q,met) n=(q,met):=by unfold iG;rw[if_pos (by simpa using k)]
  rw[d];have hd:decide (n∈met)=true:=by simpa using k
  rw[hd]at h;clear hq hm k d hd p
  go_enter aD.func257,Tryz.ntmps257
  go_wp2
  go_end0;exact⟨rfl,s,F.out,D.out,ox.bK (ε _ _)⟩
 ·have d:iG (q,met) n=(q++[n],met++[n]):=by unfold iG;rw[if_neg (by simpa using k)]
  rw[d];have hd:decide (n∈met)=ζ:=by simpa using k
  rw[hd]at h;have E:(n==-1)=ζ:=by simp;omega
  obtain⟨C,G,j,f,qv⟩:=ki n hm;have i:nb met n=met++[n]:=by unfold nb;rw[if_neg (by simpa using k)]
  rw[i]at j;have c:bq≠bm:=fun e=>by obtain⟨I,u,hb,_⟩:=hm;subst e;rw[hq.1]at hb;cases hb
  have a:d6 s≠Θ bm:=fun e=>by obtain⟨I,u,hb,_⟩:=hm;obtain⟨_,_,H,t⟩:=hq.2.lt e;rw[t]at hb;cases hb
  have m:zS C B bq s q:=⟨(f.block bq (Ψ.1 hq.1).1 (fun e=>c (Option.some.inj e))).trans hq.1,hq.2.of_block fun g A=>f.block g (hq.2.lt A).2.1 (fun e=>a (by rw[A,e]))⟩;have x:=Ξ m;have r:=Ξ j;have y:=Ξ f;have v:=Ξ (φ c a);clear hq hm k d hd p i j f m c a
  go_enter aD.func257,Tryz.ntmps257
  go_wp2_with fail
  refine(afd _ B bq bq s q n x.out (by omega) hl).mono ?_;rintro e J ⟨rfl,s',z,o⟩
  go_wp2_with fail
  go_end0;obtain⟨c,a⟩:=v.out;exact⟨rfl,s',z,r.out.of_block (o.block bm r.out.lt c.symm c.symm a),(ox.sC y.out).trans o.ye⟩
end
end Kn
namespace Kn
open Go Go.RowKit Go.Shelf Md
section
variable(w:υ)(b n:Nat)
attribute [local go_sem] Oper.semAt_some
theorem Jg:ZX aD.prog 259 #[κ (Θ ⟨b,0,Ω⟩)] w fun e w'=>e=.returned (.func (.func 276) #[] #[κ (Θ ⟨w.heap.size,0,Ω⟩)])/\w'=w.alloc (Δ #[κ (Θ ⟨b,0,Ω⟩)] 155):=by
 go_enter aD.func259,Tryz.ntmps259
 go_wp2
 go_ret;exact⟨rfl,rfl⟩
def dI(l:List HV):List Int:=(l.filter fun v=>v.1==1).map (·.2)
theorem lB(l:List HV)(v:HV):dI (l++[v])=if v.1=1 then dI l++[v.2]else dI l:=by
 unfold dI;rw[List.filter_append,List.map_append];by_cases h:v.1=1
 ·simp[h]
 ·simp[h]
theorem sL{l:List HV}{k:Nat}{n:Int}(h:l[k]?=Θ (1,n)):(dI (l.take k)).length<(dI l).length:=by
 have a:dI l=dI (l.take k++l.drop k):=by rw[List.take_append_drop]
 have b:=(List.getElem?_eq_some_iff.1 h).1;have c:l.drop k=(1,n)::l.drop (k+1):=by
  rw[List.drop_eq_getElem_cons b]
  congr 1
  exact(List.getElem?_eq_some_iff.1 h).2
 rw[a,c];unfold dI;rw[List.filter_append,List.map_append];simp
def stV(x:Nat×Nat):χ:=.agg #[μ ξ (x.1:Int),Γ (Θ ⟨x.2,0,Ω⟩) 1 1]
def KT(x:Nat×Nat):Int:=(x.1:Int)
def uY(n0 bg:Nat)(W W':υ):Prop:=ο n0 W W'/\W'.heap[bg]?=W.heap[bg]?
theorem uY.trans{n0 bg:Nat}{X Y Z:υ}(h:uY n0 bg X Y)(k:uY n0 bg Y Z):uY n0 bg X Z:=⟨h.1.trans k.1,k.2.trans h.2⟩
theorem uY.refl(n0 bg:Nat)(X:υ):uY n0 bg X X:=⟨ε _ _,rfl⟩
theorem uY.book{n0 bg:Nat}{w:υ}(hB:n0<=w.heap.size)(hb:bg<w.heap.size)(W:υ)(l:Nat)(o o':Obj)(hl:w.heap.size<=l)(h:W.heap[l]?=Θ o)(hc:o.isCells=ζ)(hw:o.isWalk=ζ):uY n0 bg W (W.putObj l o'):=⟨belowK_b hB W l o o' hl h hc hw,Z4 (by omega)⟩
theorem uY.alloc{n0 bg:Nat}{X Y:υ}(h:uY n0 bg X Y)(hB:n0<=Y.heap.size)(hb:bg<Y.heap.size)(o:Obj):uY n0 bg X (Y.alloc o):=⟨h.1.alloc hB o,(ZY Y o bg hb).trans h.2⟩
theorem E0(hn:1<=n)(l b bg:Nat)(h:PH)(J Jx:List (Nat×Nat) ->υ->Prop)(W0 W:υ)(hJ:AbidesFrom W.heap.size J) (hY:∀pre x W1,J pre W1->pre.length<(dI h.roots).length->YieldAt Z2 (n-1) aD.prog l #[stV x] W1 fun e W'=>
 (e=.returned (.bool true)/\J (pre++[x]) W'/\uY W0.heap.size bg W1 W')\/(e=.returned (.bool ζ)/\Jx (pre++[x]) W')) (Ot:W.heap[bg]?=Θ (Δ #[κ (Θ ⟨b,0,Ω⟩)] 155 (0,0))) (hg:qw W0 b h) (hd:h.done=[]) (hpos:∀v∈h.roots,v.1=1->0<=v.2) (hW:ο W0.heap.size W0 W) (h0:J [] W):
 CallsIn Z2 n aD.prog 276 #[.func (.yield l) #[] #[],κ (Θ ⟨bg,0,Ω⟩)] W fun e W'=>(∃v,e=.returned v)/\
  ((∃ys,ys.map KT=dI h.roots/\J ys W')\/(∃pre,True/\Jx pre W')):=by
 obtain⟨c,r,Z,d,c0,c1,c2,c3,_,T,_,N⟩:=hg;rw[hd]at N;obtain⟨ar,mr,rfl,_,_,y⟩:=T;obtain⟨ad,md,rfl,_,_,_⟩:=N;have hb:=az c0;have K:W.cell? ⟨bg,0,Ω⟩=Θ (κ (Θ ⟨b,0,Ω⟩)):=by simp[ψ,Ot]
 have w:=(Ψ.1 Ot).1;have U:=(hW.cell (p:=⟨b,1,Ω⟩) hb).trans c1;have Q:=Ξ c3;have E:=Ξ Ot;have V:=Ξ y;have X:=Ξ hY;simp only[List.length_nil]at Q;clear hY c0 c1 c2 c3 y Ot;refine callsIn_of_wp aD.func276 rfl trivial ?_ rfl;simp only[Tryz.ntmps276,List.size_toArray,List.length_cons,List.length_nil,Nat.reduceAdd,Nat.reduceSub,ZV,ZU,List.push_toArray,List.append_toArray,List.nil_append,List.cons_append]
 gi_wp2_with fail
 clear K
 gi_loopw [13] (fun i wr=>∃k:Nat,∃pre,k<=h.roots.length/\i=μ ξ k/\pre.map KT=dI (h.roots.take k)/\J pre wr/\uY W0.heap.size bg W wr) (fun i _=>h.roots.length-(intOf i).toNat)
 case atStart=>exact⟨0,[],Nat.zero_le _,rfl,rfl,h0,uY.refl _ _ _⟩
 case round=>
  obtain⟨k,pre,hk,rfl,u,o,a⟩:=hrel;clear h0 U;have j:=Nat.lt_of_lt_of_le w a.1.size;have t:=hW.trans a.1;have A:=t.size;by_cases D:k<h.roots.length
  ·obtain⟨ba,oa,e,F,s⟩:=V.out (by omega);cases e
   obtain⟨p,q,e1⟩:=ep D;obtain⟨d1,d2⟩:=(s.below t F) k p q e1;have R:=Ξ e1;have S:=Ξ u;by_cases m:p=1
   ·subst m;obtain⟨q,rfl⟩:=Int.eq_ofNat_of_zero_le (hpos _ (List.mem_of_getElem? e1) rfl);have g:pre.length<(dI h.roots).length:=by have:=sL e1;rw[<-u]at this;simpa using this
    have f:=hJ _ _ (wr.alloc (Δ #[μ ξ 1,μ ξ q] 50)) Ω o (Z0 wr _ Ω) (fun r e=>by cases e);have z:=hJ _ _ ((wr.alloc (Δ #[μ ξ 1,μ ξ q] 50)).alloc (Δ #[μ ξ k] 3)) Ω f (Z0 _ _ Ω) (fun r e=>by cases e);obtain⟨fn,O,C,body,P,Y⟩:=X.out _ (q,wr.heap.size+1) _ z g;unfold stV at P;dsimp only at P;clear s e1 g f z u
    gi_wp2_with fail
    refine Y.mono ?_;rintro e W3 (⟨rfl,I,L⟩|⟨rfl,B⟩)
    ·gi_wp2_with fail
     go_roundw
     case rel=>exact⟨k+1,pre++[(q,wr.heap.size+1)],by omega,by go_num,by rw[bW R.out,lB,if_pos rfl,List.map_append,S.out];rfl,I,((a.alloc A j _).alloc (by simp;omega) (by simp;omega) _).trans L⟩
     case measure=>simp[intOf];omega
    ·gi_wp2_with fail
     refine bodyPost_ret (results_none rfl _ _ _) rfl ?_;exact⟨⟨_,rfl⟩,.inr ⟨_,trivial,B⟩⟩
   ·have M:(p==1)=ζ:=by simp[m]
    have f:=hJ _ _ (wr.alloc (Δ #[μ ξ p,μ ξ q] 50)) Ω o (Z0 wr _ Ω) (fun r e=>by cases e);clear s e1 u
    gi_wp2_with fail
    refine⟨fun _ h=>(by cases h),?_⟩
    gi_wp2_with fail
    go_roundw
    case rel=>exact⟨k+1,pre,by omega,by go_num,by rw[bW R.out,lB,if_neg m];exact S.out,f,a.alloc A j _⟩
    case measure=>simp[intOf];omega
  ·have H:k=h.roots.length:=by omega
   subst H;rw[List.take_of_length_le (Nat.le_refl _)]at u;have f3:=(t.cell (p:=⟨b,3,Ω⟩) hb).trans Q.out;have fg:wr.cell? ⟨bg,0,Ω⟩=Θ (κ (Θ ⟨b,0,Ω⟩)):=by simp[ψ,a.2.trans E.out]
   gi_wp2_with fail
   gi_loopw [38] (fun i G=>i=μ ξ 0/\G=wr) (fun _ _=>0)
   case atStart=>exact⟨rfl,rfl⟩
   case round=>
    obtain⟨rfl,rfl⟩:=hrel
    gi_wp2_with fail
    go_end0;exact⟨⟨_,rfl⟩,.inl ⟨pre,u,o⟩⟩
theorem wH(hn:1<=n)(b bg:Nat)(h:PH)(w0 w:υ)(hb:ο w0.heap.size w0 w)(hbg:w.heap[bg]?=Θ (Δ #[κ (Θ ⟨b,0,Ω⟩)] 155 (0,0)))(hg:qw w0 b h)(hd:h.done=[])(hpos:∀v∈h.roots,v.1=1->0<=v.2):
 SeqStopsK Z2 n aD.prog 276 #[κ (Θ ⟨bg,0,Ω⟩)] (fun x:Nat×Nat=>#[stV x]) (uY w0.heap.size bg) (fun ys=>ys.map KT=dI h.roots) (fun _=>True) (dI h.roots).length w:=fun l J e W a d f c h0=>
 E0 n hn l b bg h J e w0 W d c ((a.block bg (Ψ.1 hbg).1).trans hbg) hg hd hpos (hb.trans (a.mono hb.size)) h0
def BR (t f:Int) (w:υ) (e:Ending) (w':υ):Prop:=∃bt bf,e=.returned (.func (.func 321) #[] #[κ (Θ ⟨bt,0,Ω⟩),κ (Θ ⟨bf,0,Ω⟩)])/\
    w'.heap[bt]?=Θ (Δ #[μ ξ t] 3 (0,0))/\w'.heap[bf]?=Θ (Δ #[μ ξ f] 3 (0,0))/\w.heap.size<=bt/\w.heap.size<=bf/\ο w.heap.size w w'
theorem zV(f t:Int):ZX aD.prog 320 #[μ ξ f,μ ξ t] w fun e w'=>BR t f w e w':=by
 go_enter aD.func320,Tryz.ntmps320
 go_wp2
 go_ret;have a:=ω (w.alloc (Δ #[μ ξ f] 3)) (Δ #[μ ξ t] 3);have b:=ω w (Δ #[μ ξ f] 3);refine⟨w.heap.size+1,w.heap.size,by simp,by simpa using a,((af (w.alloc (Δ #[μ ξ f] 3)) (Δ #[μ ξ t] 3)).block _ (by simp)).trans b,Nat.le_succ _,Nat.le_refl _,(af w _).alloc (by simp) _⟩
def tR(k1 k2:Nat)(W W':υ):Prop:=W'.heap[k1]?=W.heap[k1]?/\W'.heap[k2]?=W.heap[k2]?
theorem tR.trans{k1 k2:Nat}{X Y Z:υ}(h:tR k1 k2 X Y)(k:tR k1 k2 Y Z):tR k1 k2 X Z:=⟨k.1.trans h.1,k.2.trans h.2⟩
theorem tR.refl(k1 k2:Nat)(X:υ):tR k1 k2 X X:=⟨rfl,rfl⟩
theorem tR.book{k1 k2:Nat}{w:υ}(h1:k1<w.heap.size)(h2:k2<w.heap.size)(W:υ)(l:Nat)(o o':Obj)(hl:w.heap.size<=l)(h:W.heap[l]?=Θ o)(hc:o.isCells=ζ)(hw:o.isWalk=ζ):tR k1 k2 W (W.putObj l o'):=⟨Z4 (by omega),Z4 (by omega)⟩
theorem tR.bK{k1 k2:Nat}{X Y:υ}(h:ο X.heap.size X Y)(h1:k1<X.heap.size)(h2:k2<X.heap.size):tR k1 k2 X Y:=⟨h.block k1 h1,h.block k2 h2⟩
def inV{m:Nat}(x:Fin m):χ:=μ ξ ((x.val:Nat):Int)
theorem E3(hn:1<=n)(l bt bf m:Nat)(J Jx:List (Fin m) ->υ->Prop)(W:υ) (hY:∀pre x W1,J pre W1->pre.length<m->YieldAt Z2 (n-1) aD.prog l #[inV x] W1 fun e W'=>
 (e=.returned (.bool true)/\J (pre++[x]) W'/\tR bt bf W1 W')\/(e=.returned (.bool ζ)/\Jx (pre++[x]) W')) (hbt:W.heap[bt]?=Θ (Δ #[μ ξ (m:Int)] 3 (0,0))) (hbf:W.heap[bf]?=Θ (Δ #[μ ξ 0] 3 (0,0))) (hm:m<=1000000) (h0:J [] W):
 CallsIn Z2 n aD.prog 321 #[.func (.yield l) #[] #[],κ (Θ ⟨bt,0,Ω⟩),κ (Θ ⟨bf,0,Ω⟩)] W fun e W'=>(∃v,e=.returned v)/\
  ((∃ys,ys.map Fin.val=List.range m/\J ys W')\/(∃pre,True/\Jx pre W')):=by
 have u:W.cell? ⟨bt,0,Ω⟩=Θ (μ ξ (m:Int)):=by simp[ψ,hbt]
 have r:W.cell? ⟨bf,0,Ω⟩=Θ (μ ξ 0):=by simp[ψ,hbf]
 have s:=Ξ hbf;have w:=Ξ hY;clear hY hbt hbf;refine callsIn_of_wp aD.func321 rfl trivial ?_ rfl;simp only[Tryz.ntmps321,List.size_toArray,List.length_cons,List.length_nil,Nat.reduceAdd,Nat.reduceSub,ZV,ZU,List.push_toArray,List.append_toArray,List.nil_append,List.cons_append]
 gi_wp2_with fail
 clear u r
 gi_loopw [8] (fun i wr=>∃k:Nat,∃pre:List (Fin m),k<=m/\i=μ ξ k/\pre.map Fin.val=List.range k/\J pre wr/\tR bt bf W wr) (fun i _=>m-(intOf i).toNat)
 case atStart=>exact⟨0,[],Nat.zero_le _,rfl,rfl,h0,tR.refl _ _ _⟩
 case round=>
  obtain⟨k,pre,A,rfl,g,b,d⟩:=hrel;clear h0;by_cases a:k<m
  ·have B:wr.cell? ⟨bf,0,Ω⟩=Θ (μ ξ 0):=by simp[ψ,d.2.trans s.out]
   obtain⟨fn,p,f,body,q,y⟩:=w.out _ ⟨k,a⟩ _ b (by have:=congrArg List.length g;simp at this;omega);unfold inV at q;dsimp only at q;have z:=Ξ g;clear g;have t:(k:Int)<(m:Int):=by omega
   gi_wp2_with fail
   refine y.mono ?_;rintro e C (⟨rfl,j,o⟩|⟨rfl,c⟩)
   ·gi_wp2_with fail
    go_roundw
    case rel=>exact⟨k+1,pre++[⟨k,a⟩],by omega,by go_num,by rw[List.range_succ,List.map_append,z.out];rfl,j,d.trans o⟩
    case measure=>simp[intOf];omega
   ·gi_wp2_with fail
    refine bodyPost_ret (results_none rfl _ _ _) rfl ?_;exact⟨⟨_,rfl⟩,.inr ⟨_,trivial,c⟩⟩
  ·have h:k=m:=by omega
   subst h
   gi_wp2_with fail
   go_end0;exact⟨⟨_,rfl⟩,.inl ⟨pre,g,b⟩⟩
theorem oy(hn:1<=n)(bt bf m:Nat)(w:υ)(hbt:w.heap[bt]?=Θ (Δ #[μ ξ (m:Int)] 3 (0,0)))(hbf:w.heap[bf]?=Θ (Δ #[μ ξ 0] 3 (0,0)))(hm:m<=1000000):
 SeqStopsK Z2 n aD.prog 321 #[κ (Θ ⟨bt,0,Ω⟩),κ (Θ ⟨bf,0,Ω⟩)] (fun x:Fin m=>#[inV x]) (tR bt bf) (fun ys=>ys.map Fin.val=List.range m) (fun _=>True) m w:=fun l J c W a e d b h0=>
 E3 n hn l bt bf m J c W b ((a.block bt (Ψ.1 hbt).1).trans hbt) ((a.block bf (Ψ.1 hbf).1).trans hbf) hm h0
theorem Ou(a:Option Addr)(n m b:Nat):ZX aD.prog 316 #[.agg #[μ ξ 0,.slice a n m],.map (Θ b)] w fun e w'=>BR n 0 w e w':=by
 go_enter aD.func316,Tryz.ntmps316
 go_wp2_with fail
 refine(zV _ _ _).mono ?_;rintro e w' ⟨j,c,rfl,g,d,i,f,h⟩
 go_wp2_with fail
 go_ret;simp at i f;exact⟨j,c,rfl,g,d,by omega,by omega,(af w _).trans (h.mono (by simp))⟩
theorem Ov(a:Option Addr)(n m b:Nat):ZX aD.prog 322 #[.agg #[μ ξ 1,.slice a n m],.map (Θ b)] w fun e w'=>BR ((0:Nat):Int) 0 w e w':=by
 go_enter aD.func322,Tryz.ntmps322
 go_wp2_with fail
 refine(zV _ _ _).mono ?_;rintro e w' ⟨j,c,rfl,g,d,i,f,h⟩
 go_wp2_with fail
 go_ret;simp at i f;exact⟨j,c,rfl,g,d,by omega,by omega,(af w _).trans (h.mono (by simp))⟩
end
end Kn
