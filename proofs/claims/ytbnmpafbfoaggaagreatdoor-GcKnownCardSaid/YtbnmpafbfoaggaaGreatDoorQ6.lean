/- A part of the proof of GcKnown; no conditions. -/
import Derived.Test.YtbnmpafbfoaggaaGreatDoorQ5
import Derived.Test.YtbnmpafbfoaggaaGreatDoorQ0
import Derived.Test.YtbnmpafbfoaggaaGreatDoorQ1
set_option linter.unusedVariables false
set_option linter.unusedSimpArgs false
set_option maxRecDepth 100000
set_option maxHeartbeats 16000000
noncomputable section
open Go.Value renaming slice->Ω,int->Ξ,pointer->η
open Option renaming none->Ψ,some->ω
open Go.IntKind renaming i64->Θ
open Go.World renaming cell?->Δ
open Go.Lib renaming hid->Γ
open Go.Obj renaming cells->ψ
open Array renaming getElem?_eq_some_iff->χ
open And renaming intro->φ
open Go.RowKit renaming Below->υ
open Go renaming World->ο,Value->ξ,Calls->μ,heap_alloc_new->κ,wpAnyH_take->ζ,leaves_cons->ε,results->Z8,TypeId->Z4,bodyPost_ret->Z2,wpList_step->ZZ,Leaves->ZY,settle->ZX
open Go.RowKit.Below renaming refl->ι
open Go.Instr renaming makeFunc->θ
open Nat renaming lt_of_lt_of_le->Z9,le_refl->Z3
open List renaming range->Z7,setIfInBounds_toArray->Z1,replicate->Z0
namespace Go.Proofs.YtbnmpafbfoaggaaGreatDoor
namespace Kn
open Go Go.RowKit Md
theorem DG(w:ο)(B br b tt aa n pl:Nat)(r:Md.RS){J:Nat->Prop}(vs:List HV)(x:Int)(hr:bD w B br b r J)(hB:B<=w.heap.size)(hJ:∀j,J j->j<w.heap.size)(hJ3:B7 w J)(ht:r.g.roots[tt]?=ω (4,(n:Int)))(ha:r.g.roots[aa]?=ω (3,x))(he:r.g.old[n]?=ω (0,vs))(hrl:r.g.roots.length<=1000)(hol:r.g.old.length<=1000)(hvl:vs.length<=1000)(hpl:pl<=1000)(hmk:pl<vs.length->r.g.marked=[]):
 μ aD.prog 153 #[η (ω ⟨br,0,Ψ⟩),.agg #[Ξ Θ 4,Ξ Θ (tt:Int),Ξ Θ (aa:Int),Ξ Θ (pl:Int)]] w (gN J B br b r n pl vs x w):=by
 have z:=af w (ψ #[Ξ Θ 4,Ξ Θ (tt:Int),Ξ Θ (aa:Int),Ξ Θ (pl:Int)] 44);have HR:=Γ (hr.one (ψ #[Ξ Θ 4,Ξ Θ (tt:Int),Ξ Θ (aa:Int),Ξ Θ (pl:Int)] 44));have N:=Γ z;have A:=Γ (φ ht (φ ha (φ he (φ hmk hJ3))));clear hr ht ha he hmk hJ3
 go_enter aD.func153,Tryz.ntmps153
 go_wp2_with fail
 ((with_reducible refine(cd _ _).mono ?_))
 rintro e w1 ⟨rfl,D⟩;have T:w1.heap[w.heap.size]?=ω (ψ #[Ξ Θ 4,Ξ Θ (tt:Int),Ξ Θ (aa:Int),Ξ Θ (pl:Int)] 44 (0,0)):=by rw[D];exact κ w _
 rw[<-D]at HR N z;have O:w1.heap.size=w.heap.size+1:=by rw[D];simp
 clear D;obtain⟨c0,c1,c2,c3⟩:=fZ T
 go_wp2_with fail
 refine(sQ _ B br b r tt 4 (n:Int) HR.out A.out.1 (by omega)).mono ?_;rintro e I ⟨rfl,y⟩;have Z:=(y.block w.heap.size (by omega)).trans T;have C:=Γ (HR.out.below y);have f:=Γ (z.trans (y.mono z.size));have a:w.heap.size<I.heap.size:=by have:=y.size;omega
 clear T HR c0 c1 c2 c3 z y N O;obtain⟨c0,c1,c2,c3⟩:=fZ Z;have HY:=Γ Z
 go_wp2_with fail
 have H3:∀W:ο,υ I.heap.size I W->(∀j,(J j\/j=w.heap.size) ->j<W.heap.size)/\B7 W (fun j=>J j\/j=w.heap.size):=fun W U=>by
  have hs:=U.size;have eq:=f.out.size;refine⟨fun j F=>?_,fun j F c t fr hc=>?_⟩
  ·rcases F with h|h
   ·have:=hJ j h;omega
   ·omega
  ·rcases F with h|h
   ·have:=hJ j h;exact A.out.2.2.2.2 j h c t fr ((f.out.block j this).symm.trans ((U.block j (by omega)).symm.trans hc))
   ·subst h;have h2:ω (Obj.cells _ 44 (0,0))=ω (Obj.cells c t fr):=HY.out.symm.trans ((U.block _ a).symm.trans hc);cases h2
    decide
 have s:=Γ H3;clear H3;by_cases P:pl<vs.length
 ·go_region_held3 (fun x=>x.cell? ⟨w.heap.size,1,Ψ⟩=ω (Ξ Θ (tt:Int))/\x.cell? ⟨w.heap.size,2,Ψ⟩=ω (Ξ Θ (aa:Int))/\x.cell? ⟨w.heap.size,3,Ψ⟩=ω (Ξ Θ (pl:Int))) ((refine⟨?_,?_,?_⟩<;>(repeat (first|with_reducible assumption|with_reducible refine dO ?_))))
   (first
     |(go_at_call 200;(with_reducible refine(sQ _ B br b r aa 3 x (C.out.below (ι _ _).drew) A.out.2.1 (by omega)).mono ?_);rintro e R ⟨rfl,L⟩;have z3:υ I.heap.size I R:=(ι _ _).drew.trans L;have k1:=(z3.cell (p:=⟨w.heap.size,1,Ψ⟩) a).trans c1;have k2:=(z3.cell (p:=⟨w.heap.size,2,Ψ⟩) a).trans c2;have k3:=(z3.cell (p:=⟨w.heap.size,3,Ψ⟩) a).trans c3)
     |(go_at_call 204;(with_reducible refine(JH _ B br b tt n pl r vs x (C.out.below z3) (by have:=z3.size;have:=f.out.size;omega) (s.out _ z3).1 (s.out _ z3).2 A.out.1 A.out.2.2.1 hrl hol hvl hpl A.out.2.2.2.1).mono ?_);rintro e w4 d;(unfold gN at d;rw[if_pos P]at d;obtain⟨rfl,M,E,H⟩:=d;have y4:=(H w.heap.size (.inr rfl) (az k1)).trans ((z3.block _ a).trans Z);obtain⟨m0,m1,m2,m3⟩:=fZ y4;have Y:=Γ (φ M (φ E H));clear M E H y4)))
  have G:υ B w w4:=((f.out.mono hB).trans (z3.mono (by have:=f.out.size;omega))).trans Y.out.2.1;have X:tc J w w4:=fun j F hl=>(Y.out.2.2 j (.inl F) ((s.out _ z3).1 j (.inl F))).trans ((z3.block j (by have:=f.out.size;omega)).trans (f.out.block j hl))
  have Q:=Y.out.1.sub (J':=J) (fun j F=>.inl F);go_end0;unfold gN;rw[if_pos P];exact⟨rfl,Q,G,X⟩
 ·refine wp_region_held_drew (S:=fun x=>x.cell? ⟨w.heap.size,1,Ψ⟩=ω (Ξ Θ (tt:Int))/\x.cell? ⟨w.heap.size,2,Ψ⟩=ω (Ξ Θ (aa:Int))/\x.cell? ⟨w.heap.size,3,Ψ⟩=ω (Ξ Θ (pl:Int))) (by kernel_rfl) ⟨c1,c2,c3⟩ (fun k=>?_);refine ζ (i:=0) (v:=?_) rfl (by kernel_rfl) (by kernel_rfl) (by kernel_rfl) (fun _ _ _ h=>h) (.inl ⟨by rfl,fun u q=>?_⟩) k ?_;rotate_left
  ·obtain⟨l,o,m⟩:=q;go_simp;rfl
  refine ζ (i:=1) (v:=?_) rfl (by kernel_rfl) (by kernel_rfl) (by kernel_rfl) (fun _ _ _ h=>h) (.inl ⟨by rfl,fun u q=>?_⟩) k ?_;rotate_left
  ·obtain⟨l,o,m⟩:=q;go_simp;rfl
  refine ζ (i:=2) (v:=?_) rfl (by kernel_rfl) (by kernel_rfl) (by kernel_rfl) (fun _ _ _ h=>h) (.inl ⟨by rfl,fun u q=>?_⟩) k ?_;rotate_left
  ·obtain⟨l,o,m⟩:=q;go_simp;rfl
  refine ζ (i:=3) (v:=?_) rfl (by kernel_rfl) (by kernel_rfl) (by kernel_rfl) (fun _ _ _ h=>h) (.inl ⟨by rfl,fun u q=>?_⟩) k ?_;rotate_left
  ·obtain⟨l,o,m⟩:=q;go_simp;rfl
  refine ζ (i:=4) (v:=?_) rfl (by kernel_rfl) (by kernel_rfl) (by kernel_rfl) (fun _ _ _ h=>h) (.inl ⟨by rfl,fun u q=>?_⟩) k ?_;rotate_left
  ·obtain⟨l,o,m⟩:=q;go_simp;rfl
  refine ζ (i:=5) (v:=?_) rfl (by kernel_rfl) (by kernel_rfl) (by kernel_rfl) (fun _ _ _ h=>h) (.inl ⟨by rfl,fun u q=>?_⟩) k ?_;rotate_left
  ·obtain⟨l,o,m⟩:=q;go_simp;rfl
  refine ζ (i:=7) (v:=?_) rfl (by kernel_rfl) (by kernel_rfl) (by kernel_rfl) (fun _ _ _ h=>h) (.inl ⟨by rfl,fun u q=>?_⟩) k ?_;rotate_left
  ·obtain⟨l,o,m⟩:=q;go_simp;rfl
  refine ζ (i:=8) (v:=?_) rfl (by kernel_rfl) (by kernel_rfl) (by kernel_rfl) (fun _ _ _ h=>h) (.inl ⟨by rfl,fun u q=>?_⟩) k ?_;rotate_left
  ·obtain⟨l,o,m⟩:=q;go_simp;rfl
  refine wpAnyH_ready (rs:=[6]) (by kernel_rfl) (by simp) (AllReadyH.cons rfl (fun K V=>?_) AllReadyH.nil);simp only[Act.put,Z1,List.set_cons_zero,List.set_cons_succ];go_simp;refine(sQ _ B br b r aa 3 x (C.out.below (ι _ _).drew) A.out.2.1 (by omega)).mono ?_;rintro e R ⟨rfl,L⟩;have z3:υ I.heap.size I R:=(ι _ _).drew.trans L;refine V.out _ _ ⟨(z3.cell (p:=⟨w.heap.size,1,Ψ⟩) a).trans c1,(z3.cell (p:=⟨w.heap.size,2,Ψ⟩) a).trans c2,(z3.cell (p:=⟨w.heap.size,3,Ψ⟩) a).trans c3⟩ (fun hS3=>?_);clear V K;refine wpAnyH_ready (rs:=[9]) (by kernel_rfl) (by simp) (AllReadyH.cons rfl (fun K V=>?_) AllReadyH.nil);simp only[Act.put,Z1,List.set_cons_zero,List.set_cons_succ];go_simp;refine(JH _ B br b tt n pl r vs x (C.out.below z3) (by have:=z3.size;have:=f.out.size;omega) (s.out _ z3).1 (s.out _ z3).2 A.out.1 A.out.2.2.1 hrl hol hvl hpl A.out.2.2.2.1).mono ?_;rintro e w4 d;unfold gN at d;rw[if_neg P]at d;obtain⟨rfl,E⟩:=d;have G:υ B w w4:=((f.out.mono hB).trans (z3.mono (by have:=f.out.size;omega))).trans E;refine⟨rfl,?_⟩;unfold gN;rw[if_neg P];exact⟨rfl,G⟩
section
variable{b:Nat}{t:Z4}{w:ο}
theorem dm.px{B:Nat}{g:GH}(h:dm w B b g):∃a0 n0 m0 a1 n1 m1 a2 n2 m2 a3 n3 m3 a4 n4 m4 a5 n5 m5,w.heap[b]?=ω (ψ #[.slice a0 n0 m0,.slice a1 n1 m1,.slice a2 n2 m2,.slice a3 n3 m3,.slice a4 n4 m4,.slice a5 n5 m5] 114 (0,0))/\∀w':ο,dm w' B b g->w'.heap[b]?=w.heap[b]?->GV w' (.agg #[.slice a0 n0 m0,.slice a1 n1 m1,.slice a2 n2 m2,.slice a3 n3 m3,.slice a4 n4 m4,.slice a5 n5 m5]) g:=by obtain⟨n,o,m,row,I,hb,p,i,u,l⟩:=h;obtain⟨r0,r1,r2⟩:=l.roots;obtain⟨H,F,t,_⟩:=id p;obtain⟨D,A,r,_⟩:=id i;obtain⟨z,G,q,_⟩:=aF u;obtain⟨a0,m0,f,_⟩:=aF r0;obtain⟨a1,m1,e1,_⟩:=aF r1;obtain⟨a2,m2,e2,_⟩:=aF r2;have a:=hb;rw[t,r,q,f,e1,e2]at a;refine⟨_,_,_,_,_,_,_,_,_,_,_,_,_,_,_,_,_,_,a,fun w' h c=>?_⟩;obtain⟨v0,v1,v2,C,E,J,c0,c1,c2,c3,d,e,j,k,v,y,x,s⟩:=h.reads;rw[a]at c;simp[Δ,c]at c0 c1 c2 c3 d e;subst c0 c1 c2 c3 d e;exact⟨_,_,_,_,_,_,rfl,j,k,v,y,x,s⟩
def io(w:ο)(b:Nat)(v0 v1 v2 v3 v4 v5:ξ):ο:=(((((w.setCell ⟨b,0,Ψ⟩ v0).setCell ⟨b,1,Ψ⟩ v1).setCell ⟨b,2,Ψ⟩ v2).setCell ⟨b,3,Ψ⟩ v3).setCell ⟨b,4,Ψ⟩ v4).setCell ⟨b,5,Ψ⟩ v5
theorem kn{x0 x1 x2 x3 x4 x5 v0 v1 v2 v3 v4 v5:ξ}(hb:w.heap[b]?=ω (ψ #[x0,x1,x2,x3,x4,x5] t (0,0))):
 (io w b v0 v1 v2 v3 v4 v5).heap[b]?=ω (ψ #[v0,v1,v2,v3,v4,v5] t (0,0))/\(∀k,k≠b->(io w b v0 v1 v2 v3 v4 v5).heap[k]?=w.heap[k]?)/\(io w b v0 v1 v2 v3 v4 v5).heap.size=w.heap.size/\∀H,H<=b->υ H w (io w b v0 v1 v2 v3 v4 v5):=by
 refine⟨heap_setCell_same (i:=5) (v:=v5) (heap_setCell_same (i:=4) (v:=v4) (heap_setCell_same (i:=3) (v:=v3) (heap_setCell_same (i:=2) (v:=v2) (heap_setCell_same (i:=1) (v:=v1) (heap_setCell_same (i:=0) (v:=v0) hb))))),fun k a=>?_,by simp[io],fun H c=>?_⟩
 ·unfold io;rw[aq a,aq a,aq a,aq a,aq a,aq a]
 ·exact((((((ι H w).setCell (p:=⟨b,0,Ψ⟩) c _).setCell (p:=⟨b,1,Ψ⟩) c _).setCell (p:=⟨b,2,Ψ⟩) c _).setCell (p:=⟨b,3,Ψ⟩) c _).setCell (p:=⟨b,4,Ψ⟩) c _).setCell (p:=⟨b,5,Ψ⟩) c _
theorem jF{x:ξ}(h:w.heap[b]?=ω (ψ #[x] t (0,0))):(w.setCell ⟨b,0,Ψ⟩ x).heap[b]?=ω (ψ #[x] t (0,0))/\(∀k:Nat,(w.setCell ⟨b,0,Ψ⟩ x).heap[k]?=w.heap[k]?)/\υ w.heap.size w (w.setCell ⟨b,0,Ψ⟩ x):=by
 have h0:(w.setCell ⟨b,0,Ψ⟩ x).heap[b]?=ω (ψ #[x] t (0,0)):=by rw[aB h];rfl
 have a:∀k:Nat,(w.setCell ⟨b,0,Ψ⟩ x).heap[k]?=w.heap[k]?:=fun k=>by
  by_cases c:k=b
  ·rw[c,h0,h]
  ·exact aq c
 exact⟨h0,a,⟨rfl,rfl,rfl,by simp,fun k _=>a k⟩⟩
theorem fz{w9:ο}{x:ξ}(h:w.heap[b]?=ω (ψ #[x] t (0,0)))(hk:υ w.heap.size w w9):(w9.setCell ⟨b,0,Ψ⟩ x).heap[b]?=ω (ψ #[x] t (0,0))/\υ w.heap.size w (w9.setCell ⟨b,0,Ψ⟩ x):=by have a:=(χ.1 h).1;obtain⟨h0,_,c⟩:=jF ((hk.block b a).trans h);exact⟨h0,hk.trans (c.mono hk.size)⟩
theorem afG{w4:ο}{H B rb eb:Nat}{g:GH}{x0 x1 x2 x3 x4 x5 v0 v1 v2 v3 v4 v5:ξ}(hg:dm w4 B b g)(hv:∀w':ο,dm w' B b g->w'.heap[b]?=w4.heap[b]?->GV w' (.agg #[v0,v1,v2,v3,v4,v5]) g)(hr:w4.heap[rb]?=ω (ψ #[x0,x1,x2,x3,x4,x5] 26 (0,0)))(he:w4.heap[eb]?=ω (ψ #[Ξ Θ 0] 34 (0,0)))(h1:H<=rb)(h2:H<=eb):
 ((io w4 rb v0 v1 v2 v3 v4 v5).setCell ⟨eb,0,Ψ⟩ (Ξ Θ 0)).heap[eb]?=ω (ψ #[Ξ Θ 0] 34 (0,0))/\
 ∀w9,υ ((io w4 rb v0 v1 v2 v3 v4 v5).setCell ⟨eb,0,Ψ⟩ (Ξ Θ 0)).heap.size ((io w4 rb v0 v1 v2 v3 v4 v5).setCell ⟨eb,0,Ψ⟩ (Ξ Θ 0)) w9->(w9.setCell ⟨eb,0,Ψ⟩ (Ξ Θ 0)).heap[rb]?=ω (ψ #[v0,v1,v2,v3,v4,v5] 26 (0,0))/\(w9.setCell ⟨eb,0,Ψ⟩ (Ξ Θ 0)).heap[eb]?=ω (ψ #[Ξ Θ 0] 34 (0,0))/\GV (w9.setCell ⟨eb,0,Ψ⟩ (Ξ Θ 0)) (.agg #[v0,v1,v2,v3,v4,v5]) g/\(H<=w4.heap.size->υ H w4 (w9.setCell ⟨eb,0,Ψ⟩ (Ξ Θ 0))):=by
 obtain⟨r,j,t,p⟩:=kn (v0:=v0) (v1:=v1) (v2:=v2) (v3:=v3) (v4:=v4) (v5:=v5) hr;have f:eb≠rb:=fun e=>by rw[e,hr]at he;cases he
 generalize io w4 rb v0 v1 v2 v3 v4 v5=w5 at *;obtain⟨q1,n,c⟩:=jF ((j eb f).trans he);refine⟨q1,fun w9 s=>?_⟩;generalize w5.setCell ⟨eb,0,Ψ⟩ (Ξ Θ 0)=m at *;obtain⟨r1,r2⟩:=fz q1 s;have l:rb<m.heap.size:=by have:=c.size;have:=(χ.1 hr).1;omega
 have d:b<m.heap.size:=by have:=c.size;have:=hg.obj.2.1;omega
 have i:dm m B b g:=((cR.wC (J:=fun _=>False) hg (fun _ h=>h.elim)).off hr (by decide) (fun k q=>(n k).trans (j k q))).own;obtain⟨_,_,cb,a⟩:=hg.obj;have o:b≠rb:=fun e=>by rw[e,hr]at a;cases a
 exact⟨(r2.block rb l).trans ((n rb).trans r),r1,hv _ (i.below r2) ((r2.block b d).trans ((n b).trans (j b o))),fun u=>(p H h1).trans (((c.mono (by omega)).trans (r2.mono (by have:=c.size;omega))))⟩
theorem qh(w:ο)(v:ξ)(g g':GH)(k n:Nat)(s:uH)(hv:GV w v g)(hk:eC g)(hm:g.marked.length<=1000000)(hz:cN g=0)(lE:Md.collect s g=ω (n,g'))
 (hc:∀(w:ο) (B b:Nat),cR w B b g (fun _=>False) ->B<=w.heap.size->μ aD.prog 144 #[η (ω ⟨b,0,Ψ⟩),.iface k (.agg #[])] w (cq (fun _=>False) B b g s w)):
 μ aD.prog 78 #[v,.iface k (.agg #[])] w fun e w'=>(∃r,e=.returned (.tuple #[r,Ξ Θ 0])/\GV w' r g')/\υ w.heap.size w w':=by
 have hmf:∀(fn:Fn) (first cap:Array ξ) (w:ο),(θ fn first cap).run aD.prog w=.ok (.func fn first cap) w:=fun _ _ _ _=>rfl
 have HV:=Γ hv;have HK:=Γ hk;have HC:=Γ hc;have X:=Γ lE;obtain⟨vn,o,r,Z,d,m,rfl,h1,h2,h3,h4,h5,h6⟩:=hv;clear hk h1 h2 h3 h4 h5 h6 hc lE
 go_enter_defers aD.func78,Tryz.ntmps78
 go_wp2_with fail
 obtain⟨c,t,a,W⟩:=al3 w (ψ #[vn,o,r,Z,d,m] 26) (ψ #[Ω Ψ 0 0,Ω Ψ 0 0,Ω Ψ 0 0,Ω Ψ 0 0,Ω Ψ 0 0,Ω Ψ 0 0] 26) (ψ #[Ξ Θ 0] 34);refine(sw _ _ g (HV.out.below a) HK.out hz hm).mono ?_;rintro e w2 ⟨⟨b,rfl,z⟩,j⟩;have u:=a.trans (j.mono a.size);have T:=Γ (z.less (B':=w.heap.size+1+1+1) (by omega));have V:=Γ (j.mono (B':=w.heap.size+1+1+1) (by omega));have eq:=j.size;have U:=Γ (φ ((j.block (w.heap.size+1) (by omega)).trans c) ((j.block (w.heap.size+1+1) (by omega)).trans t));clear j a z c t
 go_wp2_with fail
 refine(HC.out _ (w.heap.size+1+1+1) b (cR.wC T.out (fun _ h=>h.elim)) (by omega)).mono ?_;rintro e w3 q;unfold cq at q;rw[X.out]at q;obtain⟨rfl,x,a,_,_⟩:=q;have A:=Γ x.own;have p:=u.trans (a.mono (B':=w.heap.size) (by omega));have c:=(a.block (w.heap.size+1) (by omega)).trans U.out.1;have t:=(a.block (w.heap.size+1+1) (by omega)).trans U.out.2;clear u V x U a
 go_wp2_with fail
 ((with_reducible refine(cd _ _).mono ?_))
 rintro e w4 ⟨rfl,rfl⟩;obtain⟨a0,K,N,a1,Q,m1,P,I,m2,J,F,E,M,G,R,L,D,O,hb,C⟩:=A.out.px;have c0:w4.cell? ⟨b,0,Ψ⟩=ω (.slice a0 K N):=by simp[Δ,hb]
 have c1:w4.cell? ⟨b,1,Ψ⟩=ω (.slice a1 Q m1):=by simp[Δ,hb]
 have c2:w4.cell? ⟨b,2,Ψ⟩=ω (.slice P I m2):=by simp[Δ,hb]
 have c3:w4.cell? ⟨b,3,Ψ⟩=ω (.slice J F E):=by simp[Δ,hb]
 have c4:w4.cell? ⟨b,4,Ψ⟩=ω (.slice M G R):=by simp[Δ,hb]
 have c5:w4.cell? ⟨b,5,Ψ⟩=ω (.slice L D O):=by simp[Δ,hb]
 have y:=Γ (φ hb (φ C (φ p (φ c t))));have d0:w4.cell? ⟨w.heap.size+1,0,Ψ⟩=ω (Ω Ψ 0 0):=by simp[Δ,c]
 have d1:w4.cell? ⟨w.heap.size+1,1,Ψ⟩=ω (Ω Ψ 0 0):=by simp[Δ,c]
 have d2:w4.cell? ⟨w.heap.size+1,2,Ψ⟩=ω (Ω Ψ 0 0):=by simp[Δ,c]
 have d3:w4.cell? ⟨w.heap.size+1,3,Ψ⟩=ω (Ω Ψ 0 0):=by simp[Δ,c]
 have d4:w4.cell? ⟨w.heap.size+1,4,Ψ⟩=ω (Ω Ψ 0 0):=by simp[Δ,c]
 have d5:w4.cell? ⟨w.heap.size+1,5,Ψ⟩=ω (Ω Ψ 0 0):=by simp[Δ,c]
 have de:=d7 t;have f0:=cD (i:=0) c;have f1:=cD (i:=1) c;have f2:=cD (i:=2) c;have f3:=cD (i:=3) c;have f4:=cD (i:=4) c;have f5:=cD (i:=5) c;have fe:=cD (i:=0) t;clear hb C p c t eq W
 go_wp2_with fail
 rw[show((((((w4.setCell ⟨w.heap.size+1,0,Ψ⟩ (.slice a0 K N)).setCell ⟨w.heap.size+1,1,Ψ⟩ (.slice a1 Q m1)).setCell ⟨w.heap.size+1,2,Ψ⟩ (.slice P I m2)).setCell ⟨w.heap.size+1,3,Ψ⟩ (.slice J F E)).setCell ⟨w.heap.size+1,4,Ψ⟩ (.slice M G R)).setCell ⟨w.heap.size+1,5,Ψ⟩ (.slice L D O))=io w4 (w.heap.size+1) (.slice a0 K N) (.slice a1 Q m1) (.slice P I m2) (.slice J F E) (.slice M G R) (.slice L D O)from rfl];obtain⟨Y,k2⟩:=afG (H:=w.heap.size) A.out y.out.2.1 y.out.2.2.2.1 y.out.2.2.2.2 (by omega) (by omega);refine ε (f:=143) (args:=#[η (ω ⟨w.heap.size+1+1,0,Ψ⟩)]) (by simp) (by simp[go_sem]) ?_;refine(OR ⟨w.heap.size+1+1,0,Ψ⟩ (Ξ Θ 0) _ (d7 Y) (cD Y)).mono ?_;rintro e u' w'' ⟨rfl,rfl,w9,S,rfl⟩;obtain⟨q1,q2,q3,q4⟩:=k2 w9 S;generalize w9.setCell ⟨w.heap.size+1+1,0,Ψ⟩ (Ξ Θ 0)=l at *;have r4:=d7 q2;have z0:l.cell? ⟨w.heap.size+1,0,Ψ⟩=ω (.slice a0 K N):=by simp[Δ,q1]
 have z1:l.cell? ⟨w.heap.size+1,1,Ψ⟩=ω (.slice a1 Q m1):=by simp[Δ,q1]
 have z2:l.cell? ⟨w.heap.size+1,2,Ψ⟩=ω (.slice P I m2):=by simp[Δ,q1]
 have z3:l.cell? ⟨w.heap.size+1,3,Ψ⟩=ω (.slice J F E):=by simp[Δ,q1]
 have z4:l.cell? ⟨w.heap.size+1,4,Ψ⟩=ω (.slice M G R):=by simp[Δ,q1]
 have z5:l.cell? ⟨w.heap.size+1,5,Ψ⟩=ω (.slice L D O):=by simp[Δ,q1]
 simp[ZY,ZX,Z8,Tryz.results78,go_sem,z0,z1,z2,z3,z4,z5,r4];exact⟨q3,y.out.2.2.1.trans (q4 y.out.2.2.1.size)⟩
end
section
structure JI(w w':ο)(b:Nat):Prop where
 ints:∀o k,w.cell? ⟨b,o,Ψ⟩≠ω (Ξ Θ k)
 same:∀k:Nat,k≠b->w'.heap[k]?=w.heap[k]?
 size:w.heap.size<=w'.heap.size
section
variable{w w':ο}{b:Nat}{v:ξ}
theorem JI.ne(h:JI w w' b){a o:Nat}{k:Int}(hc:w.cell? ⟨a,o,Ψ⟩=ω (Ξ Θ k)):a≠b:=fun e=>h.ints o k (e▸hc)
theorem JI.cell(h:JI w w' b){a o:Nat}(hn:a≠b):w'.cell? ⟨a,o,Ψ⟩=w.cell? ⟨a,o,Ψ⟩:=by simp only[Δ,h.same a hn]
theorem eI.off{l:List HV}(h:eI w v l)(hk:JI w w' b):eI w' v l:=by obtain⟨a,m,rfl,j,g,h⟩:=h;refine⟨a,m,rfl,j,g,fun h0=>?_⟩;obtain⟨c,o,rfl,hb,d⟩:=h h0;obtain⟨p,q,e⟩:=ep h0;have f:=hk.ne (d 0 p q e).1;refine⟨c,o,rfl,Z9 hb hk.size,fun i k n e=>?_⟩;rw[hk.cell f,hk.cell f];exact d i k n e
theorem n9.off{l:List Int}(h:n9 w v l)(hk:JI w w' b):n9 w' v l:=by obtain⟨a,m,rfl,g,f,h⟩:=h;refine⟨a,m,rfl,g,f,fun h0=>?_⟩;obtain⟨c,o,rfl,hb,d⟩:=h h0;obtain⟨p,e⟩:=lw h0;have j:=hk.ne (d 0 p e);refine⟨c,o,rfl,Z9 hb hk.size,fun i n e=>?_⟩;rw[hk.cell j];exact d i n e
theorem sa.off{l:List HC}(h:sa w v l)(hk:JI w w' b):sa w' v l:=by obtain⟨a,m,rfl,s,r,h⟩:=h;refine⟨a,m,rfl,s,r,fun h0=>?_⟩;obtain⟨c,o,rfl,hb,d⟩:=h h0;obtain⟨p,q,e⟩:=cQ h0;have f:=hk.ne (d 0 p q e).1;refine⟨c,o,rfl,Z9 hb hk.size,fun i k n e=>?_⟩;obtain⟨j,x,g,t⟩:=d i k n e;rw[hk.cell f,hk.cell f];exact⟨j,x,g,t.off hk⟩
theorem GV.off{g:GH}(h:GV w v g)(hk:JI w w' b):GV w' v g:=by obtain⟨n,o,r,k,d,m,rfl,f,c,j,e,i,a⟩:=h;exact⟨_,_,_,_,_,_,rfl,f.off hk,c.off hk,j.off hk,e.off hk,i.off hk,a.off hk⟩
theorem tH.off{h:PH}(hv:tH w v h)(hk:JI w w' b):tH w' v h:=by obtain⟨c,r,i,d,rfl,f,a,g,e⟩:=hv;exact⟨_,_,_,_,rfl,f.off hk,a.off hk,g.off hk,e.off hk⟩
end
theorem OX{w:ο}{b:Nat}{t:Z4}{v0 v1 v2 v3 v4 v5:ξ}(h:w.heap[b]?=ω (ψ #[Ω Ψ 0 0,Ω Ψ 0 0,Ω Ψ 0 0,Ω Ψ 0 0,Ω Ψ 0 0,Ω Ψ 0 0] t (0,0))):JI w (io w b v0 v1 v2 v3 v4 v5) b:=by
 obtain⟨_,a,c,_⟩:=kn (v0:=v0) (v1:=v1) (v2:=v2) (v3:=v3) (v4:=v4) (v5:=v5) h;refine⟨fun o k e=>?_,a,Nat.le_of_eq c.symm⟩;simp only[Δ,h]at e
 match o,e with
 |0,e=>cases e
 |1,e=>cases e
 |2,e=>cases e
 |3,e=>cases e
 |4,e=>cases e
 |5,e=>cases e
 |n+6,e=>simp at e
theorem JJ{w:ο}{b:Nat}{t:Z4}(h:w.heap[b]?=ω (ψ #[Ω Ψ 0 0,Ω Ψ 0 0,Ω Ψ 0 0,Ω Ψ 0 0,Ω Ψ 0 0,Ω Ψ 0 0] t (0,0))):(∀i,i<6->w.cell? ⟨b,i,Ψ⟩=ω (Ω Ψ 0 0))/\∀i,w.frozen? ⟨b,i,Ψ⟩=false:=by
 refine⟨fun i hi=>?_,fun i=>cD h⟩
 match i,hi with
 |0,_=>simp[Δ,h]
 |1,_=>simp[Δ,h]
 |2,_=>simp[Δ,h]
 |3,_=>simp[Δ,h]
 |4,_=>simp[Δ,h]
 |5,_=>simp[Δ,h]
theorem sS{w:ο}{b:Nat}{t:Z4}{v0 v1 v2 v3 v4 v5:ξ}(h:w.heap[b]?=ω (ψ #[v0,v1,v2,v3,v4,v5] t (0,0))):w.cell? ⟨b,0,Ψ⟩=ω v0/\w.cell? ⟨b,1,Ψ⟩=ω v1/\w.cell? ⟨b,2,Ψ⟩=ω v2/\w.cell? ⟨b,3,Ψ⟩=ω v3/\w.cell? ⟨b,4,Ψ⟩=ω v4/\w.cell? ⟨b,5,Ψ⟩=ω v5:=by refine⟨?_,?_,?_,?_,?_,?_⟩<;>simp[Δ,h]
theorem OY(w:ο)(v:ξ)(g g':GH)(n:Nat)(hv:GV w v g)(hk:eC g)(hm:g.marked.length<=1000000)(hz:cN g=0)(hp:im g)(lE:Md.collect .minor g=ω (n,g')):
 μ aD.prog 22 #[v] w fun e w'=>(∃r,e=.returned (.tuple #[r,Ξ Θ 0])/\GV w' r g')/\υ w.heap.size w w':=by
 have HV:=Γ hv;have V:=Γ hk;have HP:=Γ hp;have HC:=Γ lE;obtain⟨X,o,r,L,d,m,rfl,G,D,U,R,T,Y⟩:=hv;clear hk G D U R T Y hp lE
 go_enter aD.func22,Tryz.ntmps22
 go_wp2_with fail
 obtain⟨K,a,H⟩:=Ju w (ψ #[X,o,r,L,d,m] 26) (ψ #[Ω Ψ 0 0,Ω Ψ 0 0,Ω Ψ 0 0,Ω Ψ 0 0,Ω Ψ 0 0,Ω Ψ 0 0] 26);refine(qh _ _ g g' 102 n .minor (HV.out.below a) V.out hm hz HC.out (fun w B b G D=>lz w B b g G HP.out D)).mono ?_;rintro e E ⟨⟨r3,rfl,A⟩,h⟩;have N:=Γ A;have F:=(h.block (w.heap.size+1) (by omega)).trans K;have Q:=Γ (a.trans (h.mono a.size));obtain⟨a0,a1,a2,a3,a4,a5,rfl,⟨p,l0,rfl,_⟩,⟨i,x,rfl,_⟩,⟨t,y,rfl,_⟩,⟨k,q,rfl,_⟩,⟨u,s,rfl,_⟩,⟨j,l,rfl,_⟩⟩:=A;obtain⟨d,f⟩:=JJ F;have d0:=d 0 (by omega);have d1:=d 1 (by omega);have d2:=d 2 (by omega);have d3:=d 3 (by omega);have d4:=d 4 (by omega);have d5:=d 5 (by omega);have f0:=f 0;have f1:=f 1;have f2:=f 2;have f3:=f 3;have f4:=f 4;have f5:=f 5;have J:=Γ F;clear d f F K a h H
 go_wp2_with fail
 rw[show((((((E.setCell ⟨w.heap.size+1,0,Ψ⟩ (.slice p g'.new.length l0)).setCell ⟨w.heap.size+1,1,Ψ⟩ (.slice i g'.old.length x)).setCell ⟨w.heap.size+1,2,Ψ⟩ (.slice t g'.roots.length y)).setCell ⟨w.heap.size+1,3,Ψ⟩ (.slice k g'.aA.length q)).setCell ⟨w.heap.size+1,4,Ψ⟩ (.slice u g'.done.length s)).setCell ⟨w.heap.size+1,5,Ψ⟩ (.slice j g'.marked.length l))=io E (w.heap.size+1) (.slice p g'.new.length l0) (.slice i g'.old.length x) (.slice t g'.roots.length y) (.slice k g'.aA.length q) (.slice u g'.done.length s) (.slice j g'.marked.length l)from rfl];have C:=OX (v0:=(.slice p g'.new.length l0)) (v1:=(.slice i g'.old.length x)) (v2:=(.slice t g'.roots.length y)) (v3:=(.slice k g'.aA.length q)) (v4:=(.slice u g'.done.length s)) (v5:=(.slice j g'.marked.length l)) J.out;obtain⟨I,_,_,Z⟩:=kn (v0:=(.slice p g'.new.length l0)) (v1:=(.slice i g'.old.length x)) (v2:=(.slice t g'.roots.length y)) (v3:=(.slice k g'.aA.length q)) (v4:=(.slice u g'.done.length s)) (v5:=(.slice j g'.marked.length l)) J.out;have c:=N.out.off C;have z:=Q.out.trans (Z w.heap.size (by omega));generalize io E (w.heap.size+1) (.slice p g'.new.length l0) (.slice i g'.old.length x) (.slice t g'.roots.length y) (.slice k g'.aA.length q) (.slice u g'.done.length s) (.slice j g'.marked.length l)=w4 at I c z⊢;obtain⟨W,S,P,z3,O,M⟩:=sS I;refine Z2 (v:=.tuple #[.agg #[.slice p g'.new.length l0,.slice i g'.old.length x,.slice t g'.roots.length y,.slice k g'.aA.length q,.slice u g'.done.length s,.slice j g'.marked.length l],Ξ Θ 0]) (by simp[Z8,Tryz.results22,go_sem,W,S,P,z3,O,M]) rfl ⟨⟨_,rfl,c⟩,z⟩
theorem WO(w:ο)(v:ξ)(g g':GH)(n:Nat)(hv:GV w v g)(hk:eC g)(hm:g.marked.length<=1000000)(hz:cN g=0)(hp:im g)(lE:Md.collect .full g=ω (n,g')):
 μ aD.prog 28 #[v] w fun e w'=>(∃r,e=.returned (.tuple #[r,Ξ Θ 0])/\GV w' r g')/\υ w.heap.size w w':=by
 have HV:=Γ hv;have V:=Γ hk;have HP:=Γ hp;have HC:=Γ lE;obtain⟨X,o,r,L,d,m,rfl,G,D,U,R,T,Y⟩:=hv;clear hk G D U R T Y hp lE
 go_enter aD.func28,Tryz.ntmps28
 go_wp2_with fail
 obtain⟨K,a,H⟩:=Ju w (ψ #[X,o,r,L,d,m] 26) (ψ #[Ω Ψ 0 0,Ω Ψ 0 0,Ω Ψ 0 0,Ω Ψ 0 0,Ω Ψ 0 0,Ω Ψ 0 0] 26);refine(qh _ _ g g' 119 n .full (HV.out.below a) V.out hm hz HC.out (fun w B b G D=>tO w B b g G HP.out D)).mono ?_;rintro e E ⟨⟨r3,rfl,A⟩,h⟩;have N:=Γ A;have F:=(h.block (w.heap.size+1) (by omega)).trans K;have Q:=Γ (a.trans (h.mono a.size));obtain⟨a0,a1,a2,a3,a4,a5,rfl,⟨p,l0,rfl,_⟩,⟨i,x,rfl,_⟩,⟨t,y,rfl,_⟩,⟨k,q,rfl,_⟩,⟨u,s,rfl,_⟩,⟨j,l,rfl,_⟩⟩:=A;obtain⟨d,f⟩:=JJ F;have d0:=d 0 (by omega);have d1:=d 1 (by omega);have d2:=d 2 (by omega);have d3:=d 3 (by omega);have d4:=d 4 (by omega);have d5:=d 5 (by omega);have f0:=f 0;have f1:=f 1;have f2:=f 2;have f3:=f 3;have f4:=f 4;have f5:=f 5;have J:=Γ F;clear d f F K a h H
 go_wp2_with fail
 rw[show((((((E.setCell ⟨w.heap.size+1,0,Ψ⟩ (.slice p g'.new.length l0)).setCell ⟨w.heap.size+1,1,Ψ⟩ (.slice i g'.old.length x)).setCell ⟨w.heap.size+1,2,Ψ⟩ (.slice t g'.roots.length y)).setCell ⟨w.heap.size+1,3,Ψ⟩ (.slice k g'.aA.length q)).setCell ⟨w.heap.size+1,4,Ψ⟩ (.slice u g'.done.length s)).setCell ⟨w.heap.size+1,5,Ψ⟩ (.slice j g'.marked.length l))=io E (w.heap.size+1) (.slice p g'.new.length l0) (.slice i g'.old.length x) (.slice t g'.roots.length y) (.slice k g'.aA.length q) (.slice u g'.done.length s) (.slice j g'.marked.length l)from rfl];have C:=OX (v0:=(.slice p g'.new.length l0)) (v1:=(.slice i g'.old.length x)) (v2:=(.slice t g'.roots.length y)) (v3:=(.slice k g'.aA.length q)) (v4:=(.slice u g'.done.length s)) (v5:=(.slice j g'.marked.length l)) J.out;obtain⟨I,_,_,Z⟩:=kn (v0:=(.slice p g'.new.length l0)) (v1:=(.slice i g'.old.length x)) (v2:=(.slice t g'.roots.length y)) (v3:=(.slice k g'.aA.length q)) (v4:=(.slice u g'.done.length s)) (v5:=(.slice j g'.marked.length l)) J.out;have c:=N.out.off C;have z:=Q.out.trans (Z w.heap.size (by omega));generalize io E (w.heap.size+1) (.slice p g'.new.length l0) (.slice i g'.old.length x) (.slice t g'.roots.length y) (.slice k g'.aA.length q) (.slice u g'.done.length s) (.slice j g'.marked.length l)=w4 at I c z⊢;obtain⟨W,S,P,z3,O,M⟩:=sS I;refine Z2 (v:=.tuple #[.agg #[.slice p g'.new.length l0,.slice i g'.old.length x,.slice t g'.roots.length y,.slice k g'.aA.length q,.slice u g'.done.length s,.slice j g'.marked.length l],Ξ Θ 0]) (by simp[Z8,Tryz.results28,go_sem,W,S,P,z3,O,M]) rfl ⟨⟨_,rfl,c⟩,z⟩
end
theorem JK(w:ο)(v:ξ)(g:GH)(hv:GV w v g)(hk:eC g)(hm:g.marked.length<=1000000)(hz:cN g=0)(hs:Small g):
 μ aD.prog 53 #[v] w fun e w'=>(∃r,e=.returned (.tuple #[r,Ξ Θ 0])/\tH w' r (plain g))/\υ w.heap.size w w':=by
 have W:∀(fn:Fn) (first cap:Array ξ) (w:ο),(θ fn first cap).run aD.prog w=.ok (.func fn first cap) w:=fun _ _ _ _=>rfl
 have HV:=Γ hv;have HK:=Γ hk;have HS:=Γ hs;obtain⟨n,o,r,U,d,m,rfl,h1,V,h3,Y,h5,h6⟩:=hv;clear hk hs h1 V h3 Y h5 h6
 go_enter_defers aD.func53,Tryz.ntmps53
 go_wp2_with fail
 obtain⟨c,z,s,hz3⟩:=al3 w (ψ #[n,o,r,U,d,m] 26) (ψ #[Ω Ψ 0 0,Ω Ψ 0 0,Ω Ψ 0 0,Ω Ψ 0 0] 56) (ψ #[Ξ Θ 0] 34);refine(sw _ _ g (HV.out.below s) HK.out hz hm).mono ?_;rintro e w2 ⟨⟨b,rfl,H⟩,q⟩;have A:=s.trans (q.mono s.size);have N:=Γ H;have eq:=q.size;have T:=Γ (φ ((q.block (w.heap.size+1) (by omega)).trans c) ((q.block (w.heap.size+1+1) (by omega)).trans z));clear q s H c z
 go_wp2_with fail
 refine(DB _ b g N.out.reads HS.out).mono ?_;rintro e j ⟨⟨r3,rfl,C⟩,a⟩;have HR:=Γ C;have c:=(a.block (w.heap.size+1) (by omega)).trans T.out.1;have z:=(a.block (w.heap.size+1+1) (by omega)).trans T.out.2;have Q:=Γ (A.trans (a.mono A.size));obtain⟨E,mc,ar,G,aw,F,ad,D,rfl⟩:=C.form;clear A a C;have B:=Γ (φ c z);have d0:j.cell? ⟨w.heap.size+1,0,Ψ⟩=ω (Ω Ψ 0 0):=by simp[Δ,c]
 have d1:j.cell? ⟨w.heap.size+1,1,Ψ⟩=ω (Ω Ψ 0 0):=by simp[Δ,c]
 have d2:j.cell? ⟨w.heap.size+1,2,Ψ⟩=ω (Ω Ψ 0 0):=by simp[Δ,c]
 have d3:j.cell? ⟨w.heap.size+1,3,Ψ⟩=ω (Ω Ψ 0 0):=by simp[Δ,c]
 have de:=d7 z;have f0:=cD (i:=0) c;have f1:=cD (i:=1) c;have f2:=cD (i:=2) c;have f3:=cD (i:=3) c;have fe:=cD (i:=0) z;clear c z
 go_wp2_with fail
 have S:=aB (aB (aB (aB B.out.1 0 (.slice E (plain g).cells.length mc)) 1 (.slice ar (plain g).roots.length G)) 2 (.slice aw (plain g).aA.length F)) 3 (.slice ad (plain g).done.length D);have L:∀k,k≠w.heap.size+1->((((j.setCell ⟨w.heap.size+1,0,Ψ⟩ (.slice E (plain g).cells.length mc)).setCell ⟨w.heap.size+1,1,Ψ⟩ (.slice ar (plain g).roots.length G)).setCell ⟨w.heap.size+1,2,Ψ⟩ (.slice aw (plain g).aA.length F)).setCell ⟨w.heap.size+1,3,Ψ⟩ (.slice ad (plain g).done.length D)).heap[k]?=j.heap[k]?:=fun k h=>by rw[aq h,aq h,aq h,aq h]
 have O:υ w.heap.size j ((((j.setCell ⟨w.heap.size+1,0,Ψ⟩ (.slice E (plain g).cells.length mc)).setCell ⟨w.heap.size+1,1,Ψ⟩ (.slice ar (plain g).roots.length G)).setCell ⟨w.heap.size+1,2,Ψ⟩ (.slice aw (plain g).aA.length F)).setCell ⟨w.heap.size+1,3,Ψ⟩ (.slice ad (plain g).done.length D)):=((((ι _ _).setCell (p:=⟨w.heap.size+1,0,Ψ⟩) (by simp) _).setCell (p:=⟨w.heap.size+1,1,Ψ⟩) (by simp) _).setCell (p:=⟨w.heap.size+1,2,Ψ⟩) (by simp) _).setCell (p:=⟨w.heap.size+1,3,Ψ⟩) (by simp) _;have P:((((j.setCell ⟨w.heap.size+1,0,Ψ⟩ (.slice E (plain g).cells.length mc)).setCell ⟨w.heap.size+1,1,Ψ⟩ (.slice ar (plain g).roots.length G)).setCell ⟨w.heap.size+1,2,Ψ⟩ (.slice aw (plain g).aA.length F)).setCell ⟨w.heap.size+1,3,Ψ⟩ (.slice ad (plain g).done.length D)).heap.size=j.heap.size:=by simp
 generalize ((((j.setCell ⟨w.heap.size+1,0,Ψ⟩ (.slice E (plain g).cells.length mc)).setCell ⟨w.heap.size+1,1,Ψ⟩ (.slice ar (plain g).roots.length G)).setCell ⟨w.heap.size+1,2,Ψ⟩ (.slice aw (plain g).aA.length F)).setCell ⟨w.heap.size+1,3,Ψ⟩ (.slice ad (plain g).done.length D))=w4 at S L O P⊢;have J:JI j w4 (w.heap.size+1):=⟨fun o k e=>by
  simp only[Δ,B.out.1]at e
  match o,e with
  |0,e=>cases e
  |1,e=>cases e
  |2,e=>cases e
  |3,e=>cases e
  |n+4,e=>simp at e,L,Nat.le_of_eq P.symm⟩
 obtain⟨q1,q2,R⟩:=jF ((L (w.heap.size+1+1) (by omega)).trans B.out.2);have x:=(HR.out.off J).below R;have y:=(Q.out.trans O).trans (R.mono (by have:=Q.out.size;omega));have K:=(q2 (w.heap.size+1)).trans S;generalize w4.setCell ⟨w.heap.size+1+1,0,Ψ⟩ (Ξ Θ 0)=w5 at q1 x y K⊢;refine ε (f:=118) (args:=#[η (ω ⟨w.heap.size+1+1,0,Ψ⟩)]) (by simp) (by simp[go_sem]) ?_;refine(OP ⟨w.heap.size+1+1,0,Ψ⟩ (Ξ Θ 0) _ (d7 q1) (cD q1)).mono ?_;rintro e u' w'' ⟨rfl,rfl,w9,M,rfl⟩;obtain⟨r1,r2⟩:=fz q1 M;have I:=(r2.block _ (χ.1 K).1).trans K;have l:=x.below r2;have u:=y.trans (r2.mono y.size);generalize w9.setCell ⟨w.heap.size+1+1,0,Ψ⟩ (Ξ Θ 0)=t at r1 I l u⊢;have r4:=d7 r1;have z0:t.cell? ⟨w.heap.size+1,0,Ψ⟩=ω (.slice E (plain g).cells.length mc):=by simp[Δ,I]
 have Z:t.cell? ⟨w.heap.size+1,1,Ψ⟩=ω (.slice ar (plain g).roots.length G):=by simp[Δ,I]
 have X:t.cell? ⟨w.heap.size+1,2,Ψ⟩=ω (.slice aw (plain g).aA.length F):=by simp[Δ,I]
 have z3:t.cell? ⟨w.heap.size+1,3,Ψ⟩=ω (.slice ad (plain g).done.length D):=by simp[Δ,I]
 simp[ZY,ZX,Z8,Tryz.results53,go_sem,z0,Z,X,z3,r4];exact⟨l,u⟩
theorem dm.above{w w':ο}{B b:Nat}{g:GH}(h:dm w B b g)(hk:∀k:Nat,B<=k->w'.heap[k]?=w.heap[k]?):dm w' B b g:=by
 obtain⟨n,o,m,row,d,hb,q,j,f,p⟩:=h;have rc:∀{v:ξ} {l:List (Int×ξ)},RC w B v l->RC w' B v l:=fun {v l} h=>by obtain⟨a,m,rfl,q,j,f,h⟩:=h;refine⟨a,m,rfl,q,j,f,fun h0=>?_⟩;obtain⟨g,i,rfl,d,e,r⟩:=h h0;exact⟨g,i,rfl,d,(hk g d).trans e,r⟩
 exact⟨n,o,m,row,d,(hk b d).trans hb,rc q,rc j,aS f fun g e=>hk g (f.lt g e).1,fun k c=>aS (p.1 k c) fun g e=>hk g ((p.1 k c).lt g e).1,p.2⟩
theorem al5(w:ο)(o1 o2 o3 o4 o5:Obj):(((((w.alloc o1).alloc o2).alloc o3).alloc o4).alloc o5).heap[w.heap.size+1]?=ω o2/\(((((w.alloc o1).alloc o2).alloc o3).alloc o4).alloc o5).heap[w.heap.size+1+1]?=ω o3/\(((((w.alloc o1).alloc o2).alloc o3).alloc o4).alloc o5).heap[w.heap.size+1+1+1]?=ω o4/\(((((w.alloc o1).alloc o2).alloc o3).alloc o4).alloc o5).heap[w.heap.size+1+1+1+1]?=ω o5/\υ w.heap.size w (((((w.alloc o1).alloc o2).alloc o3).alloc o4).alloc o5)/\(((((w.alloc o1).alloc o2).alloc o3).alloc o4).alloc o5).heap.size=w.heap.size+1+1+1+1+1:=by obtain⟨f,e,g,d⟩:=al3 w o1 o2 o3;obtain⟨c,b,h⟩:=Ju (((w.alloc o1).alloc o2).alloc o3) o4 o5;have g0:=(af ((((w.alloc o1).alloc o2).alloc o3).alloc o4) o5).block (w.heap.size+1+1+1) (by simp);have a:=κ (((w.alloc o1).alloc o2).alloc o3) o4;rw[d]at a c;exact⟨(b.block _ (by omega)).trans f,(b.block _ (by omega)).trans e,g0.trans a,c,g.trans (b.mono (by omega)),by rw[h,d]⟩
theorem anU{w4:ο}{H B rb sb eb:Nat}{x0 x1 x2 x3 x4 x5 v0 v1 v2 v3 v4 v5 y0 y1 s0 s1:ξ}{t2:Z4}(hr:w4.heap[rb]?=ω (ψ #[x0,x1,x2,x3,x4,x5] 26 (0,0)))(hs:w4.heap[sb]?=ω (ψ #[y0,y1] t2 (0,0)))(he:w4.heap[eb]?=ω (ψ #[Ξ Θ 0] 34 (0,0)))(h1:H<=rb/\H<=sb/\H<=eb)(h2:rb<B/\sb<B/\eb<B)(h3:sb≠rb/\eb≠rb/\eb≠sb):
 ∃w5,w5=((((io w4 rb v0 v1 v2 v3 v4 v5).setCell ⟨sb,0,Ψ⟩ s0).setCell ⟨sb,1,Ψ⟩ s1).setCell ⟨eb,0,Ψ⟩ (Ξ Θ 0)).drew/\w5.heap[rb]?=ω (ψ #[v0,v1,v2,v3,v4,v5] 26 (0,0))/\w5.heap[sb]?=ω (ψ #[s0,s1] t2 (0,0))/\w5.heap[eb]?=ω (ψ #[Ξ Θ 0] 34 (0,0))/\(∀k:Nat,B<=k->w5.heap[k]?=w4.heap[k]?)/\υ H w4 w5:=by
 obtain⟨d,b,e,c⟩:=kn (v0:=v0) (v1:=v1) (v2:=v2) (v3:=v3) (v4:=v4) (v5:=v5) hr;generalize io w4 rb v0 v1 v2 v3 v4 v5=W at d b e c⊢;have a:∀k:Nat,((((W.setCell ⟨sb,0,Ψ⟩ s0).setCell ⟨sb,1,Ψ⟩ s1).setCell ⟨eb,0,Ψ⟩ (Ξ Θ 0)).drew).heap[k]?=(((W.setCell ⟨sb,0,Ψ⟩ s0).setCell ⟨sb,1,Ψ⟩ s1).setCell ⟨eb,0,Ψ⟩ (Ξ Θ 0)).heap[k]?:=fun _=>rfl
 refine⟨_,rfl,?_,?_,?_,fun k f=>?_,?_⟩
 ·rw[a,aq (Ne.symm h3.2.1),cr (Ne.symm h3.1),d]
 ·rw[a,aq (Ne.symm h3.2.2),aB (aB ((b sb h3.1).trans hs) 0 s0) 1 s1];rfl
 ·rw[a,aB ((cr h3.2.2).trans ((b eb h3.2.1).trans he))];rfl
 ·rw[a,aq (by omega),cr (by omega),b k (by omega)]
 ·exact((((c H h1.1).setCell (p:=⟨sb,0,Ψ⟩) h1.2.1 _).setCell (p:=⟨sb,1,Ψ⟩) h1.2.1 _).setCell (p:=⟨eb,0,Ψ⟩) h1.2.2 _).drew
theorem afH(w:ο)(v:ξ)(g:GH)(c0:Int)(c1:Nat)(c2 c3:Int)(r':Md.RS)(s0 s1:Int)(hv:GV w v g)(hk:eC g)(hm:g.marked.length<=1000000)(hz:cN g=0)(hst:∀B br b,Step B br b ⟨g,0,0,0,0⟩ r' (c0,c1,c2,c3) (s0,s1)):
 μ aD.prog 36 #[v,.agg #[Ξ Θ c0,Ξ Θ (c1:Int),Ξ Θ c2,Ξ Θ c3]] w fun e w'=>(∃r,e=.returned (.tuple #[r,.agg #[Ξ Θ s0,Ξ Θ s1],Ξ Θ 0])/\GV w' r r'.g)/\υ w.heap.size w w':=by
 have hmf:∀(fn:Fn) (first cap:Array ξ) (w:ο),(θ fn first cap).run aD.prog w=.ok (.func fn first cap) w:=fun _ _ _ _=>rfl
 have HV:=Γ hv;have HK:=Γ hk;have HS:=Γ hst;obtain⟨vn,o,r,wi,d,m,rfl,h1,h2,h3,h4,h5,h6⟩:=hv;clear hk h1 h2 h3 h4 h5 h6 hst
 go_enter_defers aD.func36,Tryz.ntmps36
 go_wp2_with fail
 obtain⟨y1,y2,N,y4,G,hz1⟩:=al5 w (ψ #[vn,o,r,wi,d,m] 26) (ψ #[Ξ Θ c0,Ξ Θ (c1:Int),Ξ Θ c2,Ξ Θ c3] 44) (ψ #[Ω Ψ 0 0,Ω Ψ 0 0,Ω Ψ 0 0,Ω Ψ 0 0,Ω Ψ 0 0,Ω Ψ 0 0] 26) (ψ #[Ξ Θ 0,Ξ Θ 0] 50) (ψ #[Ξ Θ 0] 34);have O:=HV.out.below G;generalize (((((w.alloc (ψ #[vn,o,r,wi,d,m] 26)).alloc (ψ #[Ξ Θ c0,Ξ Θ (c1:Int),Ξ Θ c2,Ξ Θ c3] 44)).alloc (ψ #[Ω Ψ 0 0,Ω Ψ 0 0,Ω Ψ 0 0,Ω Ψ 0 0,Ω Ψ 0 0,Ω Ψ 0 0] 26)).alloc (ψ #[Ξ Θ 0,Ξ Θ 0] 50)).alloc (ψ #[Ξ Θ 0] 34))=P at y1 y2 N y4 G hz1 O⊢;have E:=Γ (φ G (φ y1 (φ y2 (φ N y4))));refine(i3 P _ g O HK.out hm hz (J:=fun _=>False) (fun _ h=>h.elim)).mono ?_;rintro e Q ⟨⟨br,b,rfl,S⟩,D⟩;obtain⟨x0,x1,x2,x3⟩:=fZ ((D.block _ (by omega)).trans y1);have eq:=D.size;have HB2:=Γ D;have HR2:=Γ S;clear y1 y2 N y4 G O D S
 go_wp2_with fail
 have hb3:=af Q (ψ #[Ξ Θ c0,Ξ Θ (c1:Int),Ξ Θ c2,Ξ Θ c3] 44);have hr3:=HR2.out.one (ψ #[Ξ Θ c0,Ξ Θ (c1:Int),Ξ Θ c2,Ξ Θ c3] 44);have N:=κ Q (ψ #[Ξ Θ c0,Ξ Θ (c1:Int),Ξ Θ c2,Ξ Θ c3] 44);have hz3:(Q.alloc (ψ #[Ξ Θ c0,Ξ Θ (c1:Int),Ξ Θ c2,Ξ Θ c3] 44)).heap.size=Q.heap.size+1:=by simp
 generalize (Q.alloc (ψ #[Ξ Θ c0,Ξ Θ (c1:Int),Ξ Θ c2,Ξ Θ c3] 44))=w3 at hb3 hr3 N hz3⊢;have HR3:=Γ hr3;have HB3:=Γ hb3;refine(JE w3 P.heap.size br b _ [(c0,c1,c2,c3)] (fun i=>if i=0 then⟨g,0,0,0,0⟩else r') [(s0,s1)] (J:=fun j=>False\/j=Q.heap.size) ?_ HR3.out (by omega) (fun j hj=>by rcases hj with h|h;exact h.elim;omega) (fun j hj c t fr hc=>?_) (by simp) rfl (fun i c s e1 e2=>?_)).mono ?_
 ·obtain⟨z0,z1,z2,z3⟩:=fZ N;refine⟨_,_,rfl,fun _=>⟨_,_,rfl,.inr (.inr rfl),fun i c e=>?_⟩⟩
  match i,e with
  |0,e=>
   cases e
   exact⟨z0,z1,z2,z3⟩
 ·rcases hj with h|h
  ·exact h.elim
  ·subst h;rw[N]at hc;cases hc
   decide
 ·match i,e1,e2 with
  |0,e1,e2=>
   cases e1
   cases e2
   exact HS.out _ _ _
 rintro e w4 ⟨⟨rv,rfl,M⟩,hr4,hb4,_⟩;have a:bD w4 P.heap.size br b r' (fun j=>False\/j=Q.heap.size):=hr4;have y:υ P.heap.size P w4:=(HB2.out.trans (HB3.out.mono eq)).trans hb4;have x2:=(y.block _ (by omega)).trans E.out.2.2.1;have x3:=(y.block _ (by omega)).trans E.out.2.2.2.1;have x4:=(y.block _ (by omega)).trans E.out.2.2.2.2;have p0:=a.ptr.1;obtain⟨a0,T,Z,a1,n1,m1,a2,n2,m2,a3,n3,m3,a4,n4,W,a5,Y,U,hb,F⟩:=a.2.2.1.own.px;have d0:w4.cell? ⟨b,0,Ψ⟩=ω (.slice a0 T Z):=by simp[Δ,hb]
 have d1:w4.cell? ⟨b,1,Ψ⟩=ω (.slice a1 n1 m1):=by simp[Δ,hb]
 have d2:w4.cell? ⟨b,2,Ψ⟩=ω (.slice a2 n2 m2):=by simp[Δ,hb]
 have d3:w4.cell? ⟨b,3,Ψ⟩=ω (.slice a3 n3 m3):=by simp[Δ,hb]
 have d4:w4.cell? ⟨b,4,Ψ⟩=ω (.slice a4 n4 W):=by simp[Δ,hb]
 have d5:w4.cell? ⟨b,5,Ψ⟩=ω (.slice a5 Y U):=by simp[Δ,hb]
 obtain⟨la,lm,rfl,_,_,hla⟩:=aF M;obtain⟨lb,rfl,hlb,_,_,_⟩:=hla (by simp);obtain⟨f1,f2,_⟩:=M.at_ (k:=0) (p:=s0) (q:=s1) rfl;rw[Nat.zero_mul]at f1 f2;rw[Nat.zero_add]at f2;have hbr:=a.1;have hbb:=a.2.2.1.own.obj.1;obtain⟨g,h⟩:=JJ x2;have g0:=g 0 (by omega);have g1:=g 1 (by omega);have g2:=g 2 (by omega);have g3:=g 3 (by omega);have g4:=g 4 (by omega);have g5:=g 5 (by omega);have h0:=h 0;have h1:=h 1;have h2:=h 2;have h3:=h 3;have h4:=h 4;have h5:=h 5;have k0:w4.cell? ⟨w.heap.size+1+1+1,0,Ψ⟩=ω (Ξ Θ 0):=by simp[Δ,x3]
 have k1:w4.cell? ⟨w.heap.size+1+1+1,1,Ψ⟩=ω (Ξ Θ 0):=by simp[Δ,x3]
 have j0:=cD (i:=0) x3;have j1:=cD (i:=1) x3;have e0:=d7 x4;have ef:=cD (i:=0) x4;have u:¬w.heap.size+1+1=br:=by omega
 have I:¬w.heap.size+1+1=b:=by omega
 have n:¬w.heap.size+1+1=lb:=by omega
 have l:¬w.heap.size+1+1+1=br:=by omega
 have L:¬w.heap.size+1+1+1=b:=by omega
 have z:¬w.heap.size+1+1+1=lb:=by omega
 have C:¬w.heap.size+1+1+1+1=br:=by omega
 have K:¬w.heap.size+1+1+1+1=b:=by omega
 have A:¬w.heap.size+1+1+1+1=lb:=by omega
 have HE:=Γ (φ a (φ y (φ x2 (φ x3 (φ x4 (φ hb hlb))))));have HG:=Γ F;clear a y x2 x3 x4 hb F g h hr4 hb4 M hla
 go_wp2_with fail
 go_region_held3 (fun x=>x.cell? ⟨br,0,Ψ⟩=ω (η (ω ⟨b,0,Ψ⟩))/\x.cell? ⟨b,0,Ψ⟩=ω (.slice a0 T Z)/\x.cell? ⟨b,1,Ψ⟩=ω (.slice a1 n1 m1)/\x.cell? ⟨b,2,Ψ⟩=ω (.slice a2 n2 m2)/\x.cell? ⟨b,3,Ψ⟩=ω (.slice a3 n3 m3)/\x.cell? ⟨b,4,Ψ⟩=ω (.slice a4 n4 W)/\x.cell? ⟨b,5,Ψ⟩=ω (.slice a5 Y U)/\x.cell? ⟨lb,0,Ψ⟩=ω (Ξ Θ s0)/\x.cell? ⟨lb,1,Ψ⟩=ω (Ξ Θ s1)) ((refine⟨?_,?_,?_,?_,?_,?_,?_,?_,?_⟩<;>(repeat (first|with_reducible assumption|with_reducible refine dO ?_|with_reducible refine da u ?_|with_reducible refine da I ?_|with_reducible refine da n ?_|with_reducible refine da l ?_|with_reducible refine da L ?_|with_reducible refine da z ?_|with_reducible refine da C ?_|with_reducible refine da K ?_|with_reducible refine da A ?_)))) (fail)
 have qv:=hz1;clear d0 d1 d2 d3 d4 d5 f1 f2 g0 g1 g2 g3 g4 g5 h0 h1 h2 h3 h4 h5 k0 k1 j0 j1 e0 ef p0 u I n l L z C K A
 go_wp2_with fail
 rw[show((((((w4.setCell ⟨w.heap.size+1+1,0,Ψ⟩ (.slice a0 T Z)).setCell ⟨w.heap.size+1+1,1,Ψ⟩ (.slice a1 n1 m1)).setCell ⟨w.heap.size+1+1,2,Ψ⟩ (.slice a2 n2 m2)).setCell ⟨w.heap.size+1+1,3,Ψ⟩ (.slice a3 n3 m3)).setCell ⟨w.heap.size+1+1,4,Ψ⟩ (.slice a4 n4 W)).setCell ⟨w.heap.size+1+1,5,Ψ⟩ (.slice a5 Y U))=io w4 (w.heap.size+1+1) (.slice a0 T Z) (.slice a1 n1 m1) (.slice a2 n2 m2) (.slice a3 n3 m3) (.slice a4 n4 W) (.slice a5 Y U)from rfl];obtain⟨q1,q2,q3,q4,q5,q6,q7⟩:=HE.out;have F:=HG.out;obtain⟨w5,hw5,r1,r2,r3,r4,r5⟩:=anU (H:=w.heap.size) (B:=P.heap.size) (s0:=Ξ Θ s0) (s1:=Ξ Θ s1) (v0:=.slice a0 T Z) (v1:=.slice a1 n1 m1) (v2:=.slice a2 n2 m2) (v3:=.slice a3 n3 m3) (v4:=.slice a4 n4 W) (v5:=.slice a5 Y U) q3 q4 q5 ⟨by omega,by omega,by omega⟩ ⟨by omega,by omega,by omega⟩ ⟨by omega,by omega,by omega⟩;rw[<-hw5];have hgo:dm w5 P.heap.size b r'.g:=q1.2.2.1.own.above r4;have hgf:=F w5 hgo (r4 b q1.2.2.1.own.obj.1);have X:=(E.out.1.trans (q2.mono (by omega))).trans r5;clear hw5 q1 q2 q3 q4 q5 q6 hgo r4 r5;refine ε (f:=92) (args:=#[η (ω ⟨w.heap.size+1+1+1+1,0,Ψ⟩)]) (by simp) (by simp[go_sem]) ?_;refine(WJ ⟨w.heap.size+1+1+1+1,0,Ψ⟩ (Ξ Θ 0) _ (d7 r3) (cD r3)).mono ?_;rintro e u' w'' ⟨rfl,rfl,w9,BP,rfl⟩;obtain⟨t1,t2⟩:=fz r3 BP;have V:=hgf.below t2;have R:=X.trans (t2.mono X.size);have r1':=(t2.block _ (χ.1 r1).1).trans r1;have r2':=(t2.block _ (χ.1 r2).1).trans r2;generalize w9.setCell ⟨w.heap.size+1+1+1+1,0,Ψ⟩ (Ξ Θ 0)=w10 at *;obtain⟨z0,z1,z2,z3,z4,z5⟩:=sS r1';have l4:=d7 t1;have l0:w10.cell? ⟨w.heap.size+1+1+1,0,Ψ⟩=ω (Ξ Θ s0):=by simp[Δ,r2']
 have l1:w10.cell? ⟨w.heap.size+1+1+1,1,Ψ⟩=ω (Ξ Θ s1):=by simp[Δ,r2']
 simp[ZY,ZX,Z8,Tryz.results36,go_sem,z0,z1,z2,z3,z4,z5,l4,l0,l1];exact⟨V,R⟩
theorem OZ(w:ο)(v:ξ)(g:GH)(c0:Int)(c1:Nat)(c2 c3:Int)(code:Int)(hv:GV w v g)(hk:eC g)(hm:g.marked.length<=1000000)(hz:cN g=0)(hg:np w)
 (hst:∀(w:ο) (B br b:Nat) (J:Nat->Prop),bD w B br b ⟨g,0,0,0,0⟩ J->B<=w.heap.size->(∀j,J j->False) ->μ aD.prog 153 #[η (ω ⟨br,0,Ψ⟩),c4V (c0,c1,c2,c3)] w fun e w'=>e=.panicked (gK code)/\υ B w w'):
 μ aD.prog 36 #[v,.agg #[Ξ Θ c0,Ξ Θ (c1:Int),Ξ Θ c2,Ξ Θ c3]] w fun e w'=>(∃x y,e=.returned (.tuple #[x,y,Ξ Θ code]))/\υ w.heap.size w w':=by
 have hmf:∀(fn:Fn) (first cap:Array ξ) (w:ο),(θ fn first cap).run aD.prog w=.ok (.func fn first cap) w:=fun _ _ _ _=>rfl
 have HV:=Γ hv;have HK:=Γ hk;have HS:=Γ hst;have HG:=Γ hg;obtain⟨vn,o,r,Z,d,m,rfl,N,G,h3,h4,h5,h6⟩:=hv;clear hk N G h3 h4 h5 h6 hst hg
 go_enter_defers aD.func36,Tryz.ntmps36
 go_wp2_with fail
 obtain⟨F,Y,s,T,n,O⟩:=al5 w (ψ #[vn,o,r,Z,d,m] 26) (ψ #[Ξ Θ c0,Ξ Θ (c1:Int),Ξ Θ c2,Ξ Θ c3] 44) (ψ #[Ω Ψ 0 0,Ω Ψ 0 0,Ω Ψ 0 0,Ω Ψ 0 0,Ω Ψ 0 0,Ω Ψ 0 0] 26) (ψ #[Ξ Θ 0,Ξ Θ 0] 50) (ψ #[Ξ Θ 0] 34);have p:=HV.out.below n;generalize (((((w.alloc (ψ #[vn,o,r,Z,d,m] 26)).alloc (ψ #[Ξ Θ c0,Ξ Θ (c1:Int),Ξ Θ c2,Ξ Θ c3] 44)).alloc (ψ #[Ω Ψ 0 0,Ω Ψ 0 0,Ω Ψ 0 0,Ω Ψ 0 0,Ω Ψ 0 0,Ω Ψ 0 0] 26)).alloc (ψ #[Ξ Θ 0,Ξ Θ 0] 50)).alloc (ψ #[Ξ Θ 0] 34))=E at F Y s T n O p⊢;have k:=Γ (φ n (φ F (φ Y (φ s T))));refine(i3 E _ g p HK.out hm hz (J:=fun _=>False) (fun _ h=>h.elim)).mono ?_;rintro e C ⟨⟨br,b,rfl,t⟩,l⟩;obtain⟨x0,x1,x2,x3⟩:=fZ ((l.block _ (by omega)).trans F);have eq:=l.size;have R:=Γ l;have P:=Γ t;clear F Y s T n p l t
 go_wp2_with fail
 have q:=af C (ψ #[Ξ Θ c0,Ξ Θ (c1:Int),Ξ Θ c2,Ξ Θ c3] 44);have A:=P.out.below q;have s:=κ C (ψ #[Ξ Θ c0,Ξ Θ (c1:Int),Ξ Θ c2,Ξ Θ c3] 44);have S:(C.alloc (ψ #[Ξ Θ c0,Ξ Θ (c1:Int),Ξ Θ c2,Ξ Θ c3] 44)).heap.size=C.heap.size+1:=by simp
 generalize (C.alloc (ψ #[Ξ Θ c0,Ξ Θ (c1:Int),Ξ Θ c2,Ξ Θ c3] 44))=w3 at q A s S⊢;have I:=Γ A;have H:=Γ q;refine(Fb w3 E.heap.size br b _ (c0,c1,c2,c3) ⟨g,0,0,0,0⟩ (gK code) (J:=fun _=>False) ?_ I.out (by omega) (fun W N G=>HS.out W _ _ _ _ N G (fun _ h=>h))).mono ?_
 ·obtain⟨U,L,K,z3⟩:=fZ s;refine⟨_,_,rfl,fun _=>⟨_,_,rfl,trivial,fun i c e=>?_⟩⟩
  match i,e with
  |0,e=>
   cases e
   exact⟨U,L,K,z3⟩
 rintro e w4 ⟨rfl,V⟩;have a:υ E.heap.size E w4:=(R.out.trans (H.out.mono eq)).trans V;have u:υ w.heap.size w w4:=k.out.1.trans (a.mono (by omega));have q3:=(a.block _ (by omega)).trans k.out.2.2.1;have q4:=(a.block _ (by omega)).trans k.out.2.2.2.1;have Q:=(a.block _ (by omega)).trans k.out.2.2.2.2;refine ε (f:=92) (args:=#[η (ω ⟨w.heap.size+1+1+1+1,0,Ψ⟩)]) (by simp) (by simp[go_sem]) ?_;refine(OS ⟨w.heap.size+1+1+1+1,0,Ψ⟩ (Ξ Θ 0) code _ (HG.out.below u) (d7 Q) (cD Q)).mono ?_;rintro e u' w'' ⟨rfl,rfl,w9,M,rfl⟩;obtain⟨t1,t2,t3⟩:=behind (y:=Ξ Θ code) u Q (by omega) M;have X:=(t3 (w.heap.size+1+1) (by omega) (χ.1 q3).1).trans q3;have z:=(t3 (w.heap.size+1+1+1) (by omega) (χ.1 q4).1).trans q4;generalize w9.setCell ⟨w.heap.size+1+1+1+1,0,Ψ⟩ (Ξ Θ code)=D at *;obtain⟨U,L,K,z3,z4,z5⟩:=sS X;have l4:=d7 t1;have l0:D.cell? ⟨w.heap.size+1+1+1,0,Ψ⟩=ω (Ξ Θ 0):=by simp[Δ,z]
 have l1:D.cell? ⟨w.heap.size+1+1+1,1,Ψ⟩=ω (Ξ Θ 0):=by simp[Δ,z]
 simp[ZY,ZX,Z8,Tryz.results36,go_sem,U,L,K,z3,z4,z5,l4,l0,l1];exact t2
theorem JD.below{w w':ο}{P P':Nat->Prop}{v:ξ}{l:List C4}(h:JD w P v l)(hk:∀j,P j->P' j/\w'.heap[j]?=w.heap[j]?):JD w' P' v l:=by obtain⟨a,m,rfl,h⟩:=h;refine⟨a,m,rfl,fun h0=>?_⟩;obtain⟨b,o,rfl,hb,d⟩:=h h0;obtain⟨g,f⟩:=hk b hb;exact⟨b,o,rfl,g,fun i c e=>by simpa only[Δ,f]using d i c e⟩
theorem WQ(w:ο)(v lv:ξ)(g:GH)(cs:List C4)(rs:Nat->Md.RS)(sv:List HV)(hv:GV w v g)(hk:eC g)(hm:g.marked.length<=1000000)(hz:cN g=0)(hlv:JD w (fun j=>j<w.heap.size) lv cs)(hl:cs.length<=60)(hsl:sv.length=cs.length)(h0:rs 0=⟨g,0,0,0,0⟩)
 (hst:∀B br b (i:Nat) c s,cs[i]?=ω c->sv[i]?=ω s->Step B br b (rs i) (rs (i+1)) c s):
 μ aD.prog 43 #[v,lv] w fun e w'=>(∃r rv,e=.returned (.tuple #[r,rv,Ξ Θ 0])/\GV w' r (rs cs.length).g/\eI w' rv sv)/\υ w.heap.size w w':=by
 have hmf:∀(fn:Fn) (first cap:Array ξ) (w:ο),(θ fn first cap).run aD.prog w=.ok (.func fn first cap) w:=fun _ _ _ _=>rfl
 have HV:=Γ hv;have HK:=Γ hk;have HS:=Γ hst;have HL:=Γ hlv;obtain⟨vn,o,r,wi,d,m,rfl,h1,h2,Y,h4,h5,h6⟩:=hv;obtain⟨la,lm,rfl,_⟩:=hlv;clear hk h1 h2 Y h4 h5 h6 hst
 go_enter_defers aD.func43,Tryz.ntmps43
 go_wp2_with fail
 obtain⟨y1,y2,p,hz1⟩:=al3 w (ψ #[vn,o,r,wi,d,m] 26) (ψ #[Ω Ψ 0 0,Ω Ψ 0 0,Ω Ψ 0 0,Ω Ψ 0 0,Ω Ψ 0 0,Ω Ψ 0 0] 26) (ψ #[Ξ Θ 0] 34);have q:=HV.out.below p;generalize (((w.alloc (ψ #[vn,o,r,wi,d,m] 26)).alloc (ψ #[Ω Ψ 0 0,Ω Ψ 0 0,Ω Ψ 0 0,Ω Ψ 0 0,Ω Ψ 0 0,Ω Ψ 0 0] 26)).alloc (ψ #[Ξ Θ 0] 34))=W at y1 y2 p hz1 q⊢;have l:=Γ (φ p (φ y1 y2));refine(i3 W _ g q HK.out hm hz (J:=fun _=>False) (fun _ h=>h.elim)).mono ?_;rintro e w2 ⟨⟨br,b,rfl,x⟩,u⟩;have eq:=u.size;have t:=Γ u;have F:=Γ x;clear y1 y2 p q u x;have hle:¬(60:Int)<(cs.length:Int):=by omega
 go_wp2_with fail
 rw[show decide ((60:Int)<(cs.length:Int))=false by simp;omega]
 ((with_reducible refine(cd _ _).mono ?_))
 rintro e w3 ⟨rfl,N⟩;rw[<-N]at F t eq;clear N
 go_wp2_with fail
 refine(JE w3 W.heap.size br b _ cs rs sv (J:=fun _=>False) (HL.out.below (fun j A=>⟨.inl (by omega),(t.out.block j (by omega)).trans (l.out.1.block j A)⟩)) (by rw[h0];exact F.out) (by omega) (fun j A=>A.elim) (fun j A=>A.elim) (by omega) hsl (fun i c s e1 e2=>HS.out _ _ _ i c s e1 e2)).mono ?_;rintro e w4 ⟨⟨rv,rfl,a⟩,n,V,_⟩;have k:υ W.heap.size W w4:=t.out.trans V;have x1:=(k.block _ (by omega)).trans l.out.2.1;have x2:=(k.block _ (by omega)).trans l.out.2.2;have p0:=n.ptr.1;obtain⟨a0,y,I,a1,K,m1,R,L,m2,U,O,M,Q,T,C,P,D,z,hb,S⟩:=n.2.2.1.own.px;have d0:w4.cell? ⟨b,0,Ψ⟩=ω (.slice a0 y I):=by simp[Δ,hb]
 have d1:w4.cell? ⟨b,1,Ψ⟩=ω (.slice a1 K m1):=by simp[Δ,hb]
 have d2:w4.cell? ⟨b,2,Ψ⟩=ω (.slice R L m2):=by simp[Δ,hb]
 have d3:w4.cell? ⟨b,3,Ψ⟩=ω (.slice U O M):=by simp[Δ,hb]
 have d4:w4.cell? ⟨b,4,Ψ⟩=ω (.slice Q T C):=by simp[Δ,hb]
 have d5:w4.cell? ⟨b,5,Ψ⟩=ω (.slice P D z):=by simp[Δ,hb]
 obtain⟨g,h⟩:=JJ x1;have g0:=g 0 (by omega);have g1:=g 1 (by omega);have g2:=g 2 (by omega);have g3:=g 3 (by omega);have g4:=g 4 (by omega);have g5:=g 5 (by omega);have h0:=h 0;have h1:=h 1;have h2:=h 2;have Y:=h 3;have h4:=h 4;have h5:=h 5;have e0:=d7 x2;have ef:=cD (i:=0) x2;have HE:=Γ (φ n (φ k (φ x1 (φ x2 (φ S a)))));have G:=Γ a.reads;obtain⟨ra,rm,rfl,_⟩:=aF a;clear n k x1 x2 hb S g h V a
 go_wp2_with fail
 rw[show((((((w4.setCell ⟨w.heap.size+1,0,Ψ⟩ (.slice a0 y I)).setCell ⟨w.heap.size+1,1,Ψ⟩ (.slice a1 K m1)).setCell ⟨w.heap.size+1,2,Ψ⟩ (.slice R L m2)).setCell ⟨w.heap.size+1,3,Ψ⟩ (.slice U O M)).setCell ⟨w.heap.size+1,4,Ψ⟩ (.slice Q T C)).setCell ⟨w.heap.size+1,5,Ψ⟩ (.slice P D z))=io w4 (w.heap.size+1) (.slice a0 y I) (.slice a1 K m1) (.slice R L m2) (.slice U O M) (.slice Q T C) (.slice P D z)from rfl];obtain⟨q1,q2,X,q4,q5,q6⟩:=HE.out;obtain⟨k1,k2⟩:=afG (H:=w.heap.size) q1.2.2.1.own q5 X q4 (by omega) (by omega);have o1:=G.out.off (OX (v0:=.slice a0 y I) (v1:=.slice a1 K m1) (v2:=.slice R L m2) (v3:=.slice U O M) (v4:=.slice Q T C) (v5:=.slice P D z) X);have o2:=o1.below (jF (((kn (v0:=.slice a0 y I) (v1:=.slice a1 K m1) (v2:=.slice R L m2) (v3:=.slice U O M) (v4:=.slice Q T C) (v5:=.slice P D z) X).2.1 (w.heap.size+1+1) (by omega)).trans q4)).2.2;have hs4:w.heap.size<=w4.heap.size:=by have:=q2.size;omega
 clear d0 d1 d2 d3 d4 d5 g0 g1 g2 g3 g4 g5 h0 h1 h2 Y h4 h5 e0 ef p0;refine ε (f:=103) (args:=#[η (ω ⟨w.heap.size+1+1,0,Ψ⟩)]) (by simp) (by simp[go_sem]) ?_;refine(OL ⟨w.heap.size+1+1,0,Ψ⟩ (Ξ Θ 0) _ (d7 k1) (cD k1)).mono ?_;rintro e u' w'' ⟨rfl,rfl,w9,E,rfl⟩;obtain⟨r1,r2,r3,r4⟩:=k2 w9 E;have o3:=o2.below (fz k1 E).2;have Z:=(l.out.1.trans (q2.mono (by omega))).trans (r4 hs4);generalize w9.setCell ⟨w.heap.size+1+1,0,Ψ⟩ (Ξ Θ 0)=w10 at *;obtain⟨z0,z1,z2,z3,z4,z5⟩:=sS r1;have l4:=d7 r2;simp[ZY,ZX,Z8,Tryz.results43,go_sem,z0,z1,z2,z3,z4,z5,l4];exact⟨⟨_,_,⟨rfl,rfl⟩,r3,by rw[<-hsl];exact o3⟩,Z⟩
theorem WR(w:ο)(v lv:ξ)(g:GH)(cs:List C4)(rs:Nat->Md.RS)(sv:List HV)(hv:GV w v g)(hk:eC g)(hm:g.marked.length<=1000000)(hz:cN g=0)(hlv:JD w (fun j=>j<w.heap.size) lv cs)(hl:cs.length<=60)(hsl:sv.length=cs.length)(h0:rs 0=⟨g,0,0,0,0⟩)
 (hst:∀B br b (i:Nat) c s,cs[i]?=ω c->sv[i]?=ω s->Step B br b (rs i) (rs (i+1)) c s):
 μ aD.prog 45 #[v,lv] w fun e w'=>e=.returned (.tuple #[Ξ Θ (rs cs.length).minors,Ξ Θ (rs cs.length).uJ,Ξ Θ (rs cs.length).fk,Ξ Θ (rs cs.length).dA,Ξ Θ 0])/\υ w.heap.size w w':=by
 have hmf:∀(fn:Fn) (first cap:Array ξ) (w:ο),(θ fn first cap).run aD.prog w=.ok (.func fn first cap) w:=fun _ _ _ _=>rfl
 have HV:=Γ hv;have HK:=Γ hk;have HS:=Γ hst;have HL:=Γ hlv;obtain⟨U,o,r,R,d,m,rfl,h1,X,h3,h4,h5,h6⟩:=hv;obtain⟨la,lm,rfl,_⟩:=hlv;clear hk h1 X h3 h4 h5 h6 hst
 go_enter_defers aD.func45,Tryz.ntmps45
 go_wp2_with fail
 obtain⟨L,k,O⟩:=Ju w (ψ #[U,o,r,R,d,m] 26) (ψ #[Ξ Θ 0] 34);have l:=HV.out.below k;generalize ((w.alloc (ψ #[U,o,r,R,d,m] 26)).alloc (ψ #[Ξ Θ 0] 34))=I at L k O l⊢;have t:=Γ (φ k L);refine(i3 I _ g l HK.out hm hz (J:=fun _=>False) (fun _ h=>h.elim)).mono ?_;rintro e w2 ⟨⟨br,b,rfl,D⟩,z⟩;have eq:=z.size;have u:=Γ z;have F:=Γ D;clear L k l z D
 go_wp2_with fail
 rw[show decide ((60:Int)<(cs.length:Int))=false by simp;omega]
 ((with_reducible refine(cd _ _).mono ?_))
 rintro e Z ⟨rfl,E⟩;rw[<-E]at F u eq;clear E
 go_wp2_with fail
 refine(JE Z I.heap.size br b _ cs rs sv (J:=fun _=>False) (HL.out.below (fun j G=>⟨.inl (by omega),(u.out.block j (by omega)).trans (t.out.1.block j G)⟩)) (by rw[h0];exact F.out) (by omega) (fun j G=>G.elim) (fun j G=>G.elim) (by omega) hsl (fun i c s e1 e2=>HS.out _ _ _ i c s e1 e2)).mono ?_;rintro e w4 ⟨⟨rv,rfl,C⟩,A,H,_⟩;have p:υ I.heap.size I w4:=u.out.trans H;have x1:=(p.block _ (by omega)).trans t.out.2;obtain⟨p0,p1,Y,V,W,_,hbr⟩:=A.all;obtain⟨ra,rm,rfl,_⟩:=aF C;have e0:=d7 x1;have ef:=cD (i:=0) x1;have P:¬w.heap.size+1=br:=by omega
 have Q:=Γ (φ p x1);obtain⟨q,M⟩:∃q,q=rs cs.length:=⟨_,rfl⟩;rw[<-M]at p1 Y V W;have y:=M.symm;clear A p x1 H C M;replace y:=Γ y
 go_wp2_with fail
 go_region_held3 (fun x=>x.cell? ⟨br,1,Ψ⟩=ω (Ξ Θ q.minors)/\x.cell? ⟨br,2,Ψ⟩=ω (Ξ Θ q.uJ)/\x.cell? ⟨br,3,Ψ⟩=ω (Ξ Θ q.fk)/\x.cell? ⟨br,4,Ψ⟩=ω (Ξ Θ q.dA)) ((refine⟨?_,?_,?_,?_⟩<;>(repeat (first|with_reducible assumption|with_reducible refine dO ?_|with_reducible refine da P ?_)))) (fail)
 go_wp2_with fail
 obtain⟨T,_,S⟩:=jF Q.out.2;have n:υ w4.heap.size w4 (w4.setCell ⟨w.heap.size+1,0,Ψ⟩ (Ξ Θ 0)).drew:=S.drew;have a:(w4.setCell ⟨w.heap.size+1,0,Ψ⟩ (Ξ Θ 0)).drew.heap[w.heap.size+1]?=ω (ψ #[Ξ Θ 0] 34 (0,0)):=T;clear T S;generalize (w4.setCell ⟨w.heap.size+1,0,Ψ⟩ (Ξ Θ 0)).drew=w5 at a n⊢;refine ε (f:=105) (args:=#[η (ω ⟨w.heap.size+1,0,Ψ⟩)]) (by simp) (by simp[go_sem]) ?_;refine(ON ⟨w.heap.size+1,0,Ψ⟩ (Ξ Θ 0) _ (d7 a) (cD a)).mono ?_;rintro e u' w'' ⟨rfl,rfl,w9,N,rfl⟩;obtain⟨t1,t2⟩:=fz a N;have l4:=d7 t1;have K:υ w.heap.size w (w9.setCell ⟨w.heap.size+1,0,Ψ⟩ (Ξ Θ 0)):=(t.out.1.trans (Q.out.1.mono (by omega))).trans ((n.trans (t2.mono n.size)).mono (by have:=Q.out.1.size;omega));simp[ZY,ZX,Z8,Tryz.results45,go_sem,l4,y.out];exact K
def ko(order:List HV)(stay n:Nat):HV:=if order.contains ((3,(n:Int)):HV)then(4,(stay:Int)+(order.idxOf ((3,(n:Int)):HV):Nat))else(2,0)
theorem sU{f:Nat->HV}(k:Nat):(Z7 (k+1)).map f=(Z7 k).map f++[f k]:=by rw[List.range_succ,List.map_append];rfl
theorem O0(w:ο)(v:ξ)(g:GH)(order:List HV)(hv:GV w v g)(hk:eC g)(hm:g.marked.length<=1000000)(hz:cN g=0)(hp:im g)(ho:order=bV g dy (c6 g))(hl:¬32<g.old.length+order.length):
 μ aD.prog 24 #[v] w fun e w'=>(∃r,e=.returned (.tuple #[r,Ξ Θ 0])/\eI w' r ((Z7 g.new.length).map (ko order g.old.length)))/\υ w.heap.size w w':=by
 have hmf:∀(fn:Fn) (first cap:Array ξ) (w:ο),(θ fn first cap).run aD.prog w=.ok (.func fn first cap) w:=fun _ _ _ _=>rfl
 have Z:=Γ hv;have HK:=Γ hk;have HP:=Γ hp;obtain⟨vn,o,r,wi,d,m,rfl,D,h2,h3,h4,H,h6⟩:=hv;clear hk D h2 h3 h4 H h6 hp
 go_enter_defers aD.func24,Tryz.ntmps24
 go_wp2_with fail
 obtain⟨y1,s,hz1⟩:=Ju w (ψ #[vn,o,r,wi,d,m] 26) (ψ #[Ξ Θ 0] 34);refine(sw _ _ g (Z.out.below s) HK.out hz hm).mono ?_;rintro e w2 ⟨⟨b,rfl,Q⟩,C⟩;have y2:=(C.block (w.heap.size+1) (by omega)).trans y1;have J:=s.trans (C.mono s.size);have L:=Γ Q;have j:=Γ (φ J y2);clear s C Q y1 y2 J
 go_wp2_with fail
 refine(qe _ _ b g L.out HP.out).mono ?_;rintro e w3 ⟨⟨bs,bm,so,rfl,hs⟩,l⟩;rw[<-ho]at hs;have U:=Γ hs;have h:=Γ (φ (j.out.1.trans (l.mono j.out.1.size)) ((l.block _ (χ.1 j.out.2).1).trans j.out.2));have R:=Γ (L.out.below l);obtain⟨X,ms0,M,_,_,_⟩:=aF hs.2.2.2.1;have c0:w3.cell? ⟨bs,0,Ψ⟩=ω (.slice X order.length ms0):=by simp[Δ,hs.2.2.1,M]
 have hgd:¬(32:Int)<(g.old.length:Int)+(order.length:Int):=by omega
 have hol:=HK.out.bw;have hnl:=HK.out.news;have hw1:IntKind.i64.wrap ((g.old.length:Int)+(order.length:Int))=(g.old.length:Int)+(order.length:Int):=wrap_small _ (by omega) (by omega);clear hs l ho M
 go_wp2_with fail
 rw[show decide ((32:Int)<(g.old.length:Int)+(order.length:Int))=false by simp;omega]
 ((with_reducible refine(cd _ _).mono ?_))
 rintro e w4 ⟨rfl,G⟩;rw[<-G]at U h R c0;clear G;obtain⟨n,oo,mm,row,hBb,N,⟨ao,mo,Y,_⟩,_⟩:=R.out;rw[aT]at Y;have d0:w4.cell? ⟨b,0,Ψ⟩=ω (.slice ao g.new.length mo):=by rw[<-Y];simp[Δ,N]
 clear Y hBb N
 go_wp2_with fail
 go_loopw [2,34] (fun o i wr=>∃(k:Nat),k<=g.new.length/\i=Ξ Θ k/\Hid (OV wr w4.heap.size o ((Z7 k).map (ko order g.old.length))/\υ w4.heap.size w4 wr)) (fun _ i _=>g.new.length-(intOf i).toNat)
 case atStart=>exact⟨0,by omega,rfl,Γ ⟨OV.nil _ _,ι _ _⟩⟩
 case round=>
  obtain⟨k,hk,rfl,a⟩:=hrel;by_cases hlt:k<g.new.length
  ·have hsr:=a.out.2.size;have I:=U.out.Q4;have hbs:wr.cell? ⟨bs,1,Ψ⟩=ω (.map (ω bm)):=by have:=(a.out.2.block bs I.1).trans U.out.2.2.1;simp[Δ,this]
   have c:=fP (3,(k:Int)) (U.out.2.2.2.2.of_block (a.out.2.block bm I.2));unfold eB at c;dsimp only at c;by_cases y:((3,(k:Int)):HV)∈order
   ·simp only[y,if_true,decide_true]at c;have hid:=List.idxOf_lt_length_of_mem y;have O:ko order g.old.length k=(4,(g.old.length:Int)+(order.idxOf ((3,(k:Int)):HV):Nat)):=by simp[ko,y]
    have S:=Γ O;clear O y;generalize order.idxOf ((3,(k:Int)):HV)=W at c hid S;have hw2:IntKind.i64.wrap ((g.old.length:Int)+(W:Int))=(g.old.length:Int)+(W:Int):=wrap_small _ (by omega) (by omega)
    go_wp2_with (refine ZZ (fun K P=>aX rfl (.tmp 53) (.tmp 58) 23 (by rfl) u2 (Ω (ω ⟨wr.heap.size,0,Ψ⟩) 1 1) (by rfl) (by rfl) _ (nr (B:=w4.heap.size) (p:=4) (q:=(g.old.length:Int)+(W:Int)) (a.out.1.below (af wr _)) (κ wr _) (by simp;omega) (by simp;omega)) ?_);intro v' w5 H;obtain⟨x,E,gg,mg,rfl,_⟩:=H;refine P _ _ ?_;clear P K)
    have u:υ w4.heap.size w4 w5:=(a.out.2.trans ((af wr _).mono a.out.2.size)).trans ((cM (a.out.1.below (af wr _)) E (by have:=a.out.2.size;simp;omega)))
    go_roundw
    case rel=>refine⟨k+1,by omega,by go_num,Γ ⟨?_,u⟩⟩;rw[sU,show ko order g.old.length k=(4,(g.old.length:Int)+(W:Int))from S.out];have D:=x;simp only[List.length_map,List.length_range]at D;exact D
    case measure=>simp[intOf];omega
   ·simp only[y,if_false,decide_false]at c;have S:=Γ (show ko order g.old.length k=(2,0) by simp[ko,y]);clear y
    go_wp2_with (refine ZZ (fun K P=>aX rfl (.tmp 49) (.tmp 51) 23 (by rfl) u2 (Ω (ω ⟨wr.heap.size,0,Ψ⟩) 1 1) (by rfl) (by rfl) _ (nr (B:=w4.heap.size) (p:=2) (q:=0) (a.out.1.below (af wr _)) (κ wr _) (by simp;omega) (by simp;omega)) ?_);intro v' w5 H;obtain⟨x,E,gg,mg,rfl,_⟩:=H;refine P _ _ ?_;clear P K)
    have u:υ w4.heap.size w4 w5:=(a.out.2.trans ((af wr _).mono a.out.2.size)).trans ((cM (a.out.1.below (af wr _)) E (by have:=a.out.2.size;simp;omega)))
    go_roundw
    case rel=>refine⟨k+1,by omega,by go_num,Γ ⟨?_,u⟩⟩;rw[sU,show ko order g.old.length k=(2,0)from S.out];have D:=x;simp only[List.length_map,List.length_range]at D;exact D
    case measure=>simp[intOf];omega
  ·have hke:k=g.new.length:=by omega
   subst hke;clear hlt;have V:=(a.out.2.block (w.heap.size+1) (χ.1 h.out.2).1).trans h.out.2;have e0:=d7 V;have ef:=cD (i:=0) V;have HY:=Γ V;have hsl:w.heap.size<=w4.heap.size:=h.out.1.size;clear V
   go_wp2_with fail
   obtain⟨T,_,s2⟩:=jF HY.out;have t:=a.out.1.reads.below s2;have z:=((h.out.1.trans (a.out.2.mono hsl))).trans (s2.mono (by have:=a.out.2.size;omega));generalize wr.setCell ⟨w.heap.size+1,0,Ψ⟩ (Ξ Θ 0)=w5 at T s2 t z⊢;refine ε (f:=80) (args:=#[η (ω ⟨w.heap.size+1,0,Ψ⟩)]) (by simp) (by simp[go_sem]) ?_;refine(WI ⟨w.heap.size+1,0,Ψ⟩ (Ξ Θ 0) _ (d7 T) (cD T)).mono ?_;rintro e u' w'' ⟨rfl,rfl,w9,BP,rfl⟩;obtain⟨t1,t2⟩:=fz T BP;have l4:=d7 t1;have A:=t.below t2;have F:=z.trans (t2.mono z.size);simp[ZY,ZX,Z8,Tryz.results24,go_sem,l4];exact⟨A,F⟩
def sV(m:List Int):GH:=⟨[(0,[(3,2)]),(0,[(0,5)]),(0,[(4,1)]),(1,[(3,1)])],[(0,[(3,3)]),(0,[]),(0,[(3,1)])],[(3,0),(4,1),(0,7),(2,0)],[],[],m⟩
def ee:GH:=sV [0,2]
theorem cB:eC ee where
 cells:=by decide
 news:=by decide
 bw:=by decide
 four:=by decide
 roots:=by decide
 aA:=⟨by decide,fun i v h=>by cases h⟩
 done:=⟨by decide,fun i v h=>by cases h⟩
theorem JL(m:List Int):eC (sV m):=⟨cB.cells,cB.news,cB.bw,cB.four,cB.roots,cB.aA,cB.done⟩
theorem di:cN ee=0/\cN (sV [2])=11/\cN (sV [2,0])=14/\cN (sV [0,3])=9:=by decide
theorem Fd:ju ee=[0,2]:=by decide
def JM(g:GH):Bool:=(g.new++g.old).all (fun c=>c.2.all fun v=>mh g v==0)&&(cJ g).all fun v=>mh g v==0
theorem wS{g:GH}(h:JM g=true)(hn:g.new.length<=8)(ho:g.old.length<=32)(hr:g.roots.length<=4)(hw:g.aA.length<=40)(hd:g.done.length<=40)(hv:∀c∈g.new++g.old,c.2.length<=4)(hm:∀n∈g.marked,0<=n/\n<g.old.length)(hml:g.marked.length<=32):im g where
 cells:=fun c hc v hv=>by unfold JM at h;simp only[Bool.and_eq_true,List.all_eq_true,beq_iff_eq]at h;exact pY (h.1 c hc v hv)
 cJ:=fun v hv=>by unfold JM at h;simp only[Bool.and_eq_true,List.all_eq_true,beq_iff_eq]at h;exact pY (h.2 v hv)
 news:=by omega
 bw:=by omega
 roots:=by omega
 aA:=by omega
 done:=by omega
 eT:=fun c hc=>by have:=hv c hc;omega
 marks:=hm
 marked:=by omega
theorem sW:im ee:=wS (by decide) (by decide) (by decide) (by decide) (by decide) (by decide) (by decide) (by decide) (by decide)
theorem Fe:Small ee where
 cells:=by unfold Sm;decide
 roots:=by unfold Sm;decide
 aA:=by unfold Sm;decide
 done:=by unfold Sm;decide
 bw:=by decide
 news:=by decide
def sX:GH:=⟨[],[(0,[(4,4)]),(0,[]),(0,[(4,5)]),(0,[(4,6)]),(1,[(4,5)]),(0,[(0,5)]),(0,[(4,1)])],[(4,3),(4,1),(0,7),(2,0)],[],[],[]⟩
def Al:GH:=⟨[],[(0,[(4,2)]),(0,[]),(0,[(4,1)])],[(4,0),(4,1),(0,7),(2,0)],[],[],[]⟩
def B9:List HV:=[(3,0),(3,3),(3,1),(3,2)]
theorem Ff:Md.collect .minor ee=ω (4,sX):=by kernel_rfl
theorem JN:Md.collect .full ee=ω (3,Al):=by kernel_rfl
theorem Fg:B9=bV ee dy (c6 ee):=by kernel_rfl
theorem JO:(Z7 ee.new.length).map (ko B9 ee.old.length)=[(4,3),(4,5),(4,6),(4,4)]:=by kernel_rfl
def d9:PH:=⟨[(0,[(1,6)]),(0,[]),(0,[(1,4)]),(0,[(1,5)]),(0,[(0,5)]),(0,[(1,1)]),(1,[(1,4)])],[(1,3),(1,1),(0,7),(2,0)],[],[]⟩
theorem Fh:plain ee=d9:=by kernel_rfl
def mS(r:Md.RS):Md.RS:=Md.el (Jz r 1) 2 (3,(r.g.new.length:Int))
def r0:Md.RS:=⟨ee,0,0,0,0⟩
def r4:Md.RS:=mS (mS (mS (mS r0)))
def Ca:GH:=⟨[],[(0,[(4,5)]),(0,[]),(0,[(4,6)]),(0,[(4,7)]),(0,[(0,0)]),(1,[(4,6)]),(0,[(0,5)]),(0,[(4,1)])],[(4,3),(4,1),(4,4),(2,0)],[],[],[]⟩
theorem JP:Md.collect .minor r4.g=ω (5,Ca):=by kernel_rfl
def r4':Md.RS:=⟨Ca,1,0,0,5⟩
def r5:Md.RS:=mS r4'
def g5:GH:=⟨[(0,[(0,0)])],[(0,[(4,5)]),(0,[]),(0,[(4,6)]),(0,[(4,7)]),(0,[(0,0)]),(1,[(4,6)]),(0,[(0,5)]),(0,[(4,1)])],[(4,3),(4,1),(3,0),(2,0)],[],[],[]⟩
theorem Q':r5=⟨g5,1,0,0,5⟩:=by kernel_rfl
def JQ:GH:=⟨[(0,[(0,0)])],[(3,[]),(0,[]),(3,[]),(0,[(4,7)]),(3,[]),(3,[]),(3,[]),(0,[(4,1)])],[(4,3),(4,1),(3,0),(2,0)],[],[],[]⟩
theorem JR:Md.iF g5=JQ:=by kernel_rfl
def Cb:GH:=⟨[],[(0,[(4,3)]),(0,[]),(0,[(0,0)]),(0,[(4,1)])],[(4,0),(4,1),(4,2),(2,0)],[],[],[]⟩
theorem JS:Md.collect .major g5=ω (4,Cb):=by kernel_rfl
def ns:PH:=⟨[(0,[(1,5)]),(0,[]),(0,[(1,6)]),(0,[(1,7)]),(0,[(0,0)]),(1,[(1,6)]),(0,[(0,5)]),(0,[(1,1)]),(0,[(0,0)])],[(1,3),(1,1),(1,8),(2,0)],[],[]⟩
theorem Am:plain g5=ns:=by kernel_rfl
theorem O1:im r4.g:=wS (by decide) (by decide) (by decide) (by decide) (by decide) (by decide) (by decide) (by decide) (by decide)
theorem O2:im JQ:=wS (by decide) (by decide) (by decide) (by decide) (by decide) (by decide) (by decide) (by decide) (by decide)
def anW:List HC:=qv ns.cells ns.roots 12 1
theorem O3:lZ ns 12 1 where
 fin:=by decide+kernel
 refs:=by decide+kernel
 short:=by decide+kernel
 grow:=by decide+kernel
 stop:=by decide+kernel
 sM:=by decide+kernel
 pos:=by decide+kernel
 Wu:=by decide+kernel
 kinds:=by decide+kernel
 wW:=by decide+kernel
theorem O4:lZ ⟨anW,ns.roots,[],[]⟩ 12 1 where
 fin:=by decide+kernel
 refs:=by decide+kernel
 short:=by decide+kernel
 grow:=by decide+kernel
 stop:=by decide+kernel
 sM:=by decide+kernel
 pos:=by decide+kernel
 Wu:=by decide+kernel
 kinds:=by decide+kernel
 wW:=by decide+kernel
theorem afI:wK ns.cells ns.roots 12 1:=⟨O3,O4,by decide+kernel,by decide+kernel,by decide+kernel⟩
theorem sw5:Jn g5 12 1 where
 small:=⟨by unfold Sm;decide,by unfold Sm;decide,by unfold Sm;decide,by unfold Sm;decide,by decide,by decide⟩
 ir:=by rw[Am];exact⟨by decide+kernel,by decide+kernel,by decide,by decide,by decide+kernel,rfl,rfl⟩
 afA:=by rw[Am];exact afI
 Ct:=by kernel_rfl
 res:=by rw[show Md.lu (plain g5)=⟨[(3,[]),(0,[]),(3,[]),(0,[(1,7)]),(3,[]),(3,[]),(3,[]),(0,[(1,1)]),(0,[(0,0)])],[(1,3),(1,1),(1,8),(2,0)],[],[]⟩ by kernel_rfl];exact⟨by unfold Sm;decide,by decide,by unfold Sm;decide,by unfold Sm;decide,by unfold Sm;decide⟩
section
variable{r:Md.RS}{br b B:Nat}
theorem py{r':Md.RS}{k:Nat}{p q:Int}(ht:r.g.roots[2]?=ω (p,q))(hrl:r.g.roots.length<=1000)(hm:Roomy r r')(hz:Aj k)(hk:k<=4)(hl:r'.g.new.length<=900)(ht':2<r'.g.roots.length)(Jf:r'.g.roots.length<=1000):
 Step B br b r (Md.el (Jz r' k) 2 (3,(r'.g.new.length:Int))) (0,2,(k:Int),0) (1,(k:Int)) where
 OU:=fun w J a c d _=>JA w B br b 2 k r r' p q a c d ht hrl hm hz hk (by omega) ht'
 root:=by
  refine⟨3,(r'.g.new.length:Int),?_,fun w J a=>?_⟩
  ·show(r'.g.roots.set 2 (3,(r'.g.new.length:Int)))[2]?=_;rw[List.getElem?_set_self ht']
  ·have h:=Fa w B br b r'.g.new.length _ 0 (Z0 k (0,0)) a (by
    show(r'.g.new++[(0,Z0 k (0,0))])[r'.g.new.length]?=_;simp) (by omega) (by simp;omega) (by
    show(r'.g.new++[(0,Z0 k (0,0))]).length<=_;simp;omega)
   simpa using h
 wW:=by show(r'.g.roots.set 2 (3,(r'.g.new.length:Int))).length<=_;simpa using Jf
theorem An(h:r.g.new.length<8):Roomy r r:=.inl ⟨h,rfl⟩
theorem JT:Roomy r4 r4':=.inr ⟨by decide,by decide,O1,5,Ca,JP,rfl,by decide,by decide,by decide⟩
theorem qQ{p q:Int}(h:r.g.new.length<8)(ht:r.g.roots[2]?=ω (p,q))(hrl:r.g.roots.length<=1000)(ht':2<r.g.roots.length):Step B br b r (mS r) (0,2,1,0) (1,1):=py (k:=1) ht hrl (An h) Jy (by omega) (by omega) ht' hrl
theorem WS:Step B br b r4 r5 (0,2,1,0) (1,1):=py (k:=1) (r:=r4) (r':=r4') (p:=3) (q:=7) (by decide) (by decide) JT Jy (by omega) (by decide) (by decide) (by decide)
def r1d:Md.RS:=Md.el (Jz r0 0) 2 (3,4)
theorem WT:Step B br b r0 r1d (0,2,0,0) (1,0):=py (k:=0) (r:=r0) (r':=r0) (p:=0) (q:=7) (by decide) (by decide) (An (by decide)) WK (by omega) (by decide) (by decide) (by decide)
def r6:Md.RS:=⟨Cb,1,0,1,9⟩
theorem Cc:Step B br b r5 r6 (10,0,0,0) (1,1) where
 OU:=fun w J a c d _=>by rw[Q']at a;exact E' w B br b 4 _ Cb 4 3 0 a c d (by decide) (by decide) 12 1 sw5 (by rw[JR];exact O2) JS (by decide) (by decide) (by decide)
 root:=⟨4,0,by decide,fun w J a=>by have h:=ve w B br b 0 _ 0 [(4,3)] a (by decide) (by decide) (by decide) (by decide);simpa using h⟩
 wW:=by decide
def g6p:GH:=⟨[(0,[(0,0)])],[(0,[(4,5)]),(0,[]),(0,[(4,6)]),(0,[(3,0)]),(0,[(0,0)]),(1,[(4,6)]),(0,[(0,5)]),(0,[(4,1)])],[(4,3),(4,1),(3,0),(2,0)],[],[],[3]⟩
def r6p:Md.RS:=⟨g6p,1,0,0,5⟩
theorem JU:Step B br b r5 r6p (4,0,2,0) (1,1) where
 OU:=fun w J a d f c=>by
  rw[Q']at a;have h:=DG w B br b 0 2 3 0 _ [(4,7)] 0 a d f c (by decide) (by decide) (by decide) (by decide) (by decide) (by decide) (by decide) (fun _=>rfl);refine h.mono fun e g h=>?_
  unfold gN at h;rw[if_pos (by decide)]at h;exact h
 root:=⟨4,3,by decide,fun w J a=>by have h:=ve w B br b 3 _ 0 [(3,0)] a (by decide) (by decide) (by decide) (by decide);simpa using h⟩
 wW:=by decide
theorem Ao(w:ο)(B br b:Nat)(J:Nat->Prop)(hr:bD w B br b r0 J)(hB:B<=w.heap.size)(hJ:∀j,J j->False):μ aD.prog 153 #[η (ω ⟨br,0,Ψ⟩),c4V (4,1,0,0)] w fun e w'=>e=.panicked (gK 9)/\υ B w w':=by
 have h:=DG w B br b 1 0 1 0 _ [] 0 hr hB (fun j a=>(hJ j a).elim) (fun j a=>(hJ j a).elim) (by decide) (by decide) (by decide) (by decide) (by decide) (by decide) (by decide) (fun h=>absurd h (by decide));refine h.mono fun e w' h=>?_
 unfold gN at h;rw[if_neg (by decide)]at h;exact h
def rsM:Nat->Md.RS
 |0=>r0|1=>mS r0|2=>mS (mS r0)|3=>mS (mS (mS r0))|4=>r4|_=>r5
def WU:List C4:=[(0,2,1,0),(0,2,1,0),(0,2,1,0),(0,2,1,0),(0,2,1,0)]
def Fi:List HV:=[(1,1),(1,1),(1,1),(1,1),(1,1),(1,1)]
theorem Ap{c:C4}(h:∀B br b,Step B br b r5 r c (1,1))(B br b i:Nat)(c':C4)(s:HV)(h1:(WU++[c])[i]?=ω c')(h2:Fi[i]?=ω s):Step B br b (if i<6 then rsM i else r) (if i+1<6 then rsM (i+1)else r) c' s:=by
 match i,h1,h2 with
 |0,h1,h2=>cases h1;cases h2;exact qQ (r:=r0) (p:=0) (q:=7) (by decide) (by decide) (by decide) (by decide)
 |1,h1,h2=>cases h1;cases h2;exact qQ (r:=mS r0) (p:=3) (q:=4) (by decide) (by decide) (by decide) (by decide)
 |2,h1,h2=>cases h1;cases h2;exact qQ (r:=mS (mS r0)) (p:=3) (q:=5) (by decide) (by decide) (by decide) (by decide)
 |3,h1,h2=>cases h1;cases h2;exact qQ (r:=mS (mS (mS r0))) (p:=3) (q:=6) (by decide) (by decide) (by decide) (by decide)
 |4,h1,h2=>cases h1;cases h2;exact WS
 |5,h1,h2=>cases h1;cases h2;exact h B br b
 |n+6,h1,h2=>simp[Fi]at h2
end
section
variable{v:ξ}(w:ο)
theorem wT{w:ο}{e:Z4}{size n:Nat}{xs:List ξ}{arr:Array ξ}(ha:arr.toList=xs)(hl:xs.length=n*size)(hn:n<=1000000):(w.alloc (.cells arr e)).ownsRow w.heap.size e size (Ω (ω ⟨w.heap.size,0,Ψ⟩) n n) n xs:=by
 have hs:arr.size=n*size:=by rw[<-hl,<-ha];simp
 exact⟨hl,.inr ⟨w.heap.size,n,arr,rfl,Z3 _,κ _ _,Z3 _,by unfold maxLen;omega,hs,by rw[ha,<-hl,List.take_length]⟩⟩
theorem Cd(l:List HV)(arr:Array ξ)(n:Nat)(hn:l.length=n)(ha:arr.toList=l.flatMap lU)(hl:n<=1000):OV (w.alloc (.cells arr 50)) w.heap.size (Ω (ω ⟨w.heap.size,0,Ψ⟩) n n) l:=by subst hn;exact wT ha (fx l) (by omega)
theorem JV(l:List Int)(arr:Array ξ)(n:Nat)(hn:l.length=n)(ha:arr.toList=l.flatMap eP)(hl:n<=1000):OI (w.alloc (.cells arr 3)) w.heap.size (Ω (ω ⟨w.heap.size,0,Ψ⟩) n n) l:=by
 subst hn;exact wT ha (by rw[<-ha,Nat.mul_one];rw[ha];clear ha;induction l with
  |nil=>rfl
  |cons a l b=>simp only[List.flatMap_cons,List.length_append,List.length_cons]at b⊢;rw[b (by simp at hl;omega)];simp[eP];omega) (by omega)
theorem WV(l:List (Int×ξ))(arr:Array ξ)(n:Nat)(hn:l.length=n)(ha:arr.toList=l.flatMap dW)(hl:n<=1000):OC (w.alloc (.cells arr 76)) w.heap.size (Ω (ω ⟨w.heap.size,0,Ψ⟩) n n) l:=by subst hn;exact wT ha (iu l) (by omega)
theorem aY.nil:aY w [] []:=⟨rfl,fun i k v a b e=>by simp at e⟩
theorem aY.cons{w:ο}{k:Int}{vs:List HV}{l:List (Int×ξ)}{cs:List HC}(h:eI w v vs)(hl:aY w l cs):aY w ((k,v)::l) ((k,vs)::cs):=by
 refine⟨by simp[hl.1],fun i b v1 c a e1 e2=>?_⟩;cases i with
 |zero=>
  cases e1
  cases e2
  exact⟨rfl,h⟩
 |succ i=>exact hl.2 i b v1 c a (by simpa using e1) (by simpa using e2)
theorem isn:n9 w (Ω Ψ 0 0) []:=(OI.nil w 0).reads
theorem csn:sa w (Ω Ψ 0 0) []:=⟨Ψ,0,rfl,Z3 _,by omega,fun h=>absurd h (Nat.lt_irrefl 0)⟩
theorem mK(n:Int):μ aD.prog 56 #[Ξ Θ n] w fun e w'=>e=.returned (.agg #[Ξ Θ 0,Ξ Θ n])/\υ w.heap.size w w':=aeR w n
theorem i4(n:Int):μ aD.prog 61 #[Ξ Θ n] w fun e w'=>e=.returned (.agg #[Ξ Θ 3,Ξ Θ n])/\υ w.heap.size w w':=NV w n
theorem eF(n:Int):μ aD.prog 59 #[Ξ Θ n] w fun e w'=>e=.returned (.agg #[Ξ Θ 4,Ξ Θ n])/\υ w.heap.size w w':=aeS w n
theorem kp(n:Int):μ aD.prog 54 #[Ξ Θ n] w fun e w'=>e=.returned (.agg #[Ξ Θ 1,Ξ Θ n])/\υ w.heap.size w w':=VZ w n
theorem sY:μ aD.prog 58 #[] w fun e w'=>e=.returned (.agg #[Ξ Θ 2,Ξ Θ 0])/\υ w.heap.size w w':=V0 w
theorem dd(a:Option Addr)(n m:Nat):μ aD.prog 55 #[.slice a n m] w fun e w'=>e=.returned (.agg #[Ξ Θ 0,.slice a n m])/\υ w.heap.size w w':=aeT w _ a n m rfl
theorem DH(p q:Int):μ aD.prog 57 #[.agg #[Ξ Θ p,Ξ Θ q]] w fun e w'=>(∃b,e=.returned (.agg #[Ξ Θ 1,Ω (ω ⟨b,0,Ψ⟩) 1 1])/\eI w' (Ω (ω ⟨b,0,Ψ⟩) 1 1) [(p,q)])/\υ w.heap.size w w':=by
 go_enter aD.func57,Tryz.ntmps57
 go_wp2_with fail
 have h:=Cd ((w.alloc (ψ #[Ξ Θ p,Ξ Θ q] 50)).alloc (ψ #[Ξ Θ 1,Ω (ω ⟨w.heap.size+1+1,0,Ψ⟩) 1 1] 76)) [(p,q)] #[Ξ Θ p,Ξ Θ q] 1 rfl rfl (by omega);obtain⟨a,_,hb,hz⟩:=al3 w (ψ #[Ξ Θ p,Ξ Θ q] 50) (ψ #[Ξ Θ 1,Ω (ω ⟨w.heap.size+1+1,0,Ψ⟩) 1 1] 76) (ψ #[Ξ Θ p,Ξ Θ q] 50);rw[show((w.alloc (ψ #[Ξ Θ p,Ξ Θ q] 50)).alloc (ψ #[Ξ Θ 1,Ω (ω ⟨w.heap.size+1+1,0,Ψ⟩) 1 1] 76)).heap.size=w.heap.size+1+1 by simp]at h;generalize (((w.alloc (ψ #[Ξ Θ p,Ξ Θ q] 50)).alloc (ψ #[Ξ Θ 1,Ω (ω ⟨w.heap.size+1+1,0,Ψ⟩) 1 1] 76)).alloc (ψ #[Ξ Θ p,Ξ Θ q] 50))=c at h a hb hz⊢;refine Z2 (v:=.agg #[Ξ Θ 1,Ω (ω ⟨w.heap.size+1+1,0,Ψ⟩) 1 1]) (by simp[Z8,Tryz.results57,go_sem,Δ,a]) rfl ⟨⟨_,rfl,h.reads⟩,hb⟩
def KW(c:C4):List ξ:=[Ξ Θ c.1,Ξ Θ (c.2.1:Int),Ξ Θ c.2.2.1,Ξ Θ c.2.2.2]
def OM(w:ο)(B:Nat)(v:ξ)(l:List C4):Prop:=w.ownsRow B 44 4 v l.length (l.flatMap KW)
theorem WW:(aD.prog.info? 44).map (fun i=>(i.zero,i.size,i.bytes))=ω (ω (.agg #[Ξ Θ 0,Ξ Θ 0,Ξ Θ 0,Ξ Θ 0]),4,32):=by kernel_rfl
theorem afJ:aD.prog.underlying 48=ω (.slice 44):=by kernel_rfl
theorem sZ{w:ο}{ty:Z4}{B bx:Nat}{l:List C4}{c:C4}{t:Z4}{fr:Nat×Nat}(h:OM w B v l)(hx:w.heap[bx]?=ω (ψ #[Ξ Θ c.1,Ξ Θ (c.2.1:Int),Ξ Θ c.2.2.1,Ξ Θ c.2.2.2] t fr))(hl:l.length<=1000000)(hB:B<=w.heap.size):
 ∃v' w',(Builtin.append_ #[48,48] ty #[v,Ω (ω ⟨bx,0,Ψ⟩) 1 1]).run aD.prog w=.ok v' w'/\(OM w' B v' (l++[c])/\w.grownBy w' v.ownBlock/\∃g m',v'=Ω (ω ⟨g,0,Ψ⟩) (l.length+1) m'/\(v.ownBlock=ω g\/g=w.heap.size)):=by
 obtain⟨m,hi,e,i,d⟩:=info_parts WW;obtain⟨g,f,w',b,o,n,p,q⟩:=run_append_lies (P:=aD.prog) w 48 ty B 44 m _ 4 32 afJ hi e i d rfl (by decide) v l.length _ h ⟨bx,0,Ψ⟩ 1 1 (KW c) rfl (fun j u a=>by
  match j,a with
  |0,a=>cases a;simp[Δ,hx,Addr.add]
  |1,a=>cases a;simp[Δ,hx,Addr.add]
  |2,a=>cases a;simp[Δ,hx,Addr.add]
  |3,a=>cases a;simp[Δ,hx,Addr.add]
  |j+4,a=>simp[KW]at a) (fun u k=>by
  simp[KW]at k;rcases k with rfl|rfl|rfl|rfl<;>rfl) (by omega) (by unfold maxLen;omega) (by omega) hB _ rfl
 refine⟨_,w',b,?_,n,g,f,rfl,p⟩;unfold OM;rw[List.flatMap_append,List.length_append];simpa using o
theorem Ra:∀(l:List C4) (i:Nat) (c:C4),l[i]?=ω c->(l.flatMap KW)[i*4]?=ω (Ξ Θ c.1)/\(l.flatMap KW)[i*4+1]?=ω (Ξ Θ (c.2.1:Int))/\(l.flatMap KW)[i*4+2]?=ω (Ξ Θ c.2.2.1)/\(l.flatMap KW)[i*4+3]?=ω (Ξ Θ c.2.2.2)
 |[],i,c,h=>by simp at h
 |b::l,0,c,h=>by simp at h;subst h;simp[KW]
 |b::l,i+1,c,h=>by obtain⟨h1,h2,h3,h4⟩:=Ra l i c (by simpa using h);rw[List.flatMap_cons,show(i+1)*4=i*4+1+1+1+1 by omega];simp only[KW,List.cons_append,List.nil_append,List.getElem?_cons_succ];exact⟨h1,h2,h3,h4⟩
theorem OM.reads{w:ο}{B:Nat}{l:List C4}(h:OM w B v l):JD w (fun j=>j<w.heap.size) v l:=by obtain⟨a,m,rfl,_,_,o⟩:=aF h;refine⟨a,m,rfl,fun h0=>?_⟩;obtain⟨g,rfl,_,k,_,hc⟩:=o h0;refine⟨g,0,rfl,k,fun i c e=>?_⟩;obtain⟨f,b,n,d⟩:=Ra l i c e;simp only[Nat.zero_add];exact⟨hc _ _ f,hc _ _ b,hc _ _ n,hc _ _ d⟩
theorem O5(bx:Nat)(c:C4){t:Z4}{fr:Nat×Nat}(hx:w.heap[bx]?=ω (ψ #[Ξ Θ c.1,Ξ Θ (c.2.1:Int),Ξ Θ c.2.2.1,Ξ Θ c.2.2.2] t fr)):
 μ aD.prog 62 #[Ξ Θ 5,Ω (ω ⟨bx,0,Ψ⟩) 1 1] w fun e w'=>(∃r,e=.returned r/\OM w' w.heap.size r (WU++[c]))/\υ w.heap.size w w':=by
 have z:=Γ hx;have j:=(χ.1 hx).1;clear hx
 go_enter aD.func62,Tryz.ntmps62
 go_wp2_with fail
 go_loopw [5,6] (fun o i wr=>∃(k:Nat),k<=5/\i=Ξ Θ k/\Hid (OM wr w.heap.size o (WU.take k)/\υ w.heap.size w wr)) (fun _ i _=>5-(intOf i).toNat)
 case atStart=>exact⟨0,by omega,rfl,Γ ⟨World.ownsRow_nil _ _ _ _,ι _ _⟩⟩
 case round=>
  obtain⟨k,A,rfl,a⟩:=hrel;have f:=a.out.2.size;by_cases m:k<5
  ·have q:(k:Int)<5:=by omega
   go_wp2_with (refine ZZ (fun K g=>aX rfl (.tmp 12) (.tmp 14) 48 (by rfl) u5 (Ω (ω ⟨wr.heap.size,0,Ψ⟩) 1 1) (by rfl) (by rfl) _ (sZ (B:=w.heap.size) (c:=(0,2,1,0)) (jy a.out.1 (af wr _)) (κ wr _) (by simp;omega) (by simp;omega)) ?_);intro y w5 n;obtain⟨b,d,u,v,rfl,_⟩:=n;refine g _ _ ?_;clear g K)
   have h:υ w.heap.size w w5:=(a.out.2.trans ((af wr _).mono a.out.2.size)).trans ((cM (jy a.out.1 (af wr _)) d (by have:=a.out.2.size;simp;omega)))
   go_roundw
   case rel=>
    refine⟨k+1,by omega,by go_num,Γ ⟨?_,h⟩⟩;rw[bW (l:=WU) (k:=k) (x:=(0,2,1,0)) (by match k,m with
     |0,_=>rfl
     |1,_=>rfl
     |2,_=>rfl
     |3,_=>rfl
     |4,_=>rfl)]
    have s:=b;simp only[List.length_take]at s;exact s
   case measure=>simp[intOf];omega
  ·have p:k=5:=by omega
   subst p
   go_wp2_with (refine ZZ (fun K g=>aX rfl (.tmp 16) (.tmp 17) 48 (by rfl) u5 (Ω (ω ⟨bx,0,Ψ⟩) 1 1) (by rfl) (by rfl) _ (sZ (B:=w.heap.size) (c:=c) a.out.1 ((a.out.2.block bx j).trans z.out) (by decide) f) ?_);intro y w5 n;obtain⟨b,d,u,v,rfl,_⟩:=n;refine g _ _ ?_;clear g K)
   go_ret;exact⟨⟨_,rfl,b⟩,a.out.2.trans (cM a.out.1 d f)⟩
theorem m1{P:Program}{f n:Nat}{a:Array ξ}{w:ο}{x:Ending}{Q:Ending->ο->Prop}(h:μ P f a w fun e w'=>e=x/\υ n w w')(k:∀w',Hid (υ n w w') ->Q x w'):μ P f a w Q:=h.mono fun e w' b=>by obtain⟨rfl,hb⟩:=b;exact k _ hb
theorem m2{α:Type}{P:Program}{f n:Nat}{a:Array ξ}{w:ο}{x:α->Ending}{R:α->ο->Prop}{Q:Ending->ο->Prop}(h:μ P f a w fun e w'=>(∃v,e=x v/\R v w')/\υ n w w')(k:∀v w',Hid (R v w') ->Hid (υ n w w') ->Q (x v) w'):μ P f a w Q:=h.mono fun e w' b=>by obtain⟨⟨v,rfl,c⟩,hb⟩:=b;exact k _ _ c hb
theorem DI(o:Obj):Hid ((w.alloc o).heap[w.heap.size]?=ω o)/\Hid (υ w.heap.size w (w.alloc o))/\(w.alloc o).heap.size=w.heap.size+1:=⟨κ w o,af w o,by simp⟩
theorem nt(l:List HV)(arr:Array ξ)(n:Nat)(hn:l.length=n)(ha:arr.toList=l.flatMap lU)(hl:n<=1000):Hid (OV (w.alloc (.cells arr 50)) w.heap.size (Ω (ω ⟨w.heap.size,0,Ψ⟩) n n) l)/\Hid (υ w.heap.size w (w.alloc (.cells arr 50)))/\(w.alloc (.cells arr 50)).heap.size=w.heap.size+1:=⟨Cd w l arr n hn ha hl,af _ _,by simp⟩
theorem alI(l:List Int)(arr:Array ξ)(n:Nat)(hn:l.length=n)(ha:arr.toList=l.flatMap eP)(hl:n<=1000):Hid (OI (w.alloc (.cells arr 3)) w.heap.size (Ω (ω ⟨w.heap.size,0,Ψ⟩) n n) l)/\Hid (υ w.heap.size w (w.alloc (.cells arr 3)))/\(w.alloc (.cells arr 3)).heap.size=w.heap.size+1:=⟨JV w l arr n hn ha hl,af _ _,by simp⟩
theorem WX(l:List (Int×ξ))(arr:Array ξ)(n:Nat)(hn:l.length=n)(ha:arr.toList=l.flatMap dW)(hl:n<=1000):Hid (OC (w.alloc (.cells arr 76)) w.heap.size (Ω (ω ⟨w.heap.size,0,Ψ⟩) n n) l)/\Hid (υ w.heap.size w (w.alloc (.cells arr 76)))/\(w.alloc (.cells arr 76)).heap.size=w.heap.size+1:=⟨WV w l arr n hn ha hl,af _ _,by simp⟩
theorem bx{a b l:ο}(h:Hid (υ a.heap.size a b))(c:υ b.heap.size b l):υ a.heap.size a l:=h.out.trans (c.mono h.out.size)
end
def wU(w:ο)(e:Ending)(w':ο):Prop:=∃bn bo br bm ln wa,e=.returned (.agg #[Ω (ω ⟨bn,0,Ψ⟩) 4 4,Ω (ω ⟨bo,0,Ψ⟩) 3 3,Ω (ω ⟨br,0,Ψ⟩) 4 4,Ω Ψ 0 0,Ω Ψ 0 0,Ω (ω ⟨bm,0,Ψ⟩) 2 2])/\
 OC wa w.heap.size (Ω (ω ⟨bn,0,Ψ⟩) 4 4) ln/\aY wa ln ee.new/\sa wa (Ω (ω ⟨bo,0,Ψ⟩) 3 3) ee.old/\OV w' wa.heap.size (Ω (ω ⟨br,0,Ψ⟩) 4 4) ee.roots/\OI w' wa.heap.size (Ω (ω ⟨bm,0,Ψ⟩) 2 2) [0,2]/\υ w.heap.size w wa/\υ wa.heap.size wa w'
theorem JW(w:ο):μ aD.prog 52 #[] w fun e w'=>wU w e w':=by
 go_enter aD.func52,Tryz.ntmps52
 go_wp2_with fail
 have L:=af w (ψ #[Ω Ψ 0 0,Ω Ψ 0 0,Ω Ψ 0 0,Ω Ψ 0 0,Ω Ψ 0 0,Ω Ψ 0 0] 26);have y0:=κ w (ψ #[Ω Ψ 0 0,Ω Ψ 0 0,Ω Ψ 0 0,Ω Ψ 0 0,Ω Ψ 0 0,Ω Ψ 0 0] 26);have hz0:(w.alloc (ψ #[Ω Ψ 0 0,Ω Ψ 0 0,Ω Ψ 0 0,Ω Ψ 0 0,Ω Ψ 0 0,Ω Ψ 0 0] 26)).heap.size=w.heap.size+1:=by simp
 generalize w.alloc (ψ #[Ω Ψ 0 0,Ω Ψ 0 0,Ω Ψ 0 0,Ω Ψ 0 0,Ω Ψ 0 0,Ω Ψ 0 0] 26)=p0 at L y0 hz0⊢;have HY:=Γ (φ L y0);clear L y0;refine m1 (i4 _ 2) fun p1 hp1=>?_
 go_wp2_with fail
 have⟨fp2,H,zp2⟩:=nt p1 [(3,2)] #[Ξ Θ 3,Ξ Θ 2] 1 rfl rfl (by omega);generalize p1.alloc _=p2 at fp2 H zp2⊢;refine m1 (dd _ (ω ⟨p1.heap.size,0,Ψ⟩) 1 1) fun p3 S=>?_
 go_wp2_with fail
 refine m1 (mK _ 5) fun Z W=>?_
 go_wp2_with fail
 have⟨fp5,K,zp5⟩:=nt Z [(0,5)] #[Ξ Θ 0,Ξ Θ 5] 1 rfl rfl (by omega);generalize Z.alloc _=p5 at fp5 K zp5⊢;refine m1 (dd _ (ω ⟨Z.heap.size,0,Ψ⟩) 1 1) fun p6 KY=>?_
 go_wp2_with fail
 refine m1 (eF _ 1) fun p7 Rb=>?_
 go_wp2_with fail
 have⟨U,J,zp8⟩:=nt p7 [(4,1)] #[Ξ Θ 4,Ξ Θ 1] 1 rfl rfl (by omega);generalize p7.alloc _=p8 at U J zp8⊢;refine m1 (dd _ (ω ⟨p7.heap.size,0,Ψ⟩) 1 1) fun p9 KZ=>?_
 go_wp2_with fail
 refine m1 (i4 _ 1) fun p10 z=>?_
 go_wp2_with fail
 refine m2 (DH _ 3 1) fun bb b R B=>?_
 go_wp2_with fail
 have⟨h,A,anX⟩:=WX b [(0,Ω (ω ⟨p1.heap.size,0,Ψ⟩) 1 1),(0,Ω (ω ⟨Z.heap.size,0,Ψ⟩) 1 1),(0,Ω (ω ⟨p7.heap.size,0,Ψ⟩) 1 1),(1,Ω (ω ⟨bb,0,Ψ⟩) 1 1)] #[Ξ Θ 0,Ω (ω ⟨p1.heap.size,0,Ψ⟩) 1 1,Ξ Θ 0,Ω (ω ⟨Z.heap.size,0,Ψ⟩) 1 1,Ξ Θ 0,Ω (ω ⟨p7.heap.size,0,Ψ⟩) 1 1,Ξ Θ 1,Ω (ω ⟨bb,0,Ψ⟩) 1 1] 4 rfl rfl (by omega);generalize b.alloc _=p12 at h A anX⊢;refine m1 (i4 _ 3) fun j V=>?_
 go_wp2_with fail
 have⟨y,q,O6⟩:=nt j [(3,3)] #[Ξ Θ 3,Ξ Θ 3] 1 rfl rfl (by omega);generalize j.alloc _=p14 at y q O6⊢;refine m1 (dd _ (ω ⟨j.heap.size,0,Ψ⟩) 1 1) fun p15 Q=>?_
 go_wp2_with fail
 refine m1 (dd _ Ψ 0 0) fun p16 Fj=>?_
 go_wp2_with fail
 refine m1 (i4 _ 1) fun m Y=>?_
 go_wp2_with fail
 have⟨p,x,anY⟩:=nt m [(3,1)] #[Ξ Θ 3,Ξ Θ 1] 1 rfl rfl (by omega);generalize m.alloc _=p18 at p x anY⊢;refine m1 (dd _ (ω ⟨m.heap.size,0,Ψ⟩) 1 1) fun c Fk=>?_
 go_wp2_with fail
 have⟨D,E,O7⟩:=WX c [(0,Ω (ω ⟨j.heap.size,0,Ψ⟩) 1 1),(0,Ω Ψ 0 0),(0,Ω (ω ⟨m.heap.size,0,Ψ⟩) 1 1)] #[Ξ Θ 0,Ω (ω ⟨j.heap.size,0,Ψ⟩) 1 1,Ξ Θ 0,Ω Ψ 0 0,Ξ Θ 0,Ω (ω ⟨m.heap.size,0,Ψ⟩) 1 1] 3 rfl rfl (by omega);generalize c.alloc _=p20 at D E O7⊢;refine m1 (i4 _ 0) fun p21 Fl=>?_
 go_wp2_with fail
 refine m1 (eF _ 1) fun p22 Fm=>?_
 go_wp2_with fail
 refine m1 (mK _ 7) fun p23 Fo=>?_
 go_wp2_with fail
 refine m1 (sY _) fun a N=>?_
 have Ce:=ι a.heap.size a;have Ch:=bx N Ce;have Fp:=bx Fo Ch;have O:=bx Fm Fp;have F:=bx Fl O;have O8:=bx E F;have s:=bx Fk O8;have Ci:=bx x s;have X:=bx Y Ci;have Fq:=bx Fj X;have u:=bx Q Fq;have O9:=bx q u;have o:=bx V O9;have t:=bx A o;have cp10:=bx B t;have cp9:=bx z cp10;have cp8:=bx KZ cp9;have Rc:=bx J cp8;have cp6:=bx Rb Rc;have cp5:=bx KY cp6;have cp4:=bx K cp5;have cp3:=bx W cp4;have T:=bx S cp3;have cp1:=bx H T;have G:=bx hp1 cp1;have hlt:=(χ.1 HY.out.2).1;have M:a.heap[w.heap.size]?=ω (ψ #[Ω Ψ 0 0,Ω Ψ 0 0,Ω Ψ 0 0,Ω Ψ 0 0,Ω Ψ 0 0,Ω Ψ 0 0] 26 (0,0)):=(G.block w.heap.size hlt).trans HY.out.2;have hlt2:w.heap.size<a.heap.size:=Z9 hlt G.size;obtain⟨d,f⟩:=JJ M;have d0:=d 0 (by omega);have t0:=f 0;have d1:=d 1 (by omega);have t1:=f 1;have d2:=d 2 (by omega);have t2:=f 2;have d3:=d 3 (by omega);have t3:=f 3;have d4:=d 4 (by omega);have t4:=f 4;have d5:=d 5 (by omega);have t5:=f 5;have HH:=Γ M;clear d f M
 go_wp2_with fail
 clear d0 d1 d2 d3 d4 d5 t0 t1 t2 t3 t4 t5;rw[show((((((a.setCell ⟨w.heap.size,0,Ψ⟩ (Ω (ω ⟨b.heap.size,0,Ψ⟩) 4 4)).setCell ⟨w.heap.size,1,Ψ⟩ (Ω (ω ⟨c.heap.size,0,Ψ⟩) 3 3)).setCell ⟨w.heap.size,2,Ψ⟩ (Ω (ω ⟨a.heap.size,0,Ψ⟩) 4 4)).setCell ⟨w.heap.size,3,Ψ⟩ (Ω Ψ 0 0)).setCell ⟨w.heap.size,4,Ψ⟩ (Ω Ψ 0 0)).setCell ⟨w.heap.size,5,Ψ⟩ (Ω (ω ⟨a.heap.size+1,0,Ψ⟩) 2 2))=io a w.heap.size (Ω (ω ⟨b.heap.size,0,Ψ⟩) 4 4) (Ω (ω ⟨c.heap.size,0,Ψ⟩) 3 3) (Ω (ω ⟨a.heap.size,0,Ψ⟩) 4 4) (Ω Ψ 0 0) (Ω Ψ 0 0) (Ω (ω ⟨a.heap.size+1,0,Ψ⟩) 2 2)from rfl];have M:=HH.out;obtain⟨a1,a2,a3,a4⟩:=kn (v0:=Ω (ω ⟨b.heap.size,0,Ψ⟩) 4 4) (v1:=Ω (ω ⟨c.heap.size,0,Ψ⟩) 3 3) (v2:=Ω (ω ⟨a.heap.size,0,Ψ⟩) 4 4) (v3:=Ω Ψ 0 0) (v4:=Ω Ψ 0 0) (v5:=Ω (ω ⟨a.heap.size+1,0,Ψ⟩) 2 2) M;have r:=OX (v0:=Ω (ω ⟨b.heap.size,0,Ψ⟩) 4 4) (v1:=Ω (ω ⟨c.heap.size,0,Ψ⟩) 3 3) (v2:=Ω (ω ⟨a.heap.size,0,Ψ⟩) 4 4) (v3:=Ω Ψ 0 0) (v4:=Ω Ψ 0 0) (v5:=Ω (ω ⟨a.heap.size+1,0,Ψ⟩) 2 2) M;have n:aY a _ _:=(aY.cons (k:=0) (OV.reads (OV.below fp2.out T)) (aY.cons (k:=0) (OV.reads (OV.below fp5.out cp5)) (aY.cons (k:=0) (OV.reads (OV.below U.out cp8)) (aY.cons (k:=1) (R.out.below t) (aY.nil _)))));have I:aY a _ _:=(aY.cons (k:=0) (OV.reads (OV.below y.out u)) (aY.cons (k:=0) dv (aY.cons (k:=0) (OV.reads (OV.below p.out s)) (aY.nil _))));have hcs:=(OC.reads (OC.below D.out F) I).off r;have l:aY (io a w.heap.size (Ω (ω ⟨b.heap.size,0,Ψ⟩) 4 4) (Ω (ω ⟨c.heap.size,0,Ψ⟩) 3 3) (Ω (ω ⟨a.heap.size,0,Ψ⟩) 4 4) (Ω Ψ 0 0) (Ω Ψ 0 0) (Ω (ω ⟨a.heap.size+1,0,Ψ⟩) 2 2)) _ _:=⟨n.1,fun i k v k' vs e1 e2=>⟨(n.2 i k v k' vs e1 e2).1,(n.2 i k v k' vs e1 e2).2.off r⟩⟩;have hoc:=OC.below h.out o;have P:=ι b.heap.size b;have anZ:=bx B P;have kp9:=bx z anZ;have kp8:=bx KZ kp9;have kp7:=bx J kp8;have kp6:=bx Rb kp7;have kp5:=bx KY kp6;have kp4:=bx K kp5;have kp3:=bx W kp4;have kp2:=bx S kp3;have kp1:=bx H kp2;have kp0:=bx hp1 kp1;have C:OC (io a w.heap.size (Ω (ω ⟨b.heap.size,0,Ψ⟩) 4 4) (Ω (ω ⟨c.heap.size,0,Ψ⟩) 3 3) (Ω (ω ⟨a.heap.size,0,Ψ⟩) 4 4) (Ω Ψ 0 0) (Ω Ψ 0 0) (Ω (ω ⟨a.heap.size+1,0,Ψ⟩) 2 2)) w.heap.size _ _:=eV (aS hoc fun g hg=>a2 g fun e=>by have:=(h.out.lt g hg).1;have h0:=kp0.size;omega) (by have:=kp0.size;omega)
 have hbw:=(HY.out.1.trans (G.mono HY.out.1.size)).trans (a4 _ (Z3 _));generalize io a w.heap.size (Ω (ω ⟨b.heap.size,0,Ψ⟩) 4 4) (Ω (ω ⟨c.heap.size,0,Ψ⟩) 3 3) (Ω (ω ⟨a.heap.size,0,Ψ⟩) 4 4) (Ω Ψ 0 0) (Ω Ψ 0 0) (Ω (ω ⟨a.heap.size+1,0,Ψ⟩) 2 2)=wa at a1 a3 hcs l C hbw⊢;rw[<-a3];have g1:=Cd wa [(3,0),(4,1),(0,7),(2,0)] #[Ξ Θ 3,Ξ Θ 0,Ξ Θ 4,Ξ Θ 1,Ξ Θ 0,Ξ Θ 7,Ξ Θ 2,Ξ Θ 0] 4 rfl rfl (by omega);have g2:=JV (wa.alloc (ψ #[Ξ Θ 3,Ξ Θ 0,Ξ Θ 4,Ξ Θ 1,Ξ Θ 0,Ξ Θ 7,Ξ Θ 2,Ξ Θ 0] 50)) [0,2] #[Ξ Θ 0,Ξ Θ 2] 2 rfl rfl (by omega);have hz1:(wa.alloc (ψ #[Ξ Θ 3,Ξ Θ 0,Ξ Θ 4,Ξ Θ 1,Ξ Θ 0,Ξ Θ 7,Ξ Θ 2,Ξ Θ 0] 50)).heap.size=wa.heap.size+1:=by simp
 rw[hz1]at g2;obtain⟨_,hb2,_⟩:=Ju wa (ψ #[Ξ Θ 3,Ξ Θ 0,Ξ Θ 4,Ξ Θ 1,Ξ Θ 0,Ξ Θ 7,Ξ Θ 2,Ξ Θ 0] 50) (ψ #[Ξ Θ 0,Ξ Θ 2] 3);have y1:=(hb2.block w.heap.size (by omega)).trans a1;have g1':=OV.below g1 (af (wa.alloc (ψ #[Ξ Θ 3,Ξ Θ 0,Ξ Θ 4,Ξ Θ 1,Ξ Θ 0,Ξ Θ 7,Ξ Θ 2,Ξ Θ 0] 50)) (ψ #[Ξ Θ 0,Ξ Θ 2] 3));rw[<-a3]at y1;obtain⟨z0,z1,z2,z3,z4,z5⟩:=sS y1;refine Z2 (v:=.agg #[Ω (ω ⟨b.heap.size,0,Ψ⟩) 4 4,Ω (ω ⟨c.heap.size,0,Ψ⟩) 3 3,Ω (ω ⟨wa.heap.size,0,Ψ⟩) 4 4,Ω Ψ 0 0,Ω Ψ 0 0,Ω (ω ⟨wa.heap.size+1,0,Ψ⟩) 2 2]) (by simp[Z8,Tryz.results52,go_sem,z0,z1,z2,z3,z4,z5]) rfl ?_;exact⟨_,_,_,_,_,wa,rfl,C,l,hcs,g1',g2.less (by omega),hbw,hb2⟩
theorem wU.gv{w w':ο}{e:Ending}(h:wU w e w'):∃v,e=.returned v/\GV w' v ee/\υ w.heap.size w w':=by obtain⟨m,n,k,j,l,wa,rfl,f,c,i,d,g,b,a⟩:=h;exact⟨_,rfl,⟨_,_,_,_,_,_,rfl,(OC.reads f c).below a,i.below a,d.reads,dv,dv,g.reads⟩,b.trans (a.mono b.size)⟩
section
variable(w:ο)(v:ξ)
theorem oB:μ aD.prog 52 #[] w fun e w'=>(∃v,e=.returned v/\GV w' v ee)/\υ w.heap.size w w':=(JW w).mono fun e w' h=>by obtain⟨v,a,b,c⟩:=h.gv;exact⟨⟨v,a,b⟩,c⟩
theorem GV.six{w:ο}{v:ξ}{g:GH}(h:GV w v g):∃a0 n0 m0 a1 n1 m1 a2 n2 m2 a3 n3 m3 a4 n4 m4 a5 n5 m5,v=.agg #[.slice a0 n0 m0,.slice a1 n1 m1,.slice a2 n2 m2,.slice a3 n3 m3,.slice a4 n4 m4,.slice a5 n5 m5]:=by obtain⟨_,_,_,_,_,_,rfl,⟨d,l0,rfl,_⟩,⟨b,e,rfl,_⟩,⟨i,f,rfl,_⟩,⟨k,m,rfl,_⟩,⟨j,a,rfl,_⟩,⟨c,l,rfl,_⟩⟩:=h;exact⟨_,_,_,_,_,_,_,_,_,_,_,_,_,_,_,_,_,_,rfl⟩
theorem Pa(hv:GV w v ee):μ aD.prog 24 #[v] w fun e w'=>(∃r,e=.returned (.tuple #[r,Ξ Θ 0])/\eI w' r [(4,3),(4,5),(4,6),(4,4)])/\υ w.heap.size w w':=by have h:=O0 w v ee B9 hv cB (by decide) di.1 sW Fg (by decide);rw[JO]at h;exact h
theorem WY(hv:GV w v ee):μ aD.prog 28 #[v] w fun e w'=>(∃r,e=.returned (.tuple #[r,Ξ Θ 0])/\GV w' r Al)/\υ w.heap.size w w':=WO w v ee Al 3 hv cB (by decide) di.1 sW JN
theorem WZ(lv:ξ)(hv:GV w v ee)(hl:JD w (fun j=>j<w.heap.size) lv (WU++[(10,0,0,0)])):μ aD.prog 45 #[v,lv] w fun e w'=>e=.returned (.tuple #[Ξ Θ 1,Ξ Θ 0,Ξ Θ 1,Ξ Θ 9,Ξ Θ 0])/\υ w.heap.size w w':=WR w v lv ee _ (fun i=>if i<6 then rsM i else r6) Fi hv cB (by decide) di.1 hl (by decide) rfl rfl (Ap (fun B a b=>Cc))
theorem Aq(va vb:ξ)(l:List HV)(hva:eI w va l)(hvb:eI w vb l):μ aD.prog 27 #[va,vb] w fun e w'=>e=.returned (.bool true)/\υ w.heap.size w w':=(nd w va vb l hva hvb).mono fun e w' h=>by obtain⟨rfl,n,rfl⟩:=h;exact⟨rfl,hU _ _ _⟩
theorem JX(va vb:ξ)(l:List Int)(hva:n9 w va l)(hvb:n9 w vb l):μ aD.prog 51 #[va,vb] w fun e w'=>e=.returned (.bool true)/\υ w.heap.size w w':=(v8 w va vb l hva hvb).mono fun e w' h=>by obtain⟨rfl,n,rfl⟩:=h;exact⟨rfl,hU _ _ _⟩
theorem DJ(bx:Nat)(c0:Int)(c1:Nat)(c2 c3:Int)(hx:w.heap[bx]?=ω (ψ #[Ξ Θ c0,Ξ Θ (c1:Int),Ξ Θ c2,Ξ Θ c3] 44 (0,0))):μ aD.prog 62 #[Ξ Θ 5,Ω (ω ⟨bx,0,Ψ⟩) 1 1] w fun e w'=>(∃r,e=.returned r/\JD w' (fun j=>j<w'.heap.size) r (WU++[(c0,c1,c2,c3)]))/\υ w.heap.size w w':=(O5 w bx (c0,c1,c2,c3) hx).mono fun e w' h=>by obtain⟨⟨r,rfl,a⟩,b⟩:=h;exact⟨⟨r,rfl,OM.reads a⟩,b⟩
theorem lG{w:ο}{b:Nat}{t:Z4}{v0 v1 v2 v3 v4 v5:ξ}(h:w.heap[b]?=ω (ψ #[v0,v1,v2,v3,v4,v5] t (0,0))):w.cell? ⟨b,0,Ψ⟩=ω v0/\w.cell? ⟨b,1,Ψ⟩=ω v1/\w.cell? ⟨b,2,Ψ⟩=ω v2/\w.cell? ⟨b,3,Ψ⟩=ω v3/\w.cell? ⟨b,4,Ψ⟩=ω v4/\w.cell? ⟨b,5,Ψ⟩=ω v5:=sS h
theorem Fr:μ aD.prog 18 #[] w fun e w'=>e=.returned (.bool true)/\υ w.heap.size w w':=by
 go_enter aD.func18,Tryz.ntmps18
 go_wp2_with fail
 refine m2 (oB _) fun v1 p1 qp1 hp1=>?_
 go_wp2_with fail
 refine m2 (Pa _ v1 qp1.out) fun r1 p2 qp2 hp2=>?_
 go_wp2_with fail
 refine m2 (oB _) fun v2 p3 qp3 U=>?_
 go_wp2_with fail
 refine m2 (WY _ v2 qp3.out) fun r2 p4 qp4 Y=>?_
 obtain⟨xa0,xn0,xm0,xa1,xn1,xm1,xa2,xn2,xm2,xa3,xn3,xm3,xa4,xn4,xm4,xa5,xn5,xm5,rfl⟩:=qp4.out.six
 go_wp2_with fail
 have⟨y3,M,zp5⟩:=DI p4 (ψ #[.slice xa0 xn0 xm0,.slice xa1 xn1 xm1,.slice xa2 xn2 xm2,.slice xa3 xn3 xm3,.slice xa4 xn4 xm4,.slice xa5 xn5 xm5] 26);generalize p4.alloc _=p5 at y3 M zp5⊢;refine m1 (eF _ 2) fun p6 KY=>?_
 go_wp2_with fail
 have⟨fp7,K,zp7⟩:=nt p6 [(4,2)] #[Ξ Θ 4,Ξ Θ 2] 1 rfl rfl (by omega);generalize p6.alloc _=p7 at fp7 K zp7⊢;refine m1 (dd _ (ω ⟨p6.heap.size,0,Ψ⟩) 1 1) fun p8 Xa=>?_
 go_wp2_with fail
 refine m1 (dd _ Ψ 0 0) fun p9 KZ=>?_
 go_wp2_with fail
 refine m1 (eF _ 1) fun c A=>?_
 go_wp2_with fail
 have⟨H,f,Pb⟩:=nt c [(4,1)] #[Ξ Θ 4,Ξ Θ 1] 1 rfl rfl (by omega);generalize c.alloc _=p11 at H f Pb⊢;refine m1 (dd _ (ω ⟨c.heap.size,0,Ψ⟩) 1 1) fun l B=>?_
 go_wp2_with fail
 have⟨z,b,aoi⟩:=WX l [(0,Ω (ω ⟨p6.heap.size,0,Ψ⟩) 1 1),(0,Ω Ψ 0 0),(0,Ω (ω ⟨c.heap.size,0,Ψ⟩) 1 1)] #[Ξ Θ 0,Ω (ω ⟨p6.heap.size,0,Ψ⟩) 1 1,Ξ Θ 0,Ω Ψ 0 0,Ξ Θ 0,Ω (ω ⟨c.heap.size,0,Ψ⟩) 1 1] 3 rfl rfl (by omega);generalize l.alloc _=p13 at z b aoi⊢;refine m1 (eF _ 0) fun p14 q=>?_
 go_wp2_with fail
 refine m1 (eF _ 1) fun p15 n=>?_
 go_wp2_with fail
 refine m1 (mK _ 7) fun p16 s=>?_
 go_wp2_with fail
 refine m1 (sY _) fun j r=>?_
 go_wp2_with fail
 have⟨p,d,G⟩:=nt j [(4,0),(4,1),(0,7),(2,0)] #[Ξ Θ 4,Ξ Θ 0,Ξ Θ 4,Ξ Θ 1,Ξ Θ 0,Ξ Θ 7,Ξ Θ 2,Ξ Θ 0] 4 rfl rfl (by omega);generalize j.alloc _=p18 at p d G⊢;have⟨y5,g,P⟩:=DI p18 (ψ #[Ω Ψ 0 0,Ω (ω ⟨l.heap.size,0,Ψ⟩) 3 3,Ω (ω ⟨j.heap.size,0,Ψ⟩) 4 4,Ω Ψ 0 0,Ω Ψ 0 0,Ω Ψ 0 0] 26);generalize p18.alloc _=p19 at y5 g P⊢;refine m2 (oB _) fun v3 L aoj D=>?_
 go_wp2_with fail
 have⟨C,a,W⟩:=DI L (ψ #[Ξ Θ 10,Ξ Θ 0,Ξ Θ 0,Ξ Θ 0] 44);generalize L.alloc _=p21 at C a W⊢;refine m2 (DJ _ L.heap.size 10 0 0 0 C.out) fun r3 p22 aok h=>?_
 go_wp2_with fail
 refine m1 (WZ _ v3 r3 (GV.below h.out (GV.below a.out aoj.out)) aok.out) fun p23 F=>?_
 go_wp2_with fail
 refine m1 (eF _ 3) fun p24 m=>?_
 go_wp2_with fail
 refine m1 (eF _ 5) fun p25 E=>?_
 go_wp2_with fail
 refine m1 (eF _ 6) fun p26 v=>?_
 go_wp2_with fail
 refine m1 (eF _ 4) fun p27 o=>?_
 go_wp2_with fail
 have⟨y,i,aol⟩:=nt p27 [(4,3),(4,5),(4,6),(4,4)] #[Ξ Θ 4,Ξ Θ 3,Ξ Θ 4,Ξ Θ 5,Ξ Θ 4,Ξ Θ 6,Ξ Θ 4,Ξ Θ 4] 4 rfl rfl (by omega);generalize p27.alloc _=X at y i aol⊢;have S:=ι X.heap.size X;have Pc:=bx i S;have O:=bx o Pc;have T:=bx v O;have Pd:=bx E T;have Pe:=bx m Pd;have Pf:=bx F Pe;have Pg:=bx h Pf;have Pi:=bx a Pg;have Pj:=bx D Pi;have Pk:=bx g Pj;have Pl:=bx d Pk;have Pm:=bx r Pl;have Pn:=bx s Pm;have Po:=bx n Pn;have R:=bx q Po;have Pp:=bx b R;have Pq:=bx B Pp;have Pr:=bx f Pq;have dp9:=bx A Pr;have dp8:=bx KZ dp9;have dp7:=bx Xa dp8;have dp6:=bx K dp7;have dp5:=bx KY dp6;have dp4:=bx M dp5;have dp3:=bx Y dp4;have V:=bx U dp3;have dp1:=bx hp2 V;have dw:=bx hp1 dp1;refine m1 (Aq _ _ _ [(4,3),(4,5),(4,6),(4,4)] (eI.below V qp2.out) (OV.reads y.out)) fun J Cj=>?_
 have JY:=ι J.heap.size J;have Ps:=bx Cj JY;have Pt:=bx i Ps;have Pu:=bx o Pt;have Pv:=bx v Pu;have Ce:=bx E Pv;have Ch:=bx m Ce;have Fp:=bx F Ch;have N:=bx h Fp;have JZ:=bx a N;have x:=bx D JZ;have u:=bx g x;have Ci:=bx d u;have Z:=bx r Ci;have Fq:=bx s Z;have J0:=bx n Fq;have I:=bx q J0;have Q:=bx b I;have t:=bx B Q;have cp10:=bx f t;have cp9:=bx A cp10;have cp8:=bx KZ cp9;have Rc:=bx Xa cp8;have cp6:=bx K Rc;have cp5:=bx KY cp6;have cp4:=bx M cp5;have cp3:=bx Y cp4;have cp2:=bx U cp3;have cp1:=bx hp2 cp2;have cw:=bx hp1 cp1;obtain⟨k0,k1,k2,k3,k4,k5⟩:=lG ((cp5.block _ (χ.1 y3.out).1).trans y3.out);obtain⟨j0,j1,j2,j3,j4,j5⟩:=lG ((x.block _ (χ.1 y5.out).1).trans y5.out);rw[G]at j0 j1 j2 j3 j4 j5
 go_wp2_with fail
 have hg1:=GV.below cp4 qp4.out;have hg2:GV J (.agg #[Ω Ψ 0 0,Ω (ω ⟨l.heap.size,0,Ψ⟩) 3 3,Ω (ω ⟨j.heap.size,0,Ψ⟩) 4 4,Ω Ψ 0 0,Ω Ψ 0 0,Ω Ψ 0 0]) Al:=⟨_,_,_,_,_,_,rfl,csn _,OC.reads (OC.below z.out I) (aY.cons (k:=0) (OV.reads (OV.below fp7.out Rc)) (aY.cons (k:=0) dv (aY.cons (k:=0) (OV.reads (OV.below H.out t)) (aY.nil _)))),OV.reads (OV.below p.out u),dv,dv,isn _⟩;refine(NU _ _ _ Al hg1 hg2).mono ?_;rintro e wz ⟨rfl,hz⟩;replace hz:=Γ hz
 go_wp2_with fail
 go_ret;exact⟨rfl,cw.trans (hz.out.mono cw.size)⟩
end
theorem Xb(w:ο)(va vb:ξ)(g:PH)(hva:tH w va g)(hvb:tH w vb g):
 μ aD.prog 60 #[va,vb] w fun e w'=>e=.returned (.bool true)/\υ w.heap.size w w':=by
 obtain⟨c,r,s,d,rfl,l,j,K,G⟩:=hva;obtain⟨c',u,h,A,rfl,P,L,F,H⟩:=hvb;obtain⟨a,m,rfl,hm,X,o⟩:=l;obtain⟨U,B,rfl,Q,E,f⟩:=P;have N:∀y x:Obj,υ w.heap.size w ((w.alloc y).alloc x):=fun y x=>(af w y).alloc (by simp) x
 have b:=Γ N;clear N;have C:=Γ j;have S:=Γ K;have T:=Γ G;have R:=Γ L;have V:=Γ F;have W:=Γ H;clear j K G L F H
 go_enter aD.func60,Tryz.ntmps60
 go_wp2_with fail
 refine(nd _ _ _ g.roots (C.out.below (b.out _ _)) (R.out.below (b.out _ _))).mono ?_;rintro e w' ⟨rfl,n1,rfl⟩
 go_wp2_with fail
 refine(v8 _ _ _ g.aA (S.out.below (bl (b.out _ _) _)) (V.out.below (bl (b.out _ _) _))).mono ?_;rintro e w' ⟨rfl,n2,rfl⟩
 go_wp2_with fail
 refine(v8 _ _ _ g.done (T.out.below (bl (b.out _ _) _)) (W.out.below (bl (b.out _ _) _))).mono ?_;rintro e w' ⟨rfl,n3,rfl⟩
 go_wp2_with fail
 go_loopw [5] (fun i wr=>∃k:Nat,k<=g.cells.length/\i=Ξ Θ k/\∃n,wr=((w.alloc (ψ #[.slice a g.cells.length m,r,s,d] 56)).alloc (ψ #[.slice U g.cells.length B,u,h,A] 56)).drewN n) (fun i _=>g.cells.length-(intOf i).toNat)
 case atStart=>exact⟨0,Nat.zero_le _,rfl,_,rfl⟩
 case round=>
  obtain⟨k,hk,rfl,n,rfl⟩:=hrel
  go_wp2
  ·have t:k<g.cells.length:=by assumption
   obtain⟨J,M,rfl,v,o⟩:=o (by omega);obtain⟨D,I,rfl,z,f⟩:=f (by omega);obtain⟨p,q,e1⟩:=cQ t;obtain⟨c1,v1,c2,l⟩:=(o.below (b.out (ψ #[Ω (ω ⟨J,M,Ψ⟩) g.cells.length m,r,s,d] 56) (ψ #[Ω (ω ⟨D,I,Ψ⟩) g.cells.length B,u,h,A] 56)) v) k p q e1;obtain⟨c3,v2,Y,j⟩:=(f.below (b.out (ψ #[Ω (ω ⟨J,M,Ψ⟩) g.cells.length m,r,s,d] 56) (ψ #[Ω (ω ⟨D,I,Ψ⟩) g.cells.length B,u,h,A] 56)) z) k p q e1;have hp:(p !=p)=false:=by simp
   have Z:=Γ l;have C:=Γ j;clear o f l j
   go_quiet ((go_at_call 27;exact uK (nd _ _ _ q (Z.out.drewN _) (C.out.drewN _))))
   clear c1 c2 c3 Y
   go_wp2
   exact⟨⟨k+1,by omega,by go_num,_,rfl⟩,by simp[intOf];omega⟩
  ·have O:¬k<g.cells.length:=by assumption
   go_ret;exact⟨rfl,bl (b.out _ _) _⟩
section
variable(w:ο)(v:ξ)
theorem Px(hv:GV w v ee):μ aD.prog 47 #[v] w fun e w'=>(∃r,e=.returned (.tuple #[r,Ξ Θ 0])/\n9 w' r [0,2])/\υ w.heap.size w w':=by have h:=Jw w v ee hv cB (by decide) di.1;rw[Fd]at h;exact h
theorem Py(hv:GV w v ee):μ aD.prog 53 #[v] w fun e w'=>(∃r,e=.returned (.tuple #[r,Ξ Θ 0])/\tH w' r d9)/\υ w.heap.size w w':=by have h:=JK w v ee hv cB (by decide) di.1 Fe;rw[Fh]at h;exact h
theorem Pz(hv:GV w v ee):μ aD.prog 22 #[v] w fun e w'=>(∃r,e=.returned (.tuple #[r,Ξ Θ 0])/\GV w' r sX)/\υ w.heap.size w w':=OY w v ee sX 4 hv cB (by decide) di.1 sW Ff
def J1:GH:=⟨[(0,[(3,2)]),(0,[(0,5)]),(0,[(4,1)]),(1,[(3,1)]),(0,[])],ee.old,[(3,0),(4,1),(3,4),(2,0)],[],[],[0,2]⟩
theorem aom(hv:GV w v ee):μ aD.prog 36 #[v,.agg #[Ξ Θ 0,Ξ Θ 2,Ξ Θ 0,Ξ Θ 0]] w fun e w'=>(∃r,e=.returned (.tuple #[r,.agg #[Ξ Θ 1,Ξ Θ 0],Ξ Θ 0])/\GV w' r J1)/\υ w.heap.size w w':=afH w v ee 0 2 0 0 r1d 1 0 hv cB (by decide) di.1 (fun B a b=>WT)
theorem J2(hv:GV w v ee)(hg:np w):μ aD.prog 36 #[v,.agg #[Ξ Θ 4,Ξ Θ 1,Ξ Θ 0,Ξ Θ 0]] w fun e w'=>(∃x y,e=.returned (.tuple #[x,y,Ξ Θ 9]))/\υ w.heap.size w w':=OZ w v ee 4 1 0 0 9 hv cB (by decide) di.1 hg (fun W B a b J d c f=>Ao W B a b J d c f)
theorem afL(lv:ξ)(hv:GV w v ee)(hl:JD w (fun j=>j<w.heap.size) lv (WU++[(4,0,2,0)])):μ aD.prog 43 #[v,lv] w fun e w'=>(∃r rv,e=.returned (.tuple #[r,rv,Ξ Θ 0])/\GV w' r g6p/\eI w' rv Fi)/\υ w.heap.size w w':=WQ w v lv ee _ (fun i=>if i<6 then rsM i else r6p) Fi hv cB (by decide) di.1 hl (by decide) rfl rfl (Ap (fun B a b=>JU))
theorem PA(m:List Int)(c:Int)(hv:GV w v (sV m))(hm:m.length<=1000)(hz:cN (sV m)=c)(hc:c≠0)(hg:np w):μ aD.prog 49 #[v] w fun e w'=>e=.returned (Ξ Θ c)/\υ w.heap.size w w':=OT w v (sV m) c hv (JL m) (by have:(sV m).marked.length=m.length:=rfl;omega) hz hc hg
theorem J3(va vb:ξ)(g:PH)(hva:tH w va g)(hvb:tH w vb g):μ aD.prog 60 #[va,vb] w fun e w'=>e=.returned (.bool true)/\υ w.heap.size w w':=Xb w va vb g hva hvb
end
end Kn
