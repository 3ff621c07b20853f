/- A part of the proof of GcWhole; no conditions. -/
import Derived.Test.YtbnmpafbfoaggaaGreatDoorU0
import Derived.Test.YtbnmpafbfoaggaaGreatDoorU1
import Derived.Test.YtbnmpafbfoaggaaGreatDoorU5
import Derived.Test.YtbnmpafbfoaggaaGreatDoorU3
import Derived.Test.YtbnmpafbfoaggaaGreatDoorU4
import Derived.Deep.Cut
import Derived.Test.YtbnmpafbfoaggaaGreatDoorU2
import Derived.Deep.DeepCutAuto
import Derived.Deep.AppendLies
set_option linter.defProp false
set_option linter.unusedVariables false
set_option linter.unusedSimpArgs false
set_option maxRecDepth 100000
set_option maxHeartbeats 16000000
noncomputable section
open Go.Lib renaming hid->U
open Go.Value renaming int->Ω,slice->θ
open Go.IntKind renaming i64->Ψ
open Option renaming some->V,none->Z
open Go.Obj renaming cells->Ξ
open Array renaming getElem?_eq_some_iff->Θ
open Go.World renaming cell?->R,ownsRow_nil->ZH
open Go.RowKit renaming Below->I,Hid->ZN
open Go.RowKit.Below renaming refl->Δ
open And renaming intro->Γ
open Go renaming heap_alloc_new->ω,Calls->Y,World->ι,bodyPost_ret->ε,Value->Z8,results->ZX,wpList_step->ZP,info_parts->ZM,maxLen->ZL,Addr->ZA,leaves_cons->Zz
open List renaming countP_append->ψ,mem_of_getElem?->χ,take_of_length_le->φ,getElem?_eq_some_iff->ξ,replicate->μ,getElem?_append_left->κ,map_append->ζ,getElem?_eq_getElem->Z9,getD->Z7,mem_append->Z2,mem_append_right->Z1,mem_append_left->ZY,map_singleton->ZW,eq_nil_of_length_eq_zero->ZU,length_map->ZT,nodup_nil->ZS,range->ZR,pairwise_iff_getElem->ZQ,mem_map->ZO,countP_le_length->ZK,getElem?_eq_none->ZJ,mem_singleton->ZI,nodup_append->ZG,length_range->ZF,take_length->ZD,all_eq_true->ZB
open Go.Addr renaming add->υ
open Nat renaming lt_of_lt_of_le->ο,zero_le->η,lt_trichotomy->ZE
open Go.Builtin renaming append_->Z4
open Int renaming eq_ofNat_of_zero_le->Z3
open Bool renaming false->Z0,true->ZV,and_eq_true->ZC
open Go.Value.slice renaming injEq->ZZ
namespace Go.Proofs.YtbnmpafbfoaggaaGreatDoor
open Go.Proofs.Tryz hiding prog
open Go.Proofs.aD
namespace Kn
open Go Go.RowKit Md
def af2(w v g)(hv:GV w v g)(P:g.old.length<=1000000)(hn:g.new.length<=1000000)(hs:∀c∈g.new++g.old,c.2.length<=1000000/\∀x∈c.2,x.1=3->0<=x.2/\x.2<=1000000)(hr:∀x∈g.roots,x.1=3->0<=x.2/\x.2<=1000000)(hw:∀x∈g.aA,x.1=3->0<=x.2/\x.2<=1000000)(hd:∀x∈g.done,x.1=3->0<=x.2/\x.2<=1000000)(hrl:g.roots.length<=1000000)(hwl:g.aA.length<=1000000)(hdl:g.done.length<=1000000):
 Y prog 40 #[v] w λe w'=>(∃r,e=.returned r/\pS w' w r (plain g))/\I w w w':=by
 have HG:=U hv;obtain⟨a0,a1,A,C,z,K,rfl,h0,h1,h2,h3,h4,-⟩:=hv;obtain⟨z0,z1,k,hs0⟩:=KM w (Ξ #[a0,a1,A,C,z,K] 26)<|Ξ #[θ Z 0 0,θ Z 0 0,θ Z 0 0,θ Z 0 0] 56
 go_enter (fU func40 rfl),ntmps40
 go_wp2_with fail
 generalize (w.alloc _).alloc _=m at z0 z1 k hs0⊢;obtain⟨c0,c1,c2,c3,Q,S⟩:=sS z0;have a:w.heap.size<m:=by omega
 have o:=U<|HG.out.below k;have H0:=U<|h0.below k;have H1:=U<|h1.below k;have H2:=U<|h2.below k;have H3:=U<|h3.below k;have H4:=U<|h4.below k;clear h0 h1 h2 h3 h4 HG;have W:¬w.heap.size+1=w:=by omega
 have L:I m m m.drew:=(Δ _ _).drew
 go_region_held3 (λx=>x w.heap.size=V a0/\x (w.heap.size,1)=V a1/\x (w.heap.size,2)=V A/\x (w.heap.size,3)=V C/\x (w.heap.size,4)=V z/\x (w.heap.size,5)=V K)
  (refine⟨?_,?_,?_,?_,?_,?_⟩<;>(repeat (first|with_reducible assumption|with_reducible refine dB ?_|with_reducible refine dO ?_|with_reducible refine da W ?_)))
  (first
    |(go_at_call 100;(with_reducible refine(KD _ (.agg #[a0,a1,A,C,z,K]) a1 g g.old (o.out.below L) (H1.out.below L) P P λc hc=>hs c<|Z1 _ hc).mono ?_);rintro e w4 ⟨⟨r4,rfl,Ja⟩,hb4⟩;have b:I m m w4:=L.trans hb4;have k0:=cG b c0 a;have k1:=cG b c1 a;have k2:=cG b c2 a;have k3:=cG b c3 a;have k4:=cG b Q a;have k5:=cG b S a)
    |(go_at_call 100;(with_reducible refine(KD _ (.agg #[a0,a1,A,C,z,K]) a0 g g.new (o.out.below b) (H0.out.below b) P hn λc hc=>hs c<|ZY _ hc).mono ?_);rintro e w5 ⟨⟨r5,rfl,Pk⟩,hb5⟩;have l:I m m w5:=b.trans<|hb5.mono b.size;have l0:=cG l c0 a;have l1:=cG l c1 a;have l2:=cG l c2 a;have l3:=cG l c3 a;have l4:=cG l Q a;have l5:=cG l S a)
    |((refine afR rfl (.tmp 6) (.tmp 10) (by rfl) m r4 _ (by rfl) ((Ja.less<|by exact .refl).keep<|kE.below hb5) r5 _ (by rfl) (Pk.less b.size) (by simp;omega) (by simp;omega) l.size ?_;intro v6 w6 Jb hb6 Re;have d:I m m w6:=l.trans hb6;obtain⟨s,y,Rf⟩:=Jb;obtain⟨D,u,rfl,-⟩:=aF y;have m0:=cG d c0 a;have m1:=cG d c1 a;have m2:=cG d c2 a;have m3:=cG d c3 a;have m4:=cG d Q a;have m5:=cG d S a))
    |(go_at_call 101;(with_reducible refine(JY _ (.agg #[a0,a1,A,C,z,K]) A g g.roots (o.out.below d) (H2.out.below d) P hr hrl).mono ?_);rintro e w7 ⟨⟨r7,rfl,Jd⟩,hb7⟩;have h:I m m w7:=d.trans<|hb7.mono d.size;obtain⟨F,G,rfl,-⟩:=aF Jd;have n0:=cG h c0 a;have n1:=cG h c1 a;have n2:=cG h c2 a;have n3:=cG h c3 a;have n4:=cG h Q a;have n5:=cG h S a)
    |(go_at_call 102;(with_reducible refine(PJ _ (.agg #[a0,a1,A,C,z,K]) C g g.aA (o.out.below h) (H3.out.below h) P hw hwl).mono ?_);rintro e w8 ⟨⟨r8,rfl,T⟩,H⟩;have f:I m m w8:=h.trans<|H.mono h.size;obtain⟨E,O,rfl,-⟩:=aF T;have p0:=cG f c0 a;have p1:=cG f c1 a;have p2:=cG f c2 a;have p3:=cG f c3 a;have p4:=cG f Q a;have p5:=cG f S a)
    |(go_at_call 102;(with_reducible refine(PJ _ (.agg #[a0,a1,A,C,z,K]) z g g.done (o.out.below f) (H4.out.below f) P hd hdl).mono ?_);rintro e w9 ⟨⟨r9,rfl,ho9⟩,q⟩;have n:I m m w9:=f.trans (q.mono f.size);obtain⟨J,N,rfl,-⟩:=aF ho9;have y1:=(n.block (w.heap.size+1) (by omega)).trans z1;obtain⟨⟨s0,s1,s2,s3⟩,sf⟩:=dT y1;have f0:=sf 0;have f1:=sf 1;have f2:=sf 2;have f3:=sf 3;have q0:=cG n c0 a;have q1:=cG n c1 a;have q2:=cG n c2 a;have q3:=cG n c3 a;have q4:=cG n Q a;have q5:=cG n S a))
 have hf:=heap_setCell_same (i:=3) (v:=.slice J g.done.length N)<|heap_setCell_same (i:=2) (v:=.slice E g.aA.length O)<|heap_setCell_same (i:=1) (v:=.slice F g.roots.length G)<|heap_setCell_same (i:=0) (v:=.slice D s.length u) y1;have t:kE (w.heap.size+2) w9 ((((w9.setCell (w.heap.size+1:Nat)<|.slice D s.length u).setCell (w.heap.size+1,1)<|.slice F g.roots.length G).setCell (w.heap.size+1,2)<|.slice E g.aA.length O).setCell (w.heap.size+1,3)<|.slice J g.done.length N):=λj hb _=>(aa<|by omega).trans<|(aa<|by omega).trans<|(aa<|by omega).trans<|aa<|by omega
 have ajy:=k.trans<|n.mono<|by omega
 have X:I w w ((((w9.setCell (w.heap.size+1:Nat)<|.slice D s.length u).setCell (w.heap.size+1,1)<|.slice F g.roots.length G).setCell (w.heap.size+1,2)<|.slice E g.aA.length O).setCell (w.heap.size+1,3)<|.slice J g.done.length N):=(((ajy.setCell (p:=((w.heap.size+1:Nat):ZA)) (by show w.heap.size<=w.heap.size+1;omega) _).setCell (p:=((w.heap.size+1,1):ZA)) (by show w.heap.size<=w.heap.size+1;omega) _).setCell (p:=((w.heap.size+1,2):ZA)) (by show w.heap.size<=w.heap.size+1;omega) _).setCell (p:=((w.heap.size+1,3):ZA)) (by show w.heap.size<=w.heap.size+1;omega) _;have j6:=d.size;have j7:=h.size;have j8:=f.size;have Jt:OX w9 (w.heap.size+2) (.slice D s.length u) ((g.old++g.new).map<|Bz g.old.length):=by rw[ζ];exact(OX.keep (OX.keep (OX.keep ⟨s,y,Rf⟩<|kE.below hb7)<|kE.below H)<|kE.below q).less (by omega)
 have hv9:OV w9 (w.heap.size+2) _ _:=OV.less (OV.below (OV.below Jd H) q) (by omega);have hi9:OI w9 (w.heap.size+2) _ _:=OI.less (OI.below T q) (by omega);have hj9:OI w9 (w.heap.size+2) _ _:=OI.less ho9 (by omega);simp only[ZT]at hv9 hi9 hj9;have B:pS ((((w9.setCell (w.heap.size+1:Nat)<|.slice D s.length u).setCell (w.heap.size+1,1)<|.slice F g.roots.length G).setCell (w.heap.size+1,2)<|.slice E g.aA.length O).setCell (w.heap.size+1,3)<|.slice J g.done.length N) w (.agg #[.slice D s.length u,.slice F g.roots.length G,.slice E g.aA.length O,.slice J g.done.length N]) (plain g):=⟨_,_,_,_,rfl,(Jt.keep t).less<|by omega,eV (dI hv9 t)<|by omega,eV (dI hi9 t)<|by omega,eV (dI hj9 t)<|by omega⟩;generalize (((w9.setCell (w.heap.size+1:Nat)<|.slice D s.length u).setCell (w.heap.size+1,1)<|.slice F g.roots.length G).setCell (w.heap.size+1,2)<|.slice E g.aA.length O).setCell (w.heap.size+1,3) (.slice J g.done.length N)=wf at hf X B⊢;obtain⟨⟨e0,e1,e2,e3⟩,-⟩:=dT hf
 go_wp2_with fail
 exact ε (v:=.agg #[.slice D s.length u,.slice F g.roots.length G,.slice E g.aA.length O,.slice J g.done.length N]) (by simp[ZX,results40,go_sem,e0,e1,e2,e3]) rfl ⟨⟨_,rfl,B⟩,X⟩
def J0{g}(a:VG g){v}(h:ta g v)(h3:v.1=3):0<=v.2/\v.2<=1000000:=by have:=a.news;obtain(⟨h1,_⟩|⟨h1,_⟩)|(⟨_,h2,h4⟩|⟨h1,_⟩):=h<;>omega
def af3(w v g)(d:GV w v g)(a:VG g):
 Y prog 40 #[v] w λe w'=>(∃r,e=.returned r/\pS w' w.heap.size r (plain g))/\I w.heap.size w w':=
 af2 w v g d (by have:=a.bw;omega) (by have:=a.news;omega) (λc hc=>⟨by have:=(a.cells c hc).1;omega,λx b=>J0 a<|(a.cells c hc).2 x b⟩)
  (λx b=>J0 a<|a.roots x b) (λx b=>J0 a<|.inr<|a.aA.cells x b) (λx b=>J0 a<|.inr<|a.done.cells x b)
  (by have:=a.four;omega) (by have:=a.aA.wW;omega) (by have:=a.done.wW;omega)
def aaR(w v g)(b:GV w v g)(a:VG g):
 Y prog 21 #[v] w λe w'=>(∃r,e=.returned r/\Pd w' w.heap.size r g)/\I w.heap.size w w':=
 aaa w v g b (by have:=a.news;omega) (by have:=a.bw;omega) (λc hc=>by have:=(a.cells c hc).1;omega) (by have:=a.four;omega) (by have:=a.aA.wW;omega) (by have:=a.done.wW;omega) (by have:=a.By;omega)
def sv(tl:List HV)(v:HV):HV:=if v.1=1 then tl.getD v.2.toNat (0,0)else v
def KJ(w v u l f)(H:eI w v l)(G:eI w u f)(hx:∀x∈l,x.1=1->0<=x.2/\x.2<f.length)(hl:l.length<=1000000):
 Y prog 74 #[v,u] w λe w'=>(∃r,e=.returned r/\OV w' w r (l.map<|sv f))/\I w w w':=by
 have HV:=U H;have HU:=U G;obtain⟨a,m,rfl,hm,T,_⟩:=H;obtain⟨a',m',rfl,N,F,_⟩:=G
 go_enter (fU func74 rfl),ntmps74
 go_wp2_with fail
 go_loopw [5,6] (λx i wr=>∃k:Nat,k<=l.length/\i=Ω Ψ k/\OV wr w x ((l.take k).map<|sv f)/\I w w wr) (λ_ i _=>l.length-(intOf i).toNat)
 case atStart=>exact⟨0,η _,rfl,OV.nil _ _,.refl _ _⟩
 case round=>
  obtain⟨k,hk,rfl,d,hb⟩:=hrel;by_cases A:k<l.length
  ·obtain⟨a2,m2,E,_,_,b⟩:=HV.out.below hb;cases E
   obtain⟨bb,o,rfl,hbb,b⟩:=b (by omega);obtain⟨p,q,e1⟩:=ep A;obtain⟨d0,d1⟩:=b k p q e1;have t:=hx _<|χ e1;dsimp only at t;have g:((l.take k).map<|sv f).length<=1000000000:=by simp;omega
   have W:=hb.size;clear b;by_cases D:p=1
   ·subst D;obtain⟨B,O⟩:=t rfl;obtain⟨q,rfl⟩:=Z3 B;obtain⟨a3,m3,E,_,_,b⟩:=HU.out.below hb;cases E
    obtain⟨bt,ot,rfl,s,b⟩:=b (by omega);obtain⟨y,z,e2⟩:=ep (by omega:q<f.length);obtain⟨X,t1⟩:=b q y z e2;have h:sv f (1,(q:Int))=(y,z):=by simp[sv,Z7,e2]
    have J:q<f.length:=by omega
    clear b;have n:=af wr<|Ξ #[Ω Ψ 1,Ω Ψ q] 50;have Q:=cG n X s;have K:=cG n t1 s
    go_wp2_with (at_builtin;refine fO rfl _ _ rfl w _ _ rfl ((d.alloc<|Ξ #[Ω Ψ y,Ω Ψ z] 50).alloc _) (wr.heap.size+1:Nat) _ (y,z) rfl (by simp[go_sem,υ]) g (by simp;omega) ?_;intro P L c j C)
    exact⟨⟨k+1,by omega,by go_num,by rw[bW e1,ζ,ZW,h];exact c,hb.trans<|(((Δ _ _).alloc (by omega) _).alloc (by simp;omega) _).trans j⟩,by simp[intOf];omega⟩
   ·have h:sv f (p,q)=(p,q):=by simp[sv,D]
    have S:(p==1)=Z0:=by simp[D]
    go_wp2_with (at_builtin;refine fO rfl _ _ rfl w _ _ rfl ((d.alloc<|Ξ #[Ω Ψ p,Ω Ψ q] 50).alloc _) (wr.heap.size+1:Nat) _ (p,q) rfl (by simp[go_sem,υ]) g (by simp;omega) ?_;intro P L c j C)
    exact⟨⟨k+1,by omega,by go_num,by rw[bW e1,ζ,ZW,h];exact c,hb.trans<|(((Δ _ _).alloc (by omega) _).alloc (by simp;omega) _).trans j⟩,by simp[intOf];omega⟩
  ·go_wp2_with fail
   go_ret;rw[φ (by omega)]at d;exact⟨⟨_,rfl,d⟩,hb⟩
def KK(w v u l d)(B:n9 w v l)(A:eI w u d)(N:∀x∈l,0<=x/\x<d.length)(hl:l.length<=1000000):
 Y prog 75 #[v,u] w λe w'=>(∃r,e=.returned r/\OV w' w r (l.map λn=>d.getD n.toNat (0,0)))/\I w w w':=by
 have HV:=U B;have L:=U A;obtain⟨a,m,rfl,hm,G,_⟩:=B;obtain⟨W,m',rfl,E,z,_⟩:=A
 go_enter (fU func75 rfl),ntmps75
 go_wp2_with fail
 go_loopw [5,6] (λx i wr=>∃k:Nat,k<=l.length/\i=Ω Ψ k/\OV wr w x ((l.take k).map λn=>d.getD n.toNat (0,0))/\I w w wr) (λ_ i _=>l.length-(intOf i).toNat)
 case atStart=>exact⟨0,η _,rfl,OV.nil _ _,.refl _ _⟩
 case round=>
  obtain⟨k,T,rfl,c,hb⟩:=hrel;by_cases h:k<l.length
  ·obtain⟨a2,m2,s,_,_,b⟩:=HV.out.below hb;cases s
   obtain⟨S,o,rfl,K,b⟩:=b (by omega);obtain⟨q,e1⟩:=lw h;have d0:=b k q e1;obtain⟨p,D⟩:=N _<|χ e1;obtain⟨q,rfl⟩:=Z3 p;have g:((l.take k).map λn=>d.getD n.toNat (0,0)).length<=1000000000:=by simp;omega
   have J:=hb.size;clear b;obtain⟨X,Q,s,_,_,b⟩:=L.out.below hb;cases s
   obtain⟨bt,ot,rfl,F,b⟩:=b (by omega);obtain⟨j,y,e2⟩:=ep (by omega:q<d.length);obtain⟨t0,t1⟩:=b q j y e2;have C:q<d.length:=by omega
   clear b
   go_wp2_with (at_builtin;refine fO rfl _ _ rfl w _ _ rfl (c.alloc _) wr.heap.size _ (j,y) rfl (by simp[go_sem,υ]) g (by simp;omega) ?_;intro P O f t H)
   exact⟨⟨k+1,by omega,by go_num,by rw[bW e1,ζ,ZW,show d.getD ((q:Int)).toNat (0,0)=(j,y) by simp[Z7,e2]];exact f,hb.trans<|((Δ _ _).alloc (by omega) _).trans t⟩,by simp[intOf];omega⟩
  ·go_wp2_with fail
   go_ret;rw[φ (by omega)]at c;exact⟨⟨_,rfl,c⟩,hb⟩
section
structure yb(tl:List HV)(N M:Nat):Prop where
 nodup:tl.Nodup
 at_:∀v∈tl,(v.1=3/\0<=v.2/\v.2<N)\/(v.1=4/\0<=v.2/\v.2<M)
 news:tl.countP (λv=>v.1==3)=N
 bw:tl.countP (λv=>v.1==4)=M
def yb.nil:yb [] 0 0:=⟨ZS,(λv a=>by cases a),rfl,rfl⟩
def yb.len{b N M}(h:yb b N M):b.length=N+M:=by
 have a:∀l:List HV,(∀v∈l,v.1=3\/v.1=4) ->l.length=l.countP (λv=>v.1==3)+l.countP (λv=>v.1==4):=λl=>by
  induction l with
  |nil=>exactλ_=>rfl
  |cons v l d=>grind
 rw[a b λv c=>(h.at_ v c).elim (λh=>.inl h.1) λh=>.inr h.1,h.news,h.bw]
def yb.new{d:List HV}{N M:Nat}(h:yb d N M):yb (d++[(3,(N:Int))]) (N+1) M where
 nodup:=by rw[ZG];refine⟨h.nodup,by simp,λa f b hb e=>?_⟩;simp at hb;subst hb;subst e;obtain h|h:=h.at_ _ f<;>simp at h
 at_:=λv c=>by
  obtain c|c:=Z2.1 c
  obtain h|h:=h.at_ v c<;>omega
  grind
 news:=by rw[ψ,h.news];rfl
 bw:=by rw[ψ,h.bw];rfl
def yb.old{d:List HV}{N M:Nat}(h:yb d N M):yb (d++[(4,(M:Int))]) N (M+1) where
 nodup:=by rw[ZG];refine⟨h.nodup,by simp,λa f b hb e=>?_⟩;simp at hb;subst hb;subst e;obtain h|h:=h.at_ _ f<;>simp at h
 at_:=λv c=>by
  obtain c|c:=Z2.1 c
  obtain h|h:=h.at_ v c<;>omega
  grind
 news:=by rw[ψ,h.news];rfl
 bw:=by rw[ψ,h.bw];rfl
structure JO(h:PH)(tl:List HV)(k:Nat)(new old:List HC)(marked:List Int):Prop where
 news:new.length=(tl.take k).countP (λv=>v.1==3)
 bw:old.length=(tl.take k).countP (λv=>v.1==4)
 cells:∀c∈new++old,∃d∈h.cells,c=(d.1,d.2.map (sv tl))
 marks:∀n∈marked,0<=n/\n<old.length
 order:marked.Pairwise (·<·)
 ju:∀(i:Nat) c,old[i]?=V c->jW c=ZV->(i:Int)∈marked
def JO.nil(h b):JO h b 0 [] [] []:=⟨rfl,rfl,(λc hc=>by cases hc),(λn a=>by cases a),List.Pairwise.nil,λi c e=>by simp at e⟩
section
variable{h:PH}{tl:List HV}{k:Nat}{new old:List HC}{marked:List Int}{v:HV}{d:HC}
def JO.Pi(H:JO h tl k new old marked)(a:tl[k]?=V v)(h3:v.1=3)(hd:d∈h.cells):JO h tl (k+1) (new++[(d.1,d.2.map<|sv tl)]) old marked where
 news:=by rw[bW a,ψ,<-H.news];simp[h3]
 bw:=by rw[bW a,ψ,<-H.bw];simp[h3]
 cells:=λc hc=>by
  simp only[Z2,ZI]at hc;obtain(hc|hc)|hc:=hc
  exact H.cells c<|ZY _ hc;exact⟨d,hd,hc⟩;exact H.cells c<|Z1 _ hc
 marks:=H.marks
 order:=H.order
 ju:=H.ju
def JO.aeC(H:JO h tl k new old marked)(f:tl[k]?=V v)(h4:v.1=4)(hd:d∈h.cells)(m:Bool)(p:jW (d.1,d.2.map<|sv tl)=ZV->m=ZV):JO h tl (k+1) new (old++[(d.1,d.2.map<|sv tl)]) (if m then marked++[(old.length:Int)]else marked) where
 news:=by rw[bW f,ψ,<-H.news];simp[h4]
 bw:=by rw[bW f,ψ,<-H.bw];simp[h4]
 cells:=λc hc=>by
  simp only[Z2,ZI]at hc;obtain hc|hc|hc:=hc
  exact H.cells c<|ZY _ hc;exact H.cells c<|Z1 _ hc;exact⟨d,hd,hc⟩
 marks:=λn j=>by
  have:n∈marked\/n=(old.length:Int):=by
   cases m
   exact .inl j;simpa using j
  obtain g|g:=this
  have:=H.marks n g;simp;omega;simp;omega
 order:=by
  cases m
  exact H.order;rw[if_pos rfl,List.pairwise_append];refine⟨H.order,by simp,λa l b hb=>?_⟩;simp at hb;have:=H.marks a l;omega
 ju:=λi c e o=>by
  obtain hi|hi:=Nat.lt_or_ge i old.length
  rw[κ hi]at e;have:=H.ju i c e o;cases m
  exact this;simp[this]
  grind
end
def Rp{h f N M n new old marked}(s:yb f N M)(D:N<=8)(A:M<=32)(p:adJ n h)(B:f.length=n)(H:JO h f n new old marked):VG ⟨new,old,h.roots.map<|sv f,h.aA.map λx=>f.getD x.toNat (0,0),h.done.map λx=>f.getD x.toNat (0,0),marked⟩:=by
 have w:new.length=N:=by rw[H.news,φ<|by omega,s.news]
 have y:old.length=M:=by rw[H.bw,φ<|by omega,s.bw]
 have t:∀x:Int,0<=x->x<n->zH ⟨new,old,h.roots.map<|sv f,h.aA.map λx=>f.getD x.toNat (0,0),h.done.map λx=>f.getD x.toNat (0,0),marked⟩ (f.getD x.toNat (0,0)):=λx h0 k=>by
  have hx:x.toNat<f.length:=by omega
  rw[Z7,Z9 hx];have:=s.at_ _<|List.getElem_mem hx;unfold zH;dsimp only;rw[w,y];exact this
 have u:∀v:HV,KL n v.1 v.2->ta ⟨new,old,h.roots.map<|sv f,h.aA.map λx=>f.getD x.toNat (0,0),h.done.map λx=>f.getD x.toNat (0,0),marked⟩ (sv f v):=λv r=>by
  unfold sv;obtain⟨k,m,h3⟩|⟨k,m⟩|⟨k,m,h3⟩:=r
  rw[if_pos k];exact .inr<|t _ m h3;rw[if_neg (by omega)];exact .inl<|.inr ⟨k,m⟩;rw[if_neg (by omega)];exact .inl<|.inl ⟨k,m,h3⟩
 have g:∀l:List Int,Fs n l->l.length<=6->Oi ⟨new,old,h.roots.map<|sv f,h.aA.map λx=>f.getD x.toNat (0,0),h.done.map λx=>f.getD x.toNat (0,0),marked⟩ (l.map λx=>f.getD x.toNat (0,0)):=λl i C=>by
  refine⟨Ki i.1 λa z b hb e=>?_,λv r=>?_,by simp;omega⟩;have k:=i.2 a z;have m:=i.2 b hb;have o:a.toNat<f.length:=by omega
  have q:b.toNat<f.length:=by omega
  rw[Z7,Z9 o,Z7,Z9 q]at e;have e:=e;obtain j|j|j:=ZE a.toNat b.toNat
  exact absurd e<|ZQ.1 s.nodup _ _ o q j;omega;exact absurd e.symm<|ZQ.1 s.nodup _ _ q o j;obtain⟨x,hx,rfl⟩:=ZO.1 r;exact t x (i.2 x hx).1 (i.2 x hx).2
 exact
  {cells:=λc hc=>by obtain⟨d,hd,rfl⟩:=H.cells c hc;obtain⟨k,m⟩:=p.cells d hd;refine⟨by simpa using k,λv r=>?_⟩;obtain⟨x,hx,rfl⟩:=ZO.1 r;exact u x<|m x hx
   news:=by dsimp only;omega
   bw:=by dsimp only;omega
   four:=by simp[p.four]
   roots:=λv r=>by obtain⟨x,hx,rfl⟩:=ZO.1 r;exact u x<|p.roots x hx
   aA:=g _ p.aA.1 p.aA.2
   done:=g _ p.done.1 p.done.2
   marks:=H.marks
   order:=H.order
   ju:=H.ju}
end
section
variable{w:ι}
abbrev aaf:Array Z8:=#[(),(),(),(),(),()]
def wX(B bx:Nat)(w w':ι):Prop:=∀j,B<=j->j<w->j≠bx->w'.heap[j]?=w.heap[j]?
def vX{w' B bx e size n v xs cb d}(h:w.ownsRow B e size v n xs)(b:w.heap[bx]?=V (.cells cb d (0,0)))(k:e≠d)(j:wX B bx w w'):w'.ownsRow B e size v n xs:=
 aS h λg a=>j g (h.lt g a).1 (h.lt g a).2 λl=>by
  subst l;obtain⟨e1,_⟩|⟨m,f,i,e1,_,c,_⟩:=h.2
  rw[e1]at a;cases a;rw[e1]at a;cases a;rw[c]at b;cases b
  exact k rfl
def OX.but{w' B bx v cs cb}(h:OX w B v cs)(a:w.heap[bx]?=V (.cells cb 26 (0,0)))(b:wX B bx w w'):OX w' B v cs:=by obtain⟨l,f,e,h3⟩:=h;exact⟨l,vX f a (by decide) b,e,λi k x d c e1 e2=>⟨(h3 i k x d c e1 e2).1,vX (h3 i k x d c e1 e2).2 a (by decide) b⟩⟩
def JU{ops rest o a Q}(g:o.guard=Z)(s x)(r:o.op=.call {callee:=.builtin .append,args:=#[s,x],argTypes:=#[22,22]})(B v l)(hs:a.eval s=v)(b:OC w B v l)(ad c u)(t:u.2.oneCell'=ZV)(A:a.eval x=θ (V ad) 1 c)(n:w (ad.add 0)=V (Ω Ψ u.1)/\w (ad.add 1)=V u.2)(C:l.length<=1000000000)(p:B<=w)(h:∀e w',OC w' B e (l++[u]) ->I B w w'->w.grownBy w' v.ownBlock->(e.ownBlock=v.ownBlock\/e.ownBlock=V w) ->wpList prog ops Q rest (a.put o.dst e) w'):wpList prog ops Q (o::rest) a w:=by
 obtain⟨q,hi,i,k,f⟩:=ZM ni;refine wpList_append_own_at _ g s x 22 r B 76 q _ 2 32 mF hi i k f rfl (by decide) v l.length _ hs b ad 1 c (dW u) A rfl (λj z d=>?_) (λz hz=>?_) (by unfold ZL;omega) (by omega) p λe w' y m _ h4=>?_
 match j,d with
 |0,d=>cases d;exact n.1
 |1,d=>cases d;exact n.2
 |j+2,d=>simp[dW]at d
 simp[dW]at hz;obtain rfl|rfl:=hz
 rfl;exact t;refine h e w' ?_ (cM b m p) m h4;unfold OC;simpa using y
def SP.agN(B:Nat)(a b c:List HV):Rg.SP:=⟨λv w=>∃x y z,v=.agg #[(),(),x,y,z,()]/\OV w B x a/\OV w B y b/\OV w B z c,λ_ _ _ hb ⟨x,y,z,e,h1,h2,h3⟩=>⟨x,y,z,e,OV.below h1 hb,OV.below h2 hb,OV.below h3 hb⟩⟩
def SP.Pn(B:Nat):Rg.SP:=⟨λv w=>∃g,v=.pointer (g:Nat)/\w.heap[g]?=V (.cells aaf 26 (0,0))/\B<=g,λ_ _ _ hb ⟨g,h1,h2,h3⟩=>⟨g,h1,(hb.block g (Θ.1 h2).1).trans h2,h3⟩⟩
def aeD(w)(c m tG:Nat)(h:kp w c m)(hm:m<=400000000)(hmo:tG<=40):
 Y prog 20 #[.pointer c,tG] w λe w'=>(∃r g,e=.returned r/\Pd w' w r g/\VG g/\g.new.length+g.old.length<=tG)/\hQ w c (m+200000) w':=by
 have hc0:=h.lt;have hb0:=af w<|Ξ #[(),(),(),(),(),()] 26;have z0:=ω w<|Ξ #[(),(),(),(),(),()] 26;have hs0:(w.alloc<|Ξ #[(),(),(),(),(),()] 26).heap.size=w.heap.size+1:=by simp
 have h0:=h.oq.below hb0
 go_enter (fU func20 rfl),ntmps20
 go_wp2_with fail
 generalize w.alloc _=w1 at z0 hb0 hs0 h0⊢;refine(Kt _ c m 5 h0.1 (by omega) (by omega)<|by omega).mono ?_;rintro e w2 ⟨⟨p,rfl⟩,hw2⟩;have z2:=(hw2.2.block w (by omega) (by simp;omega)).trans z0;have hz2:=hw2.2.size;replace hw2:=h0.trans hw2
 go_wp2_with fail
 refine(Xz _ c _ tG p hw2.1 (by omega)<|by omega).mono ?_;rintro e w3 ⟨⟨r,n,ph,rfl,hown,hok,hnm⟩,hw3⟩;have z3:=(hw3.2.block w (by omega) (by simp;omega)).trans z2;have hz3:=hw3.2.size;replace hw3:=hw2.trans hw3;clear hw2 h0 z0 z2 hb0;obtain⟨vc,vr,vw,vd,rfl,hox,hor,XI,hod⟩:=hown;have aaS:w.heap.size+1<=w2:=by omega
 replace hox:=hox.less aaS;replace hor:=eV hor aaS;replace XI:=eV XI aaS;replace hod:=eV hod aaS;obtain⟨lc,hlc,hle⟩:=hox;obtain⟨ac,mc,rfl,-⟩:=aF hlc;obtain⟨ar,mr,rfl,-⟩:=aF hor;obtain⟨aw,mw,rfl,-⟩:=aF XI;obtain⟨ad,md,rfl,-⟩:=aF hod;have hlen:lc.length=n:=by rw[hle.1,hok.len]
 rw[hlen]at hlc⊢
 go_wp2_with fail
 obtain⟨q0,q1,hbB,hsB⟩:=KM w3 (Ξ #[.slice ac n mc,.slice ar ph.roots.length mr,.slice aw ph.aA.length mw,.slice ad ph.done.length md] 56)<|Ξ #[Ω Ψ 0,Ω Ψ 3,Ω Ψ 8,Ω Ψ 8] 3;have hwB:=hw3.below hbB;have aeE:=Ku (w3.alloc<|Ξ #[.slice ac n mc,.slice ar ph.roots.length mr,.slice aw ph.aA.length mw,.slice ad ph.done.length md] 56) [0,3,8,8] #[Ω Ψ 0,Ω Ψ 3,Ω Ψ 8,Ω Ψ 8] 4 rfl rfl (by omega);rw[World.size_alloc]at aeE;have hc3:=hw3.1.lt;refine(Pt _ c _ _ _ [0,3,8,8] hwB.1 (by omega) aeE (by omega) (by simp)<|by simp).mono ?_;rintro e wA ⟨⟨many,rfl,RN⟩,hwA⟩;have RN:0<=many/\many<=8:=by simp at RN;omega
 obtain⟨many,rfl⟩:=Z3 RN.1;have RN:many<=8:=by omega
 clear aeE;have F:kE (w.heap.size+1) w3 wA:=(kE.below hbB).trans (kE.oq hwA<|by omega) hbB.size;have x5:=(hwA.2.block w3 (by simp;omega) (by simp;omega)).trans q0;have x4:=(hwA.2.block w (by simp;omega) (by simp;omega)).trans<|(hbB.block w<|by omega).trans z3;have hzA:w3.heap.size+2<=wA:=by have:=hwA.2.size;omega
 replace hwA:=hwB.trans hwA;replace hlc:=dI hlc F;replace hle:=hle.keep F;replace hor:=dI hor F;replace XI:=dI XI F;replace hod:=dI hod F;clear hwB hbB q0 q1 z3 F hw3;have G:w.heap.size+1<=w3:=by omega
 generalize w3.heap.size=b at x5 hzA G⊢;generalize hmA:m+1+100000+1=mA at hwA;have aiE:mA<=m+100010:=by omega
 go_wp2_with fail
 go_loopw [6,8,9,10] (λx i8 i9 i wr=>∃(A:List HV) (N a:Nat),A.length<=n/\i8=Ω Ψ N/\i9=Ω Ψ a/\i=Ω Ψ A.length/\yb A N a/\N<=8/\a<=32/\(kE (w.heap.size+1) wA wr/\wA.heap.size<=wr)/\OV wr wA x A/\wr.heap[w.heap.size]?=V (Ξ #[(),(),(),(),(),()] 26)/\hQ w c (mA+A.length) wr) (λ_ _ _ i _=>n-(intOf i).toNat)
 case atStart=>exact⟨[],0,0,η _,rfl,rfl,rfl,.nil,by omega,by omega,⟨λj _ _=>rfl,.refl⟩,OV.nil _ _,x4,hwA⟩
 case round=>
  clear x4 hwA;obtain⟨A,N,a,hk,rfl,rfl,rfl,hp,hN,hM,⟨F,agO⟩,hx,e0,hw⟩:=hrel;have e1:=(F b (by omega)<|by omega).trans x5;have hlen2:=U hp.len;by_cases hlt:A.length<n
  ·obtain⟨⟨d1,-⟩,-⟩:=dT e1;have hbr:b<wr:=by omega
   go_upto_region 8 with(fail)
   clear d1
   go_cut [41]from 24 to 55 λv wx=>∃nb:Bool,v=.bool nb/\(nb=ZV->N+1<=8)/\(nb=Z0->a+1<=32)/\(kE (w.heap.size+1) wr wx/\wr.heap.size<=wx)/\wx.heap[w.heap.size]?=V (Ξ #[(),(),(),(),(),()] 26)/\hQ w c (mA+(A.length+1)) wx
   case first=>
    clear hlc hle hor XI hod x5 e1;by_cases hNm:N<many
    ·go_wp2_with fail
     refine(Kt _ c _ 2 hw.1 (by omega) (by omega)<|by omega).mono ?_;rintro e w5 ⟨⟨nb,rfl⟩,hw5⟩;have f0:=(hw5.2.block w (by omega) (by simp;omega)).trans e0;have hk5:kE (w.heap.size+1) wr w5:=kE.oq hw5 (by omega);have agP:hQ w c (mA+(A.length+1)) w5:=hw.trans hw5;have KU:=hw5.2.size;cases nb
     ·go_wp2_with fail
      go_meet
      exact⟨_,rfl,(λh=>by have:(a:Int)=32:=(by simpa using h);have:=hlen2.out;omega),(λh=>by have:¬(a:Int)=32:=(by simpa using h);omega),⟨hk5,KU⟩,f0,agP⟩
     ·go_wp2_with fail
      go_meet
      exact⟨ZV,rfl,(λ_=>by omega),(λh=>by cases h),⟨hk5,KU⟩,f0,agP⟩
    ·go_wp2_with fail
     go_meet
     exact⟨_,rfl,(λh=>by have:(a:Int)=32:=(by simpa using h);have:=hlen2.out;omega),(λh=>by have:¬(a:Int)=32:=(by simpa using h);omega),⟨λj _ _=>rfl,.refl⟩,e0,hw.more<|by omega⟩
   case rest=>
    obtain⟨nb,rfl,hn1,hn0,⟨hk5,KU⟩,f0,hw5⟩:=hcut;generalize wc=w5 at hk5 KU f0 hw5⊢;have hx5:=dI (hx.less .refl) (show kE wA wr w5 fromλj hb hj=>hk5 j (by omega) hj);have agQ:=F.trans hk5 agO;have aoD:wA.heap.size<=w5:=by omega
    have hln:A.length<1000:=by omega
    clear hx e0 e1 hw hk5 F;cases nb
    ·have hm0:=hn0 rfl;have s:=af w5<|Ξ #[Ω Ψ 4,a] 50;have t0:=(s.block w<|by omega).trans f0
     go_wp2_with (at_builtin;refine fO rfl _ _ rfl wA _ _ rfl (hx5.alloc _) w5.heap.size _ (4,(a:Int)) rfl (by simp[go_sem,υ]) (by omega) (by simp;omega) ?_;intro v' w8 H K no)
     have tT:=K.size;have aeF:kE (w.heap.size+1) wA w8:=λj hb hj=>(K.block j hj).trans<|(s.block j<|by omega).trans<|agQ j hb hj;have hw8:hQ w c (mA+(A.length+1)) w8:=hw5.upto hc0<|(s.mono<|by omega).trans<|K.mono<|by omega
     have t1:=(K.block w<|by omega).trans t0;have X:(A++[((4:Int),(a:Int))]).length=A.length+1:=by simp
     exact⟨⟨_,N,a+1,by rw[X];omega,by go_num,by go_num,by rw[X];go_num,hp.old,by omega,by omega,⟨aeF,by simp at tT;omega⟩,H,t1,by rw[X];exact hw8⟩,by simp[intOf];omega⟩
    ·have hm0:=hn1 rfl;have s:=af w5<|Ξ #[Ω Ψ 3,N] 50;have t0:=(s.block w<|by omega).trans f0
     go_wp2_with (at_builtin;refine fO rfl _ _ rfl wA _ _ rfl (hx5.alloc _) w5.heap.size _ (3,(N:Int)) rfl (by simp[go_sem,υ]) (by omega) (by simp;omega) ?_;intro v' w8 H K no)
     have tT:=K.size;have aeF:kE (w.heap.size+1) wA w8:=λj hb hj=>(K.block j hj).trans<|(s.block j<|by omega).trans<|agQ j hb hj;have hw8:hQ w c (mA+(A.length+1)) w8:=hw5.upto hc0<|(s.mono<|by omega).trans<|K.mono<|by omega
     have t1:=(K.block w<|by omega).trans t0;have X:(A++[((3:Int),(N:Int))]).length=A.length+1:=by simp
     exact⟨⟨_,N+1,a,by rw[X];omega,by go_num,by go_num,by rw[X];go_num,hp.new,by omega,by omega,⟨aeF,by simp at tT;omega⟩,H,t1,by rw[X];exact hw8⟩,by simp[intOf];omega⟩
  ·have hln:=U (by omega:A.length=n);replace hx:=eV hx (by omega:w.heap.size+1<=wA);replace hlc:=dI hlc F;replace hle:=hle.keep F;replace hor:=dI hor F;replace XI:=dI XI F;replace hod:=dI hod F;have hbr:b<wr:=by omega
   have aoE:n<=40:=by omega
   generalize hmB:mA+A.length=mB at hw;have aoF:mB<=m+100100:=by omega
   have hcr:=hw.1.lt;clear x5 F hmA aiE hzA agO;obtain⟨⟨d0,d1,d2,d3⟩,-⟩:=dT e1;obtain⟨au,mu,rfl,-⟩:=aF hx
   go_upto_region 13 with(fail)
   clear d0;obtain⟨RL,hRL⟩:∃x,ZN (x=ph.roots.map (sv A)):=⟨_,U rfl⟩;obtain⟨WL,hWL⟩:∃x,ZN (x=ph.aA.map λx=>A.getD x.toNat (0,0)):=⟨_,U rfl⟩;obtain⟨DL,hDL⟩:∃x,ZN (x=ph.done.map λx=>A.getD x.toNat (0,0)):=⟨_,U rfl⟩;refine Rg.pT [.eq (.pointer (b,1)),.eq<|.slice ar ph.roots.length mr,.eq<|.slice au A.length mu,SP.ov (w.heap.size+1) RL,.eq<|.pointer (b,2),.eq<|.slice aw ph.aA.length mw,.eq<|.slice au A.length mu,SP.ov (w.heap.size+1) WL,.eq<|.pointer (b,3),.eq<|.slice ad ph.done.length md,.eq<|.slice au A.length mu,SP.ov (w.heap.size+1) DL,SP.agN (w.heap.size+1) RL WL DL,SP.Pn<|w.heap.size+1] (by kernel_rfl) (by kernel_rfl) (by rfl) ?_ ?_
   ·refine⟨?_,?_,?_,?_,?_,?_,?_,?_,?_,?_,?_,?_,?_,?_,trivial⟩
    all_goals intro x2 w2 T t q
    all_goals first|(have f0:=cG T d1 hbr;have f1:=cG T d2 hbr;have f2:=cG T d3 hbr;have k0:=t 5 rfl;have k1:=t 6 rfl;simp at k0 k1;(try have q0:=Rg.lT (q 0 _ rfl rfl) rfl);(try have q1:=Rg.lT (q 4 _ rfl rfl) rfl);(try have q2:=Rg.lT (q 8 _ rfl rfl) rfl);clear t q;go_simp;exact⟨_,rfl,.refl _ _,rfl⟩)|skip
    ·have e1:=Rg.lT (q 1 _ rfl rfl) rfl;have e2:=Rg.lT (q 2 _ rfl rfl) rfl;have hB:=(Δ _ wr).drew.trans T;clear t q;go_simp;refine(KJ _ _ _ ph.roots A ((OV.below hor hB).reads) ((OV.below hx hB).reads) (λx hx h1=>by have h:=hok.roots x hx;have:=hln.out;unfold KL at h;omega) (by have:=hok.four;omega)).mono ?_;rintro e w3 ⟨⟨r,rfl,ho⟩,G⟩;replace ho:=ho.less (show w.heap.size+1<=_ by have:=hB.size;omega);rw[<-hRL.out]at ho;exact⟨_,rfl,G,ho⟩
    ·have e1:=Rg.lT (q 5 _ rfl rfl) rfl;have e2:=Rg.lT (q 6 _ rfl rfl) rfl;have hB:=(Δ _ wr).drew.trans T;clear t q;go_simp;refine(KK _ _ _ ph.aA A ((OI.below XI hB).reads) ((OV.below hx hB).reads) (λx hx=>by have:=hok.aA.1.2 x hx;have:=hln.out;omega) (by have:=hok.aA.2;omega)).mono ?_;rintro e w3 ⟨⟨r,rfl,ho⟩,G⟩;replace ho:=ho.less (show w.heap.size+1<=_ by have:=hB.size;omega);rw[<-hWL.out]at ho;exact⟨_,rfl,G,ho⟩
    ·have e1:=Rg.lT (q 9 _ rfl rfl) rfl;have e2:=Rg.lT (q 10 _ rfl rfl) rfl;have hB:=(Δ _ wr).drew.trans T;clear t q;go_simp;refine(KK _ _ _ ph.done A ((OI.below hod hB).reads) ((OV.below hx hB).reads) (λx hx=>by have:=hok.done.1.2 x hx;have:=hln.out;omega) (by have:=hok.done.2;omega)).mono ?_;rintro e w3 ⟨⟨r,rfl,ho⟩,G⟩;replace ho:=ho.less (show w.heap.size+1<=_ by have:=hB.size;omega);rw[<-hDL.out]at ho;exact⟨_,rfl,G,ho⟩
    ·have e1:OV w2 (w.heap.size+1) ((x2.tmps[59]?).getD undef) RL:=q 3 _ rfl rfl;have e2:OV w2 (w.heap.size+1) ((x2.tmps[63]?).getD undef) WL:=q 7 _ rfl rfl;have e3:OV w2 (w.heap.size+1) ((x2.tmps[67]?).getD undef) DL:=q 11 _ rfl rfl;obtain⟨y1,m1,f1,-⟩:=aF e1;obtain⟨y2,m2,f2,-⟩:=aF e2;obtain⟨y3,m3,f3,-⟩:=aF e3;rw[f1]at e1;rw[f2]at e2;rw[f3]at e3;clear t q;go_simp;exact⟨_,rfl,.refl _ _,_,_,_,rfl,e1,e2,e3⟩
    ·clear t q;go_simp;exact⟨_,rfl,af _ _,_,rfl,ω _ _,by have:=T.size;simp at this;omega⟩
   ·rintro vs w3 G ⟨_,_,_,_,_,_,_,_,_,_,_,_,⟨v0,v1,v2,s12,hv0,hv1,hv2⟩,⟨bx,s13,hbx,aoG⟩,_⟩;simp[go_sem,s12,s13];clear s12 s13;have hB:=(Δ _ wr).drew.trans G;obtain⟨y0,m0,rfl,-⟩:=aF hv0;obtain⟨y1,m1,rfl,-⟩:=aF hv1;obtain⟨y2,m2,rfl,-⟩:=aF hv2;obtain⟨d,f⟩:=JJ hbx;have f0:=f 0;have f1:=f 1;have f2:=f 2;have f3:=f 3;have f4:=f 4;have f5:=f 5;have d0:=d 0 (by omega);have d1:=d 1 (by omega);have d2:=d 2 (by omega);have d3:=d 3 (by omega);have d4:=d 4 (by omega);have d5:=d 5 (by omega);clear d f
    go_wp2_with fail
    clear f0 f1 f2 f3 f4 f5 d0 d1 d2 d3 d4 d5;obtain⟨q1,q2,q3,q4⟩:=kn (v0:=()) (v1:=()) (v2:=.slice y0 RL.length m0) (v3:=.slice y1 WL.length m1) (v4:=.slice y2 DL.length m2) (v5:=()) hbx;have L:wX (w.heap.size+1) bx w3 (io w3 bx () () (.slice y0 RL.length m0) (.slice y1 WL.length m1) (.slice y2 DL.length m2) ()):=λj _ _ hj=>q2 j hj;have hwB:hQ w c mB _:=(hw.below hB).upto hc0<|q4 w<|by omega
    have aiF:=(Θ.1 hbx).1;have z1:=(hB.block b hbr).trans e1;have hbne:b≠bx:=λe=>by rw[e,hbx]at z1;simp at z1
    have z1:=(q2 b hbne).trans z1;have z0:=(q2 w<|by omega).trans<|(hB.block w<|by omega).trans e0;have hxB:OX _ (w.heap.size+1) (.slice ac n mc) ph.cells:=OX.but (OX.keep ⟨lc,hlc,hle⟩<|kE.below hB) hbx L;have hxT:OV _ (w.heap.size+1) (.slice au A.length mu) A:=vX (dI hx<|kE.below hB) hbx (by decide) L;replace hv0:=vX hv0 hbx (by decide) L;replace hv1:=vX hv1 hbx (by decide) L;replace hv2:=vX hv2 hbx (by decide) L;rw[show(((((w3.setCell bx ()).setCell (bx,1) ()).setCell (bx,2)<|.slice y0 RL.length m0).setCell (bx,3)<|.slice y1 WL.length m1).setCell (bx,4)<|.slice y2 DL.length m2).setCell (bx,5) ()=io w3 bx () () (.slice y0 RL.length m0) (.slice y1 WL.length m1) (.slice y2 DL.length m2) ()from rfl];have hsz3:=hB.size;have aoH:=hlen;clear L hbx q2 q4 hw hB hlc hle hx e0 e1 G;generalize io w3 bx () () (.slice y0 RL.length m0) (.slice y1 WL.length m1) (.slice y2 DL.length m2) ()=B at q1 q3 hwB z1 z0 hxB hxT hv0 hv1 hv2⊢;have aeL:bx<B:=by omega
    have hbB:b<B:=by omega
    have aoI:w.heap.size<B:=by omega
    clear q3 aiF hsz3 hbr
    go_loopw [12] (λi wr=>∃(k:Nat) (xn xo xm:Z8) (new old:List HC) (marked:List Int),k<=n/\i=Ω Ψ k/\JO ph A k new old marked/\marked.length<=k/\(wX (w.heap.size+1) bx B wr/\B.heap.size<=wr)/\wr.heap[bx]?=V (Ξ #[xn,xo,.slice y0 RL.length m0,.slice y1 WL.length m1,.slice y2 DL.length m2,xm] 26 (0,0))/\OX wr B xn new/\OX wr B xo old/\Apart xn xo/\OI wr B xm marked/\wr.heap[w.heap.size]?=V (.cells aaf 26 (0,0))/\hQ w c (mB+k) wr) (λi _=>n-(intOf i).toNat)
    case atStart=>exact⟨0,_,_,_,[],[],[],η _,rfl,.nil _ _,η _,⟨λj _ _ _=>rfl,.refl⟩,q1,OX.nil _ _,OX.nil _ _,(λg e=>by cases e),OI.nil _ _,z0,hwB⟩
    case round=>
     clear z0 hwB;obtain⟨k,xn,xo,xm,new,old,marked,hkn,rfl,wO,hmk,⟨L,hzB⟩,g1,ho1,ho2,hap,P,g0,hw⟩:=hrel;have e1:=(L b (by omega) hbB hbne).trans z1;by_cases hlt:k<n
     ·obtain⟨⟨d1,-⟩,-⟩:=dT e1;have hbr:b<wr:=by omega
      have hxr:=(hxB.but q1 L).reads;have hT:=vX hxT q1 (by decide) L;have HX:=U hxr;obtain⟨a2,m2',he,_,_,S⟩:=hxr;simp only[ZZ]at he;obtain⟨rfl,-,-⟩:=he;have hlk:=hok.len;obtain⟨bb,o,rfl,hbb,S⟩:=S (by omega);obtain⟨pk,vs,ek⟩:=cQ (by omega:k<ph.cells.length);obtain⟨c0,x,c1,hxv⟩:=S k pk vs ek;have hvl:=(hok.cells _<|χ ek);clear S
      go_upto_region 17 with(fail)
      obtain⟨O,hVL⟩:∃x,ZN (x=vs.map (sv A)):=⟨_,U rfl⟩;refine Rg.pT [.eq (.pointer b),.eq<|.slice (bb,o) n mc,.eq<|Ω Ψ k,.eq<|.pointer (bb,o+k*2),.eq<|.pointer (bb,o+k*2),.eq pk,.eq<|.pointer b,.eq<|.slice (bb,o) n mc,.eq<|Ω Ψ k,.eq<|.pointer (bb,o+k*2),.eq<|.pointer (bb,o+k*2+1),.eq x,.eq<|.slice au A.length mu,SP.ov wr O,SP.cell wr pk O,SP.agJ wr] (by kernel_rfl) (by kernel_rfl) (by rfl) ?_ ?_
      ·refine⟨?_,?_,?_,?_,?_,?_,?_,?_,?_,?_,?_,?_,?_,?_,?_,?_,trivial⟩
       all_goals intro x2 w2 T t q
       all_goals first|(have f0:=cG T d1 hbr;have f1:=cG T c0 hbb;have f2:=cG T c1 hbb;have k0:=t 5 rfl;have k1:=t 6 rfl;have k2:=t 12 rfl;simp at k0 k1 k2;(try have q0:=Rg.lT (q 0 _ rfl rfl) rfl);(try have q1:=Rg.lT (q 1 _ rfl rfl) rfl);(try have q2:=Rg.lT (q 2 _ rfl rfl) rfl);(try have q3:=Rg.lT (q 3 _ rfl rfl) rfl);(try have q4:=Rg.lT (q 4 _ rfl rfl) rfl);(try have q5:=Rg.lT (q 6 _ rfl rfl) rfl);(try have q6:=Rg.lT (q 7 _ rfl rfl) rfl);(try have q7:=Rg.lT (q 8 _ rfl rfl) rfl);(try have q8:=Rg.lT (q 9 _ rfl rfl) rfl);(try have q9:=Rg.lT (q 10 _ rfl rfl) rfl);clear t q;go_simp;exact⟨_,rfl,.refl _ _,rfl⟩)|skip
       ·have e1':=Rg.lT (q 11 _ rfl rfl) rfl;have e2':=Rg.lT (q 12 _ rfl rfl) rfl;have hB:=(Δ _ wr).drew.trans T;clear t q;go_simp;refine(KJ _ _ _ vs A (hxv.below hB) ((OV.below hT hB).reads) (λx hx h1=>by have h:=hvl.2 x hx;have:=hln.out;unfold KL at h;omega) (by have:=hvl.1;dsimp only at this;omega)).mono ?_;rintro e w3 ⟨⟨r,rfl,ho⟩,G⟩;replace ho:=ho.less (show wr.heap.size<=_ by have:=hB.size;omega);rw[<-hVL.out]at ho;exact⟨_,rfl,G,ho⟩
       ·have e1':=Rg.lT (q 5 _ rfl rfl) rfl;have e2':OV w2 wr ((x2.tmps[89]?).getD undef) O:=q 13 _ rfl rfl;obtain⟨ay,my,f1,-⟩:=aF e2';rw[f1]at e2';clear t q;go_simp;exact⟨_,rfl,.refl _ _,_,rfl,e2'⟩
       ·clear t q;go_simp;exact⟨_,rfl,af _ _,_,rfl,ω _ _,by have:=T.size;simp at this;omega⟩
      ·rintro fb w3 G ⟨_,_,_,_,_,_,_,_,_,_,_,_,_,_,⟨y,s14,hy⟩,⟨gb,s15,hgb,agR⟩,_⟩;simp[go_sem,s14,s15];clear s14 s15;have hB:=(Δ _ wr).drew.trans G;obtain⟨ay,my,rfl,-⟩:=aF hy;obtain⟨c0',c1',f0',f1'⟩:=eA hgb;clear c0 c1 d1
       go_upto_region 18 with(fail)
       have hBW:I wr wr ((w3.setCell gb pk).setCell (gb,1)<|.slice ay O.length my):=(hB.setCell (p:=(gb:ZA)) agR _).setCell (p:=((gb,1):ZA)) agR _;have hyW:OV _ wr (.slice ay O.length my) O:=vX (w':=(w3.setCell gb pk).setCell (gb,1)<|.slice ay O.length my) hy hgb (by decide) λj _ _ hj=>(aa hj).trans<|aa hj;have W:=heap_setCell_same (i:=1) (v:=.slice ay O.length my)<|heap_setCell_same (i:=0) (v:=Ω Ψ pk) hgb;clear c0' c1' f0' f1' hy hgb hB G;generalize (w3.setCell gb pk).setCell (gb,1) (.slice ay O.length my)=w5 at hBW hyW W⊢;have W:w5.heap[gb]?=V (Ξ #[pk,.slice ay O.length my] 76 (0,0)):=W;have KU:=hBW.size;have hk5:kE B wr w5:=kE.below hBW;have aeO:wX (w.heap.size+1) bx B w5:=λj hb hj hn=>(hBW.block j<|by omega).trans<|L j hb hj hn;have g1:=(hBW.block bx<|by omega).trans g1;have g0:=(hBW.block w<|by omega).trans g0;replace ho1:=ho1.keep hk5;replace ho2:=ho2.keep hk5;replace P:=dI P hk5;replace hw:=hw.below hBW;have hT5:=(OV.below hT hBW).reads;clear hT hBW L e1 hxv hbb hbr;obtain⟨a3,m3,he,_,_,S⟩:=hT5;simp only[ZZ]at he;obtain⟨rfl,-,-⟩:=he;obtain⟨bt,ot,rfl,hbt,S⟩:=S (by have:=hln.out;omega);obtain⟨p2,q2,e2⟩:=ep (show k<A.length by have:=hln.out;omega);obtain⟨t0,t1⟩:=S k p2 q2 e2;have hp2:=hp.at_ _<|χ e2;dsimp only at hp2;have aiG:gb<w5:=(Θ.1 W).1;clear S;have hkl:k<A.length:=by have:=hln.out;omega
       obtain⟨l1,u,D⟩:=ho1;obtain⟨a1,n1,rfl,-⟩:=aF u;obtain⟨l2,z,C⟩:=ho2;obtain⟨a2',n2,rfl,-⟩:=aF z;obtain⟨a3',n3,rfl,-⟩:=aF P;obtain⟨r0,r1,-,-,-,r5⟩:=sS g1;obtain⟨x0,x1,-,-⟩:=eA W;have hfr:∀i,w5.frozen? ⟨bx,i,Z⟩=Z0:=λi=>cD g1;have hl1:new.length<=n:=by have:=wO.news;have:=hp.news;have:=ZK (p:=λv:HV=>v.1==3) (l:=A.take k);simp at this;omega
       have hl2:old.length<=n:=by have:=wO.bw;have:=ZK (p:=λv:HV=>v.1==4) (l:=A.take k);simp at this;omega
       have hh1:=U D.1;have hh2:=U C.1;clear hlen2;obtain⟨rfl,-⟩|⟨rfl,-⟩:=hp2
       ·have s:=af w5 (Ξ #[pk,.slice ay O.length my] 76);have hxk:=u.below s
        go_wp2_with (at_builtin;refine JU rfl _ _ rfl B _ _ rfl hxk w5.heap.size _ (pk,.slice ay O.length my) rfl rfl (by simp[go_sem,υ]) (by have:=hh1.out;omega) (by simp;omega) ?_;intro v' w6 J E Re hn6;obtain⟨a6,m6,rfl,-⟩:=aF J;have t1:=(E.block bx<|by omega).trans<|(s.block bx<|by omega).trans g1;obtain⟨s0,-⟩:=sS t1;have sf:=λi=>cD (i:=i) t1)
        have Rf:HO w6 B (l1++[(pk,.slice ay O.length my)]) (new++[(pk,O)]):=((D.snoc<|hyW.less (by omega:B.heap.size<=wr)).keep<|kE.below s).types hxk Re;have agS:=uW (z.below s) hap.symm Re;have agT:=(C.keep<|kE.below s).types hxk Re;have ae3:=fy (OI.below P s) hxk (by decide) Re;have aag:Apart (.slice a6 (l1++[(pk,θ ay O.length my)]).length m6) (.slice a2' l2.length n2):=λg e1 e2=>by
         obtain hn|hn:=hn6
         exact hap g (hn.symm.trans e1) e2;rw[hn]at e1;have:=(z.lt g e2).2;simp at e1;omega
        have X:(l1++[(pk,θ ay O.length my)]).length=l1.length+1:=by simp
        rw[X]at J aag;have Xe:=E.size;simp at Xe;have Q:kE B w6 (w6.setCell bx<|.slice a6 (l1.length+1) m6):=kE.set aeL;have ae6:wX (w.heap.size+1) bx B (w6.setCell bx<|.slice a6 (l1.length+1) m6):=λj hb hj hn=>(aa hn).trans<|(E.block j hj).trans<|(s.block j<|by omega).trans<|aeO j hb hj hn;have hw7:hQ w c (mB+(k+1)) (w6.setCell bx<|.slice a6 (l1.length+1) m6):=(hw.upto hc0<|((s.mono<|by omega).trans<|E.mono<|by omega).setCell (p:=(bx:ZA)) (by show w.heap.size<=bx;omega) _).more (by omega);have t0':=(E.block w<|by omega).trans<|(s.block w<|by omega).trans g0;have wP:=wO.Pi e2 rfl<|χ ek;dsimp only at wP;rw[<-hVL.out]at wP
        go_roundw
        case rel=>exact⟨k+1,_,_,_,_,_,_,by omega,by go_num,wP,by omega,⟨ae6,by simp;omega⟩,heap_setCell_same (i:=0) t1,OX.keep ⟨_,J,Rf⟩ Q,OX.keep ⟨_,agS,agT⟩ Q,aag,dI ae3 Q,(aa<|by omega).trans t0',hw7⟩
        case measure=>simp[intOf];omega
       ·clear r0 r1 r5 x0 x1 hfr t1
        go_wp2_with fail
        refine(Kt _ c _ 4 hw.1 (by omega) (by omega)<|by omega).mono ?_;rintro e w6 ⟨⟨nb,rfl⟩,hw6⟩;have hkw:kE (w.heap.size+1) w5 w6:=kE.oq hw6 (by omega);have Xc:kE B w5 w6:=kE.oq hw6 (by omega);have Xe:=hw6.2.size;have g1:=(hkw bx (by omega)<|by omega).trans g1;have W:=(hkw gb (by omega) aiG).trans W;have g0:=(hw6.2.block w (by omega) (by simp;omega)).trans g0;have aah:wX (w.heap.size+1) bx B w6:=λj hb hj hn=>(hkw j hb<|by omega).trans<|aeO j hb hj hn;have hyW:=dI hyW (kE.oq hw6 (by omega):kE wr w5 w6);replace hw6:hQ w c (mB+(k+1)) w6:=hw.trans hw6;replace u:=dI u Xc;replace z:=dI z Xc;replace P:=dI P Xc;replace D:=D.keep Xc;replace C:=C.keep Xc;have aoL:gb<w6:=by omega
        clear hkw Xc hw aeO t0;obtain⟨x0,x1,-,-⟩:=eA W;have HY:=U<|OV.reads hyW
        go_wp2_with fail
        go_loopw [14,15] (λyv iv wx=>∃(j:Nat) (nb:Bool),yv=.bool nb/\j<=O.length/\iv=Ω Ψ j/\(nb=Z0->(O.take j).any dy=Z0)/\wx=w6) (λ_ iv _=>O.length-(intOf iv).toNat)
        case atStart=>exact⟨0,nb,rfl,η _,rfl,(λ_=>rfl),rfl⟩
        case round=>
         obtain⟨j,nb,rfl,hj,rfl,hnb,hwx⟩:=hrel;replace hwx:=hwx.symm;subst hwx;by_cases hlj:j<O.length
         ·obtain⟨a4,m4,he,_,_,S⟩:=HY.out;simp only[ZZ]at he;obtain⟨rfl,-,-⟩:=he;obtain⟨b4,o4,rfl,hb4,S⟩:=S (by omega);obtain⟨p4,q4,e4⟩:=ep hlj;obtain⟨d0,d1⟩:=S j p4 q4 e4;clear S;cases nb
          ·by_cases h3:p4=3
           ·subst h3
            go_wp2_with fail
            exact⟨⟨j+1,ZV,rfl,by omega,by go_num,(λh=>by cases h),trivial⟩,by simp[intOf];omega⟩
           ·have h3':(p4==3)=Z0:=by simp[h3]
            go_wp2_with fail
            exact⟨⟨j+1,Z0,rfl,by omega,by go_num,(λ_=>by rw[bW e4,List.any_append,hnb rfl];simp[dy,h3]),trivial⟩,by simp[intOf];omega⟩
          ·go_wp2_with fail
           exact⟨⟨j+1,ZV,rfl,by omega,by go_num,(λh=>by cases h),trivial⟩,by simp[intOf];omega⟩
         ·have hyc:jW (pk,O)=ZV->nb=ZV:=λh=>by
           cases nb
           have:=hnb rfl;rw[φ (by omega)]at this;exact this.symm.trans h;rfl
          have HYC:=U hyc;clear hnb hyc;obtain⟨-,r1,-,-,-,r5⟩:=sS g1;have hfr:∀i,w6.frozen? ⟨bx,i,Z⟩=Z0:=λi=>cD g1
          go_upto_if 122 with(fail)
          go_cut []from 123 to 130 λwx=>∃xm',wx.heap[bx]?=V (Ξ #[.slice a1 l1.length n1,.slice a2' l2.length n2,.slice y0 RL.length m0,.slice y1 WL.length m1,.slice y2 DL.length m2,xm'] 26 (0,0))/\OI wx B xm' (if nb then marked++[(l2.length:Int)]else marked)/\(OC wx B (.slice a1 l1.length n1) l1/\HO wx B l1 new)/\(OC wx B (.slice a2' l2.length n2) l2/\HO wx B l2 old)/\OV wx B (.slice ay O.length my) O/\wx.heap[gb]?=V (Ξ #[pk,.slice ay O.length my] 76 (0,0))/\wX (w.heap.size+1) bx B wx/\B.heap.size<=wx/\wx.heap[w.heap.size]?=V (.cells aaf 26 (0,0))/\hQ w c (mB+(k+1)) wx
          case first=>
           cases nb
           ·go_wp2_with fail
            go_meet
            exact⟨_,g1,P,⟨u,D⟩,⟨z,C⟩,OV.less hyW<|by omega,W,aah,by omega,g0,hw6⟩
           ·have s:=af w6 (Ξ #[l2.length] 3);have hI:=OI.below P s
            go_wp2_with (at_builtin;refine od rfl _ _ rfl B _ _ rfl hI w6.heap.size _ (l2.length:Int) rfl (by simp[go_sem,υ]) (by omega) (by simp;omega) ?_;intro v' w8 H K no;obtain⟨a8,m8,rfl,-⟩:=aF H;have t1:=(K.block bx<|by omega).trans<|(s.block bx<|by omega).trans g1;obtain⟨-,-,-,-,-,s0⟩:=sS t1;have sf:=λi=>cD (i:=i) t1)
            go_meet
            have X:(marked++[(l2.length:Int)]).length=marked.length+1:=by simp
            rw[X]at H;have tT:=K.size;simp at tT;have Q:kE B w8 (w8.setCell (bx,5)<|.slice a8 (marked.length+1) m8):=kE.set aeL;have hHO:∀{l:List (Int×Z8)} {cs:List HC},HO w6 B l cs->HO w8 B l cs:=λh=>⟨h.1,λi k x k' vs e1 e2=>⟨(h.2 i k x k' vs e1 e2).1,fy (OV.below (h.2 i k x k' vs e1 e2).2 s) hI (by decide) no⟩⟩;have aaT:=(s.block gb<|by omega).trans W;have aaT:=(no.block gb (by simp;omega) λe=>eJ hI aaT (by decide) e.symm).trans aaT;have aiJ:gb≠bx:=by omega
            have hk8:wX (w.heap.size+1) bx B (w8.setCell (bx,5)<|.slice a8 (marked.length+1) m8):=λj hb hj hn=>(aa hn).trans<|(K.block j hj).trans<|(s.block j<|by omega).trans<|aah j hb hj hn;have hw8:hQ w c (mB+(k+1)) (w8.setCell (bx,5)<|.slice a8 (marked.length+1) m8):=hw6.upto hc0<|((s.mono<|by omega).trans<|K.mono<|by omega).setCell (p:=((bx,5):ZA)) (by show w.heap.size<=bx;omega) _;have t0':=(K.block w<|by omega).trans<|(s.block w<|by omega).trans g0;exact⟨_,heap_setCell_same (i:=5) t1,dI H Q,⟨dI (fy (OC.below u s) hI (by decide) no) Q,(hHO D).keep Q⟩,⟨dI (fy (OC.below z s) hI (by decide) no) Q,(hHO C).keep Q⟩,dI (fy (OV.below (OV.less hyW<|by omega) s) hI (by decide) no) Q,(aa aiJ).trans aaT,hk8,by simp;omega,(aa<|by omega).trans t0',hw8⟩
          case rest=>
           obtain⟨xm',g1,P,⟨u,D⟩,⟨z,C⟩,hyW,W,aah,Xe,g0,hw6⟩:=hcut;generalize wc=w5 at g1 P u D z C hyW W aah Xe g0 hw6⊢;obtain⟨ax,mx,rfl,-⟩:=aF P;obtain⟨-,r1,-,-,-,-⟩:=sS g1;obtain⟨x0,x1,-,-⟩:=eA W;have s:=af w5<|Ξ #[pk,.slice ay O.length my] 76;have hxk:=z.below s
           go_wp2_with (at_builtin;refine JU rfl _ _ rfl B _ _ rfl hxk w5.heap.size _ (pk,.slice ay O.length my) rfl rfl (by simp[go_sem,υ]) (by have:=hh2.out;omega) (by simp;omega) ?_;intro v' w7 J E Re hn6;obtain⟨a6,m6,rfl,-⟩:=aF J;have t1:=(E.block bx<|by omega).trans<|(s.block bx<|by omega).trans g1;obtain⟨-,s0,-⟩:=sS t1;have sf:=λi=>cD (i:=i) t1)
           have Rf:HO w7 B (l2++[(pk,.slice ay O.length my)]) (old++[(pk,O)]):=((C.snoc hyW).keep<|kE.below s).types hxk Re;have agU:=uW (OC.below u s) hap Re;have agV:=(D.keep<|kE.below s).types hxk Re;have ae3:=fy (OI.below P s) hxk (by decide) Re;have aag:Apart (.slice a1 l1.length n1) (.slice a6 (l2++[(pk,θ ay O.length my)]).length m6):=λg e1 e2=>by
            obtain hn|hn:=hn6
            exact hap g e1<|hn.symm.trans e2;rw[hn]at e2;have:=(u.lt g e1).2;simp at e2;omega
           have X:(l2++[(pk,θ ay O.length my)]).length=l2.length+1:=by simp
           rw[X]at J aag;have hz7:=E.size;simp at hz7;have Q:kE B w7 (w7.setCell (bx,1)<|.slice a6 (l2.length+1) m6):=kE.set aeL;have ae6:wX (w.heap.size+1) bx B (w7.setCell (bx,1)<|.slice a6 (l2.length+1) m6):=λj hb hj hn=>(aa hn).trans<|(E.block j hj).trans<|(s.block j<|by omega).trans<|aah j hb hj hn;have hw7:hQ w c (mB+(k+1)) (w7.setCell (bx,1)<|.slice a6 (l2.length+1) m6):=hw6.upto hc0<|((s.mono<|by omega).trans<|E.mono<|by omega).setCell (p:=((bx,1):ZA)) (by show w.heap.size<=bx;omega) _;have t0':=(E.block w<|by omega).trans<|(s.block w<|by omega).trans g0;have wP:=wO.aeC e2 rfl (χ ek) nb (by dsimp only;rw[<-hVL.out];exact HYC.out);dsimp only at wP;rw[<-hVL.out,<-hh2.out]at wP
           go_roundw
           case rel=>exact⟨k+1,_,_,_,_,_,_,by omega,by go_num,wP,(by cases nb<;>simp<;>omega),⟨ae6,by simp;omega⟩,heap_setCell_same (i:=1) t1,OX.keep ⟨_,agU,agV⟩ Q,OX.keep ⟨_,J,Rf⟩ Q,aag,dI ae3 Q,(aa<|by omega).trans t0',hw7⟩
           case measure=>simp[intOf];omega
     ·obtain⟨l1,u,D⟩:=ho1;obtain⟨a1,n1,rfl,-⟩:=aF u;obtain⟨l2,z,C⟩:=ho2;obtain⟨a2,n2,rfl,-⟩:=aF z;obtain⟨a3,n3,rfl,-⟩:=aF P;obtain⟨⟨d1,-⟩,-⟩:=dT e1;obtain⟨r0,r1,r2,r3,r4,r5⟩:=sS g1;obtain⟨d,f⟩:=JJ g0;have f0:=f 0;have f1:=f 1;have f2:=f 2;have f3:=f 3;have f4:=f 4;have f5:=f 5;have d0':=d 0 (by omega);have d1':=d 1 (by omega);have d2':=d 2 (by omega);have d3':=d 3 (by omega);have d4':=d 4 (by omega);have d5':=d 5 (by omega);clear d f
      go_wp2_with fail
      obtain⟨s1,s2,s3,s4⟩:=kn (v0:=.slice a1 l1.length n1) (v1:=.slice a2 l2.length n2) (v2:=.slice y0 RL.length m0) (v3:=.slice y1 WL.length m1) (v4:=.slice y2 DL.length m2) (v5:=.slice a3 marked.length n3) g0;rw[show(((((wr.setCell w.heap.size<|.slice a1 l1.length n1).setCell (w.heap.size,1)<|.slice a2 l2.length n2).setCell (w.heap.size,2)<|.slice y0 RL.length m0).setCell (w.heap.size,3)<|.slice y1 WL.length m1).setCell (w.heap.size,4)<|.slice y2 DL.length m2).setCell (w.heap.size,5) (.slice a3 marked.length n3)=io wr w (.slice a1 l1.length n1) (.slice a2 l2.length n2) (.slice y0 RL.length m0) (.slice y1 WL.length m1) (.slice y2 DL.length m2) (.slice a3 marked.length n3)from rfl];have hwf:=(hw.upto hc0<|s4 w .refl).more (by omega:mB+k<=m+200000);have kb:kE (w.heap.size+1) wr (io wr w (.slice a1 l1.length n1) (.slice a2 l2.length n2) (.slice y0 RL.length m0) (.slice y1 WL.length m1) (.slice y2 DL.length m2)<|.slice a3 marked.length n3):=λj hb _=>s2 j (by omega);have afh:kE B wr (io wr w (.slice a1 l1.length n1) (.slice a2 l2.length n2) (.slice y0 RL.length m0) (.slice y1 WL.length m1) (.slice y2 DL.length m2)<|.slice a3 marked.length n3):=λj hb _=>s2 j (by omega);have hle:w.heap.size<=B:=by omega
      have hown:Pd _ w (.agg #[.slice a1 l1.length n1,.slice a2 l2.length n2,.slice y0 RL.length m0,.slice y1 WL.length m1,.slice y2 DL.length m2,.slice a3 marked.length n3]) ⟨new,old,RL,WL,DL,marked⟩:=⟨_,_,_,_,_,_,rfl,(OX.keep ⟨l1,u,D⟩ afh).less hle,(OX.keep ⟨l2,z,C⟩ afh).less hle,eV (dI (vX hv0 q1 (by decide) L) kb)<|by omega,eV (dI (vX hv1 q1 (by decide) L) kb)<|by omega,eV (dI (vX hv2 q1 (by decide) L) kb)<|by omega,eV (dI P afh) hle⟩
      generalize io wr w (.slice a1 l1.length n1) (.slice a2 l2.length n2) (.slice y0 RL.length m0) (.slice y1 WL.length m1) (.slice y2 DL.length m2) (.slice a3 marked.length n3)=wf at s1 hwf hown⊢;obtain⟨k0,k1,k2,k3,k4,k5⟩:=sS s1;have hkn':k=n:=by omega
      subst hkn';have hV:=Rp hp hN hM hok hln.out wO;rw[<-hRL.out,<-hWL.out,<-hDL.out]at hV;have hlen':new.length+old.length<=tG:=by have a1:=wO.news;have a2:=wO.bw;have a3:=hln.out;rw[φ (by omega)]at a1 a2;rw[hp.news]at a1;rw[hp.bw]at a2;have:=hp.len;omega
      exact ε (v:=.agg #[.slice a1 l1.length n1,.slice a2 l2.length n2,.slice y0 RL.length m0,.slice y1 WL.length m1,.slice y2 DL.length m2,.slice a3 marked.length n3]) (by simp[ZX,results20,go_sem,k0,k1,k2,k3,k4,k5]) rfl ⟨⟨_,_,rfl,hown,hV,hlen'⟩,hwf⟩
end
section
variable{fr:Nat×Nat}{J:Nat->Prop}{r:Md.RS}{t:TypeId}{x:Z8}{b br:Nat}{w:ι}{B:Nat}{k:Int}
def tV{ty}{m bx:Nat}{a l}(h:RC w B (.slice a l.length m) l)(D:w.heap[bx]?=V (Ξ #[Ω Ψ k,x] t fr))(E:x.oneCell'=ZV)(L:l.length<=1000000):
 ∃b w',(Z4 #[22,22] ty #[.slice a l.length l.length,.slice bx 1 1]).run prog w=.ok b w'/\(OC w' w b (l++[(k,x)])/\I w w w'/\∃g r,b=.slice (g:Nat) (l.length+1) r):=by
 obtain⟨A,hi,i,o,p⟩:=ZM ni;have c:∀j u,(dW (k,x))[j]?=V u->w ((bx:ZA).add j)=V u:=by
  intro j u f
  match j,f with
  |0,f=>cases f;simp[R,D,υ]
  |1,f=>cases f;simp[R,D,υ]
  |j+2,f=>simp[dW]at f
 have y:∀u∈dW (k,x),u.oneCell'=ZV:=by
  intro u C;simp[dW]at C;obtain rfl|rfl:=C
  rfl;exact E
 have fin:∀b w',w'.ownsRow w 76 2 b (l.length+1) (l.flatMap dW++dW (k,x)) ->OC w' w b (l++[(k,x)])/\∃g r,b=.slice (g:Nat) (l.length+1) r:=by
  intro b w' r1;have s:OC w' w b (l++[(k,x)]):=by unfold OC;rw[List.flatMap_append,List.length_append];simpa using r1
  refine⟨s,?_⟩;obtain⟨g,v,e,_⟩:=r1.form (by omega);exact⟨g,v,e⟩
 obtain⟨H,r,e,K,G,F,J⟩:=id h;cases e
 obtain _|ad:=a
 have q:l=[]:=ZU (by have:=F rfl;omega);subst q;obtain⟨b,w',d,r1,r2,_⟩:=run_append_own (P:=prog) w w 22 ty 76 A _ 2 32 mF hi i o p rfl (by decide) (θ Z 0 0) 0 [] (ZH w _ 76 2) bx 1 1 (dW (k,x)) rfl c y (by unfold ZL;omega) (by omega) .refl;obtain⟨q1,z⟩:=fin b w' (by simpa using r1);exact⟨b,w',d,q1,(Δ _ w).grown r2 .refl (λk e=>by cases e),z⟩;obtain⟨b,w',d,r1,r2⟩:=run_append_arg_grows (P:=prog) w 22 ty 76 A _ 2 32 mF hi i o p rfl (by decide) ad l.length l.length (l.flatMap dW) (iu l) (λj u f=>by
  have n:0<l.length:=by
   obtain h0|h0:=Nat.eq_zero_or_pos l.length
   have:=ZU h0;subst this;simp at f;exact h0
  obtain⟨g,m2,e,_,_,_,_,hc⟩:=h.cells n;cases e
  have:=hc j u f;unfold υ;split
  rename_i h0;subst h0;exact this;simpa using this) bx 1 1 (dW (k,x)) rfl c (by omega) (by unfold ZL;omega) (by omega)
 obtain⟨q1,z⟩:=fin b w' r1;exact⟨b,w',d,q1,(Δ _ w).grown r2 .refl (λk e=>by cases e),z⟩
def mJ{ty}{m bx n:Nat}{a l}(f:l.length=n)(h:RC w B (.slice a l.length m) l)(i:w.heap[bx]?=V (Ξ #[Ω Ψ k,x] t fr))(d:x.oneCell'=ZV)(c:l.length<=1000000):
 ∃b w',(Z4 #[22,22] ty #[.slice a n n,.slice bx 1 1]).run prog w=.ok b w'/\(OC w' w b (l++[(k,x)])/\I w w w'/\∃g e,b=.slice (g:Nat) (n+1) e):=by
 subst f;exact tV h i d c
def wQ{row a kind cs c}(h:∀i,i<cs.length->a (kind,(i:Int))=row (kind,(i:Int))):cellsOf a kind (cs++[c])=cellsOf row kind cs++[(c.1,a (kind,(cs.length:Int)))]:=by
 apply List.ext_getElem?;intro i;obtain hi|hi|hi:=ZE i cs.length
 obtain⟨p,q,e⟩:=cQ hi;rw[bH (row:=a) (kind:=kind) (c:=(p,q)) (by rw[κ hi];exact e),κ (by rw[aT];exact hi),bH e,h i hi];subst hi;rw[bH (row:=a) (kind:=kind) (c:=c) (by simp)];simp[aT];rw[ZJ (by rw[aT];simp;omega),ZJ (by simp[aT];omega)]
def cR.Pi{w2 g n o m s row vs}(P:∀j,J j->j<w)(h5:∀j,J j->j≠b/\∀k,IsKey g k->(row k).ownBlock≠V j)(K:B<=b)(hb:w.heap[b]?=V (Ξ #[n,o,row (0,0),row (0,1),row (0,2),m] 114 (0,0)))(L:RC w B o (cellsOf row 4 g.old))(h3:OI w B m g.marked)(h4:kD w B row g)(v:B<=w)(u:I w w w2)(E:OC w2 B s (cellsOf row 3 g.new++[(k,x)]))(G:OV w2 w x vs):
 cR (w2.setCell b s) B b {g with new:=g.new++[(k,vs)]} J/\I B w (w2.setCell b s):=by
 have f:=(u.block b (Θ.1 hb).1).trans hb;have l:∀k,k≠b->(w2.setCell b s).heap[k]?=w2.heap[k]?:=λk h=>aa h;have keep:∀i:Nat,i<g.new.length->(if((3,(i:Int)):HV)=(3,(g.new.length:Int))then x else row (3,(i:Int)))=row (3,(i:Int)):=λi hi=>if_neg λe=>by have:=congrArg Prod.snd e;dsimp only at this;omega
 have hold:∀d,IsKey {g with new:=g.new++[(k,vs)]} d->d≠(3,(g.new.length:Int)) ->IsKey g d/\bd {g with new:=g.new++[(k,vs)]} d=bd g d:=by
  rintro⟨a,c⟩ h z;obtain⟨e1,e2,e3⟩|⟨e1,e2,e3⟩|⟨e1,e2,e3⟩:=h
  dsimp only at e1 e2 e3;subst e1;exact⟨.inl ⟨rfl,e2,e3⟩,by simp[bd]⟩;dsimp only at e1 e2 e3;subst e1;have F:c<g.new.length:=by have:c≠g.new.length:=λe=>z (by rw[e]);simp at e3;omega
  refine⟨.inr<|.inl ⟨rfl,e2,F⟩,?_⟩;simp only[bd,cellAt];have:c.toNat<g.new.length:=by omega
  simp[Z7,κ this];dsimp only at e1 e2 e3;subst e1;exact⟨.inr<|.inr ⟨rfl,e2,e3⟩,by simp[bd,cellAt]⟩
 refine⟨⟨s,o,m,λd=>if d=(3,(g.new.length:Int))then x else row d,K,?_,?_,?_,?_,⟨?_,?_⟩,?_⟩,?_⟩;rw[aB f];simp;dsimp only;rw[wQ (row:=row) (λi hi=>keep i hi),if_pos rfl];exact OC.rc (B:=B)<|hZ E f (by decide) l;have:cellsOf (λd=>if d=(3,(g.new.length:Int))then x else row d) 4 g.old=cellsOf row 4 g.old:=by
  unfold cellsOf;refine List.map_congr_left λy _=>?_;have O:¬((4,(y.2:Int)):HV)=(3,(g.new.length:Int)):=λe=>by have:=congrArg Prod.fst e;simp at this
  simp only[if_neg O]
 dsimp only;rw[this];exact(L.low u).below λC N t=>l C λe=>by subst e;rw[f]at t;cases t
 ·exact hZ (h3.below u) f (by decide) l
 intro d q;dsimp only;by_cases e:d=(3,(g.new.length:Int))
 subst e;rw[if_pos rfl];have:bd {g with new:=g.new++[(k,vs)]} (3,(g.new.length:Int))=vs:=by simp[bd,cellAt,Z7]
 rw[this];exact eV (hZ G f (by decide) l) v;rw[if_neg e];obtain⟨e1,e2⟩:=hold d q e;rw[e2];exact hZ ((h4.1 d e1).below u) f (by decide) l;intro A D e1 e2 r;dsimp only;have wl:∀d,IsKey g d->Apart x (row d):=λd q C a1 Q=>by have:=(G.lt C a1).1;have:=((h4.1 d q).lt C Q).2;omega
 by_cases c1:A=(3,(g.new.length:Int))<;>by_cases c2:D=(3,(g.new.length:Int))
 exact absurd (c1.trans c2.symm) r;rw[if_pos c1,if_neg c2];exact wl _ (hold D e2 c2).1;rw[if_neg c1,if_pos c2];exact Apart.symm<|wl _ (hold A e1 c1).1;rw[if_neg c1,if_neg c2];exact h4.2 A D (hold A e1 c1).1 (hold D e2 c2).1 r;intro j H;refine⟨(h5 j H).1,λd q e=>?_⟩;dsimp only at e;by_cases c1:d=(3,(g.new.length:Int))
 rw[if_pos c1]at e;have:=(G.lt j e).1;have:=P j H;omega;rw[if_neg c1]at e;exact(h5 j H).2 d (hold d q c1).1 e;exact(u.mono v).setCell (p:=⟨b,0,Z⟩) K _
def Aj(k:Nat):Prop:=∀W:ι,OV (W.alloc<|.cells (madeCells #[Ω Ψ 0,Ω Ψ 0]<|k*2) 50) W (.slice W.heap.size k k) (μ k (0,0))
def Jy:Aj 1:=λW=>⟨rfl,.inr ⟨W.heap.size,1,_,rfl,.refl,ω _ _,.refl,by unfold ZL;omega,by kernel_rfl,by kernel_rfl⟩⟩
def bD.more(h:bD w B br b r J):bD w B br b r (λj=>J j\/w.heap.size<=j):=by
 obtain⟨l,i,⟨n,o,m,row,p,hb,g,f,q,c,g5⟩,h3⟩:=h;refine⟨l,i,⟨n,o,m,row,p,hb,g,f,q,c,λj a=>?_⟩,λj a=>?_⟩;obtain a|a:=a
 ·exact g5 j a
 refine⟨λe=>?_,λk d e=>?_⟩
 ·grind
 have:=((c.1 k d).lt j e).2;omega
 grind
def bD.sub{J'}(h:bD w B br b r J)(hs:∀j,J' j->J j):bD w B br b r J':=by obtain⟨g,f,⟨n,o,m,row,i,hb,e,d,k,c,g5⟩,h3⟩:=h;exact⟨g,f,⟨n,o,m,row,i,hb,e,d,k,c,λj a=>g5 j<|hs j a⟩,λj a=>h3 j<|hs j a⟩
def bD.ne(h:bD w B br b r J):¬br=b:=λe=>by
 obtain⟨_,a,h3,_⟩:=h;obtain⟨_,_,c,hc⟩:=h3.own.obj
 grind
def bD.free{w' j c}(h:bD w B br b r J)(s:J j)(hc:w.heap[j]?=V (.cells c t fr))(p:t≠76/\t≠3)(d:∀k,k≠j->w'.heap[k]?=w.heap[k]?):bD w' B br b r J:=by
 obtain⟨A,y,⟨n,o,m,row,D,hb,C,z,E,x,g5⟩,h3⟩:=h;have v:∀{k:Nat} {u:Array Z8} {l:TypeId} {f:Nat×Nat},w.heap[k]?=V (.cells u l f) ->t≠l->w'.heap[k]?=w.heap[k]?:=λ{k u l f} a F=>d k λe=>by grind
 exact⟨A,(d br<|Ne.symm<|h3 j s).trans y,⟨n,o,m,row,D,(d b<|Ne.symm (g5 j s).1).trans hb,C.below λg q i=>v i p.1,z.below λg q i=>v i p.1,hZ E hc p.2 d,⟨λk a=>aS (x.1 k a) λg i=>d g λe=>(g5 j s).2 k a<|by grind,x.2⟩,g5⟩,h3⟩
def bD.Pi{w w2 B q b r J x k vs}(h:bD w B q b r J)(E:∀j,J j->j<w)(s:B<=w)(u:I w w w2)(F:OV w2 w x vs):
 ∃a m row,w b=V (.slice a r.g.new.length m)/\r.g.new.length<=m/\RC w B (.slice a (cellsOf row 3 r.g.new).length m) (cellsOf row 3 r.g.new)/\(cellsOf row 3 r.g.new).length=r.g.new.length/\
  ∀d f,I w2 w2 d->OC d B f (cellsOf row 3 r.g.new++[(k,x)]) ->bD (d.setCell b f) B q b {r with g:={r.g with new:=r.g.new++[(k,vs)]}} J/\I B w (d.setCell b f)/\tc J w (d.setCell b f):=by
 have p:=h.ne;obtain⟨A,t,⟨n,o,m,row,K,hb,y,z,N,C,g5⟩,h3⟩:=h;obtain⟨a,G,e,v,O,Q,P⟩:=id y;refine⟨a,G,row,?_,?_,e▸y,aT _ _ _,λd f i l=>?_⟩;rw[aT]at e;rw[<-e];simp[R,hb];rw[aT]at v;exact v;have c:=u.trans<|i.mono u.size;obtain⟨q1,L⟩:=cR.Pi E g5 K hb z N C s c l<|F.below i;refine⟨⟨A,?_,q1,h3⟩,L,λj H D=>?_⟩;rw[aa p,c.block q (Θ.1 t).1];exact t;rw[aa (g5 j H).1,c.block j D]
def afi(w B N b k r r')(hr:bD w B N b r J)(hB:B<=w)(hJ:∀j,J j->j<w)(hm:Roomy r r')(hz:Aj k)(hk:k<=1000)(hl:r'.g.new.length<=1000):
 Y prog 202 #[.pointer N,Ω Ψ 0,Ω Ψ (k:Int),θ Z 0 0] w λe w'=>e=.returned (.agg #[Ω Ψ 3,Ω Ψ (r'.g.new.length:Int)])/\bD w' B N b {r' with g:={r'.g with new:=r'.g.new++[(0,μ k (0,0))]}} J/\I B w w'/\tc J w w':=by
 have HM:=U hm;have hb1:=af w<|Ξ #[Ω Ψ 0,Ω Ψ 0] 50;have HR:=U<|(hr.more.below hb1).sub (J':=λj=>J j\/j=w) λj z=>z.imp id λe=>by omega
 have HZ:=U hz;have O:=U hb1;clear hr hm hz;have hmk:=λW=>BC k k .refl (by omega) W
 go_enter (fU func202 rfl),ntmps202
 go_wp2_with fail
 refine wp_loop_rounds 1 ?_;rw[rounds_succ]
 go_wp2_with fail
 refine(WD _ B N b r r' HR.out (by simp;omega) HM.out).mono ?_;rintro e F ⟨rfl,X,hb2,q⟩;have s:=U X;have y2:=(q w (.inr rfl)<|by simp).trans<|ω w _;have HB2:=U<|Γ hb2 q;have HY2:=U y2;clear X hb2 q y2
 go_wp2_with fail
 refine wp_loop_rounds 1 ?_;rw[rounds_succ];have f:=af F<|.cells (madeCells #[Ω Ψ 0,Ω Ψ 0]<|k*2) 50;have hsz:w.heap.size<F:=by have:=(Θ.1 HY2.out).1;exact this
 have hJ2:∀j,(J j\/j=w) ->j<F:=by
  intro j z;obtain h|h:=z
  have:=hJ j h;omega;omega
 obtain⟨a,m,row,L,hlm,hrc,P,C⟩:=s.out.Pi (x:=.slice F.heap.size k k) (k:=0) (vs:=μ k (0,0)) hJ2 (by omega) f<|HZ.out F;obtain⟨c0,_,hbr⟩:=s.out.ptr;have H:=az L;have S:=cG f c0 hbr;have e1:=cG f L H;have ef:=f.frozen (p:=⟨b,0,Z⟩) H;have ef0:F.frozen? b=Z0:=by obtain⟨_,_,c,hc⟩:=s.out.2.2.1.own.obj;exact cD hc
 rw[ef0]at ef;have y:=hrc.low f;have E:=ο hbr f.size;have t:=ο H f.size;have HA:=U C;have HC3:=U y;have hll:(cellsOf row 3 r'.g.new).length<=1000000:=by omega
 have HL:=U P;have hne:=s.out.ne;rw[P]at y;generalize hw3:(F.alloc<|.cells (madeCells #[Ω Ψ 0,Ω Ψ 0]<|k*2) 50)=A at f HA S e1 ef HC3 E t⊢;clear hw3 C L c0 hrc y ef0 P;have hl0:(0:Int)<=(r'.g.new.length:Int):=by omega
 have hl1:(r'.g.new.length:Int)<=(m:Int):=by omega
 clear hmk
 go_wp2_with fail
 have hnr:¬b=N:=λe=>hne e.symm;refine Rg.wp_cut (n:=34) (λx=>x N=V (.pointer b)/\x b=V (.slice a r'.g.new.length m)) (by kernel_rfl) (by kernel_rfl) (λc a d v w h=>by cases d<;>exact h) ⟨S,e1⟩ ?_;simp only[List.take_succ_cons,List.take_zero,List.drop_succ_cons,List.drop_zero]
 iterate 34
  (refine Rg.fp.step (v:=?_) (by rfl) (λu hu=>?_) ?_
   rotate_left
   (obtain⟨hu0,hu1⟩:=hu
    go_simp;rfl))
 refine Rg.fp.nil ?_;simp only[Act.put,List.setIfInBounds_toArray,List.set_cons_zero,List.set_cons_succ];refine wpOp_step rfl λK hK=>?_;go_simp;refine hK _ _ ⟨⟨dB<|dO S,dB<|dO e1⟩,?_⟩;clear hK K;refine wpOp_step rfl λK hK=>?_;refine aX rfl _ _ 22 (by rfl) (.slice a r'.g.new.length r'.g.new.length) (.slice A.heap.size 1 1) (by rfl) (by rfl) _ (mJ (k:=0) (x:=.slice F.heap.size k k) HL.out (HC3.out.low<|by first|exact(af A _).drew|exact(af A _)|exact((Δ _ A).drew.alloc .refl _)|exact((Δ _ A).drew.alloc .refl _).drew) (ω A _) (by rfl) hll) ?_;intro v' w4 h2;obtain⟨hoc,o,gg,mg,rfl⟩:=h2;have l:=Below.trans (by first|exact(af A _).drew|exact(af A _)|exact((Δ _ A).drew.alloc .refl _)|exact((Δ _ A).drew.alloc .refl _).drew)<|o.mono<|by simp
 have gc:=cG l e1 t;have gr:=cG l S E;have gf:=(l.frozen (p:=⟨b,0,Z⟩) t).trans ef;refine hK _ _ ⟨⟨gr,gc⟩,?_⟩;clear hK K;obtain⟨p1,T,Q⟩:=HA.out w4 _ l<|hoc.less (by have:=f.size;simp;omega);have HP:=U<|Γ p1<|Γ T Q;have o:¬b=w:=λe=>(s.out.2.2.1.ne<|.inr rfl) e.symm;have y4:=(l.block w (by have:=f.size;omega)).trans<|(f.block w hsz).trans HY2.out;have HY4:=U y4;have z0:(w4.setCell b<|.slice gg (r'.g.new.length+1) mg) w.heap.size=V (Ω Ψ 0):=da o (by simp[R,y4]);have z1:(w4.setCell b<|.slice gg (r'.g.new.length+1) mg) (w.heap.size,1)=V (Ω Ψ 0):=da o (by simp[R,y4]);have y5:=(aa (w:=w4) (i:=0) (v:=.slice gg (r'.g.new.length+1) mg)<|Ne.symm o).trans y4;have zf0:=cD (i:=0) y5;have zf1:=cD (i:=1) y5;have zr:(w4.setCell b<|.slice gg (r'.g.new.length+1) mg) N=V (.pointer b):=da hnr gr;have hw1:IntKind.i64.wrap ((r'.g.new.length:Int)+1-1)=(r'.g.new.length:Int):=by rw[show((r'.g.new.length:Int)+1-1)=(r'.g.new.length:Int) by omega];exact wrap_small _ (by omega) (by omega)
 have HY5:=U y5;clear p1 T Q hoc o S e1 ef y4 y5
 go_wp2_with fail
 obtain⟨p1,T,Q⟩:=HP.out;have G:=HY5.out;clear z0 z1 zf0 zf1 zr;generalize (w4.setCell b<|.slice gg (r'.g.new.length+1) mg)=w5 at p1 T Q G⊢;have y6:=aB (aB G 0<|Ω Ψ 3) 1<|Ω Ψ (r'.g.new.length:Int);have D:=(p1.free (w':=(w5.setCell w.heap.size<|Ω Ψ 3).setCell (w.heap.size,1)<|Ω Ψ (r'.g.new.length:Int)) (.inr rfl) G (by decide) λk hk=>cr hk).sub (J':=J) λj z=>.inl z;have hbf:I B w ((w5.setCell w.heap.size<|Ω Ψ 3).setCell (w.heap.size,1)<|Ω Ψ (r'.g.new.length:Int)):=((((O.out.mono hB).trans HB2.out.1).trans T).setCell (p:=⟨w.heap.size,0,Z⟩) hB _).setCell (p:=⟨w.heap.size,1,Z⟩) hB _;have hfj:tc J w ((w5.setCell w.heap.size<|Ω Ψ 3).setCell (w.heap.size,1)<|Ω Ψ (r'.g.new.length:Int)):=λj z hl=>(cr (by have:=hJ j z;omega)).trans<|(Q j (.inl z) (by have:=hJ j z;omega)).trans<|(HB2.out.2 j (.inl z)<|ο hl O.out.size).trans<|O.out.block j hl;generalize (w5.setCell w.heap.size<|Ω Ψ 3).setCell (w.heap.size,1) (Ω Ψ (r'.g.new.length:Int))=w6 at y6 D hbf hfj⊢;refine ε (v:=.agg #[Ω Ψ 3,Ω Ψ (r'.g.new.length:Int)]) (by simp[ZX,results202,go_sem,R,y6]) rfl ⟨rfl,D,hbf,hfj⟩
end
section
variable{J:Nat->Prop}
def fZ{w:ι}{b:Nat}{t v0 v1 v2 v3}(h:w.heap[b]?=V (Ξ #[v0,v1,v2,v3] t (0,0))):w b=V v0/\w (b,1)=V v1/\w (b,2)=V v2/\w (b,3)=V v3:=by refine⟨?_,?_,?_,?_⟩<;>simp[R,h]
def Jz(r:Md.RS)(k:Nat):Md.RS:={r with g:={r.g with new:=r.g.new++[(0,μ k (0,0))]}}
def bD.one{w B a b r}(h:bD w B a b r J)(o):bD (w.alloc o) B a b r (λj=>J j\/j=w):=(h.more.below<|af w o).sub (λj c=>c.imp id λe=>by omega)
def JA(w)(B u b c k:Nat)(r r' p q)(hr:bD w B u b r J)(hB:B<=w)(hJ:∀j,J j->j<w)(ht:r.g.roots[c]?=V (p,q))(hrl:r.g.roots.length<=1000)(hm:Roomy r r')(hz:Aj k)(hk:k<=4)(W:r'.g.new.length<=1000)(S:c<r'.g.roots.length):
 Y prog 153 #[.pointer u,.agg #[Ω Ψ 0,c,k,Ω Ψ 0]] w λe w'=>e=.returned (.tuple #[])/\bD w' B u b (Md.el (Jz r' k) c (3,(r'.g.new.length:Int))) J/\I B w w'/\tc J w w':=by
 have HM:=U hm;have HZ:=U hz;have f:=af w<|Ξ #[Ω Ψ 0,c,k,Ω Ψ 0] 44;have HR:=U<|hr.one<|Ξ #[Ω Ψ 0,c,k,Ω Ψ 0] 44;have F:=U f;clear hr hm hz;have hk0:¬((k:Int)<0):=by omega
 have hk4:¬(4<(k:Int)):=by omega
 go_enter (fU func153 rfl),ntmps153
 go_wp2_with fail
 ((with_reducible refine(cd _ _).mono ?_))
 rintro e w1 ⟨rfl,l⟩;have N:w1.heap[w.heap.size]?=V (Ξ #[Ω Ψ 0,c,k,Ω Ψ 0] 44 (0,0)):=by rw[l];exact ω w _
 rw[<-l]at HR F f;have E:w1.heap.size=w.heap.size+1:=by rw[l];simp
 clear l;obtain⟨c0,c1,c2,c3⟩:=fZ N
 go_wp2_with fail
 refine(sQ _ B u b r c p q HR.out ht<|by omega).mono ?_;rintro e w2 ⟨rfl,a⟩;have H:=(a.block w<|by omega).trans N;have C:=U<|HR.out.below a;have m:=U<|f.trans<|a.mono f.size;have d:w.heap.size<w2:=by have:=a.size;omega
 clear N HR c0 c1 c2 c3 f a F E;obtain⟨c0,c1,c2,c3⟩:=fZ H
 go_wp2_with fail
 rw[show(decide ((k:Int)<0)||decide (4<(k:Int)))=Z0 by simp;omega]
 ((with_reducible refine(cd _ _).mono ?_))
 rintro e w3 ⟨rfl,z⟩;rw[<-z]at C m H c0 c1 c2 c3 d;clear z
 go_wp2_with fail
 have o:∀j,(J j\/j=w) ->j<w3:=by
  intro j i;obtain h|h:=i
  have:=hJ j h;omega;omega
 have hne1:((0:Int)==0)=ZV:=rfl
 go_region_held3 (λx=>x (w.heap.size,1)=V (Ω Ψ (c:Int))/\x (w.heap.size,2)=V (Ω Ψ (k:Int))) ((refine⟨?_,?_⟩<;>(repeat (first|with_reducible assumption|with_reducible refine dO ?_))))
  (first
    |(go_at_call 202;(with_reducible refine(afi _ B u b k r r' (C.out.below (Δ _ _).drew) (by simp;omega) (λj i=>by have:=o j i;simpa using this) HM.out HZ.out (by omega) W).mono ?_);rintro e w4 ⟨rfl,v,G,s⟩;have y4:=(s w (.inr rfl) d).trans H;have HR4:=U v;have t:=U G;have A:=U s;obtain⟨d0,d1,d2,d3⟩:=fZ y4;clear v G s y4)
    |(go_at_call 201;(with_reducible refine(afB _ B u b _ c 3 (r'.g.new.length:Int) HR4.out S (by have:=t.out.size;simp at this;omega)).mono ?_);rintro e w5 ⟨rfl,y,D,n⟩;have y5:=(n w (.inr rfl) (az d0)).trans ((A.out w (.inr rfl) d).trans H:_=V (Ξ #[Ω Ψ 0,c,k,Ω Ψ 0] 44 (0,0)));have P:=U y;have O:=U D;have X:=U n;obtain⟨g0,g1,g2,g3⟩:=fZ y5;clear y D n y5))
 have Q:=t.out.size;have hs2:=m.out.size;have K:=P.out.sub λj i=>.inl i;have L:=(((m.out.mono hB).trans<|(Δ B w3).drew).trans t.out).trans O.out;have T:tc J w w5:=λj i W=>(X.out j (.inl i) (by have:=o j<|.inl i;simp at Q;omega)).trans<|(A.out j (.inl i) (by have:=o j<|.inl i;simpa using this)).trans<|m.out.block j W;go_end0;exact⟨rfl,K,L,T⟩
def E'(w B m b n r g' p q)(v:Nat)(N:bD w B m b r J)(W:B<=w)(Q:∀j,J j->j<w)(O:r.g.roots[v]?=V (p,q))(P:r.g.roots.length<=1000)(x:Jn r.g)(K:im (Md.iF r.g))(h:Md.collect .major r.g=V (n,g'))(T:0<=r.fk/\r.fk<=1000)(D:0<=r.dA/\r.dA<=100000)(S:n<=1000):
 Y prog 153 #[.pointer m,.agg #[Ω Ψ 10,v,Ω Ψ 0,Ω Ψ 0]] w λe w'=>e=.returned (.tuple #[])/\bD w' B m b (Md.counted r .major n g') J/\I B w w'/\tc J w w':=by
 have a:=af w<|Ξ #[Ω Ψ 10,v,Ω Ψ 0,Ω Ψ 0] 44;have HR:=U<|N.below a;have u:=U a;have F:=U<|Γ x<|Γ K h;clear N x K h
 go_enter (fU func153 rfl),ntmps153
 go_wp2_with fail
 ((with_reducible refine(cd _ _).mono ?_))
 rintro e H ⟨rfl,d⟩;have A:H.heap[w.heap.size]?=V (Ξ #[Ω Ψ 10,v,Ω Ψ 0,Ω Ψ 0] 44 (0,0)):=by rw[d];exact ω w _
 rw[<-d]at HR u a;have t:H.heap.size=w.heap.size+1:=by rw[d];simp
 clear d;obtain⟨c0,c1,c2,c3⟩:=fZ A
 go_wp2_with fail
 refine(sQ _ B m b r v p q HR.out O<|by omega).mono ?_;rintro e w2 ⟨rfl,f⟩;have X:=(f.block w<|by omega).trans A;have C:=U<|HR.out.below f;have c:=U<|a.trans<|f.mono a.size;clear A HR c0 c1 c2 c3 a f u t;obtain⟨c0,c1,c2,c3⟩:=fZ X
 go_wp2_with fail
 refine(wN _ B m b n r g' (λj G=>by have:=Q j G;have:=c.out.size;omega) F.out.1 F.out.2.1 C.out (by have:=c.out.size;omega) F.out.2.2 T D S).mono ?_;rintro e w3 ⟨rfl,y,z,k⟩;have o:=U y;have l:=U z;have s:=U k;clear y z k
 go_wp2_with fail
 ((with_reducible refine(cd _ _).mono ?_))
 rintro e w4 ⟨rfl,i⟩;rw[<-i]at o l s;clear i
 go_wp2_with fail
 have E:tc J w w4:=λj G L=>(s.out j G<|ο L c.out.size).trans<|c.out.block j L;go_end0;exact⟨rfl,o.out,(c.out.mono W).trans l.out,E⟩
end
section
variable{B i:Nat}(w:ι){vs:List HV}{k:Int}{J:Nat->Prop}
def RC.at_{w v row kind cs}(h:RC w B v (cellsOf row kind cs))(f:OV w B (row (kind,(i:Int))) vs)(e:cs[i]?=V (k,vs)):
 ∃d m a b,v=.slice (d:Nat) cs.length m/\w ((d:Nat),i*2)=V (Ω Ψ k)/\row (kind,(i:Int))=.slice a vs.length b/\w ((d:Nat),i*2+1)=V (.slice a vs.length b):=by
 have hi:=(ξ.1 e).1;obtain⟨g,m,rfl,_,l,_,_,j⟩:=h.cells (by rw[aT];omega);obtain⟨e1,e2⟩:=jx dW (λv=>Ω Ψ v.1) (λv=>v.2) (λ_=>rfl) _ i _<|bH (kind:=kind) e;obtain⟨a,b,c,_⟩:=aF f;refine⟨g,m,a,b,by rw[aT],j _ _ e1,c,?_⟩
 grind
def dm.WM{w b g}(h:dm w B b g)(e:g.new[i]?=V (k,vs)):
 ∃c m a d,w b=V (.slice (c:Nat) g.new.length m)/\w ((c:Nat),i*2)=V (Ω Ψ k)/\w ((c:Nat),i*2+1)=V (.slice a vs.length d):=by
 obtain⟨n,o,m,row,r,hb,l,q,h3,h4⟩:=h;obtain⟨f,j⟩:=J8 e;have:=h4.1 _ f;rw[j]at this;obtain⟨c,p,a,d,rfl,r1,_,r2⟩:=l.at_ this e;exact⟨c,p,a,d,by simp[R,hb],r1,r2⟩
def dm.JB{w b g}(h:dm w B b g)(e:g.old[i]?=V (k,vs)):
 ∃c m a d,w (b,1)=V (.slice (c:Nat) g.old.length m)/\w ((c:Nat),i*2)=V (Ω Ψ k)/\w ((c:Nat),i*2+1)=V (.slice a vs.length d):=by
 obtain⟨n,o,m,row,r,hb,q,l,h3,h4⟩:=h;obtain⟨f,j⟩:=B1 e;have:=h4.1 _ f;rw[j]at this;obtain⟨c,p,a,d,rfl,r1,_,r2⟩:=l.at_ this e;exact⟨c,p,a,d,by simp[R,hb],r1,r2⟩
def aai{K:Int}{s}(h:K=3/\s=0\/K=4/\s=1)(w)(b a len m k:Nat)(hc:w (b,s)=V (.slice a len m))(d:k<len)(c:len<=1000000):
 Y prog 199 #[.pointer b,.agg #[K,k]] w λe w'=>e=.returned (.pointer (a,k*2))/\I w w w':=by
 obtain⟨rfl,rfl⟩|⟨rfl,rfl⟩:=h
 exact zD w b a len m k hc d c;exact ol w b a len m k hc d c
def aaj(B A b i r k)(vs:List HV)(hr:bD w B A b r J)(K:Int)(s)(cs:List HC)(S:K=3/\s=0\/K=4/\s=1)(e:∃f m a L,w (b,s)=V (.slice (f:Nat) cs.length m)/\w ((f:Nat),i*2)=V (Ω Ψ k)/\w ((f:Nat),i*2+1)=V (.slice a vs.length L))(H:i<cs.length)(hk:0<=k/\k<=1000)(hv:vs.length<=1000)(hl:cs.length<=1000):
 Y prog 154 #[.pointer A,.agg #[K,i]] w λe w'=>e=.returned (.agg #[Ω Ψ 1,Ω Ψ<|10*k+vs.length])/\I w w w':=by
 obtain⟨f,m,a,L,c0,c1,c2⟩:=e;obtain⟨p0,_,E⟩:=hr.ptr;have G:=az c0;have n:=az c1;have hw1:IntKind.i64.wrap (10*k)=10*k:=wrap_small _ (by omega) (by omega);have hw2:IntKind.i64.wrap (10*k+(vs.length:Int))=10*k+(vs.length:Int):=wrap_small _ (by omega) (by omega);obtain⟨Q,h,F⟩:=Ju w (Ξ #[K,i] 50)<|Ξ #[Ω Ψ 0,Ω Ψ 0] 50;have X:((w.alloc<|Ξ #[K,i] 50).alloc<|Ξ #[Ω Ψ 0,Ω Ψ 0] 50).heap[w.heap.size]?=V (Ξ #[K,i] 50 (0,0)):=((af _ _).block _<|by simp).trans<|ω w _
 go_enter (fU func154 rfl),ntmps154
 go_wp2_with fail
 refine(jX _ K (i:Int) (by obtain⟨rfl,rfl⟩|⟨rfl,rfl⟩:=S<;>rfl)).mono ?_;rintro e o ⟨rfl,d⟩;have z:=d.size;have c:=U<|h.trans<|d.mono h.size;have t:=(d.block w<|by omega).trans X;have x1:=(d.block (w.heap.size+1)<|by omega).trans Q;have u:=cG c.out p0 E;have q1:=cG c.out c0 G;have q:=cG c.out c1 n;have T:=cG c.out c2 n;have C:o w.heap.size=V (Ω Ψ K):=by simp[R,t]
 have O:o (w.heap.size,1)=V (Ω Ψ (i:Int)):=by simp[R,t]
 have D:w.heap.size+1<o:=by omega
 have HX:=U x1;clear X Q h F c0 c1 c2 p0 d t x1 z
 go_wp2_with fail
 go_region_held3 (λx=>x A=V (.pointer b)/\x w.heap.size=V (Ω Ψ K)/\x (w.heap.size,1)=V (Ω Ψ (i:Int))) ((refine⟨?_,?_,?_⟩<;>(repeat (first|with_reducible assumption|with_reducible refine dO ?_))))
  ((go_at_call 199;(with_reducible refine(aai S _ b f cs.length m i (((Δ _ _).drew.cell (p:=⟨b,s,Z⟩)<|az q1).trans q1) H<|by omega).mono ?_);rintro e w4 ⟨rfl,l⟩;have g:I o o w4:=(Δ _ _).drew.trans l;have k0:=cG g u<|az u;have k1:=cG g C<|az C;have k2:=cG g O<|az O))
 have k3:=cG g q<|az q;have k4:=cG g T<|az q;have x4:=(g.block (w.heap.size+1) D).trans HX.out;have m0:w4 (w.heap.size+1:Nat)=V (Ω Ψ 0):=by simp[R,x4]
 have m1:w4 (w.heap.size+1,1)=V (Ω Ψ 0):=by simp[R,x4]
 have f0:=cD (i:=0) x4;have f1:=cD (i:=1) x4;have y:¬w.heap.size+1=f:=by omega
 have P:=U x4;have N:=U<|c.out.trans<|g.mono c.out.size;clear x4 g u q1 q T C O k0 k1 k2 l
 go_wp2_with fail
 go_region_held3 (λx=>x ((f:Nat),i*2)=V (Ω Ψ k)/\x ((f:Nat),i*2+1)=V (.slice a vs.length L)) ((refine⟨?_,?_⟩<;>(repeat (first|with_reducible assumption|with_reducible refine dO ?_|with_reducible refine da y ?_)))) (fail)
 go_wp2_with fail
 have W:((w4.setCell (w.heap.size+1:Nat)<|Ω Ψ 1).setCell (w.heap.size+1,1)<|Ω Ψ<|10*k+(vs.length:Int)).drew.heap[w.heap.size+1]?=_:=aB (aB P.out 0<|Ω Ψ 1) 1<|Ω Ψ<|10*k+(vs.length:Int);have j:I w w ((w4.setCell (w.heap.size+1:Nat)<|Ω Ψ 1).setCell (w.heap.size+1,1)<|Ω Ψ<|10*k+(vs.length:Int)).drew:=((N.out.setCell (p:=⟨w.heap.size+1,0,Z⟩) (by simp)<|Ω Ψ 1).setCell (p:=⟨w.heap.size+1,1,Z⟩) (by simp)<|Ω Ψ<|10*k+(vs.length:Int)).drew;generalize ((w4.setCell (w.heap.size+1:Nat)<|Ω Ψ 1).setCell (w.heap.size+1,1)<|Ω Ψ<|10*k+(vs.length:Int)).drew=w5 at W j⊢;refine ε (v:=.agg #[Ω Ψ 1,Ω Ψ<|10*k+vs.length]) (by simp[ZX,results154,go_sem,R,W]) rfl ⟨rfl,j⟩
def Fa(B a b i:Nat)(r k vs)(c:bD w B a b r J)(e:r.g.new[i]?=V (k,vs))(d:0<=k/\k<=1000)(f:vs.length<=1000)(h:r.g.new.length<=1000):
 Y prog 154 #[.pointer a,.agg #[Ω Ψ 3,i]] w λe w'=>e=.returned (.agg #[Ω Ψ 1,Ω Ψ<|10*k+vs.length])/\I w w w':=
 aaj w B a b i r k vs c 3 0 r.g.new (.inl ⟨rfl,rfl⟩) (c.2.2.1.own.WM e) (ξ.1 e).1 d f h
def ve(B a b i:Nat)(r k vs)(c:bD w B a b r J)(e:r.g.old[i]?=V (k,vs))(d:0<=k/\k<=1000)(f:vs.length<=1000)(h:r.g.old.length<=1000):
 Y prog 154 #[.pointer a,.agg #[Ω Ψ 4,i]] w λe w'=>e=.returned (.agg #[Ω Ψ 1,Ω Ψ<|10*k+vs.length])/\I w w w':=
 aaj w B a b i r k vs c 4 1 r.g.old (.inr ⟨rfl,rfl⟩) (c.2.2.1.own.JB e) (ξ.1 e).1 d f h
end
def nr{w ty}{B bx:Nat}{v l}{p q:Int}{t fr}(h:OV w B v l)(k:w.heap[bx]?=V (Ξ #[p,q] t fr))(x:l.length<=1000000)(o:B<=w):
 ∃c w',(Z4 #[23,23] ty #[v,.slice bx 1 1]).run prog w=.ok c w'/\(OV w' B c (l++[(p,q)])/\w.grownBy w' v.ownBlock/\∃g r,c=.slice (g:Nat) (l.length+1) r/\(v.ownBlock=V g\/g=w)):=by
 obtain⟨m,hi,d,e,b⟩:=ZM nh;obtain⟨g,n,w',f,y,s,h3,h4⟩:=run_append_lies (P:=prog) w 23 ty B 50 m _ 2 16 lx hi d e b rfl (by decide) v l.length _ h bx 1 1 (lU (p,q)) rfl (λj u a=>by
  match j,a with
  |0,a=>cases a;simp[R,k,υ]
  |1,a=>cases a;simp[R,k,υ]
  |j+2,a=>simp[lU]at a) (λu i=>by
  simp[lU]at i;obtain rfl|rfl:=i<;>rfl) (by omega) (by unfold ZL;omega) (by omega) o _ rfl
 unfold OV
 grind
def bD.grown{w w' B x b r J row}(h:bD w B x b r J)(f:w.grownBy w' row)(y:∀j,row=V j->J j/\∃d,w.heap[j]?=V (.cells d 50 (0,0))):bD w' B x b r J:=by
 obtain⟨A,u,⟨n,o,m,q,D,hb,C,z,t,s,g5⟩,h3⟩:=h;have l:∀{k:Nat} {v:Array Z8} {p:TypeId} {i:Nat×Nat},w.heap[k]?=V (.cells v p i) ->p≠50->w'.heap[k]?=w.heap[k]?:=λ{k v p i} a E=>f.block k (Θ.1 a).1 λe=>by grind
 refine⟨A,(l u<|by decide).trans u,⟨n,o,m,q,D,(l hb<|by decide).trans hb,C.below λg d f=>l f<|by decide,z.below λg d f=>l f<|by decide,aS t λg c=>?_,⟨λk a=>aS (s.1 k a) λg c=>f.block g ((s.1 k a).lt g c).2 λe=>(g5 g (y g e.symm).1).2 k a c,s.2⟩,g5⟩,h3⟩;exact f.block g (t.lt g c).2 λe=>by obtain⟨_,d,hc⟩:=y g e.symm;exact cF t hc (by decide) c
def bD.JC{w}{B k b n:Nat}{r J p q}(h:bD w B k b r J)(f:r.g.roots[n]?=V (p,q)):
 ∃gr m,w (b,2)=V (.slice (gr:Nat) r.g.roots.length m)/\w ((gr:Nat),n*2)=V (Ω Ψ p)/\w ((gr:Nat),n*2+1)=V (Ω Ψ q)/\∀j,J j->j≠gr:=by
 obtain⟨_,_,⟨y,o,m,row,D,hb,C,A,h3,h4,h5⟩,_⟩:=h;have z:=(ξ.1 f).1;have h0:=h4.roots.1;obtain⟨a,u,d,v,t,x⟩:=aF h0;obtain⟨gr,rfl,_,_,c,_⟩:=x (by omega);rw[d]at h0;obtain⟨l,i,_⟩:=h0.at_ f;exact⟨gr,u,by simp[R,hb,d],l,i,λj s e=>(h5 j s).2 (0,0) (.inl ⟨rfl,by decide,by decide⟩) (by rw[d,e];rw[d]at c;exact c)⟩
abbrev C4:=Int×Nat×Int×Int
def c4V(c:C4):Z8:=.agg #[Ω Ψ c.1,(c.2.1:Int),Ω Ψ c.2.2.1,Ω Ψ c.2.2.2]
def JD(w:ι)(P:Nat->Prop)(v:Z8)(l:List C4):Prop:=∃a m,v=.slice a l.length m/\(0<l.length->∃b o,a=V ⟨b,o,Z⟩/\P b/\∀i c,l[i]?=V c->w ((b:Nat),o+i*4)=V (Ω Ψ c.1)/\w ((b:Nat),o+i*4+1)=V (Ω Ψ (c.2.1:Int))/\w ((b:Nat),o+i*4+2)=V (Ω Ψ c.2.2.1)/\w ((b:Nat),o+i*4+3)=V (Ω Ψ c.2.2.2))
def Rq(w:ι)(J:Nat->Prop):Prop:=∀j,J j->∀c t fr,w.heap[j]?=V (.cells c t fr) ->t≠3
structure Step(B br b:Nat)(r r':Md.RS)(c:C4)(s:HV):Prop where
 OU:∀w J,bD w B br b r J->B<=w->(∀j,J j->j<w) ->Rq w J->Y prog 153 #[.pointer br,c4V c] w λe w'=>e=.returned (.tuple #[])/\bD w' B br b r' J/\I B w w'/\tc J w w'
 root:∃p q,r'.g.roots[c.2.1]?=V (p,q)/\∀w J,bD w B br b r' J->Y prog 154 #[.pointer br,.agg #[Ω Ψ p,Ω Ψ q]] w λe w'=>e=.returned (.agg #[Ω Ψ s.1,Ω Ψ s.2])/\I w w w'
 wW:r'.g.roots.length<=1000
def afF{l:List C4}{k}(h:k<l.length):∃c,l[k]?=V c:=by simp_all
def JE(w B r b v cs)(G:Nat->Md.RS)(sv){J}(hv:JD w (λj=>j<B\/J j) v cs)(hr:bD w B r b (G 0) J)(hB:B<=w)(hJ:∀j,J j->j<w)(hJ3:Rq w J)(hl:cs.length<=1000)(hsl:sv.length=cs.length)(hst:∀i c s,cs[i]?=V c->sv[i]?=V s->Step B r b (G i) (G<|i+1) c s):
 Y prog 94 #[.pointer r,v] w λe w'=>(∃rv,e=.returned rv/\OV w' B rv sv)/\bD w' B r b (G cs.length) J/\I B w w'/\tc J w w':=by
 obtain⟨la,lm,rfl,P⟩:=hv;have anL:=U P;have HST:=U hst;have HR:=U hr;clear P hst hr
 go_enter (fU func94 rfl),ntmps94
 go_wp2_with fail
 go_loopw [5,10] (λo i wr=>∃(k:Nat),k<=cs.length/\i=Ω Ψ k/\ZN (OV wr w o (sv.take k)/\bD wr B r b (G k) (λj=>J j\/o.ownBlock=V j)/\I B w wr/\tc J w wr)) (λ_ i _=>cs.length-(intOf i).toNat)
 case atStart=>exact⟨0,by omega,rfl,U ⟨OV.nil _ _,HR.out.sub (λj f=>f.elim id λe=>by cases e),Δ _ _,λ_ _ _=>rfl⟩⟩
 case round=>
  obtain⟨k,hk,rfl,a⟩:=hrel;by_cases hlt:k<cs.length
  ·obtain⟨lb,lo,rfl,hlb,hat⟩:=anL.out (by omega);obtain⟨⟨c0,c1,c2,c3⟩,hc⟩:=afF hlt;obtain⟨s0,s1,hs⟩:=ep (l:=sv) (k:=k) (by omega);have D:=U<|HST.out k _ _ hc hs;obtain⟨q0,q1,q2,q3⟩:=hat k _ hc;have hbw:=a.out.2.2.1;have N:wr.heap[lb]?=w.heap[lb]?:=by
    obtain h|h:=hlb
    exact hbw.block lb h;exact a.out.2.2.2 lb h<|az q0
   have d:∀o,wr.cell? ⟨lb,o,Z⟩=w.cell? ⟨lb,o,Z⟩:=λo=>by simp only[R,N]
   replace q0:=(d _).trans q0;replace q1:=(d _).trans q1;replace q2:=(d _).trans q2;replace q3:=(d _).trans q3;clear N d;dsimp only at q0 q1 q2 q3;have hsw:=hbw.size;have ν:=(a.out.2.1.ptr).2.1;have hk0:(0:Int)<=(k:Int):=by omega
   have hk1:(k:Int)<(cs.length:Int):=by omega
   have HC:=U hc;clear hat hbw hc
   go_wp2_with fail
   have HDO:=U (show∀(W:ι) (J':Nat->Prop),bD W B r b (G k) J'->B<=W->(∀j,J' j->j<W) ->Rq W J'->Y prog 153 #[.pointer r,.agg #[c0,c1,c2,c3]] W λe w'=>e=.returned (.tuple #[])/\bD w' B r b (G<|k+1) J'/\I B W w'/\tc J' W w' from D.out.OU);have z:=af wr<|Ξ #[c0,c1,c2,c3] 44;have F:=a.out.2.1.one<|Ξ #[c0,c1,c2,c3] 44;have y1:=ω wr<|Ξ #[c0,c1,c2,c3] 44;have hz1:(wr.alloc<|Ξ #[c0,c1,c2,c3] 44).heap.size=wr.heap.size+1:=by simp
   have p5:=cG z ν<|az ν;clear q0 q1 q2 q3 ν;generalize wr.alloc _=w1 at z F y1 hz1 p5⊢;have E:=U<|Γ z<|Γ F y1;obtain⟨x0,x1,x2,x3⟩:=fZ y1;have u:=a.out.1;have hJ1:∀j,((J j\/u5.ownBlock=V j)\/j=wr) ->j<w1:=by
    intro j f;obtain(h|h)|h:=f
    have:=hJ j h;omega;have:=(u.lt j h).2;omega;omega
   have HJ1:=U hJ1;have H3:=U (show Rq w1.drew (λj=>(J j\/u5.ownBlock=V j)\/j=wr)fromλj f c t fr hc=>by
    obtain(h|h)|h:=f
    have:=hJ j h;exact hJ3 j h c t fr<|(a.out.2.2.2 j h this).symm.trans<|(z.block j<|by omega).symm.trans hc;obtain⟨cur,anM⟩:=u.block h;have H:=(z.block j (u.lt j h).2).trans anM;have h2:=H.symm.trans hc;cases h2
    decide
    subst h;have h2:=y1.symm.trans hc;cases h2
    decide)
   clear z F y1 u hJ1
   go_region_held3 (λx=>x (r,5)=V (.func (.func 153) #[.pointer r] #[])/\x wr.heap.size=V (Ω Ψ c0)/\x (wr.heap.size,1)=V (Ω Ψ (c1:Int))/\x (wr.heap.size,2)=V (Ω Ψ c2)/\x (wr.heap.size,3)=V (Ω Ψ c3)) ((refine⟨?_,?_,?_,?_,?_⟩<;>(repeat (first|with_reducible assumption|with_reducible refine dO ?_))))
    ((go_at_call 153;(with_reducible refine(HDO.out _ _ (E.out.2.1.below (Δ _ _).drew) (by simp;omega) (λj f=>by have:=HJ1.out j f;simpa using this) H3.out).mono ?_);rintro e w2 ⟨rfl,Q,hb2,X⟩;have y2:=(X wr (.inr rfl) (by simp;omega)).trans (E.out.2.2:_=V (Ξ #[c0,c1,c2,c3] 44 (0,0)));have hp2:=Q.ptr.2.1;obtain⟨x0,x1,x2,x3⟩:=fZ y2;have y:=U Q;have HB2:=U hb2;have HF2:=U X;clear Q hb2 X y2))
   go_wp2_with fail
   obtain⟨p,q,m,K⟩:=D.out.root;dsimp only at m;have hfew:=D.out.wW;have ar7:=(ξ.1 m).1;have anN:=U K;obtain⟨gr,gm,z2,z3,A,hjg⟩:=y.out.JC m;have z1:=y.out.ptr.1;have aiM:=az z1;have anO:=az z2;have L:=az z3;have hbx2:=az x1;have S:=HB2.out.size;have C:OV w2 w u5 (sv.take k):=aS (a.out.1.below E.out.1) λg hg=>HF2.out g (.inl<|.inr hg) (by have:=HJ1.out g<|.inl<|.inr hg;simpa using this);have HO2:=U C;have n1:V r≠u5.ownBlock:=λe=>by have:=y.out.2.2.2 r<|.inl<|.inr e.symm;exact this rfl
   have n2:V b≠u5.ownBlock:=λe=>by have:=y.out.2.2.1.ne (j:=b)<|.inl<|.inr e.symm;exact this rfl
   have n3:V gr≠u5.ownBlock:=λe=>hjg gr (.inl<|.inr e.symm) rfl;have n4:V wr.heap.size≠u5.ownBlock:=λe=>by have:=(a.out.1.lt _ e.symm).2;omega
   have HN:=U<|Γ n1<|Γ n2<|Γ n3 n4;have hr0:(0:Int)<=(c1:Int):=by omega
   have F:(c1:Int)<((G<|k+1).g.roots.length:Int):=by omega
   clear K m hjg C n1 n2 n3 n4 x0 x2 x3;have HZ:=U<|Γ z1<|Γ z2<|Γ z3<|Γ A x1
   go_region_held_law (λx=>x r=V (.pointer b)/\x (b,2)=V (.slice gr (G<|k+1).g.roots.length gm)/\x (gr,c1*2)=V (Ω Ψ p)/\x (gr,c1*2+1)=V (Ω Ψ q)/\x (wr.heap.size,1)=V (Ω Ψ (c1:Int)))
    ((refine⟨?_,?_,?_,?_,?_⟩<;>(repeat (first|with_reducible assumption|with_reducible refine dO ?_|with_reducible refine dB ?_))))
    (first
      |(refine aX rfl _ _ 23 (by rfl) u5 (.slice w4.heap.size 1 1) (by rfl) (by rfl) _ (nr (B:=w) (p:=s0) (q:=s1) (l:=sv.take k) (T.out.below<|af w4 _) (ω w4 _) (by simp;omega) (by simp;omega)) ?_;intro v' w5 h5;obtain⟨Pk,n,gg,mg,rfl,O⟩:=h5;have g1:=(n.cell_far r (by simp;omega) HN.out.1).trans<|dB k1;have g2:=(n.cell_far (b,2) (by simp;omega) HN.out.2.1).trans<|dB k2;have g3:=(n.cell_far (gr,c1*2) (by simp;omega) HN.out.2.2.1).trans<|dB k3;have g4:=(n.cell_far (gr,c1*2+1) (by simp;omega) HN.out.2.2.1).trans<|dB k4;have g5:=(n.cell_far (wr.heap.size,1) (by simp;omega) HN.out.2.2.2).trans<|dB k5)
      |(go_at_call 154;(with_reducible refine(anN.out _ _ (y.out.below (Δ _ _).drew)).mono ?_);rintro e w4 ⟨rfl,hb4⟩;have A:I w2 w2 w4:=(Δ _ _).drew.trans hb4;have hs4:=A.size;have k1:=cG A HZ.out.1 aiM;have k2:=cG A HZ.out.2.1 anO;have k3:=cG A HZ.out.2.2.1 L;have k4:=cG A HZ.out.2.2.2.1 L;have k5:=cG A HZ.out.2.2.2.2 hbx2;have T:=U (HO2.out.below A)))
   have HF:=U<|Γ Pk<|Γ n O;have tU:=U A;clear g1 g2 g3 g4 g5 k1 k2 k3 k4 k5 z1 z2 z3 A x1 Pk n O
   go_wp2_with fail
   go_roundw
   case rel=>
    refine⟨k+1,by omega,by go_num,U ⟨?_,?_,?_,?_⟩⟩;rw[bW hs];have H:=HF.out.1;rw[show(List.take k sv).length=k by simp;omega]at H;exact H;refine(((y.out.below tU.out).more.below<|af w4 _).grown HF.out.2.1 λj f=>⟨.inl<|.inl<|.inr f,(T.out.below<|af w4 _).block f⟩).sub λj f=>?_;obtain f|f:=f
    exact .inl<|.inl<|.inl f;have hgj:gg=j:=by have hj':V gg=V j:=f;exact Option.some.inj hj'
    subst hgj;obtain e|e:=HF.out.2.2
    exact .inl<|.inl<|.inr e;exact .inr (by rw[e];simp);exact((((a.out.2.2.1.trans<|E.out.1.mono<|by omega).trans<|(Δ B w1).drew).trans HB2.out).trans<|tU.out.mono (by simp at S;omega)).trans<|((af w4 _).mono (by simp at S;omega)).trans<|cM (T.out.below<|af w4 _) HF.out.2.1 (by simp;omega)|>.mono hB
    intro j f hl;have H:V j≠u5.ownBlock:=λe=>by have:=(a.out.1.lt _ e.symm).1;omega
    have h2:=HJ1.out j<|.inl<|.inl f;simp at S;exact(HF.out.2.1.block j (by simp;omega) H).trans<|((af w4 _).block j<|by omega).trans<|(tU.out.block j<|by omega).trans<|(HF2.out j (.inl<|.inl f)<|by simpa using h2).trans<|(E.out.1.block j<|by omega).trans<|a.out.2.2.2 j f hl
   case measure=>simp[intOf];omega
  ·have hke:k=cs.length:=by omega
   subst hke
   go_wp2_with fail
   obtain⟨H,h2,h3,h4⟩:=a.out;rw[<-hsl,ZD]at H;go_ret;exact⟨⟨_,rfl,H.less hB⟩,h2.sub λj f=>.inl f,h3,h4⟩
def JD.below{w w' P f v l}(h:JD w P v l)(g:∀j,P j->f j/\w'.heap[j]?=w.heap[j]?):JD w' f v l:=by obtain⟨a,m,rfl,h⟩:=h;refine⟨a,m,rfl,λh0=>?_⟩;obtain⟨b,o,rfl,hb,d⟩:=h h0;obtain⟨n,k⟩:=g b hb;exact⟨b,o,rfl,n,λi c e=>by simpa only[R,k]using d i c e⟩
def WQ(w v lv g cs)(N:Nat->Md.RS)(sv)(hv:GV w v g)(hk:oy g)(hm:g.marked.length<=1000000)(hz:cN g=0)(hlv:JD w (λj=>j<w) lv cs)(hl:cs.length<=60)(F:sv.length=cs.length)(h0:N 0=⟨g,0,0,0,0⟩)(E:∀B br b (i:Nat) c s,cs[i]?=V c->sv[i]?=V s->Step B br b (N i) (N<|i+1) c s):
 Y prog 43 #[v,lv] w λe w'=>(∃r rv,e=.returned (.tuple #[r,rv,Ω Ψ 0])/\GV w' r (N cs.length).g/\eI w' rv sv)/\I w w w':=by
 have hmf:∀(fn:Fn) (first cap:Array Z8) (w:ι),(Instr.makeFunc fn first cap).run prog w=.ok (.func fn first cap) w:=λ_ _ _ _=>rfl;have HV:=U hv;have HK:=U hk;have HS:=U E;have HL:=U hlv;obtain⟨vn,o,r,wi,d,m,rfl,h1,h2,h3,h4,h5,h6⟩:=hv;obtain⟨la,lm,rfl,_⟩:=hlv;clear hk h1 h2 h3 h4 h5 h6 E
 go_enter_defers (fU func43 rfl),ntmps43
 go_wp2_with fail
 obtain⟨y1,y2,p,hz1⟩:=al3 w (Ξ #[vn,o,r,wi,d,m] 26) (Ξ #[θ Z 0 0,θ Z 0 0,θ Z 0 0,θ Z 0 0,θ Z 0 0,θ Z 0 0] 26)<|Ξ #[Ω Ψ 0] 34;have q:=HV.out.below p;generalize ((w.alloc _).alloc _).alloc _=w1 at y1 y2 p hz1 q⊢;have l:=U<|Γ p<|Γ y1 y2;refine(Kk w1 _ g q HK.out hm hz (J:=λ_=>False) λ_ h=>h.elim).mono ?_;rintro e w2 ⟨⟨br,b,rfl,x⟩,u⟩;have hs2:=u.size;have t:=U u;have K:=U x;clear y1 y2 p q u x;have hle:¬(60:Int)<(cs.length:Int):=by omega
 go_wp2_with fail
 rw[show decide ((60:Int)<(cs.length:Int))=Z0 by simp;omega]
 ((with_reducible refine(cd _ _).mono ?_))
 rintro e w3 ⟨rfl,T⟩;rw[<-T]at K t hs2;clear T
 go_wp2_with fail
 refine(JE w3 w1 br b _ cs N sv (J:=λ_=>False) (HL.out.below λj A=>⟨.inl<|by omega,(t.out.block j<|by omega).trans<|l.out.1.block j A⟩) (by rw[h0];exact K.out) (by omega) (λj A=>A.elim) (λj A=>A.elim) (by omega) F λi c s e1 e2=>HS.out _ _ _ i c s e1 e2).mono ?_;rintro e w4 ⟨⟨rv,rfl,a⟩,n,hb4,_⟩;have k:=t.out.trans hb4;have x1:=(k.block _<|by omega).trans l.out.2.1;have x2:=(k.block _<|by omega).trans l.out.2.2;have p0:=n.ptr.1;obtain⟨a0,y,O,a1,P,m1,a2,Q,m2,a3,W,S,a4,n4,C,X,D,z,hb,hgv⟩:=n.2.2.1.own.px;have d0:w4 (b:Nat)=V (.slice a0 y O):=by simp[R,hb]
 have d1:w4 ((b:Nat),1)=V (.slice a1 P m1):=by simp[R,hb]
 have d2:w4 ((b:Nat),2)=V (.slice a2 Q m2):=by simp[R,hb]
 have d3:w4 ((b:Nat),3)=V (.slice a3 W S):=by simp[R,hb]
 have d4:w4 ((b:Nat),4)=V (.slice a4 n4 C):=by simp[R,hb]
 have d5:w4 ((b:Nat),5)=V (.slice X D z):=by simp[R,hb]
 obtain⟨g,h⟩:=JJ x1;have g0:=g 0 (by omega);have g1:=g 1 (by omega);have g2:=g 2 (by omega);have g3:=g 3 (by omega);have g4:=g 4 (by omega);have g5:=g 5 (by omega);have h0:=h 0;have h1:=h 1;have h2:=h 2;have h3:=h 3;have h4:=h 4;have h5:=h 5;have e0:=d7 x2;have ef:=cD (i:=0) x2;have HE:=U<|Γ n<|Γ k<|Γ x1<|Γ x2<|Γ hgv a;have L:=U a.reads;obtain⟨ra,rm,rfl,_⟩:=aF a;clear n k x1 x2 hb hgv g h hb4 a
 go_wp2_with fail
 rw[show((((((w4.setCell (w.heap.size+1:Nat)<|.slice a0 y O).setCell (w.heap.size+1,1)<|.slice a1 P m1).setCell (w.heap.size+1,2)<|.slice a2 Q m2).setCell (w.heap.size+1,3)<|.slice a3 W S).setCell (w.heap.size+1,4)<|.slice a4 n4 C).setCell (w.heap.size+1,5)<|.slice X D z)=io w4 (w.heap.size+1) (.slice a0 y O) (.slice a1 P m1) (.slice a2 Q m2) (.slice a3 W S) (.slice a4 n4 C) (.slice X D z)from rfl];obtain⟨q1,q2,q3,q4,q5,q6⟩:=HE.out;obtain⟨k1,k2⟩:=afG (H:=w) q1.2.2.1.own q5 q3 q4 (by omega) (by omega);have o1:=L.out.off<|aaO (v0:=.slice a0 y O) (v1:=.slice a1 P m1) (v2:=.slice a2 Q m2) (v3:=.slice a3 W S) (v4:=.slice a4 n4 C) (v5:=.slice X D z) q3;have o2:=o1.below (jF<|((kn (v0:=.slice a0 y O) (v1:=.slice a1 P m1) (v2:=.slice a2 Q m2) (v3:=.slice a3 W S) (v4:=.slice a4 n4 C) (v5:=.slice X D z) q3).2.1 (w.heap.size+1+1)<|by omega).trans q4).2.2;have hs4:w.heap.size<=w4:=by have:=q2.size;omega
 clear d0 d1 d2 d3 d4 d5 g0 g1 g2 g3 g4 g5 h0 h1 h2 h3 h4 h5 e0 ef p0;refine Zz (f:=103) (args:=#[.pointer (w.heap.size+1+1:Nat)]) (by simp) (by simp[go_sem]) ?_;refine(OL (w.heap.size+1+1:Nat) (Ω Ψ 0) _ (d7 k1)<|cD k1).mono ?_;rintro e u' w'' ⟨rfl,rfl,w9,G,rfl⟩;obtain⟨r1,r2,r3,r4⟩:=k2 w9 G;have o3:=o2.below (fz k1 G).2;have hbf:=(l.out.1.trans<|q2.mono<|by omega).trans<|r4 hs4;generalize w9.setCell (w.heap.size+1+1:Nat) (Ω Ψ 0)=w10 at *;obtain⟨z0,z1,z2,z3,z4,z5⟩:=sS r1;have l4:=d7 r2;simp[Leaves,settle,ZX,results43,go_sem,z0,z1,z2,z3,z4,z5,l4];exact⟨⟨_,_,⟨rfl,rfl⟩,r3,by rw[<-F];exact o3⟩,hbf⟩
def WR(w v lv g cs)(k:Nat->Md.RS)(sv:List HV)(hv:GV w v g)(hk:oy g)(hm:g.marked.length<=1000000)(hz:cN g=0)(O:JD w (λj=>j<w) lv cs)(hl:cs.length<=60)(T:sv.length=cs.length)(h0:k 0=⟨g,0,0,0,0⟩)(H:∀B n b (i:Nat) c s,cs[i]?=V c->sv[i]?=V s->Step B n b (k i) (k<|i+1) c s):
 Y prog 45 #[v,lv] w λe w'=>e=.returned (.tuple #[Ω Ψ (k cs.length).minors,Ω Ψ (k cs.length).uJ,Ω Ψ (k cs.length).fk,Ω Ψ (k cs.length).dA,Ω Ψ 0])/\I w w w':=by
 have hmf:∀(fn:Fn) (first cap:Array Z8) (w:ι),(Instr.makeFunc fn first cap).run prog w=.ok (.func fn first cap) w:=λ_ _ _ _=>rfl;have HV:=U hv;have HK:=U hk;have HS:=U H;have HL:=U O;obtain⟨vn,o,r,wi,d,m,rfl,h1,h2,h3,h4,h5,h6⟩:=hv;obtain⟨la,lm,rfl,_⟩:=O;clear hk h1 h2 h3 h4 h5 h6 H
 go_enter_defers (fU func45 rfl),ntmps45
 go_wp2_with fail
 obtain⟨S,l,hz1⟩:=Ju w (Ξ #[vn,o,r,wi,d,m] 26)<|Ξ #[Ω Ψ 0] 34;have p:=HV.out.below l;generalize (w.alloc _).alloc _=w1 at S l hz1 p⊢;have y:=U<|Γ l S;refine(Kk w1 _ g p HK.out hm hz (J:=λ_=>False) λ_ h=>h.elim).mono ?_;rintro e w2 ⟨⟨n,b,rfl,F⟩,A⟩;have hs2:=A.size;have z:=U A;have K:=U F;clear S l p A F
 go_wp2_with fail
 rw[show decide ((60:Int)<(cs.length:Int))=Z0 by simp;omega]
 ((with_reducible refine(cd _ _).mono ?_))
 rintro e w3 ⟨rfl,G⟩;rw[<-G]at K z hs2;clear G
 go_wp2_with fail
 refine(JE w3 w1 n b _ cs k sv (J:=λ_=>False) (HL.out.below λj L=>⟨.inl<|by omega,(z.out.block j<|by omega).trans<|y.out.1.block j L⟩) (by rw[h0];exact K.out) (by omega) (λj L=>L.elim) (λj L=>L.elim) (by omega) T λi c s e1 e2=>HS.out _ _ _ i c s e1 e2).mono ?_;rintro e w4 ⟨⟨rv,rfl,E⟩,D,N,_⟩;have u:=z.out.trans N;have P:=(u.block _<|by omega).trans y.out.2;obtain⟨p0,p1,p2,p3,p4,_,hbr⟩:=D.all;obtain⟨ra,rm,rfl,_⟩:=aF E;have e0:=d7 P;have ef:=cD (i:=0) P;have hnb:¬w.heap.size+1=n:=by omega
 have HE:=U<|Γ u P;obtain⟨q,W⟩:∃q,q=k cs.length:=⟨_,rfl⟩;rw[<-W]at p1 p2 p3 p4;have C:=W.symm;clear D u P N E W;replace C:=U C
 go_wp2_with fail
 go_region_held3 (λx=>x ((n:Nat),1)=V (Ω Ψ q.minors)/\x ((n:Nat),2)=V (Ω Ψ q.uJ)/\x ((n:Nat),3)=V (Ω Ψ q.fk)/\x ((n:Nat),4)=V (Ω Ψ q.dA)) ((refine⟨?_,?_,?_,?_⟩<;>(repeat (first|with_reducible assumption|with_reducible refine dO ?_|with_reducible refine da hnb ?_)))) (fail)
 go_wp2_with fail
 obtain⟨s0,_,s2⟩:=jF HE.out.2;have t:=s2.drew;have a:(w4.setCell (w.heap.size+1:Nat)<|Ω Ψ 0).drew.heap[w.heap.size+1]?=V (Ξ #[Ω Ψ 0] 34 (0,0)):=s0;clear s0 s2;generalize (w4.setCell (w.heap.size+1:Nat)<|Ω Ψ 0).drew=w5 at a t⊢;refine Zz (f:=105) (args:=#[.pointer (w.heap.size+1:Nat)]) (by simp) (by simp[go_sem]) ?_;refine(ON (w.heap.size+1:Nat) (Ω Ψ 0) _ (d7 a)<|cD a).mono ?_;rintro e u' w'' ⟨rfl,rfl,w9,X,rfl⟩;obtain⟨t1,t2⟩:=fz a X;have l4:=d7 t1;have Q:I w w (w9.setCell (w.heap.size+1:Nat)<|Ω Ψ 0):=(y.out.1.trans<|HE.out.1.mono<|by omega).trans<|(t.trans<|t2.mono t.size).mono (by have:=HE.out.1.size;omega);simp[Leaves,settle,ZX,results45,go_sem,l4,C.out];exact Q
def ko(order:List HV)(stay n:Nat):HV:=if order.contains ((3,(n:Int)):HV)then(4,(stay:Int)+(order.idxOf ((3,(n:Int)):HV):Nat))else(2,0)
def sU{f:Nat->HV}(k):(ZR<|k+1).map f=(ZR k).map f++[f k]:=by rw[List.range_succ,ζ];rfl
def O0(w v g order)(hv:GV w v g)(hk:oy g)(hm:g.marked.length<=1000000)(hz:cN g=0)(hp:im g)(ho:order=bV g dy (ka g))(hl:¬32<g.old.length+order.length):
 Y prog 24 #[v] w λe w'=>(∃r,e=.returned (.tuple #[r,Ω Ψ 0])/\eI w' r ((ZR g.new.length).map<|ko order g.old.length))/\I w w w':=by
 have hmf:∀(fn:Fn) (first cap:Array Z8) (w:ι),(Instr.makeFunc fn first cap).run prog w=.ok (.func fn first cap) w:=λ_ _ _ _=>rfl;have HVV:=U hv;have HK:=U hk;have HP:=U hp;obtain⟨vn,o,r,wi,d,m,rfl,D,h2,h3,h4,h5,h6⟩:=hv;clear hk D h2 h3 h4 h5 h6 hp
 go_enter_defers (fU func24 rfl),ntmps24
 go_wp2_with fail
 obtain⟨y1,s,hz1⟩:=Ju w (Ξ #[vn,o,r,wi,d,m] 26)<|Ξ #[Ω Ψ 0] 34;refine(Xb _ _ g (HVV.out.below s) HK.out hz hm).mono ?_;rintro e w2 ⟨⟨b,rfl,S⟩,C⟩;have y2:=(C.block (w.heap.size+1)<|by omega).trans y1;have J:=s.trans<|C.mono s.size;have L:=U S;have j:=U<|Γ J y2;clear s C S y1 y2 J
 go_wp2_with fail
 refine(qe _ _ b g L.out HP.out).mono ?_;rintro e w3 ⟨⟨bs,bm,so,rfl,hs⟩,l⟩;rw[<-ho]at hs;have HS:=U hs;have h:=U<|Γ (j.out.1.trans<|l.mono j.out.1.size)<|(l.block _ (Θ.1 j.out.2).1).trans j.out.2;have T:=U<|L.out.below l;obtain⟨as0,ms0,N,_,_,_⟩:=aF hs.2.2.2.1;have c0:w3 bs=V (.slice as0 order.length ms0):=by simp[R,hs.2.2.1,N]
 have hgd:¬(32:Int)<(g.old.length:Int)+(order.length:Int):=by omega
 have hol:=HK.out.bw;have hnl:=HK.out.news;have hw1:IntKind.i64.wrap ((g.old.length:Int)+(order.length:Int))=(g.old.length:Int)+(order.length:Int):=wrap_small _ (by omega) (by omega);clear hs l ho N
 go_wp2_with fail
 rw[show decide ((32:Int)<(g.old.length:Int)+(order.length:Int))=Z0 by simp;omega]
 ((with_reducible refine(cd _ _).mono ?_))
 rintro e w4 ⟨rfl,G⟩;rw[<-G]at HS h T c0;clear G;obtain⟨n,oo,mm,row,hBb,O,⟨ao,mo,eo,_⟩,_⟩:=T.out;rw[aT]at eo;have d0:w4 b=V (.slice ao g.new.length mo):=by rw[<-eo];simp[R,O]
 clear eo hBb O
 go_wp2_with fail
 go_loopw [2,34] (λo i wr=>∃(k:Nat),k<=g.new.length/\i=Ω Ψ k/\ZN (OV wr w4 o ((ZR k).map<|ko order g.old.length)/\I w4 w4 wr)) (λ_ i _=>g.new.length-(intOf i).toNat)
 case atStart=>exact⟨0,by omega,rfl,U ⟨OV.nil _ _,Δ _ _⟩⟩
 case round=>
  obtain⟨k,hk,rfl,a⟩:=hrel;by_cases hlt:k<g.new.length
  ·have hsr:=a.out.2.size;have H:=HS.out.Q4;have hbs:wr (bs,1)=V (.map<|V bm):=by have:=(a.out.2.block bs H.1).trans HS.out.2.2.1;simp[R,this]
   have c:=fP (3,(k:Int))<|HS.out.2.2.2.2.of_block<|a.out.2.block bm H.2;unfold ns at c;dsimp only at c;by_cases y:((3,(k:Int)):HV)∈order
   ·simp only[y,if_true,decide_true]at c;have hid:=List.idxOf_lt_length_of_mem y;have P:ko order g.old.length k=(4,(g.old.length:Int)+(order.idxOf ((3,(k:Int)):HV):Nat)):=by simp[ko,y]
    have W:=U P;clear P y;generalize order.idxOf ((3,(k:Int)):HV)=ix at c hid W;have hw2:IntKind.i64.wrap ((g.old.length:Int)+(ix:Int))=(g.old.length:Int)+(ix:Int):=wrap_small _ (by omega) (by omega)
    go_wp2_with (refine ZP λK Q=>aX rfl (.tmp 53) (.tmp 58) 23 (by rfl) u2 (.slice wr.heap.size 1 1) (by rfl) (by rfl) _ (nr (B:=w4) (p:=4) (q:=(g.old.length:Int)+(ix:Int)) (a.out.1.below<|af wr _) (ω wr _) (by simp;omega) (by simp;omega)) ?_;intro v' w5 h5;obtain⟨x,E,gg,mg,rfl,_⟩:=h5;refine Q _ _ ?_;clear Q K)
    have u:I w4 w4 w5:=(a.out.2.trans<|(af wr _).mono a.out.2.size).trans<|(cM (a.out.1.below<|af wr _) E (by have:=a.out.2.size;simp;omega))
    go_roundw
    case rel=>refine⟨k+1,by omega,by go_num,U ⟨?_,u⟩⟩;rw[sU,show ko order g.old.length k=(4,(g.old.length:Int)+(ix:Int))from W.out];have D:=x;simp only[ZT,ZF]at D;exact D
    case measure=>simp[intOf];omega
   ·simp only[y,if_false,decide_false]at c;have W:=U (show ko order g.old.length k=(2,0) by simp[ko,y]);clear y
    go_wp2_with (refine ZP λK Q=>aX rfl (.tmp 49) (.tmp 51) 23 (by rfl) u2 (.slice wr.heap.size 1 1) (by rfl) (by rfl) _ (nr (B:=w4) (p:=2) (q:=0) (a.out.1.below<|af wr _) (ω wr _) (by simp;omega) (by simp;omega)) ?_;intro v' w5 h5;obtain⟨x,E,gg,mg,rfl,_⟩:=h5;refine Q _ _ ?_;clear Q K)
    have u:I w4 w4 w5:=(a.out.2.trans<|(af wr _).mono a.out.2.size).trans<|(cM (a.out.1.below<|af wr _) E (by have:=a.out.2.size;simp;omega))
    go_roundw
    case rel=>refine⟨k+1,by omega,by go_num,U ⟨?_,u⟩⟩;rw[sU,show ko order g.old.length k=(2,0)from W.out];have D:=x;simp only[ZT,ZF]at D;exact D
    case measure=>simp[intOf];omega
  ·have hke:k=g.new.length:=by omega
   subst hke;clear hlt;have y5:=(a.out.2.block (w.heap.size+1) (Θ.1 h.out.2).1).trans h.out.2;have e0:=d7 y5;have ef:=cD (i:=0) y5;have HY:=U y5;have hsl:w.heap.size<=w4:=h.out.1.size;clear y5
   go_wp2_with fail
   obtain⟨X,_,s2⟩:=jF HY.out;have t:=a.out.1.reads.below s2;have z:=((h.out.1.trans<|a.out.2.mono hsl)).trans<|s2.mono (by have:=a.out.2.size;omega);generalize wr.setCell (w.heap.size+1:Nat) (Ω Ψ 0)=w5 at X s2 t z⊢;refine Zz (f:=80) (args:=#[.pointer (w.heap.size+1:Nat)]) (by simp) (by simp[go_sem]) ?_;refine(WI (w.heap.size+1:Nat) (Ω Ψ 0) _ (d7 X)<|cD X).mono ?_;rintro e u' w'' ⟨rfl,rfl,w9,BP,rfl⟩;obtain⟨t1,t2⟩:=fz X BP;have l4:=d7 t1;have A:=t.below t2;have F:=z.trans<|t2.mono z.size;simp[Leaves,settle,ZX,results24,go_sem,l4];exact⟨A,F⟩
def sV(m:List Int):GH:=⟨[(0,[(3,2)]),(0,[(0,5)]),(0,[(4,1)]),(1,[(3,1)])],[(0,[(3,3)]),(0,[]),(0,[(3,1)])],[(3,0),(4,1),(0,7),(2,0)],[],[],m⟩
def ee:GH:=sV [0,2]
def cB:oy ee where
 cells:=by decide
 news:=by decide
 bw:=by decide
 four:=by decide
 roots:=by decide
 aA:=⟨by decide,λi v h=>by cases h⟩
 done:=⟨by decide,λi v h=>by cases h⟩
def KA:cN ee=0/\cN (sV [2])=11/\cN (sV [2,0])=14/\cN (sV [0,3])=9:=by decide
def JM(g:GH):Bool:=(g.new++g.old).all (λc=>c.2.all λv=>mh g v==0)&&(cJ g).all λv=>mh g v==0
def wS{g:GH}(h:JM g=ZV)(i:g.new.length<=8)(e:g.old.length<=32)(f:g.roots.length<=4)(hw:g.aA.length<=40)(hd:g.done.length<=40)(a:∀c∈g.new++g.old,c.2.length<=4)(b:∀n∈g.marked,0<=n/\n<g.old.length)(d:g.marked.length<=32):im g where
 cells:=λc hc v a=>by unfold JM at h;simp only[ZC,ZB,beq_iff_eq]at h;exact pY<|h.1 c hc v a
 cJ:=λv a=>by unfold JM at h;simp only[ZC,ZB,beq_iff_eq]at h;exact pY<|h.2 v a
 news:=by omega
 bw:=by omega
 roots:=by omega
 aA:=by omega
 done:=by omega
 eT:=λc hc=>by have:=a c hc;omega
 marks:=b
 marked:=by omega
def sW:im ee:=wS rfl (by decide) (by decide) (by decide) (by decide) (by decide) (by decide) (by decide) (by decide)
def Al:GH:=⟨[],[(0,[(4,2)]),(0,[]),(0,[(4,1)])],[(4,0),(4,1),(0,7),(2,0)],[],[],[]⟩
def aak:List HV:=[(3,0),(3,3),(3,1),(3,2)]
def JN:Md.collect .full ee=V (3,Al):=by kernel_rfl
def Fg:aak=bV ee dy (ka ee):=by kernel_rfl
def d9:PH:=⟨[(0,[(1,6)]),(0,[]),(0,[(1,4)]),(0,[(1,5)]),(0,[(0,5)]),(0,[(1,1)]),(1,[(1,4)])],[(1,3),(1,1),(0,7),(2,0)],[],[]⟩
def mS(r:Md.RS):Md.RS:=Md.el (Jz r 1) 2 (3,(r.g.new.length:Int))
def r0:Md.RS:=⟨ee,0,0,0,0⟩
def r4:Md.RS:=mS<|mS<|mS<|mS r0
def Ca:GH:=⟨[],[(0,[(4,5)]),(0,[]),(0,[(4,6)]),(0,[(4,7)]),(0,[(0,0)]),(1,[(4,6)]),(0,[(0,5)]),(0,[(4,1)])],[(4,3),(4,1),(4,4),(2,0)],[],[],[]⟩
def JP:Md.collect .minor r4.g=V (5,Ca):=by kernel_rfl
def r4':Md.RS:=⟨Ca,1,0,0,5⟩
def r5:Md.RS:=mS r4'
def g5:GH:=⟨[(0,[(0,0)])],[(0,[(4,5)]),(0,[]),(0,[(4,6)]),(0,[(4,7)]),(0,[(0,0)]),(1,[(4,6)]),(0,[(0,5)]),(0,[(4,1)])],[(4,3),(4,1),(3,0),(2,0)],[],[],[]⟩
def Q':r5=⟨g5,1,0,0,5⟩:=by kernel_rfl
def JQ:GH:=⟨[(0,[(0,0)])],[(3,[]),(0,[]),(3,[]),(0,[(4,7)]),(3,[]),(3,[]),(3,[]),(0,[(4,1)])],[(4,3),(4,1),(3,0),(2,0)],[],[],[]⟩
def JR:Md.iF g5=JQ:=by kernel_rfl
def Cb:GH:=⟨[],[(0,[(4,3)]),(0,[]),(0,[(0,0)]),(0,[(4,1)])],[(4,0),(4,1),(4,2),(2,0)],[],[],[]⟩
def JS:Md.collect .major g5=V (4,Cb):=by kernel_rfl
def O1:im r4.g:=wS rfl (by decide) (by decide) (by decide) (by decide) (by decide) (by decide) (by decide) (by decide)
def O2:im JQ:=wS rfl (by decide) (by decide) (by decide) (by decide) (by decide) (by decide) (by decide) (by decide)
def vg5:VG g5 where
 cells:=by unfold RJ ta aaM zH;decide+kernel
 news:=by decide
 bw:=by decide
 four:=rfl
 roots:=by unfold ta aaM zH;decide+kernel
 aA:=⟨ZS,(λv h=>by cases h),by decide⟩
 done:=⟨ZS,(λv h=>by cases h),by decide⟩
 marks:=λn h=>by cases h
 order:=List.Pairwise.nil
 ju:=λi c hi a=>by
  have b:=χ hi;have:∀c∈g5.old,jW c=Z0:=by decide
  rw[this c b]at a;cases a
section
variable{br:Nat}{r:Md.RS}{b B:Nat}
def py{r':Md.RS}{k:Nat}{p q:Int}(m:r.g.roots[2]?=V (p,q))(e:r.g.roots.length<=1000)(f:Roomy r r')(hz:Aj k)(i:k<=4)(n:r'.g.new.length<=900)(a:2<r'.g.roots.length)(c:r'.g.roots.length<=1000):
 Step B br b r (Md.el (Jz r' k) 2 (3,(r'.g.new.length:Int))) (0,2,(k:Int),0) (1,(k:Int)) where
 OU:=λw J d j l _=>JA w B br b 2 k r r' p q d j l m e f hz i (by omega) a
 root:=by
  refine⟨3,(r'.g.new.length:Int),?_,λw J d=>?_⟩;show(r'.g.roots.set 2 (3,(r'.g.new.length:Int)))[2]?=_;rw[List.getElem?_set_self a];have h:=Fa w B br b r'.g.new.length _ 0 (μ k (0,0)) d (by
   show(r'.g.new++[(0,μ k (0,0))])[r'.g.new.length]?=_;simp) (by omega) (by simp;omega) (by
   show(r'.g.new++[(0,μ k (0,0))]).length<=_;simp;omega)
  simpa using h
 wW:=by show(r'.g.roots.set 2 (3,(r'.g.new.length:Int))).length<=_;simpa using c
def An(h:r.g.new.length<8):Roomy r r:=.inl ⟨h,rfl⟩
def JT:Roomy r4 r4':=.inr ⟨by decide,by decide,O1,5,Ca,JP,rfl,by decide,by decide,by decide⟩
def qQ{p q}(h:r.g.new.length<8)(d:r.g.roots[2]?=V (p,q))(a:r.g.roots.length<=1000)(c:2<r.g.roots.length):Step B br b r (mS r) (0,2,1,0) (1,1):=py d a (An h) Jy (by omega) (by omega) c a
def WS:Step B br b r4 r5 (0,2,1,0) (1,1):=py (r':=r4') rfl (by decide) JT Jy (by omega) (by decide) (by decide) (by decide)
def r6:Md.RS:=⟨Cb,1,0,1,9⟩
def Cc:Step B br b r5 r6 (10,0,0,0) (1,1) where
 OU:=λw J a c d _=>by rw[Q']at a;exact E' w B br b 4 _ Cb 4 3 0 a c d rfl (by decide) (VG.sw vg5) (by rw[JR];exact O2) JS (by decide) (by decide) (by decide)
 root:=⟨4,0,by decide,λw J a=>by simpa using (ve w B br b 0 _ 0 [(4,3)] a rfl (by decide) (by decide) (by decide))⟩
 wW:=by decide
def rsM:Nat->Md.RS
 |0=>r0|1=>mS r0|2=>mS (mS r0)|3=>mS (mS<|mS r0)|4=>r4|_=>r5
def WU:List C4:=[(0,2,1,0),(0,2,1,0),(0,2,1,0),(0,2,1,0),(0,2,1,0)]
def Fi:List HV:=[(1,1),(1,1),(1,1),(1,1),(1,1),(1,1)]
def aal{c}(h:∀B e b,Step B e b r5 r c (1,1))(B e b i f s)(d:(WU++[c])[i]?=V f)(a:Fi[i]?=V s):Step B e b (if i<6 then rsM i else r) (if i+1<6 then rsM (i+1)else r) f s:=by
 match i,d,a with
 |0,d,a=>cases d;cases a;exact qQ (r:=r0) (p:=0) (q:=7) (by decide) rfl (by decide) (by decide)
 |1,d,a=>cases d;cases a;exact qQ (r:=mS r0) (p:=3) (q:=4) (by decide) (by decide) (by decide) (by decide)
 |2,d,a=>cases d;cases a;exact qQ (r:=mS<|mS r0) (p:=3) (q:=5) (by decide) (by decide) (by decide) (by decide)
 |3,d,a=>cases d;cases a;exact qQ (r:=mS<|mS<|mS r0) (p:=3) (q:=6) (by decide) (by decide) (by decide) (by decide)
 |4,d,a=>cases d;cases a;exact WS
 |5,d,a=>cases d;cases a;exact h B e b
 |n+6,d,a=>simp[Fi]at a
end
section
variable{v:Z8}(w:ι)
def wT{w:ι}{e size n xs a}(c:a.toList=xs)(b:xs.length=n*size)(d:n<=1000000):(w.alloc<|.cells a e).ownsRow w e size (.slice w.heap.size n n) n xs:=by
 have hs:a.size=n*size:=by rw[<-b,<-c];simp
 exact⟨b,.inr ⟨w.heap.size,n,a,rfl,.refl,ω _ _,.refl,by unfold ZL;omega,hs,by rw[c,<-b,ZD]⟩⟩
def Cd(l a n)(b:l.length=n)(c:a.toList=l.flatMap lU)(d:n<=1000):OV (w.alloc<|.cells a 50) w (.slice w.heap.size n n) l:=by subst b;exact wT c (fx l) (by omega)
def JV(l b n)(e:l.length=n)(c:b.toList=l.flatMap eP)(f:n<=1000):OI (w.alloc<|.cells b 3) w (.slice w.heap.size n n) l:=by
 subst e;exact wT c (by rw[<-c];rw[c];clear c;induction l with
  |nil=>rfl
  |cons a l d=>simp at d⊢;rw[d (by grind)];simp[eP];omega) (by omega)
def WV(l a n)(b:l.length=n)(c:a.toList=l.flatMap dW)(d:n<=1000):OC (w.alloc<|.cells a 76) w (.slice w.heap.size n n) l:=by subst b;exact wT c (iu l) (by omega)
def aY.nil:aY w [] []:=⟨rfl,λi k v a b e=>by simp at e⟩
def aY.cons{w k vs l cs}(h:eI w v vs)(b:aY w l cs):aY w ((k,v)::l) ((k,vs)::cs):=by
 refine⟨by simp[b.1],λi c v1 d a e1 e2=>?_⟩;cases i with
 |zero=>grind
 |succ i=>exact b.2 i c v1 d a (by grind) (by grind)
def isn:n9 w () []:=(OI.nil w 0).reads
def csn:sa w () []:=⟨Z,0,rfl,.refl,by omega,λh=>absurd h<|Nat.lt_irrefl 0⟩
def mK(n:Int):Y prog 56 #[n] w λe w'=>e=.returned (.agg #[Ω Ψ 0,n])/\I w w w':=aeR w n
def JL(n:Int):Y prog 61 #[n] w λe w'=>e=.returned (.agg #[Ω Ψ 3,n])/\I w w w':=NV w n
def eF(n:Int):Y prog 59 #[n] w λe w'=>e=.returned (.agg #[Ω Ψ 4,n])/\I w w w':=aeS w n
def sY:Y prog 58 #[] w λe w'=>e=.returned (.agg #[Ω Ψ 2,Ω Ψ 0])/\I w w w':=V0 w
def dd(a n m):Y prog 55 #[.slice a n m] w λe w'=>e=.returned (.agg #[Ω Ψ 0,.slice a n m])/\I w w w':=aeT w _ a n m rfl
def DH(p q:Int):Y prog 57 #[.agg #[p,q]] w λe w'=>(∃b,e=.returned (.agg #[Ω Ψ 1,.slice (b:Nat) 1 1])/\eI w' (.slice (b:Nat) 1 1) [(p,q)])/\I w w w':=by
 go_enter (fU func57 rfl),ntmps57
 go_wp2_with fail
 have h:=Cd ((w.alloc<|Ξ #[p,q] 50).alloc<|Ξ #[Ω Ψ 1,.slice (w.heap.size+1+1:Nat) 1 1] 76) [(p,q)] #[p,q] 1 rfl rfl (by omega);obtain⟨a,_,hb,hz⟩:=al3 w (Ξ #[p,q] 50) (Ξ #[Ω Ψ 1,.slice (w.heap.size+1+1:Nat) 1 1] 76)<|Ξ #[p,q] 50;rw[show((w.alloc<|Ξ #[p,q] 50).alloc<|Ξ #[Ω Ψ 1,.slice (w.heap.size+1+1:Nat) 1 1] 76).heap.size=w.heap.size+1+1 by simp]at h;generalize ((w.alloc _).alloc _).alloc _=c at h a hb hz⊢;refine ε (v:=.agg #[Ω Ψ 1,.slice (w.heap.size+1+1:Nat) 1 1]) (by simp[ZX,results57,go_sem,R,a]) rfl ⟨⟨_,rfl,h.reads⟩,hb⟩
def KW(c:C4):List Z8:=[Ω Ψ c.1,(c.2.1:Int),Ω Ψ c.2.2.1,Ω Ψ c.2.2.2]
def OM(w:ι)(B:Nat)(v:Z8)(l:List C4):Prop:=w.ownsRow B 44 4 v l.length<|l.flatMap KW
def WW:(prog.info? 44).map (λi=>(i.zero,i.size,i.bytes))=V (V<|.agg #[Ω Ψ 0,Ω Ψ 0,Ω Ψ 0,Ω Ψ 0],4,32):=by kernel_rfl
def afJ:prog.underlying 48=V (.slice 44):=by kernel_rfl
def sZ{w ty}{B bx:Nat}{l c t fr}(h:OM w B v l)(b:w.heap[bx]?=V (Ξ #[Ω Ψ c.1,(c.2.1:Int),Ω Ψ c.2.2.1,Ω Ψ c.2.2.2] t fr))(s:l.length<=1000000)(p:B<=w):
 ∃e w',(Z4 #[48,48] ty #[v,.slice bx 1 1]).run prog w=.ok e w'/\(OM w' B e (l++[c])/\w.grownBy w' v.ownBlock/\∃g q,e=.slice (g:Nat) (l.length+1) q/\(v.ownBlock=V g\/g=w)):=by
 obtain⟨n,hi,f,i,d⟩:=ZM WW;obtain⟨g,o,w',k,x,r,h3,h4⟩:=run_append_lies (P:=prog) w 48 ty B 44 n _ 4 32 afJ hi f i d rfl (by decide) v l.length _ h bx 1 1 (KW c) rfl (λj u a=>by
  match j,a with
  |0,a=>cases a;simp[R,b,υ]
  |1,a=>cases a;simp[R,b,υ]
  |2,a=>cases a;simp[R,b,υ]
  |3,a=>cases a;simp[R,b,υ]
  |j+4,a=>simp[KW]at a) (λu m=>by
  simp[KW]at m;obtain rfl|rfl|rfl|rfl:=m<;>rfl) (by omega) (by unfold ZL;omega) (by omega) p _ rfl
 unfold OM
 grind
theorem Ra:∀(l:List C4) (i:Nat) (c:C4),l[i]?=V c->(l.flatMap KW)[i*4]?=V (Ω Ψ c.1)/\(l.flatMap KW)[i*4+1]?=V (Ω Ψ (c.2.1:Int))/\(l.flatMap KW)[i*4+2]?=V (Ω Ψ c.2.2.1)/\(l.flatMap KW)[i*4+3]?=V (Ω Ψ c.2.2.2)
 |[],i,c,h=>by simp at h
 |b::l,0,c,h=>by simp at h;subst h;simp[KW]
 |b::l,i+1,c,h=>by obtain⟨a,d,h3,h4⟩:=Ra l i c (by simpa using h);rw[List.flatMap_cons,show(i+1)*4=i*4+1+1+1+1 by omega];exact⟨a,d,h3,h4⟩
def OM.reads{w B l}(h:OM w B v l):JD w (λj=>j<w) v l:=by obtain⟨a,m,rfl,_,_,k⟩:=aF h;refine⟨a,m,rfl,λh0=>?_⟩;obtain⟨g,rfl,_,f,_,hc⟩:=k h0;refine⟨g,0,rfl,f,λi c e=>?_⟩;obtain⟨d,b,h3,h4⟩:=Ra l i c e;simp only[Nat.zero_add];exact⟨hc _ _ d,hc _ _ b,hc _ _ h3,hc _ _ h4⟩
def O5(bx:Nat)(c){t fr}(n:w.heap[bx]?=V (Ξ #[Ω Ψ c.1,(c.2.1:Int),Ω Ψ c.2.2.1,Ω Ψ c.2.2.2] t fr)):
 Y prog 62 #[Ω Ψ 5,.slice bx 1 1] w λe w'=>(∃r,e=.returned r/\OM w' w r (WU++[c]))/\I w w w':=by
 have z:=U n;have j:=(Θ.1 n).1;clear n
 go_enter (fU func62 rfl),ntmps62
 go_wp2_with fail
 go_loopw [5,6] (λo i wr=>∃(k:Nat),k<=5/\i=Ω Ψ k/\ZN (OM wr w o (WU.take k)/\I w w wr)) (λ_ i _=>5-(intOf i).toNat)
 case atStart=>exact⟨0,by omega,rfl,U ⟨ZH _ _ _ _,Δ _ _⟩⟩
 case round=>
  obtain⟨k,A,rfl,a⟩:=hrel;have f:=a.out.2.size;by_cases m:k<5
  ·have q:(k:Int)<5:=by omega
   go_wp2_with (refine ZP λK g=>aX rfl (.tmp 12) (.tmp 14) 48 (by rfl) u5 (.slice wr.heap.size 1 1) (by rfl) (by rfl) _ (sZ (B:=w) (c:=(0,2,1,0)) (jy a.out.1<|af wr _) (ω wr _) (by simp;omega) (by simp;omega)) ?_;intro y w5 h5;obtain⟨b,d,u,v,rfl,_⟩:=h5;refine g _ _ ?_;clear g K)
   have h:=(a.out.2.trans<|(af wr _).mono a.out.2.size).trans<|(cM (jy a.out.1<|af wr _) d (by have:=a.out.2.size;simp;omega))
   go_roundw
   case rel=>
    refine⟨k+1,by omega,by go_num,U ⟨?_,h⟩⟩;rw[bW (l:=WU) (k:=k) (x:=(0,2,1,0)) (by match k,m with
     |0,_=>rfl
     |1,_=>rfl
     |2,_=>rfl
     |3,_=>rfl
     |4,_=>rfl)]
    have s:=b;simp only[List.length_take]at s;exact s
   case measure=>simp[intOf];omega
  ·have p:k=5:=by omega
   subst p
   go_wp2_with (refine ZP λK g=>aX rfl (.tmp 16) (.tmp 17) 48 (by rfl) u5 (.slice bx 1 1) (by rfl) (by rfl) _ (sZ (B:=w) (c:=c) a.out.1 ((a.out.2.block bx j).trans z.out) (by decide) f) ?_;intro y w5 h5;obtain⟨b,d,u,v,rfl,_⟩:=h5;refine g _ _ ?_;clear g K)
   go_ret;exact⟨⟨_,rfl,b⟩,a.out.2.trans<|cM a.out.1 d f⟩
def m1{P}{f n:Nat}{a w x Q}(h:Y P f a w λe w'=>e=x/\I n w w')(k:∀w',ZN (I n w w') ->Q x w'):Y P f a w Q:=h.mono λe w' b=>by obtain⟨rfl,hb⟩:=b;exact k _ hb
def m2{c:Type}{P}{f n:Nat}{a w}{x:c->Ending}{b:c->ι->Prop}{Q}(h:Y P f a w λe w'=>(∃v,e=x v/\b v w')/\I n w w')(k:∀v w',ZN (b v w') ->ZN (I n w w') ->Q (x v) w'):Y P f a w Q:=h.mono λe w' d=>by obtain⟨⟨v,rfl,g⟩,hb⟩:=d;exact k _ _ g hb
def DI(o):ZN ((w.alloc o).heap[w.heap.size]?=V o)/\ZN (I w w<|w.alloc o)/\(w.alloc o).heap.size=w.heap.size+1:=⟨ω w o,af w o,by simp⟩
def nt(l a n)(c:l.length=n)(d:a.toList=l.flatMap lU)(b:n<=1000):ZN (OV (w.alloc<|.cells a 50) w (.slice w.heap.size n n) l)/\ZN (I w w<|w.alloc<|.cells a 50)/\(w.alloc<|.cells a 50).heap.size=w.heap.size+1:=⟨Cd w l a n c d b,af _ _,by simp⟩
def WX(l a n)(c:l.length=n)(d:a.toList=l.flatMap dW)(b:n<=1000):ZN (OC (w.alloc<|.cells a 76) w (.slice w.heap.size n n) l)/\ZN (I w w<|w.alloc<|.cells a 76)/\(w.alloc<|.cells a 76).heap.size=w.heap.size+1:=⟨WV w l a n c d b,af _ _,by simp⟩
def bx{a b l:ι}(h:ZN (I a a b))(c:I b b l):I a a l:=h.out.trans<|c.mono h.out.size
end
def wU(w:ι)(e:Ending)(w':ι):Prop:=∃bn bo br bm ln wa,e=.returned (.agg #[.slice (bn:Nat) 4 4,.slice (bo:Nat) 3 3,.slice (br:Nat) 4 4,(),(),.slice (bm:Nat) 2 2])/\
 OC wa w (.slice (bn:Nat) 4 4) ln/\aY wa ln ee.new/\sa wa (.slice (bo:Nat) 3 3) ee.old/\OV w' wa (.slice (br:Nat) 4 4) ee.roots/\OI w' wa (.slice (bm:Nat) 2 2) [0,2]/\I w w wa/\I wa wa w'
def JW(w):Y prog 52 #[] w λe w'=>wU w e w':=by
 go_enter (fU func52 rfl),ntmps52
 go_wp2_with fail
 have N:=af w<|Ξ #[(),(),(),(),(),()] 26;have y0:=ω w<|Ξ #[(),(),(),(),(),()] 26;have hz0:(w.alloc<|Ξ #[(),(),(),(),(),()] 26).heap.size=w.heap.size+1:=by simp
 generalize w.alloc _=p0 at N y0 hz0⊢;have HY:=U<|Γ N y0;clear N y0;refine m1 (JL _ 2) λp1 hp1=>?_
 go_wp2_with fail
 have⟨fp2,H,zp2⟩:=nt p1 [(3,2)] #[Ω Ψ 3,Ω Ψ 2] 1 rfl rfl (by omega);generalize p1.alloc _=p2 at fp2 H zp2⊢;refine m1 (dd _ p1.heap.size 1 1) λp3 X=>?_
 go_wp2_with fail
 refine m1 (mK _ 5) λp4 hp4=>?_
 go_wp2_with fail
 have⟨fp5,L,zp5⟩:=nt p4 [(0,5)] #[Ω Ψ 0,Ω Ψ 5] 1 rfl rfl (by omega);generalize p4.alloc _=p5 at fp5 L zp5⊢;refine m1 (dd _ p4.heap.size 1 1) λp6 KY=>?_
 go_wp2_with fail
 refine m1 (eF _ 1) λp7 Rb=>?_
 go_wp2_with fail
 have⟨fp8,K,zp8⟩:=nt p7 [(4,1)] #[Ω Ψ 4,Ω Ψ 1] 1 rfl rfl (by omega);generalize p7.alloc _=p8 at fp8 K zp8⊢;refine m1 (dd _ p7.heap.size 1 1) λp9 KZ=>?_
 go_wp2_with fail
 refine m1 (JL _ 1) λp10 z=>?_
 go_wp2_with fail
 refine m2 (DH _ 3 1) λbb b W B=>?_
 go_wp2_with fail
 have⟨h,A,anX⟩:=WX b [(0,.slice p1.heap.size 1 1),(0,.slice p4.heap.size 1 1),(0,.slice p7.heap.size 1 1),(1,.slice (bb:Nat) 1 1)] #[Ω Ψ 0,.slice p1.heap.size 1 1,Ω Ψ 0,.slice p4.heap.size 1 1,Ω Ψ 0,.slice p7.heap.size 1 1,Ω Ψ 1,.slice (bb:Nat) 1 1] 4 rfl rfl (by omega);generalize b.alloc _=p12 at h A anX⊢;refine m1 (JL _ 3) λj PE=>?_
 go_wp2_with fail
 have⟨y,q,O6⟩:=nt j [(3,3)] #[Ω Ψ 3,Ω Ψ 3] 1 rfl rfl (by omega);generalize j.alloc _=p14 at y q O6⊢;refine m1 (dd _ j.heap.size 1 1) λp15 T=>?_
 go_wp2_with fail
 refine m1 (dd _ Z 0 0) λp16 Fj=>?_
 go_wp2_with fail
 refine m1 (JL _ 1) λm J7=>?_
 go_wp2_with fail
 have⟨p,x,anY⟩:=nt m [(3,1)] #[Ω Ψ 3,Ω Ψ 1] 1 rfl rfl (by omega);generalize m.alloc _=p18 at p x anY⊢;refine m1 (dd _ m.heap.size 1 1) λc Fk=>?_
 go_wp2_with fail
 have⟨D,E,O7⟩:=WX c [(0,.slice j.heap.size 1 1),(0,()),(0,.slice m.heap.size 1 1)] #[Ω Ψ 0,.slice j.heap.size 1 1,Ω Ψ 0,(),Ω Ψ 0,.slice m.heap.size 1 1] 3 rfl rfl (by omega);generalize c.alloc _=p20 at D E O7⊢;refine m1 (JL _ 0) λp21 Fl=>?_
 go_wp2_with fail
 refine m1 (eF _ 1) λp22 Fm=>?_
 go_wp2_with fail
 refine m1 (mK _ 7) λp23 Fo=>?_
 go_wp2_with fail
 refine m1 (sY _) λa P=>?_;have Ce:=Δ a a;have Ch:=bx P Ce;have Fp:=bx Fo Ch;have Q:=bx Fm Fp;have F:=bx Fl Q;have O8:=bx E F;have s:=bx Fk O8;have Ci:=bx x s;have ahb:=bx J7 Ci;have Fq:=bx Fj ahb;have u:=bx T Fq;have O9:=bx q u;have o:=bx PE O9;have t:=bx A o;have cp10:=bx B t;have cp9:=bx z cp10;have cp8:=bx KZ cp9;have Rc:=bx K cp8;have cp6:=bx Rb Rc;have cp5:=bx KY cp6;have cp4:=bx L cp5;have cp3:=bx hp4 cp4;have cp2:=bx X cp3;have cp1:=bx H cp2;have G:=bx hp1 cp1;have hlt:=(Θ.1 HY.out.2).1;have O:=(G.block w hlt).trans HY.out.2;have hlt2:=ο hlt G.size;obtain⟨d,f⟩:=JJ O;have d0:=d 0 (by omega);have t0:=f 0;have d1:=d 1 (by omega);have t1:=f 1;have d2:=d 2 (by omega);have t2:=f 2;have d3:=d 3 (by omega);have t3:=f 3;have d4:=d 4 (by omega);have t4:=f 4;have d5:=d 5 (by omega);have t5:=f 5;have HH:=U O;clear d f O
 go_wp2_with fail
 clear d0 d1 d2 d3 d4 d5 t0 t1 t2 t3 t4 t5;rw[show((((((a.setCell w.heap.size<|.slice b.heap.size 4 4).setCell (w.heap.size,1)<|.slice c.heap.size 3 3).setCell (w.heap.size,2)<|.slice a.heap.size 4 4).setCell (w.heap.size,3) ()).setCell (w.heap.size,4) ()).setCell (w.heap.size,5)<|.slice (a.heap.size+1:Nat) 2 2)=io a w (.slice b.heap.size 4 4) (.slice c.heap.size 3 3) (.slice a.heap.size 4 4) () () (.slice (a.heap.size+1:Nat) 2 2)from rfl];have O:=HH.out;obtain⟨a1,a2,a3,a4⟩:=kn (v0:=.slice b.heap.size 4 4) (v1:=.slice c.heap.size 3 3) (v2:=.slice a.heap.size 4 4) (v3:=()) (v4:=()) (v5:=.slice (a.heap.size+1:Nat) 2 2) O;have r:=aaO (v0:=.slice b.heap.size 4 4) (v1:=.slice c.heap.size 3 3) (v2:=.slice a.heap.size 4 4) (v3:=()) (v4:=()) (v5:=.slice (a.heap.size+1:Nat) 2 2) O;have n:aY a _ _:=(aY.cons (k:=0) (OV.reads<|OV.below fp2.out cp2)<|aY.cons (k:=0) (OV.reads<|OV.below fp5.out cp5)<|aY.cons (k:=0) (OV.reads<|OV.below fp8.out cp8)<|aY.cons (k:=1) (W.out.below t)<|aY.nil _);have J:aY a _ _:=(aY.cons (k:=0) (OV.reads<|OV.below y.out u)<|aY.cons (k:=0) dv<|aY.cons (k:=0) (OV.reads<|OV.below p.out s)<|aY.nil _);have hcs:=(OC.reads (OC.below D.out F) J).off r;have l:aY (io a w (.slice b.heap.size 4 4) (.slice c.heap.size 3 3) (.slice a.heap.size 4 4) () ()<|.slice (a.heap.size+1:Nat) 2 2) _ _:=⟨n.1,λi k v k' vs e1 e2=>⟨(n.2 i k v k' vs e1 e2).1,(n.2 i k v k' vs e1 e2).2.off r⟩⟩;have hoc:=OC.below h.out o;have S:=Δ b b;have anZ:=bx B S;have kp9:=bx z anZ;have kp8:=bx KZ kp9;have kp7:=bx K kp8;have kp6:=bx Rb kp7;have kp5:=bx KY kp6;have kp4:=bx L kp5;have kp3:=bx hp4 kp4;have kp2:=bx X kp3;have kp1:=bx H kp2;have kp0:=bx hp1 kp1;have C:OC (io a w (.slice b.heap.size 4 4) (.slice c.heap.size 3 3) (.slice a.heap.size 4 4) () () (.slice (a.heap.size+1:Nat) 2 2)) w _ _:=eV (aS hoc λg hg=>a2 g λe=>by have:=(h.out.lt g hg).1;have h0:=kp0.size;omega) (by have:=kp0.size;omega)
 have hbw:=(HY.out.1.trans<|G.mono HY.out.1.size).trans<|a4 _ .refl;generalize io a w (.slice b.heap.size 4 4) (.slice c.heap.size 3 3) (.slice a.heap.size 4 4) () () (.slice (a.heap.size+1:Nat) 2 2)=wa at a1 a3 hcs l C hbw⊢;rw[<-a3];have g1:=Cd wa [(3,0),(4,1),(0,7),(2,0)] #[Ω Ψ 3,Ω Ψ 0,Ω Ψ 4,Ω Ψ 1,Ω Ψ 0,Ω Ψ 7,Ω Ψ 2,Ω Ψ 0] 4 rfl rfl (by omega);have g2:=JV (wa.alloc<|Ξ #[Ω Ψ 3,Ω Ψ 0,Ω Ψ 4,Ω Ψ 1,Ω Ψ 0,Ω Ψ 7,Ω Ψ 2,Ω Ψ 0] 50) [0,2] #[Ω Ψ 0,Ω Ψ 2] 2 rfl rfl (by omega);have hz1:(wa.alloc<|Ξ #[Ω Ψ 3,Ω Ψ 0,Ω Ψ 4,Ω Ψ 1,Ω Ψ 0,Ω Ψ 7,Ω Ψ 2,Ω Ψ 0] 50).heap.size=wa.heap.size+1:=by simp
 rw[hz1]at g2;obtain⟨_,hb2,_⟩:=Ju wa (Ξ #[Ω Ψ 3,Ω Ψ 0,Ω Ψ 4,Ω Ψ 1,Ω Ψ 0,Ω Ψ 7,Ω Ψ 2,Ω Ψ 0] 50)<|Ξ #[Ω Ψ 0,Ω Ψ 2] 3;have y1:=(hb2.block w<|by omega).trans a1;have g1':=OV.below g1<|af (wa.alloc<|Ξ #[Ω Ψ 3,Ω Ψ 0,Ω Ψ 4,Ω Ψ 1,Ω Ψ 0,Ω Ψ 7,Ω Ψ 2,Ω Ψ 0] 50)<|Ξ #[Ω Ψ 0,Ω Ψ 2] 3;rw[<-a3]at y1;obtain⟨z0,z1,z2,z3,z4,z5⟩:=sS y1;refine ε (v:=.agg #[.slice b.heap.size 4 4,.slice c.heap.size 3 3,.slice wa.heap.size 4 4,(),(),.slice (wa.heap.size+1:Nat) 2 2]) (by simp[ZX,results52,go_sem,z0,z1,z2,z3,z4,z5]) rfl ?_;exact⟨_,_,_,_,_,wa,rfl,C,l,hcs,g1',g2.less<|by omega,hbw,hb2⟩
def wU.gv{w w' e}(h:wU w e w'):∃v,e=.returned v/\GV w' v ee/\I w w w':=by obtain⟨j,k,g,f,i,wa,rfl,d,c,h3,h4,h5,b,a⟩:=h;exact⟨_,rfl,⟨_,_,_,_,_,_,rfl,(OC.reads d c).below a,h3.below a,h4.reads,dv,dv,h5.reads⟩,b.trans<|a.mono b.size⟩
section
variable(w:ι)(v:Z8)
def oB:Y prog 52 #[] w λe w'=>(∃v,e=.returned v/\GV w' v ee)/\I w w w':=(JW w).mono λe w' h=>by obtain⟨v,a,b,h3⟩:=h.gv;exact⟨⟨v,a,b⟩,h3⟩
def GV.six{w v g}(h:GV w v g):∃a0 f k a1 n m1 m p m2 e c b j d o i a l,v=.agg #[.slice a0 f k,.slice a1 n m1,.slice m p m2,.slice e c b,.slice j d o,.slice i a l]:=by obtain⟨_,_,_,_,_,_,rfl,⟨s,l0,rfl,_⟩,⟨q,y,rfl,_⟩,⟨x,z,rfl,_⟩,⟨b3,t,rfl,_⟩,⟨b4,u,rfl,_⟩,⟨b5,r,rfl,_⟩⟩:=h;exact⟨_,_,_,_,_,_,_,_,_,_,_,_,_,_,_,_,_,_,rfl⟩
def Pa(a:GV w v ee):Y prog 24 #[v] w λe w'=>(∃r,e=.returned (.tuple #[r,Ω Ψ 0])/\eI w' r [(4,3),(4,5),(4,6),(4,4)])/\I w w w':=by have h:=O0 w v ee aak a cB (by decide) KA.1 sW Fg (by decide);exact h
def WY(a:GV w v ee):Y prog 28 #[v] w λe w'=>(∃r,e=.returned (.tuple #[r,Ω Ψ 0])/\GV w' r Al)/\I w w w':=WO w v ee Al 3 a cB (by decide) KA.1 sW JN
def WZ(lv)(a:GV w v ee)(c:JD w (λj=>j<w) lv (WU++[(10,0,0,0)])):Y prog 45 #[v,lv] w λe w'=>e=.returned (.tuple #[Ω Ψ 1,Ω Ψ 0,Ω Ψ 1,Ω Ψ 9,Ω Ψ 0])/\I w w w':=WR w v lv ee _ (λi=>if i<6 then rsM i else r6) Fi a cB (by decide) KA.1 c (by decide) rfl rfl (aal λB d b=>Cc)
def Aq(d a l)(b:eI w d l)(c:eI w a l):Y prog 27 #[d,a] w λe w'=>e=.returned (.bool ZV)/\I w w w':=(nd w d a l b c).mono λe w' h=>by obtain⟨rfl,n,rfl⟩:=h;exact⟨rfl,hU _ _ _⟩
def DJ(bx:Nat)(c0:Int)(c1:Nat)(c2 c3:Int)(c:w.heap[bx]?=V (Ξ #[c0,c1,c2,c3] 44 (0,0))):Y prog 62 #[Ω Ψ 5,.slice bx 1 1] w λe w'=>(∃r,e=.returned r/\JD w' (λj=>j<w') r (WU++[(c0,c1,c2,c3)]))/\I w w w':=(O5 w bx (c0,c1,c2,c3) c).mono λe w' h=>by obtain⟨⟨r,rfl,a⟩,b⟩:=h;exact⟨⟨r,rfl,OM.reads a⟩,b⟩
def lG{w:ι}{b:Nat}{t v0 v1 v2 v3 v4 v5}(h:w.heap[b]?=V (Ξ #[v0,v1,v2,v3,v4,v5] t (0,0))):w b=V v0/\w (b,1)=V v1/\w (b,2)=V v2/\w (b,3)=V v3/\w (b,4)=V v4/\w (b,5)=V v5:=sS h
def Fr:Y prog 18 #[] w λe w'=>e=.returned (.bool ZV)/\I w w w':=by
 go_enter (fU func18 rfl),ntmps18
 go_wp2_with fail
 refine m2 (oB _) λv1 p1 qp1 hp1=>?_
 go_wp2_with fail
 refine m2 (Pa _ v1 qp1.out) λr1 p2 qp2 hp2=>?_
 go_wp2_with fail
 refine m2 (oB _) λv2 p3 qp3 P=>?_
 go_wp2_with fail
 refine m2 (WY _ v2 qp3.out) λr2 p4 qp4 W=>?_;obtain⟨xa0,xn0,xm0,xa1,xn1,xm1,xa2,xn2,xm2,xa3,xn3,xm3,xa4,xn4,xm4,xa5,xn5,xm5,rfl⟩:=qp4.out.six
 go_wp2_with fail
 have⟨y3,N,zp5⟩:=DI p4<|Ξ #[.slice xa0 xn0 xm0,.slice xa1 xn1 xm1,.slice xa2 xn2 xm2,.slice xa3 xn3 xm3,.slice xa4 xn4 xm4,.slice xa5 xn5 xm5] 26;generalize p4.alloc _=p5 at y3 N zp5⊢;refine m1 (eF _ 2) λp6 KY=>?_
 go_wp2_with fail
 have⟨fp7,H,zp7⟩:=nt p6 [(4,2)] #[Ω Ψ 4,Ω Ψ 2] 1 rfl rfl (by omega);generalize p6.alloc _=p7 at fp7 H zp7⊢;refine m1 (dd _ p6.heap.size 1 1) λp8 Xa=>?_
 go_wp2_with fail
 refine m1 (dd _ Z 0 0) λp9 KZ=>?_
 go_wp2_with fail
 refine m1 (eF _ 1) λc y=>?_
 go_wp2_with fail
 have⟨F,f,Pb⟩:=nt c [(4,1)] #[Ω Ψ 4,Ω Ψ 1] 1 rfl rfl (by omega);generalize c.alloc _=p11 at F f Pb⊢;refine m1 (dd _ c.heap.size 1 1) λL z=>?_
 go_wp2_with fail
 have⟨x,b,aoi⟩:=WX L [(0,.slice p6.heap.size 1 1),(0,()),(0,.slice c.heap.size 1 1)] #[Ω Ψ 0,.slice p6.heap.size 1 1,Ω Ψ 0,(),Ω Ψ 0,.slice c.heap.size 1 1] 3 rfl rfl (by omega);generalize L.alloc _=p13 at x b aoi⊢;refine m1 (eF _ 0) λp14 o=>?_
 go_wp2_with fail
 refine m1 (eF _ 1) λp15 l=>?_
 go_wp2_with fail
 refine m1 (mK _ 7) λp16 q=>?_
 go_wp2_with fail
 refine m1 (sY _) λK p=>?_
 go_wp2_with fail
 have⟨n,d,E⟩:=nt K [(4,0),(4,1),(0,7),(2,0)] #[Ω Ψ 4,Ω Ψ 0,Ω Ψ 4,Ω Ψ 1,Ω Ψ 0,Ω Ψ 7,Ω Ψ 2,Ω Ψ 0] 4 rfl rfl (by omega);generalize K.alloc _=p18 at n d E⊢;have⟨y5,g,O⟩:=DI p18<|Ξ #[(),.slice L.heap.size 3 3,.slice K.heap.size 4 4,(),(),()] 26;generalize p18.alloc _=p19 at y5 g O⊢;refine m2 (oB _) λv3 J aoj B=>?_
 go_wp2_with fail
 have⟨A,a,S⟩:=DI J<|Ξ #[Ω Ψ 10,Ω Ψ 0,Ω Ψ 0,Ω Ψ 0] 44;generalize J.alloc _=p21 at A a S⊢;refine m2 (DJ _ J 10 0 0 0 A.out) λr3 p22 aok h=>?_
 go_wp2_with fail
 refine m1 (WZ _ v3 r3 (GV.below h.out<|GV.below a.out aoj.out) aok.out) λp23 D=>?_
 go_wp2_with fail
 refine m1 (eF _ 3) λp24 j=>?_
 go_wp2_with fail
 refine m1 (eF _ 5) λp25 C=>?_
 go_wp2_with fail
 refine m1 (eF _ 6) λp26 t=>?_
 go_wp2_with fail
 refine m1 (eF _ 4) λp27 m=>?_
 go_wp2_with fail
 have⟨v,i,aol⟩:=nt p27 [(4,3),(4,5),(4,6),(4,4)] #[Ω Ψ 4,Ω Ψ 3,Ω Ψ 4,Ω Ψ 5,Ω Ψ 4,Ω Ψ 6,Ω Ψ 4,Ω Ψ 4] 4 rfl rfl (by omega);generalize p27.alloc _=T at v i aol⊢;have Q:=bx P<|bx W<|bx N<|bx KY<|bx H<|bx Xa<|bx KZ<|bx y<|bx f<|bx z<|bx b<|bx o<|bx l<|bx q<|bx p<|bx d<|bx g<|bx B<|bx a<|bx h<|bx D<|bx j<|bx C<|bx t<|bx m<|bx i<|Δ T T;have dw:=bx hp1<|bx hp2 Q;refine m1 (Aq _ _ _ [(4,3),(4,5),(4,6),(4,4)] (eI.below Q qp2.out)<|OV.reads v.out) λp29 Cj=>?_;have u:=bx B<|bx a<|bx h<|bx D<|bx j<|bx C<|bx t<|bx m<|bx i<|bx Cj<|Δ p29 p29;have s:=bx g u;have G:=bx o<|bx l<|bx q<|bx p<|bx d s;have r:=bx z<|bx b G;have X:=bx Xa<|bx KZ<|bx y<|bx f r;have cp5:=bx KY<|bx H X;have cp4:=bx N cp5;have cw:=bx hp1<|bx hp2<|bx P<|bx W cp4;obtain⟨k0,k1,k2,k3,k4,k5⟩:=lG<|(cp5.block _ (Θ.1 y3.out).1).trans y3.out;obtain⟨j0,j1,j2,j3,j4,j5⟩:=lG<|(u.block _ (Θ.1 y5.out).1).trans y5.out;rw[E]at j0 j1 j2 j3 j4 j5
 go_wp2_with fail
 refine(NU _ _ _ Al (GV.below cp4 qp4.out) ⟨_,_,_,_,_,_,rfl,csn _,OC.reads (OC.below x.out G)<|aY.cons (k:=0) (OV.reads<|OV.below fp7.out X)<|aY.cons (k:=0) dv<|aY.cons (k:=0) (OV.reads<|OV.below F.out r)<|aY.nil _,OV.reads<|OV.below n.out s,dv,dv,isn _⟩).mono ?_;rintro e wz ⟨rfl,hz⟩;replace hz:=U hz
 go_wp2_with fail
 go_ret;exact⟨rfl,cw.trans<|hz.out.mono cw.size⟩
end
section
def Bx(w:ι)(b:Nat)(c:Array Z8)(g:GH):Prop:=w.heap[b]?=V (.cells c 26)/\GV w (.agg c) g/\b<w
def Bx.below{w w' b c g}(h:Bx w b c g)(hb:I w w w'):Bx w' b c g:=⟨(hb.block b h.2.2).trans h.1,h.2.1.below hb,ο h.2.2 hb.size⟩
def Px(w:ι)(b:Nat)(c:Array Z8)(h:PH):Prop:=w.heap[b]?=V (.cells c 56)/\tH w (.agg c) h/\b<w
def Px.below{w w' b c g}(h:Px w b c g)(hb:I w w w'):Px w' b c g:=⟨(hb.block b h.2.2).trans h.1,h.2.1.below hb,ο h.2.2 hb.size⟩
def GV.wq{w v g}(h:GV w v g):∃a0 b a1 m1 c m2 i d a e j f,v=.agg #[.slice a0 g.new.length b,.slice a1 g.old.length m1,.slice c g.roots.length m2,.slice i g.aA.length d,.slice a g.done.length e,.slice j g.marked.length f]:=by obtain⟨_,_,_,_,_,_,rfl,⟨a0,b,rfl,-⟩,⟨a1,m1,rfl,-⟩,⟨c,m2,rfl,-⟩,⟨i,d,rfl,-⟩,⟨a,e,rfl,-⟩,⟨j,f,rfl,-⟩⟩:=h;exact⟨_,_,_,_,_,_,_,_,_,_,_,_,rfl⟩
def Rm(x:Int)(n:Nat)(k k0:GH):Prop:=(x=0/\n<=32/\k=k0)\/(x=8/\32<n)
def eG:GH:=⟨[],[],[],[],[],[]⟩
def ahe(w):GV w (.agg #[(),(),(),(),(),()]) eG:=by refine⟨_,_,_,_,_,_,rfl,⟨Z,0,rfl,by simp[eG],by simp,λh=>absurd h<|by simp[eG]⟩,⟨Z,0,rfl,by simp[eG],by simp,λh=>absurd h<|by simp[eG]⟩,⟨Z,0,rfl,by simp[eG],by simp,λh=>absurd h<|by simp[eG]⟩,⟨Z,0,rfl,by simp[eG],by simp,λh=>absurd h<|by simp[eG]⟩,⟨Z,0,rfl,by simp[eG],by simp,λh=>absurd h<|by simp[eG]⟩,⟨Z,0,rfl,by simp[eG],by simp,λh=>absurd h<|by simp[eG]⟩⟩
section
variable{g:GH}(h:VG g)
include h
def ag8(w v)(d:GV w v g)(i:PQ w):
 Y prog 28 #[v] w λe w'=>(∃r x k,e=.returned (.tuple #[r,Ω Ψ x])/\GV w' r k/\Rm x (aq g).length k (Md.Al g))/\I w w w':=by
 by_cases f:(aq g).length<=32
 exact(adz h w v d f).mono λe w' ⟨⟨r,c,a⟩,h3⟩=>⟨⟨r,0,_,c,a,.inl ⟨rfl,f,rfl⟩⟩,h3⟩;refine(afs .full w v g d (VG.look h) (by have:=h.By;omega) (VG.cN h) ?_ i λw B b c a=>tO w B b g c (VG.aeP h) a).mono λe w' ⟨c,a⟩=>⟨⟨_,8,eG,c,ahe w',.inr ⟨rfl,by omega⟩⟩,a⟩;unfold Md.collect;simp only[reduceCtorEq,if_false,Md.aeP];rw[if_pos (by show 32<0+(aq g).length;omega)]
def agF(w v)(f:GV w v g)(j:PQ w):
 Y prog 30 #[v] w λe w'=>(∃r x k,e=.returned (.tuple #[r,Ω Ψ x])/\GV w' r k/\Rm x (aq<|Md.iF g).length k (Md.vm g))/\I w w w':=by
 by_cases d:(aq<|Md.iF g).length<=32
 exact(S5 h w v f d).mono λe w' ⟨⟨r,c,a⟩,h3⟩=>⟨⟨r,0,_,c,a,.inl ⟨rfl,d,rfl⟩⟩,h3⟩;refine(afs .major w v g f (VG.look h) (by have:=h.By;omega) (VG.cN h) ?_ j λw B b c a=>sP w B b g (λ_ i=>i.elim) c (VG.sw h) (VG.aej h) a).mono λe w' ⟨c,a⟩=>⟨⟨_,8,eG,c,ahe w',.inr ⟨rfl,by omega⟩⟩,a⟩;unfold Md.collect;simp only[if_true,Md.aeP];rw[if_pos (by show 32<0+(aq<|Md.iF g).length;omega)]
def aad(w v)(a:GV w v g):
 Y prog 53 #[v] w λe w'=>(∃r,e=.returned (.tuple #[r,Ω Ψ 0])/\tH w' r (plain g))/\I w w w':=
 agE w v g a (VG.look h) (by have:=h.By;omega) (VG.cN h) (VG.small h)
def agi:plain (Md.Al g)=normal (plain g)/\(normal<|plain g).cells.length=(aq g).length:=by have e:=wL h.wg;refine⟨e,?_⟩;rw[<-e,G7,Ct];exact Nat.add_zero _
def af4:plain (Md.vm g)=normal (lu<|plain g)/\(normal<|lu<|plain g).cells.length=(aq<|Md.iF g).length:=by have e:=wL<|yY h;rw[tf h]at e;refine⟨e,?_⟩;rw[<-e,G7,Ct];exact Nat.add_zero _
end
end
def agH(w N J g)(y:tH w N g)(v:tH w J g):
 Y prog 60 #[N,J] w λe w'=>e=.returned (.bool ZV)/\I w.heap.size w w':=by
 obtain⟨c,r,s,d,rfl,l,j,h3,h4⟩:=y;obtain⟨c',u,h,C,rfl,W,O,H,S⟩:=v;obtain⟨a,m,rfl,hm,hm2,o⟩:=l;obtain⟨a',D,rfl,X,G,f⟩:=W;have Q:∀A z:Obj,I w.heap.size w ((w.alloc A).alloc z):=λA z=>(af w A).alloc (by simp) z;have b:=U Q;clear Q;have E:=U j;have H3:=U h3;have H4:=U h4;have K2:=U O;have K3:=U H;have K4:=U S;clear j h3 h4 O H S
 go_enter (fU func60 rfl),ntmps60
 go_wp2_with fail
 refine(nd _ _ _ g.roots (E.out.below<|b.out _ _)<|K2.out.below<|b.out _ _).mono ?_;rintro e w' ⟨rfl,n1,rfl⟩
 go_wp2_with fail
 refine(v8 _ _ _ g.aA (H3.out.below<|bl (b.out _ _) _)<|K3.out.below<|bl (b.out _ _) _).mono ?_;rintro e w' ⟨rfl,n2,rfl⟩
 go_wp2_with fail
 refine(v8 _ _ _ g.done (H4.out.below<|bl (b.out _ _) _)<|K4.out.below<|bl (b.out _ _) _).mono ?_;rintro e w' ⟨rfl,n3,rfl⟩
 go_wp2_with fail
 go_loopw [5] (λi wr=>∃k:Nat,k<=g.cells.length/\i=Ω Ψ k/\∃n,wr=((w.alloc<|Ξ #[.slice a g.cells.length m,r,s,d] 56).alloc<|Ξ #[.slice a' g.cells.length D,u,h,C] 56).drewN n) (λi _=>g.cells.length-(intOf i).toNat)
 case atStart=>exact⟨0,η _,rfl,_,rfl⟩
 case round=>
  obtain⟨k,hk,rfl,n,rfl⟩:=hrel
  go_wp2
  ·have t:k<g.cells.length:=by assumption
   obtain⟨L,P,rfl,x,o⟩:=o (by omega);obtain⟨F,K,rfl,B,f⟩:=f (by omega);obtain⟨p,q,e1⟩:=cQ t;obtain⟨c1,v1,c2,l⟩:=(o.below (b.out (Ξ #[θ (V ⟨L,P,Z⟩) g.cells.length m,r,s,d] 56)<|Ξ #[θ (V ⟨F,K,Z⟩) g.cells.length D,u,h,C] 56) x) k p q e1;obtain⟨c3,v2,c4,j⟩:=(f.below (b.out (Ξ #[θ (V ⟨L,P,Z⟩) g.cells.length m,r,s,d] 56)<|Ξ #[θ (V ⟨F,K,Z⟩) g.cells.length D,u,h,C] 56) B) k p q e1;have hp:(p !=p)=Z0:=by simp
   have H1:=U l;have E:=U j;clear o f l j
   go_quiet ((go_at_call 27;exact uK<|nd _ _ _ q (H1.out.drewN _)<|E.out.drewN _))
   clear c1 c2 c3 c4
   go_wp2
   exact⟨⟨k+1,by omega,by go_num,_,rfl⟩,by simp[intOf];omega⟩
  ·have T:¬k<g.cells.length:=by assumption
   go_ret;exact⟨rfl,bl (b.out _ _) _⟩
def agj(w a mc l)(he:PQ w)(hv:n9 w (.slice a l.length mc) l):
 Y prog 11 #[.slice a l.length mc] w λe w'=>e=.returned (.bool ZV)/\I w w w':=by
 have HE:=U he;have HV:=U hv;clear hv he
 go_enter (fU func11 rfl),ntmps11
 go_wp2_with fail
 refine(WT _ a mc l HV.out).mono ?_;rintro e w1 ⟨rfl,hc,c⟩;have hcl:=hc.lt
 go_wp2_with fail
 have F:=af w1<|Ξ #[Ω Ψ 6,Ω Ψ 16,Ω Ψ 40] 3;refine(Pt _ w 0 _ _ [6,16,40] (hc.oq.below F).1 (by omega) (Ku w1 _ _ 3 rfl rfl<|by omega) (by omega) (by simp)<|by simp).mono ?_;rintro e w2 ⟨⟨y,rfl,hy⟩,hw⟩;obtain⟨tG,rfl,hmo⟩:∃tG:Nat,y=(tG:Int)/\tG<=40:=by simp at hy;exact⟨y.toNat,by omega,by omega⟩
 have i:I w w w2:=(c.trans<|F.mono c.size).grown hw.2 (c.trans<|F.mono c.size).size (λk e=>by cases e;exact .refl);clear c F hc hcl hy
 go_wp2_with fail
 refine(aeD _ w 1 tG hw.1 (by omega) hmo).mono ?_;rintro e X ⟨⟨r,g,rfl,ho,u,-⟩,S⟩;replace i:I w w X:=i.grown S.2 i.size (λk e=>by cases e;exact .refl);have HR:=U ho.reads;obtain⟨p0,m0,p1,m1,p2,m2,p3,m3,p4,m4,p5,m5,rfl⟩:=ho.reads.wq;clear S hw ho
 go_upto_region 3 with(fail)
 generalize h:X.alloc _=w4;obtain⟨y3,d,hz3⟩:=alE h;clear h;have B0:=U<|i.trans<|d.mono i.size;have n:ZN (Bx w4 X.heap.size _ g):=U ⟨y3,HR.out.below d,by omega⟩;generalize X.heap.size=b3 at n⊢;clear d HR i y3 hz3;have HW:=U<|PF u (by have:=u.news;have:=u.bw;omega);have HL:=U<|agD u;obtain⟨j,q,o,s,C,E⟩:=sS n.out.1
 go_wp2_with fail
 refine(af3 _ _ g n.out.2.1 u).mono ?_;rintro e w5 ⟨⟨r,rfl,G⟩,c⟩;have m1:=G.reads;obtain⟨a0,i0,a1,i1,a2,i2,a3,i3,rfl⟩:=m1.form;clear G j q o s C E
 go_upto_region 4 with(fail)
 generalize h:w5.alloc _=w6;obtain⟨y,d,hz⟩:=alE h;clear h;have b:=m1.below d;replace c:=c.trans<|d.mono c.size;replace B0:=U<|B0.out.trans<|c.mono B0.out.size;replace n:=U<|n.out.below c;have H5:ZN (Px w6 w5.heap.size _<|plain g):=U ⟨y,b,by omega⟩;generalize w5.heap.size=bw6 at H5⊢;clear b m1 d c y hz;obtain⟨⟨j,q,o,s⟩,-⟩:=dT H5.out.1
 go_wp2_with fail
 refine(aac _ _ _ H5.out.2.1 HW.out).mono ?_;rintro e w7 ⟨⟨r,rfl,m1⟩,c⟩;obtain⟨c0,j0,c1,j1,c2,j2,c3,j3,rfl⟩:=m1.form;clear j q o s
 go_upto_region 5 with(fail)
 generalize h:w7.alloc _=w8;obtain⟨y,d,hz⟩:=alE h;clear h;have b:=m1.below d;replace c:=c.trans<|d.mono c.size;replace B0:=U<|B0.out.trans<|c.mono B0.out.size;replace n:=U<|n.out.below c;replace H5:=U<|H5.out.below c;have t:ZN (Px w8 w7.heap.size _ _):=U ⟨y,b,by omega⟩;generalize w7.heap.size=bw8 at t⊢;clear b m1 d c y hz;obtain⟨⟨j,q,o,s⟩,-⟩:=dT H5.out.1
 go_wp2_with fail
 refine(Rk _ _ _ H5.out.2.1 HW.out<|VG.fits u).mono ?_;rintro e w9 ⟨⟨r,rfl,m1⟩,c⟩;obtain⟨d0,l0,d1,l1,d2,l2,d3,l3,rfl⟩:=m1.form;clear j q o s
 go_upto_region 6 with(fail)
 generalize h:w9.alloc _=w10;obtain⟨y,d,hz⟩:=alE h;clear h;have b:=m1.below d;replace c:=c.trans<|d.mono c.size;replace B0:=U<|B0.out.trans<|c.mono B0.out.size;replace n:=U<|n.out.below c;replace H5:=U<|H5.out.below c;replace t:=U<|t.out.below c;have B:ZN (Px w10 w9.heap.size _ _):=U ⟨y,b,by omega⟩;generalize w9.heap.size=apK at B⊢;clear b m1 d c y hz;obtain⟨⟨j,q,o,s⟩,-⟩:=dT B.out.1
 go_wp2_with fail
 refine(aac _ _ _ B.out.2.1 HL.out).mono ?_;rintro e H ⟨⟨r,rfl,m1⟩,c⟩;obtain⟨q0,j0,q1,j1,q2,j2,q3,j3,rfl⟩:=m1.form;clear j q o s
 go_upto_region 9 with(fail)
 generalize h:H.alloc _=E9;obtain⟨y,d,hz⟩:=alE h;clear h;have b:=m1.below d;replace c:=c.trans<|d.mono c.size;replace B0:=U<|B0.out.trans<|c.mono B0.out.size;replace n:=U<|n.out.below c;replace H5:=U<|H5.out.below c;replace t:=U<|t.out.below c;replace B:=U<|B.out.below c;have f:ZN (Px E9 H.heap.size _ _):=U ⟨y,b,by omega⟩;generalize H.heap.size=apL at f⊢;clear b m1 d c y hz;obtain⟨j,q,o,s,C,E⟩:=sS n.out.1
 go_wp2_with fail
 refine(aaR _ _ g n.out.2.1 u).mono ?_;rintro e w13 ⟨⟨r,rfl,G⟩,c⟩
 go_wp2_with fail
 refine(ag8 u _ r G.reads<|HE.out.below<|B0.out.trans<|c.mono B0.out.size).mono ?_;rintro e L ⟨⟨r2,x,k,rfl,m1,W⟩,i⟩;replace c:=c.trans<|i.mono c.size;obtain⟨s0,i0,s1,i1,s2,i2,s3,i3,s4,i4,s5,i5,rfl⟩:=m1.wq;replace W:=U W;clear G i j q o s C E
 go_upto_region 10 with(fail)
 generalize h:L.alloc _=w15;obtain⟨y,d,hz⟩:=alE h;clear h;have b:=m1.below d;replace c:=c.trans<|d.mono c.size;replace B0:=U<|B0.out.trans<|c.mono B0.out.size;replace n:=U<|n.out.below c;replace H5:=U<|H5.out.below c;replace t:=U<|t.out.below c;replace B:=U<|B.out.below c;replace f:=U<|f.out.below c;have A:ZN (Bx w15 L.heap.size _ k):=U ⟨y,b,by omega⟩;generalize L.heap.size=apN at A⊢;clear b m1 d c y hz;obtain⟨j,q,o,s,C,E⟩:=sS n.out.1
 go_wp2_with fail
 refine(aaR _ _ g n.out.2.1 u).mono ?_;rintro e w16 ⟨⟨r,rfl,G⟩,c⟩
 go_wp2_with fail
 refine(agF u _ r G.reads<|HE.out.below<|B0.out.trans<|c.mono B0.out.size).mono ?_;rintro e P ⟨⟨r2,z,m,rfl,m1,T⟩,i⟩;replace c:=c.trans<|i.mono c.size;obtain⟨t0,i0,t1,i1,t2,i2,t3,i3,t4,i4,t5,i5,rfl⟩:=m1.wq;replace T:=U T;clear G i j q o s C E
 go_upto_region 11 with(fail)
 generalize h:P.alloc _=Vn;obtain⟨y,d,hz⟩:=alE h;clear h;have b:=m1.below d;replace c:=c.trans<|d.mono c.size;replace B0:=U<|B0.out.trans<|c.mono B0.out.size;replace n:=U<|n.out.below c;replace H5:=U<|H5.out.below c;replace t:=U<|t.out.below c;replace B:=U<|B.out.below c;replace f:=U<|f.out.below c;replace A:=U<|A.out.below c;have p:ZN (Bx Vn P.heap.size _ m):=U ⟨y,b,by omega⟩;generalize P.heap.size=apO at p⊢;clear b m1 d c y hz;clear n HE B H5;obtain⟨e1,n1⟩:=agi u;obtain⟨e2,n2⟩:=af4 u;have kB:∀v:(aq g).length<=32,VG (Md.Al g):=λv=>aes u v;have kC:∀v:(aq<|Md.iF g).length<=32,VG (Md.vm g):=λv=>Qp u v;replace kB:=U kB;replace kC:=U kC;generalize hN:normal (plain g)=N at t e1 n1;generalize hM:normal (lu<|plain g)=K at f e2 n2;clear hN hM HW HL;obtain⟨⟨j,-⟩,-⟩:=dT t.out.1;obtain⟨⟨h0,-⟩,-⟩:=dT f.out.1;obtain⟨rfl,l1,rfl⟩|⟨rfl,l1⟩:=W.out<;>obtain⟨rfl,l2,rfl⟩|⟨rfl,l2⟩:=T.out
 all_goals
  clear W T;have d1:((N.cells.length:Int)<=32)=(N.cells.length<=32):=by simp;omega
  have d2:((K.cells.length:Int)<=32)=(K.cells.length<=32):=by simp;omega
  go_upto_region 13 with(fail)
  clear d1 d2 n1 n2 j h0;obtain⟨j,q,o,s,C,E⟩:=sS A.out.1;obtain⟨h0,v,J,h3,h4,h5⟩:=sS p.out.1
  go_wp2_with fail
  try
   refine(aad (kB.out l1) _ _ A.out.2.1).mono ?_;rintro e Q ⟨⟨r,rfl,m1⟩,c⟩;rw[e1]at m1;obtain⟨a0,i0,a1,i1,a2,i2,a3,i3,rfl⟩:=m1.form;clear j q o s C E h0 v J h3 h4 h5
   go_upto_region 15 with(fail)
   generalize h:Q.alloc _=va2;obtain⟨y,d,hz⟩:=alE h;clear h;have b:=m1.below d;replace c:=c.trans<|d.mono c.size;replace p:=U<|p.out.below c;replace t:=U<|t.out.below c;replace f:=U<|f.out.below c;replace B0:=U<|B0.out.trans<|c.mono B0.out.size;have D:ZN (Px va2 Q.heap.size _ N):=U ⟨y,b,by omega⟩;generalize Q.heap.size=ba at D⊢;clear b m1 d c y hz;obtain⟨⟨j,q,o,s⟩,-⟩:=dT D.out.1;obtain⟨⟨h0,v,J,h3⟩,-⟩:=dT t.out.1
   go_wp2_with fail
   refine(agH _ _ _ N D.out.2.1 t.out.2.1).mono ?_;rintro e va3 ⟨rfl,c⟩;replace p:=U<|p.out.below c;replace t:=U<|t.out.below c;replace f:=U<|f.out.below c;replace B0:=U<|B0.out.trans<|c.mono B0.out.size;clear D c j q o s h0 v J h3;obtain⟨j,q,o,s,C,E⟩:=sS p.out.1;obtain⟨h0,v,J,h3,h4,h5⟩:=sS p.out.1
   go_wp2_with fail
  try
   refine(aad (kC.out l2) _ _ p.out.2.1).mono ?_;rintro e O ⟨⟨r,rfl,m1⟩,c⟩;rw[e2]at m1;obtain⟨a0,i0,a1,i1,a2,i2,a3,i3,rfl⟩:=m1.form;clear j q o s C E h0 v J h3 h4 h5
   go_upto_region 19 with(fail)
   generalize h:O.alloc _=vb2;obtain⟨y,d,hz⟩:=alE h;clear h;have b:=m1.below d;replace c:=c.trans<|d.mono c.size;replace f:=U<|f.out.below c;replace B0:=U<|B0.out.trans<|c.mono B0.out.size;have D:ZN (Px vb2 O.heap.size _ K):=U ⟨y,b,by omega⟩;generalize O.heap.size=bb at D⊢;clear b m1 d c y hz;obtain⟨⟨j,q,o,s⟩,-⟩:=dT D.out.1;obtain⟨⟨h0,v,J,h3⟩,-⟩:=dT f.out.1
   go_wp2_with fail
   refine(agH _ _ _ K D.out.2.1 f.out.2.1).mono ?_;rintro e vb3 ⟨rfl,c⟩;replace f:=U<|f.out.below c;replace B0:=U<|B0.out.trans<|c.mono B0.out.size;clear D c j q o s h0 v J h3
   go_wp2_with fail
  refine(Fr _).mono ?_;rintro e v9 ⟨rfl,hb⟩
  go_wp2_with fail
  go_ret;exact⟨rfl,B0.out.trans<|hb.mono B0.out.size⟩
end Kn
