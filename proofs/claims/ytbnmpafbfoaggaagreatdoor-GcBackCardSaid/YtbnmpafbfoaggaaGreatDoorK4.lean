/- A part of the proof of GcBack; no conditions. -/
import Derived.Test.YtbnmpafbfoaggaaGreatDoorK3
set_option linter.defProp false
set_option linter.unusedVariables false
set_option linter.unusedSimpArgs false
set_option maxRecDepth 100000
set_option maxHeartbeats 16000000
noncomputable section
open Go.Lib renaming hid->U
open Go.World renaming cell?->Ω
open Go.RowKit.Below renaming refl->Ψ
open Nat renaming lt_of_lt_of_le->Ξ
open Array renaming getElem?_eq_some_iff->Θ
namespace Go.Proofs.YtbnmpafbfoaggaaGreatDoor
open Go.Proofs.Tryz hiding prog
open Go.Proofs.aD
namespace Kn
open Go Go.RowKit Md
def SP.two(B:Nat)(r0 r1 r2 r3:Value)(h:PH):Rg.SP:=⟨λv w=>∃g c0 c1 c2 c3,v=.slice (g:Nat) 2 2/\w.heap[g]?=some (.cells #[r0,r1,r2,r3,c0,c1,c2,c3] 56 (0,0))/\tH w (.agg #[c0,c1,c2,c3]) h,λ_ _ _ hb ⟨g,c0,c1,c2,c3,h1,h2,h3⟩=>⟨g,c0,c1,c2,c3,h1,(hb.block g (Θ.1 h2).1).trans h2,h3.below hb⟩⟩
structure ah0(h:PH):Prop where
 how:Ny h
 wW:h.cells.length<=16
def ah1{n h}(b:aav n h)(d:n<=16):ahP h:=by have a:=RP b (by omega);exact⟨Xc b,by have:=b.len;omega,λc hc=>by have:=a.kinds c hc;omega,by have:=a.four;omega,by have:=a.vY;omega,by have:=a.oX;omega,by have:=a.vY;have:=a.oX;simp;omega⟩
def afz{n h}(a:aav n h)(b:n<=16):ah0 (lu h):=⟨XB (Xc a) (Xb a)<|RP a<|by omega,by rw[Fb,a.len];exact b⟩
def Fd(cs:List HC):Nat:=(cs.filter λc=>c.1==3).length
def OW:∀cs,Fd cs+(cs.filter isLive).length=cs.length
 |[]=>rfl
 |c::cs=>by
  have b:=OW cs;unfold Fd at b⊢;rw[List.filter_cons,List.filter_cons];by_cases hc:c.1=3
  have a:(c.1==3)=true:=by simp[hc]
  have d:isLive c=false:=by simp[isLive,hc]
  rw[a,d];simp at b⊢;omega;have a:(c.1==3)=false:=by simp[hc]
  have d:isLive c=true:=by simp[isLive,hc]
  rw[a,d];simp at b⊢;omega
def aaa{cs:List HC}{j:Nat}{p vs}(e:cs[j]?=some (p,vs)):Fd (cs.take<|j+1)=Fd (cs.take j)+if p=3 then 1 else 0:=by unfold Fd;rw[bW e,List.filter_append,List.length_append];by_cases a:p=3<;>simp[a]
def adJ(w:World)(a:Option Addr)(mc:Nat)(l:List Int)(hv:By w (.slice a l.length mc) l):
 Calls prog 16 #[.slice a l.length mc] w λe w'=>e=.returned (.bool true)/\Below w w w':=by
 have HV:=U hv;clear hv
 go_enter (fU func16 rfl),ntmps16
 go_wp2
 refine(γ _ a mc l HV.out).mono ?_;rintro e w1 ⟨rfl,hc,hb1⟩
 go_wp2
 refine(aaw _ w 0 16 false hc (by omega)<|by omega).mono ?_;rintro e w2 ⟨⟨r,n,h,rfl,ho,y,hn⟩,hw⟩;have hb2:Below w w w2:=hb1.grown hw.2 hb1.size (λk e=>by cases e;exact .refl);have HR:=U ho.reads;obtain⟨p0,m0,p1,m1,p2,m2,p3,m3,rfl⟩:=ho.reads.form
 go_upto_region 2 with(fail)
 generalize P:w2.alloc _=w3;have⟨y3,G0,hz3⟩:=alE P;clear P;have B0:=U<|hb2.trans<|G0.mono hb2.size;have HR3:=U<|HR.out.below G0;have HO:=U y;have HN:=U hn;have hl3:w2.heap.size<w3:=by omega
 have Y3:=U y3;generalize w2.heap.size=b3 at hl3 Y3⊢;clear G0 HR hw hc hb1 hb2 ho y3 hz3 y hn;refine Rg.kl [.eq (.agg #[.slice p0 h.cells.length m0,.slice p1 h.roots.length m1,.slice p2 h.aA.length m2,.slice p3 h.done.length m3]),.eq<|.agg #[.slice p0 h.cells.length m0,.slice p1 h.roots.length m1,.slice p2 h.aA.length m2,.slice p3 h.done.length m3],SP.ph w3<|lu h,SP.two w3 (.slice p0 h.cells.length m0) (.slice p1 h.roots.length m1) (.slice p2 h.aA.length m2) (.slice p3 h.done.length m3)<|lu h] (by kernel_rfl) (by kernel_rfl) (by rfl) ?_ ?_
 ·refine⟨?_,?_,?_,?_,trivial⟩
  all_goals intro x2 w4 O d b
  all_goals have s:=(Ψ _ w3).drew.trans O
  all_goals obtain⟨⟨z0,z1,z2,z3⟩,-⟩:=dx<|(s.block b3 hl3).trans Y3.out
  all_goals first|(have k0:=d 3 rfl;simp at k0;(have _t:True:=trivial);clear d b;go_simp;exact⟨_,rfl,.refl _ _,rfl⟩)|skip
  ·have d0:=Rg.ir (b 1 _ rfl rfl) rfl;clear d b;go_simp;refine(XE _ _ h (HR3.out.below s)<|ah1 HO.out HN.out).mono ?_;rintro e w5 ⟨⟨r,rfl,ho⟩,E⟩;exact⟨_,rfl,E,ho.less s.size⟩
  ·have d0:=Rg.ir (b 0 _ rfl rfl) rfl;obtain⟨v,d1,hv⟩:∃v,(x2.tmps[19]?).getD undef=v/\pV w4 w3 v (lu h):=⟨_,rfl,b 2 _ rfl rfl⟩;have hv:=hv.reads;obtain⟨q0,n0,q1,n1,q2,n2,q3,n3,rfl⟩:=hv.form;clear d b z0 z1 z2 z3;go_simp;exact⟨_,rfl,af _ _,_,_,_,_,_,rfl,heap_alloc_new _ _,hv.below<|af _ _⟩
 ·rintro vs w4 O ⟨s0,s1,s2,⟨g,c0,c1,c2,c3,s3,F,H⟩,-⟩;have s3:vs 3=_:=s3;simp[go_sem,s3];have s:=(Ψ _ w3).drew.trans O;have hL:∀k:Nat,k<2->∃x0 x1 x2 x3 hk,w4 (g,k*4)=some x0/\w4 (g,k*4+1)=some x1/\w4 (g,k*4+2)=some x2/\w4 (g,k*4+3)=some x3/\tH w4 (.agg #[x0,x1,x2,x3]) hk/\ah0 hk:=λk hk=>by
   match k,hk with
   |0,_=>exact⟨_,_,_,_,h,by simp[Ω,F],by simp[Ω,F],by simp[Ω,F],by simp[Ω,F],HR3.out.below s,RP HO.out (by have:=HN.out;omega),by rw[HO.out.len];exact HN.out⟩
   |1,_=>exact⟨_,_,_,_,lu h,by simp[Ω,F],by simp[Ω,F],by simp[Ω,F],by simp[Ω,F],H,afz HO.out HN.out⟩
  have HL:=U hL;have m:g<w4:=(Θ.1 F).1;have B4:=U<|B0.out.trans<|s.mono B0.out.size;clear s0 s1 s2 s3 hL F H s O B0 HR3 Y3 hl3
  go_wp2
  go_loopw [5] (λi wr=>∃k:Nat,k<=2/\i=.int .i64 k/\Below w4 w4 wr) (λi _=>2-(intOf i).toNat)
  case atStart=>exact⟨0,by omega,rfl,Ψ _ _⟩
  case round=>
   obtain⟨k,hk,rfl,s⟩:=hrel;by_cases hlt:k<2
   ·have⟨x0,x1,x2,x3,f,e0,e1,e2,e3,H,y⟩:=HL.out k hlt;have⟨q0,n0,q1,n1,q2,n2,q3,n3,he⟩:=H.form;cases he
    have hph:=H.below s;have d0:=cG s e0 m;have d1:=cG s e1 m;have d2:=cG s e2 m;have d3:=cG s e3 m;have HP:=U H;have K:=U y;have hgr:g<wr:=Ξ m s.size;have hcl:f.cells.length<=16:=y.wW;have HE:=U<|And.intro e0<|And.intro e1<|And.intro e2 e3;clear e0 e1 e2 e3 H y
    go_wp2
    refine(RD _ _ f hph (by omega) (λc hc=>by have:=K.out.how.kinds c hc;omega) (by have:=K.out.how.four;omega) (by have:=K.out.how.vY;omega) (by have:=K.out.how.oX;omega)).mono ?_;rintro e w5 ⟨⟨r5,rfl,o5⟩,E⟩
    go_wp2
    refine(afm _ r5 f o5.ph.reads K.out.how (by omega) (λc hc=>by have:=K.out.how.kinds c hc;omega)).mono ?_;rintro e w6 ⟨⟨r6,rfl,o6⟩,hb6⟩;have A:=U<|acl K.out.how<|by omega
    have HNO:=U<|XC K.out.how;have D:=U (show(OZ f).new.length=0 from rfl);have hold:=U (show(OZ f).old.length=(f.cells.filter isLive).length by simp[OZ]);generalize OZ f=G at o6 A HNO D hold;have W:=o6.reads;obtain⟨a0,i0,a1,i1,a2,i2,a3,i3,a4,i4,a5,i5,rfl⟩:=W.G';have hB6:=(s.trans<|E.mono s.size).trans<|hb6.mono<|Nat.le_trans s.size E.size;clear E hb6 o5 o6 d0 d1 d2 d3 hph hgr
    go_upto_region 7 with(fail)
    generalize P:w6.alloc _=w7;have⟨y7,G7,hz7⟩:=alE P;clear P;have z:Hid (Bx w7 w6.heap.size _ G):=U ⟨y7,W.below G7,by omega⟩;have q:=U<|hB6.trans<|G7.mono hB6.size;generalize w6.heap.size=b6 at z⊢;clear W hB6 s y7 G7 hz7;have⟨f0,f1,f2,f3,f4,f5⟩:=sS z.out.1
    go_wp2
    refine(afo _ _ G z.out.2.1 A.out).mono ?_;rintro e w8 ⟨rfl,Q⟩;replace z:=U<|z.out.below Q;replace q:=U<|q.out.trans<|Q.mono q.out.size;clear f0 f1 f2 f3 f4 f5 Q;obtain⟨f0,-,-,-,-,-⟩:=sS z.out.1;rw[D.out]at f0
    go_wp2
    clear f0;have hgw:g<w8:=Ξ m q.out.size;have d0:=cG q.out HE.out.1 m
    go_loopw [8,9] (λc i wr=>∃j:Nat,j<=f.cells.length/\i=.int .i64 j/\c=.int .i64 (Fd<|f.cells.take j)/\wr=w8) (λ_ i _=>f.cells.length-(intOf i).toNat)
    case atStart=>exact⟨0,Nat.zero_le _,rfl,rfl,rfl⟩
    case round=>
     obtain⟨j,hj1,rfl,rfl,rfl⟩:=hrel;have L:=OW<|f.cells.take j;simp only[List.length_take]at L;by_cases hlj:j<f.cells.length
     ·have⟨_,_,_,_,he,h0,_⟩:=HP.out.below q.out;cases he
      have⟨_,_,he,_,_,N⟩:=h0;cases he
      obtain⟨bb,o,rfl,hbb,N⟩:=N (by omega);have⟨p,vs',e1⟩:=cQ hlj;have⟨f0,x,f1,hxv⟩:=N j p vs' e1;have hnx:=U<|aaa e1;have hfj:Fd (f.cells.take j)<=16:=by omega
      generalize hFJ:Fd (f.cells.take j)=fj at hfj⊢;have HFJ:=U hFJ;clear N e1 hxv f1 L hFJ;by_cases H:p=3
      ·subst H
       go_wp2
       exact⟨⟨j+1,by omega,by go_num,by rw[hnx.out,HFJ.out];simp,trivial⟩,by simp[intOf];omega⟩
      ·go_wp2
       exact⟨⟨j+1,by omega,by go_num,by rw[hnx.out,HFJ.out];simp[H],trivial⟩,by simp[intOf];omega⟩
     ·have hje:j=f.cells.length:=by omega
      subst hje;rw[List.take_length]at L⊢;have hfr:=OW f.cells;have hz:=U (show((G.old.length:Int) !=(f.cells.length:Int) -(Fd f.cells:Int))=false by rw[hold.out];simp;omega);have aj8:Fd f.cells<=16:=by omega
      clear L hfr;generalize Fd f.cells=fn at hz aj8⊢;have⟨f0,f1,f2,f3,f4,f5⟩:=sS z.out.1
      go_wp2
      refine(afp _ _ G z.out.2.1 A.out).mono ?_;rintro e wA ⟨⟨rA,rfl,oA⟩,T⟩
      go_wp2
      refine(ν A.out _ rA oA.reads).mono ?_;rintro e wB ⟨⟨rB,rfl,pB⟩,hbB⟩;obtain⟨s0,t0,s1,t1,s2,t2,s3,t3,rfl⟩:=pB.form;have C:=T.trans<|hbB.mono T.size;clear f0 f1 f2 f3 f4 f5 d0 oA T hbB
      go_upto_region 16 with(fail)
      generalize P:wB.alloc _=wC;have⟨yC,GC,hzC⟩:=alE P;clear P;have hbC:=C.trans<|GC.mono C.size;replace q:=U<|q.out.trans<|hbC.mono q.out.size;replace z:=U<|z.out.below hbC;have PC:=U<|pB.below GC;have HPC:=U<|HP.out.below q.out;have d0:=cG q.out HE.out.1 m;have d1:=cG q.out HE.out.2.1 m;have d2:=cG q.out HE.out.2.2.1 m;have d3:=cG q.out HE.out.2.2.2 m;have B:g<wC:=Ξ m q.out.size;have hlC:wB.heap.size<wC:=by omega
      have YC:=U yC;have HHG:Hid (Ny<|plain G):=U<|XG A.out (by have:=D.out;have:=hold.out;have:=List.length_filter_le isLive f.cells;omega);generalize wB.heap.size=b10 at hlC YC⊢;clear yC GC hzC C pB hbC;refine Rg.kl [.eq (.agg #[.slice s0 (plain G).cells.length t0,.slice s1 (plain G).roots.length t1,.slice s2 (plain G).aA.length t2,.slice s3 (plain G).done.length t3]),.eq<|.slice (g:Nat) 2 2,.eq<|.int .i64 k,.eq<|.pointer (g,k*4),.eq<|.agg #[.slice q0 f.cells.length n0,.slice q1 f.roots.length n1,.slice q2 f.aA.length n2,.slice q3 f.done.length n3],.eq<|.tuple #[.bool true,.int .i64 0],.eq<|.tuple #[.bool true,.int .i64 0],.eq<|.bool true,.eq<|.int .i64 0,.eq<|.bool true,.eq<|.int .i64 0] (by kernel_rfl) (by kernel_rfl) (by rfl) ?_ ?_
      ·refine⟨?_,?_,?_,?_,?_,?_,?_,?_,?_,?_,?_,trivial⟩
       all_goals intro x2 w9 X d b
       all_goals have t:=(Ψ _ wC).drew.trans X
       all_goals first|(obtain⟨⟨z0,z1,z2,z3⟩,-⟩:=dx<|(t.block b10 hlC).trans YC.out;have g0:=cG t d0 B;have g1:=cG t d1 B;have g2:=cG t d2 B;have g3:=cG t d3 B;have k0:=d 4 rfl;have k1:=d 5 rfl;have k2:=d 10 rfl;simp at k0 k1 k2;(try have q0:=Rg.ir (b 1 _ rfl rfl) rfl);(try have q1:=Rg.ir (b 2 _ rfl rfl) rfl);(try have q2:=Rg.ir (b 3 _ rfl rfl) rfl);(try have q5:=Rg.ir (b 5 _ rfl rfl) rfl);(try have q6:=Rg.ir (b 6 _ rfl rfl) rfl);(try have q7:=Rg.ir (b 7 _ rfl rfl) rfl);(try have q8:=Rg.ir (b 8 _ rfl rfl) rfl);clear d b;go_simp;exact⟨_,rfl,.refl _ _,rfl⟩)|skip
       ·have e0:=Rg.ir (b 0 _ rfl rfl) rfl;have e1:=Rg.ir (b 4 _ rfl rfl) rfl;clear d b;go_simp;refine(agn _ _ _ (plain G) f (PC.out.below t) (HPC.out.below t) HHG.out K.out.how HNO.out).mono ?_;rintro e wD ⟨rfl,hbD⟩;exact⟨_,rfl,hbD,rfl⟩
      ·rintro vs wD hbD ⟨s0',s1',s2',s3',s4',s5',s6',s7',s8',J,u,-⟩;have J:vs 9=.bool true:=J;have u:vs 10=.int .i64 0:=u;simp[go_sem,J,u];clear s0' s1' s2' s3' s4' s5' s6' s7' s8' J u;have S:=(Ψ _ wC).drew.trans hbD;have d0:=cG S d0 B;replace z:=U<|z.out.below S;replace q:=U<|q.out.trans<|S.mono q.out.size;obtain⟨-,f1,-,-,-,-⟩:=sS z.out.1;clear d1 d2 d3;have hzz:=hz.out;have hk2:(k:Int)<(2:Int):=by omega
       have hk0:(0:Int)<=(k:Int):=by omega
       go_wp2
       go_quiet (fail)
       go_wp2
       exact⟨⟨k+1,by omega,by go_num,q.out.trans<|(hU wD wD _).mono q.out.size⟩,by simp[intOf];omega⟩
   ·have hke:k=2:=by omega
    subst hke
    go_wp2
    refine(Fr _).mono ?_;rintro e w9 ⟨rfl,X⟩
    go_wp2
    go_ret;exact⟨rfl,(B4.out.trans<|s.mono B4.out.size).trans<|X.mono<|Nat.le_trans B4.out.size s.size⟩
end Kn
