/- A part of the proof of GcKnown; no conditions. -/
import Derived.Test.YtbnmpafbfoaggaaGreatDoorQ0
import Derived.StillTailTactics
import Derived.Deep.RegionHeld3
import Derived.Laws.CopyOwn
import Derived.Deep.RegionLaw
import Derived.Deep.AppendLies
import Derived.RangeFuncNested
import Derived.RangeFuncBound
import Derived.RangeFuncCalls
import Derived.RangeFuncLeaves
import Derived.Shelf.Abstract
import Derived.Shelf.RegionOpen
import Derived.OwnWalkIn
import Derived.TacticsInMore
import Derived.LoopNIn
import Derived.LoopIn
import Derived.Laws.EntriesVeiled
import Derived.Deep.RegionHeldLaw
set_option linter.unusedVariables false
set_option linter.unusedSimpArgs false
set_option maxRecDepth 100000
set_option maxHeartbeats 16000000
noncomputable section
open Go.Lib renaming hid->Ω
open Option renaming some->Ψ,none->Θ
open Array renaming getElem?_eq_some_iff->Ξ,getElem?_eq_none->ZW,getElem?_modify->ZV,replicate->ZP,toList_setIfInBounds->ZO
open Go renaming World->Δ,Value->Γ,heap_alloc_new->θ,run_underlying->ZX,Calls->ZU,Oper->ZT,Program->ZS,wpList->ZQ,TypeId->ZM,Act->ZL,maxLen->ZI
open Go.Value renaming pointer->ω,int->χ,slice->υ,ownBlock->ZN
open Go.IntKind renaming i64->ψ
open Go.Obj renaming cells->φ
open Go.Result renaming andThen_ok->ο
open Go.RowKit renaming Below->ξ
open Bool renaming true->μ,false->κ,and_eq_true->Z3
open Go.World renaming cell?->ι,setCell->ZY,frozen?->ZK,grownBy_alloc->ZH
open Go.RowKit.Below renaming refl->η,heap_alloc->ε,heap_setCell->Z9
open Option.some renaming inj->ζ
open Go.Sem renaming run_bind->Z8,run_pure->ZJ
open Go.Region renaming Mode->Z7,seqB->Z4,ready->Z2,binds->Z1,lexHead->Z0,noSelect->ZR
open Ne renaming symm->ZZ
namespace Go.Proofs.YtbnmpafbfoaggaaGreatDoor
namespace Kn
open Go Go.RowKit Md
section
variable(w:Δ)(p:Int)(b:Nat)(q:Int)
def BF(g:GH)(l:List HV):Prop:=l.length<=40/\∀(i:Nat) v,l[i]?=Ψ v->co v=μ/\eO g v=0/\(l.take i).contains v=κ
theorem eI.take{w:Δ}{a:Option Addr}{m:Nat}{l:List HV}{j:Nat}(h:eI w (.slice a l.length m) l)(hj:j<=l.length):eI w (.slice a j m) (l.take j):=by
 obtain⟨q,s,d,r,g,p⟩:=h;cases d
 have f:(l.take j).length=j:=by simp;omega
 refine⟨a,m,by rw[f],by omega,g,fun h0=>?_⟩;obtain⟨b,o,rfl,hb,c⟩:=p (by omega);refine⟨b,o,rfl,hb,fun i k n e=>c i k n ?_⟩;rw[List.getElem?_take]at e;split at e
 ·exact e
 ·cases e
theorem sm{e:Ending}{c:Int}(h:dZ c e)(hc:c=0):e=.returned (.tuple #[]):=by unfold dZ at h;rwa[if_pos hc]at h
theorem jX(h:co (p,q)=μ):ZU aD.prog 168 #[.agg #[χ ψ p,χ ψ q]] w fun e w'=>e=.returned (.bool μ)/\ξ w.heap.size w w':=by have:=sd w (p,q);rw[h]at this;exact this
theorem Iw(g:GH)(p q:Int)(h:mi w b g)(he:eO g (p,q)=0):ZU aD.prog 169 #[ω (Ψ ⟨b,0,Θ⟩),.agg #[χ ψ p,χ ψ q]] w fun e w'=>e=.returned (.tuple #[])/\ξ w.heap.size w w':=(we w b g (p,q) h).mono fun e w' h=>⟨sm h.1 he,h.2⟩
theorem zA(v:Γ)(l:List HV)(p q:Int)(hv:eI w v l)(h:l.contains (p,q)=κ):
 ZU aD.prog 170 #[v,.agg #[χ ψ p,χ ψ q]] w fun e w'=>e=.returned (.bool κ)/\ξ w.heap.size w w':=by
 have:=BD w v l (p,q) hv;rw[h]at this;exact this
theorem jY:∀{l r:List Int} {k:Nat} {e:Int},(∀i x,i<k->l[i]?=Ψ x->x=0) ->l[k]?=Ψ e->e≠0->cU (l++r)=e
 |[],r,k,e,h,he,hn=>by simp at he
 |a::l,r,0,e,h,he,hn=>by simp at he;subst he;simp[cU,hn]
 |a::l,r,k+1,e,h,he,hn=>by have h0:a=0:=h 0 a (by omega) rfl;subst h0;simp only[List.cons_append,cU,if_true];exact jY (l:=l) (r:=r) (k:=k) (e:=e) (fun i x hi hx=>h (i+1) x (Nat.succ_lt_succ hi) (by simpa using hx)) (by simpa using he) hn
theorem jZ:∀{l r:List Int},(∀x∈l,x=0) ->cU (l++r)=cU r
 |[],r,h=>rfl
 |a::l,r,h=>by have h0:a=0:=h a List.mem_cons_self;subst h0;simp only[List.cons_append,cU,if_true];exact jZ fun x hx=>h x (List.mem_cons_of_mem _ hx)
def cN(g:GH):Int:=cU ((List.range g.marked.length).map (jt g g.marked)++(ju g).map fun n=>if g.marked.contains n then 0 else 11)
def uL(l:List Int)(k:Nat):Int:=if k=0 then-1 else l.getD (k-1) 0
theorem BG{l:List Int}{k:Nat}{n:Int}(h:l[k]?=Ψ n):uL l (k+1)=n:=by simp[uL,List.getD,h]
theorem uM{g:GH}{k:Nat}{n e:Int}(hz:∀i,i<k->jt g g.marked i=0)(h:g.marked[k]?=Ψ n)(he:jt g g.marked k=e)(hn:e≠0):cN g=e:=by
 unfold cN;have b:=(List.getElem?_eq_some_iff.1 h).1;refine jY (k:=k) (fun i x hi a=>?_) ?_ hn
 ·rw[List.getElem?_map,List.getElem?_range (by omega)]at a;simp at a;rw[<-a];exact hz i hi
 ·rw[List.getElem?_map,List.getElem?_range b];simp[he]
theorem zB{g:GH}(hz:∀i,i<g.marked.length->jt g g.marked i=0):cN g=cU ((ju g).map fun n=>if g.marked.contains n then 0 else 11):=by
 unfold cN;refine jZ fun x a=>?_
 obtain⟨i,hi,rfl⟩:=List.mem_map.1 a;exact hz i (List.mem_range.1 hi)
structure eC(g:GH):Prop where
 cells:∀c∈g.new++g.old,zj g c=0
 news:g.new.length<=8
 bw:g.old.length<=32
 four:g.roots.length=4
 roots:∀v∈g.roots,mh g v=0
 aA:BF g g.aA
 done:BF g g.done
theorem uN(g:GH)(v:Γ)(cs:List HC)(tG:Int)(hg:mi w b g)(hv:sa w v cs)(hm:(cs.length:Int)<=tG)(hmm:tG<=1000000)(hc:∀c∈cs,zj g c=0):
 ZU aD.prog 166 #[ω (Ψ ⟨b,0,Θ⟩),v,χ ψ tG] w fun e w'=>e=.returned (.tuple #[])/\ξ w.heap.size w w':=by
 obtain⟨n,rfl⟩:=Int.eq_ofNat_of_zero_le (show 0<=tG by omega);exact Iv w b g v cs n hg hv (by omega) (by omega) hc
theorem Ix(g:GH)(h:mi w b g)(hk:eC g)(hm:g.marked.length<=1000000):
 ZU aD.prog 110 #[ω (Ψ ⟨b,0,Θ⟩)] w fun e w'=>dZ (cN g) e/\ξ w.heap.size w w':=by
 have H:=Ω h;have K:=Ω hk;obtain⟨n,o,r,wi,d,m,c0,c1,c2,c3,c4,c5,h1,h2,h3,h4,h5,h6⟩:=h;have hb:=az c0;have HC1:=Ω c1;have H1:=Ω h1;have H2:=Ω h2;have H3:=Ω h3;have H4:=Ω h4;have H5:=Ω h5;have H6:=Ω h6;obtain⟨ar,mr,rfl,hmr,aeW,har⟩:=h3;obtain⟨aw,V,rfl,hmw,aeX,haw⟩:=h4;obtain⟨ad,U,rfl,hmd,aeY,had⟩:=h5;obtain⟨am,mm,rfl,hmm,aq4,ham⟩:=h6;obtain⟨an,mn,rfl,hmn,aq5,han⟩:=h1;obtain⟨ao,mo,rfl,hmo,aq7,hao⟩:=h2;have HR:=Ω har;have HM:=Ω ham;have four:=Ω hk.four;have hr4:decide ((g.roots.length:Int)<4)=κ:=by have:=hk.four;simp;omega
 have hr5:decide ((4:Int)<g.roots.length)=κ:=by have:=hk.four;simp;omega
 clear hk har haw had ham han hao
 go_enter aD.func110,Tryz.ntmps110
 go_wp2_with fail
 refine(uN _ b g _ g.new 8 H.out H1.out (by have:=K.out.news;omega) (by omega) fun c hc=>K.out.cells c (List.mem_append_left _ hc)).mono ?_;rintro e w1 ⟨rfl,D⟩;have d1:=(D.cell (p:=⟨b,1,Θ⟩) hb).trans c1
 go_wp2_with fail
 refine(uN _ b g _ g.old 32 (H.out.below D) (H2.out.below D) (by have:=K.out.bw;omega) (by omega) fun c hc=>K.out.cells c (List.mem_append_right _ hc)).mono ?_;rintro e w2 ⟨rfl,T⟩;have Z:=D.trans (T.mono D.size);have e2:=(Z.cell (p:=⟨b,2,Θ⟩) hb).trans c2;clear D T d1 c1 c0
 go_wp2_with fail
 ((with_reducible refine(cd _ _).mono ?_))
 rintro e w' ⟨rfl,rfl⟩
 go_wp2_with fail
 ((with_reducible refine(cd _ _).mono ?_))
 rintro e w' ⟨rfl,rfl⟩
 go_wp2_with fail
 clear e2 hr4 hr5
 go_loopw [49] (fun i wr=>∃k:Nat,k<=g.roots.length/\i=χ ψ k/\ξ w.heap.size w wr) (fun i _=>g.roots.length-(intOf i).toNat)
 case atStart=>exact⟨0,Nat.zero_le _,rfl,Z⟩
 case round=>
  obtain⟨k,hk,rfl,a⟩:=hrel;clear Z;by_cases z:k<g.roots.length
  ·obtain⟨ba,oa,e,A,f⟩:=HR.out (by omega);cases e
   obtain⟨p,q,e1⟩:=ep z;obtain⟨f1,f2⟩:=(f.below a A) k p q e1;have hv0:=Ω (K.out.roots _ (List.mem_of_getElem? e1));have u:=a.size;clear f e1
   go_wp2_with fail
   refine(Io _ b g (p,q) (H.out.below (a.alloc u _)) hv0.out).mono ?_;rintro e w3 ⟨rfl,hb3⟩
   go_wp2_with fail
   exact⟨⟨k+1,by omega,by go_num,(a.alloc u _).trans (hb3.mono (by simp;omega))⟩,by simp[intOf];omega⟩
  ·clear HR;have e3:=(a.cell (p:=⟨b,3,Θ⟩) hb).trans c3;have e4:=(a.cell (p:=⟨b,4,Θ⟩) hb).trans c4;have u:=a.size
   go_wp2_with fail
   go_region_held3 (fun w'=>w'.cell? ⟨b,3,Θ⟩=Ψ (.slice aw g.aA.length V)/\w'.cell? ⟨b,4,Θ⟩=Ψ (.slice ad g.done.length U)) (go_keep) (fail)
   go_wp2_with fail
   have I:ξ w.heap.size w ((wr.alloc (φ #[.slice aw g.aA.length V,.slice ad g.done.length U] 23)).drew):=(a.alloc u _).drew;have N:((wr.alloc (φ #[.slice aw g.aA.length V,.slice ad g.done.length U] 23)).drew).cell? ⟨wr.heap.size,0,Θ⟩=Ψ (.slice aw g.aA.length V):=by go_simp
   have Q:((wr.alloc (φ #[.slice aw g.aA.length V,.slice ad g.done.length U] 23)).drew).cell? ⟨wr.heap.size,1,Θ⟩=Ψ (.slice ad g.done.length U):=by go_simp
   have Y:wr.heap.size<((wr.alloc (φ #[.slice aw g.aA.length V,.slice ad g.done.length U] 23)).drew).heap.size:=by simp
   generalize ((wr.alloc (φ #[.slice aw g.aA.length V,.slice ad g.done.length U] 23)).drew)=w9 at I N Q Y⊢;generalize wr.heap.size=bx at N Q Y u⊢;have hL:∀k:Nat,k<2->∃ax mx l,w9.cell? ⟨bx,k,Θ⟩=Ψ (.slice ax l.length mx)/\eI w (.slice ax l.length mx) l/\BF g l:=by
    intro k hk
    match k,hk with
    |0,_=>exact⟨aw,V,g.aA,N,H4.out,K.out.aA⟩
    |1,_=>exact⟨ad,U,g.done,Q,H5.out,K.out.done⟩
   have HL:=Ω hL;clear hL N Q e3 e4 a
   go_loopw [69] (fun i wr=>∃k:Nat,k<=2/\i=χ ψ k/\ξ w9.heap.size w9 wr) (fun i _=>2-(intOf i).toNat)
   case atStart=>exact⟨0,by omega,rfl,η _ _⟩
   case round=>
    obtain⟨k,hk,rfl,a⟩:=hrel;have L:=I.size;by_cases z:k<2
    ·obtain⟨ax,mx,l,hc,hvx,ir⟩:=HL.out k z;have hcw:=(a.cell (p:=⟨bx,k,Θ⟩) Y).trans hc;have HV:=Ω hvx;obtain⟨ax',mx',he,hmx,N4,hax⟩:=hvx;cases he
     have HX:=Ω hax;have HK:=Ω ir.2;have h40:decide ((40:Int)<l.length)=κ:=by have:=ir.1;simp;omega
     have u:=a.size;clear hc hax ir
     go_wp2_with fail
     ((with_reducible refine(cd _ _).mono ?_))
     rintro e w' ⟨rfl,rfl⟩
     go_wp2_with fail
     clear h40 hcw
     go_loopw [79] (fun i wr=>∃j:Nat,j<=l.length/\i=χ ψ j/\ξ w9.heap.size w9 wr) (fun i _=>l.length-(intOf i).toNat)
     case atStart=>exact⟨0,by omega,rfl,a⟩
     case round=>
      obtain⟨j,hj,rfl,R⟩:=hrel;clear a u;have amU:=R.size;by_cases W:j<l.length
      ·obtain⟨ba,oa,e,A,f⟩:=HX.out (by omega);cases e
       obtain⟨p,q,e1⟩:=ep W;have F:=I.trans (R.mono L);obtain⟨f1,f2⟩:=(f.below F A) j p q e1;obtain⟨k1,k2,k3⟩:=HK.out j (p,q) e1;have K1:=Ω k1;have K2:=Ω k2;have K3:=Ω k3;clear f e1 k1 k2 k3
       go_wp2_with fail
       refine(jX _ p q K1.out).mono ?_;rintro e w4 ⟨rfl,t⟩;have n1:w4.cell? ⟨wr.heap.size,0,Θ⟩=Ψ (χ ψ p):=(t.cell (p:=⟨wr.heap.size,0,Θ⟩) (by simp)).trans (by go_simp);have n2:w4.cell? ⟨wr.heap.size,1,Θ⟩=Ψ (χ ψ q):=(t.cell (p:=⟨wr.heap.size,1,Θ⟩) (by simp)).trans (by go_simp);have hn4:wr.heap.size<w4.heap.size:=by have:=t.size;simp at this;omega
       have q4:ξ wr.heap.size wr w4:=(af _ _).trans (t.mono (by simp))
       go_wp2_with fail
       ((with_reducible refine(cd _ _).mono ?_))
       rintro e w' ⟨rfl,rfl⟩
       go_wp2_with fail
       refine(Iw _ b g p q (H.out.below (F.trans (q4.mono (by omega)))) K2.out).mono ?_;rintro e w5 ⟨rfl,P⟩;have q1:=(P.cell (p:=⟨wr.heap.size,0,Θ⟩) hn4).trans n1;have q2:=(P.cell (p:=⟨wr.heap.size,1,Θ⟩) hn4).trans n2;have q5:ξ wr.heap.size wr w5:=q4.trans (P.mono (by omega));have VT:=Ω ((HV.out.take (Nat.le_of_lt W)).below (F.trans (q5.mono (by omega))));clear n1 n2 t P q4;have hjm:(j:Int)<=mx:=by omega
       go_wp2_with fail
       go_still_tail 4,(by kernel_rfl)
       change ZQ _ _ _ _ _ w5.drew
       go_wp2_with fail
       refine(zA _ _ (l.take j) p q (VT.out.below ((η _ _).drew)) K3.out).mono ?_;rintro e w6 ⟨rfl,hb6⟩
       go_wp2_with fail
       ((with_reducible refine(cd _ _).mono ?_))
       rintro e w' ⟨rfl,rfl⟩
       go_wp2_with fail
       exact⟨⟨j+1,by omega,by go_num,R.trans ((q5.mono (by omega)).trans (((η _ _).drew).trans (hb6.mono (by have:=q5.size;simp;omega))))⟩,by simp[intOf];omega⟩
      ·clear HX HK
       go_wp2_with fail
       exact⟨⟨k+1,by omega,by go_num,R⟩,by simp[intOf];omega⟩
    ·clear HL;have f5:=((I.trans (a.mono L)).cell (p:=⟨b,5,Θ⟩) hb).trans c5;have hbm:=I.trans (a.mono L)
     go_wp2_with fail
     clear f5 a
     go_loopw [8,105] (fun v i wr=>∃k:Nat,k<=g.marked.length/\i=χ ψ k/\v=χ ψ (uL g.marked k)/\Hid (∀i,i<k->jt g g.marked i=0)/\ξ w.heap.size w wr) (fun _ i _=>g.marked.length-(intOf i).toNat)
     case atStart=>exact⟨0,by omega,rfl,rfl,Ω (fun i hi=>by omega),hbm⟩
     case round=>
      obtain⟨k,hk,rfl,rfl,hz,a⟩:=hrel;clear hbm;by_cases z:k<g.marked.length
      ·obtain⟨ba,oa,e,A,f⟩:=HM.out (by omega);cases e
       obtain⟨n,e1⟩:=lw z;have f1:=(f.below a A) k n e1;have f2:=(a.cell (p:=⟨b,1,Θ⟩) hb).trans HC1.out;have B:g.marked.getD k 0=n:=by simp[List.getD,e1]
       by_cases M:n<0\/(g.old.length:Int)<=n
       ·have s:jt g g.marked k=9:=by unfold jt;simp only[B];rw[if_pos M]
        have J:=Ω (uM hz.out e1 s (by decide));clear f e1 B s HM;rcases M with M|M
        ·go_wp2_with fail
         ((with_reducible refine(eU _ _).mono ?_))
         rintro e w' ⟨rfl,rfl⟩;exact⟨rfl,dZ.bad J.out (by decide),a⟩
        ·by_cases hr2:n<0
         ·go_wp2_with fail
          ((with_reducible refine(eU _ _).mono ?_))
          rintro e w' ⟨rfl,rfl⟩;exact⟨rfl,dZ.bad J.out (by decide),a⟩
         ·have O:decide ((g.old.length:Int)<=n)=μ:=by simpa using M
          go_wp2_with fail
          ((with_reducible refine(eU _ _).mono ?_))
          rintro e w' ⟨rfl,rfl⟩;exact⟨rfl,dZ.bad J.out (by decide),a⟩
       ·have hr1:¬n<0:=fun h=>M (.inl h)
        have hr2:decide ((g.old.length:Int)<=n)=κ:=by simp;omega
        by_cases C:n<=uL g.marked k
        ·have s:jt g g.marked k=14:=by unfold jt;simp only[B];rw[if_neg M];exact if_pos C
         have J:=Ω (uM hz.out e1 s (by decide));have amW:decide (n<=uL g.marked k)=μ:=by simpa using C
         clear f e1 B s C M
         go_wp2_with fail
         ((with_reducible refine(cd _ _).mono ?_))
         rintro e w' ⟨rfl,rfl⟩
         go_wp2_with fail
         ((with_reducible refine(eU _ _).mono ?_))
         rintro e w' ⟨rfl,rfl⟩;exact⟨rfl,dZ.bad J.out (by decide),a⟩
        ·have s:jt g g.marked k=0:=by unfold jt;simp only[B];rw[if_neg M];exact if_neg C
         have amW:decide (n<=uL g.marked k)=κ:=by simpa using C
         have HN:=Ω (BG e1);have hz':Hid (∀i,i<k+1->jt g g.marked i=0):=Ω fun i hi=>by
          rcases Nat.lt_or_ge i k with h|h
          ·exact hz.out i h
          ·rw[show i=k by omega];exact s
         clear f e1 B s C M hz
         go_wp2_with fail
         ((with_reducible refine(cd _ _).mono ?_))
         rintro e w' ⟨rfl,rfl⟩
         go_wp2_with fail
         ((with_reducible refine(cd _ _).mono ?_))
         rintro e w' ⟨rfl,rfl⟩
         go_wp2_with fail
         exact⟨⟨k+1,by omega,by go_num,by rw[HN.out],hz',a⟩,by simp[intOf];omega⟩
      ·have hzz:∀i,i<g.marked.length->jt g g.marked i=0:=fun i hi=>hz.out i (by omega)
       have HR2:=Ω (zB hzz);clear hzz hz HM
       go_wp2_with fail
       refine(Dt _ b g (H.out.below a) (by have:=K.out.bw;omega)).mono ?_;rintro e w3 ⟨⟨r3,rfl,O⟩,hb3⟩;have hR3:=Ω O.reads;obtain⟨a3,m3,rfl,Fw,aq8,h33⟩:=O.reads;have HX:=Ω h33;have t:=a.trans (hb3.mono a.size);clear h33 O
       go_wp2_with fail
       go_loopw [131] (fun i wr=>∃k:Nat,k<=(ju g).length/\i=χ ψ k/\Hid (∀i x,i<k->(ju g)[i]?=Ψ x->g.marked.contains x=μ)/\ξ w3.heap.size w3 wr) (fun i _=>(ju g).length-(intOf i).toNat)
       case atStart=>exact⟨0,by omega,rfl,Ω (fun i x hi=>by omega),η _ _⟩
       case round=>
        obtain⟨k,hk,rfl,hz,E⟩:=hrel;have G:=t.trans (E.mono t.size);by_cases z:k<(ju g).length
        ·obtain⟨ba,oa,e,A,f⟩:=HX.out (by omega);cases e
         obtain⟨n,e1⟩:=lw z;have f1:=(f.below E A) k n e1;have f5:=(G.cell (p:=⟨b,5,Θ⟩) hb).trans c5;by_cases hc:g.marked.contains n=μ
         ·have hz':Hid (∀i x,i<k+1->(ju g)[i]?=Ψ x->g.marked.contains x=μ):=Ω fun i x hi S=>by
           rcases Nat.lt_or_ge i k with h|h
           ·exact hz.out i x h S
           ·rw[show i=k by omega,e1]at S;cases S
            exact hc
          have HC:=Ω hc;clear f e1 hc hz
          go_wp2_with fail
          refine(sj _ _ g.marked n (H6.out.below G)).mono ?_;rw[HC.out];rintro e w' ⟨rfl,rfl⟩
          go_wp2_with fail
          ((with_reducible refine(cd _ _).mono ?_))
          rintro e w' ⟨rfl,rfl⟩
          go_wp2_with fail
          exact⟨⟨k+1,by omega,by go_num,hz',E⟩,by simp[intOf];omega⟩
         ·have X:g.marked.contains n=κ:=by simpa using hc
          have J:cN g=11:=by
           rw[HR2.out];have:=jY (l:=(ju g).map fun n=>if g.marked.contains n then 0 else 11) (r:=[]) (k:=k) (e:=11) (fun i x hi S=>by rw[List.getElem?_map]at S;obtain⟨y,hy,hxy⟩:=Option.map_eq_some_iff.1 S;rw[hz.out i y hi hy]at hxy;simpa using hxy.symm) (by rw[List.getElem?_map,e1];simp only[Option.map_some,X];rfl) (by decide)
           simpa using this
          have HM2:=Ω J;have HC:=Ω X;clear f e1 hc X hz J
          go_wp2_with fail
          refine(sj _ _ g.marked n (H6.out.below G)).mono ?_;rw[HC.out];rintro e w' ⟨rfl,rfl⟩
          go_wp2_with fail
          ((with_reducible refine(eU _ _).mono ?_))
          rintro e w' ⟨rfl,rfl⟩;exact⟨rfl,dZ.bad HM2.out (by decide),G⟩
        ·have J:cN g=0:=by
          rw[HR2.out];have:=jZ (l:=(ju g).map fun n=>if g.marked.contains n then 0 else 11) (r:=[]) (fun x S=>by obtain⟨y,hy,rfl⟩:=List.mem_map.1 S;obtain⟨i,hi,hyi⟩:=List.mem_iff_getElem.1 hy;rw[hz.out i y (by omega) (by rw[List.getElem?_eq_getElem hi,hyi])];rfl)
          simpa[cU]using this
         have HM2:=Ω J;clear J hz
         go_wp2
         go_end0;exact⟨dZ.ok HM2.out,G⟩
end
section
variable{w:Δ}{cs:List HC}
theorem sr{P:ZS}(w:Δ)(dT sT ty elem:ZM)(i:TypeInfo)(size g n dCap:Nat)(A:Option Addr)(sCap:Nat)(cur:Array Γ)(t:ZM)(cs:List Γ)
 (hu:P.underlying dT=Ψ (.slice elem)) (hi:P.info? elem=Ψ i) (hs:i.size=size) (hg:w.heap[g]?=Ψ (.cells cur t (0,0))) (hn:cs.length=n*size)
 (hsrc:0<n->∃ad,A=Ψ ad/\∀j v,cs[j]?=Ψ v->w.cell? (ad.add j)=Ψ v) (hfit:cs.length<=cur.size) (h1:∀v∈cs,v.oneCell'=μ):
 ∃w',(Builtin.copy_ #[dT,sT] ty #[υ (Ψ ⟨g,0,Θ⟩) n dCap,.slice A n sCap]).run P w=.ok (goInt n) w'/\w'.heap[g]?=Ψ (.cells (cs++cur.toList.drop cs.length).toArray t (0,0))/\w.grownBy w' (Ψ g):=by
 subst hs;rcases A with _|a
 ·have d:n=0:=by
   rcases Nat.eq_zero_or_pos n with h0|h0
   ·exact h0
   ·obtain⟨ad,h,_⟩:=hsrc h0;cases h
  subst d;have hc:cs=[]:=List.eq_nil_of_length_eq_zero (by simpa using hn);subst hc;refine⟨w,?_,by simpa using hg,⟨rfl,rfl,rfl,Nat.le_refl _,fun _ _ _=>rfl⟩⟩;simp[Builtin.copy_,ZX hu,Builtin.lenOf,Builtin.firstCells,sizeOf,typeInfo,hi,storeCells]
 ·have b:∀j u,cs[j]?=Ψ u->w.cell? (a.add j)=Ψ u:=by
   intro j u hu;rcases Nat.eq_zero_or_pos n with h0|h0
   ·subst h0;have hc:cs=[]:=List.eq_nil_of_length_eq_zero (by simpa using hn);subst hc;simp at hu
   ·obtain⟨l,h,hc⟩:=hsrc h0;injection h with h
    subst h;exact hc j u hu
  have m:=run_loadCells_list (P:=P) w a cs b;have c:=run_storeCells_at P g 0 t cs 0 cur w hg (by simpa using hfit) h1;refine⟨w.setRow g (cs++cur.toList.drop cs.length).toArray,?_,setRow_heap w g cur _ t _ hg,⟨rfl,rfl,rfl,by simp[World.setRow],fun k _ f=>setRow_other w g k _ (fun e=>f (by rw[e]))⟩⟩;simp[Builtin.copy_,ZX hu,Builtin.lenOf,Builtin.firstCells,sizeOf,typeInfo,hi,<-hn,m,c]
theorem iW{P:ZS}{ops:Array ZT}{rest:List ZT}{o:ZT}{a:ZL}{Q:Exit->ZL->Δ->Prop}(hgd:o.guard=Θ)(d s:Operand)(dT sT:ZM)(ho:o.op=.call {callee:=.builtin .copy,args:=#[d,s],argTypes:=#[dT,sT]})(elem:ZM)(i:TypeInfo)(size g n dCap:Nat)(A:Option Addr)(sCap:Nat)(cur:Array Γ)(t:ZM)(cs:List Γ)(hu:P.underlying dT=Ψ (.slice elem))(hi:P.info? elem=Ψ i)(hs:i.size=size)(hd:a.eval d=υ (Ψ ⟨g,0,Θ⟩) n dCap)(hsv:a.eval s=.slice A n sCap)(hg:w.heap[g]?=Ψ (.cells cur t (0,0)))(hn:cs.length=n*size)(hsrc:0<n->∃ad,A=Ψ ad/\∀j v,cs[j]?=Ψ v->w.cell? (ad.add j)=Ψ v)(hfit:cs.length<=cur.size)(h1:∀v∈cs,v.oneCell'=μ)(h:∀w',w'.heap[g]?=Ψ (.cells (cs++cur.toList.drop cs.length).toArray t (0,0)) ->w.grownBy w' (Ψ g) ->ZQ P ops Q rest (a.put o.dst (goInt n)) w'):ZQ P ops Q (o::rest) a w:=by
 refine wpList_plain hgd fun K c=>?_
 obtain⟨w',b,e,f⟩:=sr (P:=P) w dT sT o.type elem i size g n dCap A sCap cur t cs hu hi hs hg hn hsrc hfit h1;unfold Oper.wp execOp;simp only[ho,resolve,invoke,builtin,Z8,ZJ,ο,List.map_toArray,List.map_cons,List.map_nil,hd,hsv,b];exact c _ _ (h w' e f)
def df(w:Δ)(B:Nat)(l:List (Int×Γ))(cs:List HC):Prop:=
 l.length=cs.length/\(∀(i:Nat) k x k' vs,l[i]?=Ψ (k,x) ->cs[i]?=Ψ (k',vs) ->k=k'/\OV w B x vs)/\
  ∀(i j:Nat) p q,i<j->l[i]?=Ψ p->l[j]?=Ψ q->∀g,p.2.ownBlock=Ψ g->q.2.ownBlock≠Ψ g
def N5(w:Δ)(B:Nat)(v:Γ)(cs:List HC):Prop:=∃l,OC w B v l/\df w B l cs
theorem df.hold{B:Nat}{l:List (Int×Γ)}(h:df w B l cs):aY w l cs:=⟨h.1,fun i k v a b e1 e2=>⟨(h.2.1 i k v a b e1 e2).1,(h.2.1 i k v a b e1 e2).2.reads⟩⟩
theorem N5.reads{w:Δ}{B:Nat}{v:Γ}{cs:List HC}(h:N5 w B v cs):sa w v cs:=by obtain⟨l,a,b⟩:=h;exact a.reads b.hold
theorem df.below{w w':Δ}{B:Nat}{l:List (Int×Γ)}{cs:List HC}(h:df w B l cs)(hk:ξ w.heap.size w w'):df w' B l cs:=⟨h.1,fun i k x a b e1 e2=>⟨(h.2.1 i k x a b e1 e2).1,(h.2.1 i k x a b e1 e2).2.below hk⟩,h.2.2⟩
theorem df.less{w:Δ}{B B':Nat}{l:List (Int×Γ)}{cs:List HC}(h:df w B l cs)(hB:B'<=B):df w B' l cs:=⟨h.1,fun i k x a b e1 e2=>⟨(h.2.1 i k x a b e1 e2).1,(h.2.1 i k x a b e1 e2).2.less hB⟩,h.2.2⟩
theorem df.snoc{B:Nat}{l:List (Int×Γ)}{k:Int}{x:Γ}{vs:List HV}(h:df w B l cs)(hx:OV w B x vs)(hd:∀(i:Nat) p,l[i]?=Ψ p->∀g,p.2.ownBlock=Ψ g->x.ownBlock≠Ψ g):df w B (l++[(k,x)]) (cs++[(k,vs)]):=by
 obtain⟨n,m,o⟩:=h;refine⟨by simp[n],fun i e x1 f v2 e1 e2=>?_,fun i j p q d e1 e2=>?_⟩
 ·rcases Nat.lt_or_ge i l.length with hi|hi
  ·rw[List.getElem?_append_left hi]at e1;rw[List.getElem?_append_left (by omega)]at e2;exact m i e x1 f v2 e1 e2
  ·rw[List.getElem?_append_right hi]at e1;rw[List.getElem?_append_right (by omega)]at e2;have c:i-l.length=0:=by have:=(List.getElem?_eq_some_iff.1 e1).1;simp at this;omega
   rw[c]at e1;rw[show i-cs.length=0 by omega]at e2;cases e1
   cases e2
   exact⟨rfl,hx⟩
 ·rcases Nat.lt_or_ge j l.length with b|b
  ·rw[List.getElem?_append_left (by omega)]at e1;rw[List.getElem?_append_left b]at e2;exact o i j p q d e1 e2
  ·rw[List.getElem?_append_right b]at e2;have a:j-l.length=0:=by have:=(List.getElem?_eq_some_iff.1 e2).1;simp at this;omega
   rw[a]at e2;cases e2
   rw[List.getElem?_append_left (by omega)]at e1;exact hd i p e1
theorem BH{b o:Nat}(h:In w b o cs):∃l,aY w l cs/\∀j u,(l.flatMap dW)[j]?=Ψ u->w.cell? ((⟨b,o,Θ⟩:Addr).add j)=Ψ u:=by
 refine⟨(List.range cs.length).map fun i=>((cs.getD i (0,[])).1,(w.cell? ⟨b,o+i*2+1,Θ⟩).getD undef),⟨by simp,fun i k v B A e1 e2=>?_⟩,fun j u d=>?_⟩
 ·obtain⟨s,x,e,y⟩:=h i B A e2;have hi:=(List.getElem?_eq_some_iff.1 e2).1;have r:=(List.getElem?_eq_some_iff.1 e2).2;simp[hi,List.getElem?_eq_getElem hi,r]at e1;obtain⟨rfl,rfl⟩:=e1;rw[e];exact⟨rfl,y⟩
 ·generalize t:((List.range cs.length).map fun i=>((cs.getD i (0,[])).1,(w.cell? ⟨b,o+i*2+1,Θ⟩).getD undef))=l at d;have F:j<(l.flatMap dW).length:=(List.getElem?_eq_some_iff.1 d).1;have c:∀l:List (Int×Γ),(l.flatMap dW).length=l.length*2:=by
   intro l
   induction l with
   |nil=>rfl
   |cons a l E=>rw[List.flatMap_cons,List.length_append,E];simp[dW];omega
  have z:l.length=cs.length:=by rw[<-t];simp
  obtain⟨x,m⟩:∃x,l[j/2]?=Ψ x:=⟨_,List.getElem?_eq_getElem (by have:=c l;omega)⟩;obtain⟨e1,e2⟩:=jx dW (fun v=>χ ψ v.1) (fun v=>v.2) (fun _=>rfl) l (j/2) x m;have g:j/2<cs.length:=by have:=c l;omega
  obtain⟨p,q,f⟩:=cQ g;obtain⟨s,v,e,y⟩:=h (j/2) p q f;have n:x=(p,v):=by rw[<-t]at m;have:=(List.getElem?_eq_some_iff.1 f).2;simp[g,this,e]at m;exact m.symm
  subst n;have D:(⟨b,o,Θ⟩:Addr).add j=⟨b,o+j,Θ⟩:=by unfold Addr.add;split<;>simp_all
  rw[D];rcases Nat.mod_two_eq_zero_or_one j with C|C
  ·rw[show j/2*2=j by omega]at e1 s;rw[e1]at d;cases d
   exact s
  ·rw[show j/2*2+1=j by omega]at e2;rw[show o+j/2*2+1=o+j by omega]at e;rw[e2]at d;cases d
   exact e
end
section
variable{l:List (Int×Γ)}{g:Nat}{w:Δ}{m n B:Nat}
theorem ss(x:Γ):∀(l:List (Int×Γ)) (k:Nat) (c:Int) (y:Γ),l[k]?=Ψ (c,y) ->(l.set k (c,x)).flatMap dW=(l.flatMap dW).set (k*2+1) x
 |[],k,c,y,h=>by simp at h
 |a::l,0,c,y,h=>by simp at h;subst h;simp[dW]
 |a::l,k+1,c,y,h=>by have:=ss x l k c y (by simpa using h);rw[List.set_cons_succ,List.flatMap_cons,List.flatMap_cons,this,show(k+1)*2+1=k*2+1+1+1 by omega];simp[dW]
theorem OC.set{k:Nat}{c:Int}{x y:Γ}(h:OC w B (υ (Ψ ⟨g,0,Θ⟩) n m) l)(hk:l[k]?=Ψ (c,y)):OC (w.setCell ⟨g,k*2+1,Θ⟩ x) B (υ (Ψ ⟨g,0,Θ⟩) n m) (l.set k (c,x)):=by
 rcases h with⟨f,⟨h0,_⟩|⟨r,i,a,d,j,p,q,b,hs,o⟩⟩
 ·cases h0
 ·cases d
  have e:=(List.getElem?_eq_some_iff.1 hk).1;refine⟨by rw[ss x l k c y hk];simpa using f,.inr ⟨g,m,a.setIfInBounds (k*2+1) x,by simp,j,?_,by simpa using q,b,by simpa using hs,?_⟩⟩
  ·simp[ZY,ZV,p]
  ·rw[ss x l k c y hk,<-o];rw[ZO,List.length_set,List.take_set]
theorem OC.block(h:OC w B (υ (Ψ ⟨g,0,Θ⟩) n m) l):B<=g/\g<w.heap.size/\∃cur,w.heap[g]?=Ψ (.cells cur 76 (0,0))/\cur.size=m*2:=by
 have a:=h.lt g rfl;rcases h with⟨i,⟨h0,_⟩|⟨o,c,cur,b,d,e,k,f,hs,j⟩⟩
 ·cases h0
 ·cases b
  exact⟨d,a.2,cur,e,hs⟩
theorem OC.at_{k:Nat}{c:Int}{y:Γ}(h:OC w B (υ (Ψ ⟨g,0,Θ⟩) n m) l)(hk:l[k]?=Ψ (c,y)):w.cell? ⟨g,k*2,Θ⟩=Ψ (χ ψ c)/\w.cell? ⟨g,k*2+1,Θ⟩=Ψ y/\w.frozen? ⟨g,k*2+1,Θ⟩=κ:=by
 obtain⟨a,s,d,q,p,o⟩:=aF h;have j:=(List.getElem?_eq_some_iff.1 hk).1;obtain⟨t,f,_,r,i,hc⟩:=o (by omega);simp at d;obtain⟨rfl,_,rfl⟩:=d;cases f
 obtain⟨e1,e2⟩:=jx dW (fun v=>χ ψ v.1) (fun v=>v.2) (fun _=>rfl) l k _ hk;obtain⟨_,_,e,b,_⟩:=h.block;exact⟨hc _ _ e1,hc _ _ e2,by simp[ZK,b]⟩
theorem OV.wl{B' i:Nat}{v u:Γ}{vs:List HV}(h:OV w B v vs)(hc:OC w B' (υ (Ψ ⟨g,0,Θ⟩) n m) l):OV (w.setCell ⟨g,i,Θ⟩ u) B v vs:=by
 obtain⟨_,_,e,a,_⟩:=hc.block;refine aS h fun k b=>?_
 have c:k≠g:=by
  rintro rfl;rcases h with⟨p,⟨rfl,_⟩|⟨o,f,d,rfl,q,j,_⟩⟩
  ·cases b
  ·cases b
   rw[j]at a;cases a
 exact Z9 _ _ _ _ c
theorem df.wl{w:Δ}{B B' g n m i:Nat}{l l2:List (Int×Γ)}{u:Γ}{cs:List HC}(h:df w B l cs)(hc:OC w B' (υ (Ψ ⟨g,0,Θ⟩) n m) l2):df (w.setCell ⟨g,i,Θ⟩ u) B l cs:=⟨h.1,fun i k x a b e1 e2=>⟨(h.2.1 i k x a b e1 e2).1,(h.2.1 i k x a b e1 e2).2.wl hc⟩,h.2.2⟩
theorem V8(n c:Nat)(hnc:n<=c)(hc:c<=1000000000)(w:Δ):
 (Instr.makeSlice 22 (χ ψ (n:Int)) (χ ψ (c:Int))).run aD.prog w=.ok (υ (Ψ ⟨w.heap.size,0,Θ⟩) n c) (w.alloc (.cells (madeCells #[χ ψ 0,υ Θ 0 0] (c*2)) 76)):=by
 obtain⟨e,hi,a,b,d⟩:=info_parts ni;have:=mG 22 76 e _ mF hi a ψ ψ n c hnc (by rw[d];omega) (by omega) w;rw[b]at this;exact this
theorem Iy{α:Type}(done l:List α)(x:α)(k:Nat)(hd:done.length=k)(hk:k<l.length):(done++l.drop k).set k x=(done++[x])++l.drop (k+1):=by subst hd;rw[List.set_append_right _ _ (Nat.le_refl _),Nat.sub_self,List.drop_eq_getElem_cons hk,List.set_cons_zero,List.append_assoc];rfl
theorem iu(l:List (Int×Γ)):(l.flatMap dW).length=l.length*2:=by
 induction l with
 |nil=>rfl
 |cons a l b=>rw[List.flatMap_cons,List.length_append,b];simp[dW];omega
theorem BI{z:Array Γ}(hl:l.length=n)(hB:B<=g)(hw:w.heap[g]?=Ψ (.cells (l.flatMap dW++(madeCells z (n*2)).toList.drop (l.flatMap dW).length).toArray 76 (0,0)))(hn:n<=1000000):OC w B (υ (Ψ ⟨g,0,Θ⟩) n n) l:=by
 subst hl;refine⟨iu l,.inr ⟨g,l.length,_,rfl,hB,hw,Nat.le_refl _,by unfold ZI;omega,?_,?_⟩⟩
 ·have a:=iu l;have b:=jz z (l.length*2);have c:(madeCells z (l.length*2)).toList.length=l.length*2:=by simpa using b
  simp only[List.size_toArray,List.length_append,List.length_drop,c,a];omega
 ·show List.take (l.length*2) (l.flatMap dW++_)=_;rw[<-iu,List.take_left]
theorem zC(w:Δ)(v:Γ)(cs:List HC)(hv:sa w v cs)(hl:cs.length<=1000000)(hs:∀c∈cs,c.2.length<=1000000):
 ZU aD.prog 147 #[v] w fun e w'=>(∃r,e=.returned r/\N5 w' w.heap.size r cs)/\ξ w.heap.size w w':=by
 obtain⟨a,m,rfl,hm,hm2,ha⟩:=hv;obtain⟨l,F,t⟩:∃l,aY w l cs/\(0<cs.length->∃ad,a=Ψ ad/\ad.block<w.heap.size/\∀j u,(l.flatMap dW)[j]?=Ψ u->w.cell? (ad.add j)=Ψ u):=by
  rcases Nat.eq_zero_or_pos cs.length with h0|h0
  ·exact⟨[],⟨by simp[h0],fun i k v k' C e1 _=>by simp at e1⟩,fun h=>absurd h (by omega)⟩
  ·obtain⟨b,o,rfl,hb,hat⟩:=ha h0;obtain⟨l,h1,h2⟩:=BH hat
   exact⟨l,h1,fun _=>⟨_,rfl,hb,h2⟩⟩
 clear ha;have n:∀l:List (Int×Γ),(l.flatMap dW).length=l.length*2:=by
  intro l
  induction l with
  |nil=>rfl
  |cons a l ih=>rw[List.flatMap_cons,List.length_append,ih];simp[dW];omega
 have s:∀u∈l.flatMap dW,u.oneCell'=μ:=by
  intro u hu;obtain⟨p,hp,h⟩:=List.mem_flatMap.1 hu;simp[dW]at h;rcases h with rfl|rfl
  ·rfl
  ·obtain⟨i,hi⟩:=List.mem_iff_getElem?.1 hp;have X:i<cs.length:=by rw[<-F.1];exact(List.getElem?_eq_some_iff.1 hi).1
   obtain⟨p',q',hpq⟩:=cQ X;obtain⟨_,a',m',h,_⟩:=F.2 i p.1 p.2 p' q' hi hpq;rw[h];rfl
 have J:=F.1;obtain⟨i0,hi,T,M,hz2⟩:=info_parts ni;have Y:=fun W=>V8 cs.length cs.length (Nat.le_refl _) (by omega) W
 have D:=Ω J;have HH:=Ω F;have HI:=Ω hi;have O:=Ω M;have HR:=Ω t;have HO:=Ω s;have HN:=Ω n;clear J F hi T M hz2 t s n
 go_enter aD.func147,Tryz.ntmps147
 go_wp2_with (with_reducible refine iW rfl (.tmp 9) (.tmp 10) 22 22 rfl 76 i0 2 w.heap.size cs.length cs.length a m _ 76 (l.flatMap dW) mF HI.out O.out rfl rfl (θ w _) (by rw[HN.out,D.out]) (fun h0=>?h1) (by rw[HN.out,jz,D.out];omega) HO.out ?_)
 case h1=>obtain⟨ad,e,hb,N⟩:=HR.out h0;exact⟨ad,e,fun j u hu=>(World.cell?_alloc_lt w _ _ (by rw[show(ad.add j).block=ad.block by unfold Addr.add;split<;>rfl];exact hb)).trans (N j u hu)⟩
 ·intro w1 y E;rw[<-List.length_flatMap]at y;have P:ξ w.heap.size w w1:=(af w _).grown E (by simp) (fun k hk=>by cases hk;exact Nat.le_refl _);have I:OC w1 w.heap.size (υ (Ψ ⟨w.heap.size,0,Θ⟩) cs.length cs.length) l:=BI D.out (Nat.le_refl _) y hl;clear y E Y HI O
  go_wp2
  go_loopw [14] (fun i wr=>∃k:Nat,k<=cs.length/\i=χ ψ k/\ξ w.heap.size w wr/\∃done,done.length=k/\OC wr w.heap.size (υ (Ψ ⟨w.heap.size,0,Θ⟩) cs.length cs.length) (done++l.drop k)/\df wr w.heap.size done (cs.take k)) (fun i _=>cs.length-(intOf i).toNat)
  case atStart=>exact⟨0,Nat.zero_le _,rfl,P,[],rfl,by simpa using I,rfl,fun i k x k' C e1 _=>by simp at e1,fun i j p q _ e1 _=>by simp at e1⟩
  case round=>
   obtain⟨k,hk,rfl,f,done,z,Q,H⟩:=hrel;clear P I;by_cases A:k<cs.length
   ·have hkl:k<l.length:=by rw[D.out];exact A
    obtain⟨⟨p,x⟩,e1⟩:∃x,l[k]?=Ψ x:=⟨_,List.getElem?_eq_getElem hkl⟩;obtain⟨p',C,e2⟩:=cQ A;obtain⟨rfl,hx⟩:=HH.out.2 k p x p' C e1 e2;have L:=hs _ (List.mem_of_getElem? e2);dsimp only at L;have ek:(done++l.drop k)[k]?=Ψ (p,x):=by rw[List.getElem?_append_right (by omega),z,Nat.sub_self,List.getElem?_drop];simpa using e1
    obtain⟨c1,c2,_⟩:=Q.at_ ek;have R:=f.size;have hxw:=Ω (hx.below f);obtain⟨ax,mx,rfl,_,_,_⟩:=hx;have E2:=Ω e2;have EK:=Ω ek;have HK:=Ω z;clear e1 e2 ek z
    go_wp2_with fail
    refine(og _ _ C (hxw.out.below (af _ _)) L).mono ?_;rintro e w2 ⟨⟨r,rfl,N⟩,Z⟩;have B:ξ wr.heap.size wr w2:=(af _ _).trans (Z.mono (by simp));have d:=Q.below B;have he2:=H.below B;obtain⟨d1,d2,d3⟩:=d.at_ EK.out;have K:=d.set (x:=r) EK.out;rw[Iy done l _ k HK.out (by rw[D.out];exact A)]at K;have G:=Ω N;obtain⟨ar,mr,rfl,_,_,_⟩:=aF N;clear N c1 c2
    go_wp2
    go_roundw
    case rel=>
     have S:OV w2 w.heap.size (.slice ar C.length mr) C:=G.out.less (by simp;omega);refine⟨k+1,by omega,by go_num,((f.trans (B.mono R)).setCell (p:=⟨w.heap.size,_,Θ⟩) (Nat.le_refl _) _),done++[(p,_)],by simp[HK.out],K,?_⟩;rw[bW E2.out];refine(he2.wl d).snoc (S.wl d) fun i q hi g hg V=>?_
     have hq:i<(cs.take k).length:=by rw[<-H.1];exact(List.getElem?_eq_some_iff.1 hi).1
     obtain⟨p3,q3,e3⟩:=cQ hq;obtain⟨_,U⟩:=H.2.1 i q.1 q.2 p3 q3 hi e3;have:=(U.lt g hg).2;have:=(G.out.lt g V).1;simp at this;omega
    case measure=>simp[intOf];omega
   ·go_wp2
    go_ret;refine⟨⟨_,rfl,done,?_,?_⟩,f⟩
    ·rw[List.drop_eq_nil_of_le (by rw[D.out];omega),List.append_nil]at Q;exact Q
    ·rw[List.take_of_length_le (by omega)]at H;exact H
end
section
variable{w:Δ}{g:GH}{B:Nat}{row:HV->Γ}{c:HC}{i:Nat}{l:List (Int×Γ)}{v:Γ}
def RC(w:Δ)(B:Nat)(v:Γ)(l:List (Int×Γ)):Prop:=∃a m,v=.slice a l.length m/\l.length<=m/\m<=ZI/\(a=Θ->m=0)/\(0<l.length->∃g cur,a=Ψ ⟨g,0,Θ⟩/\B<=g/\w.heap[g]?=Ψ (.cells cur 76 (0,0))/\cur.toList.take (l.length*2)=l.flatMap dW)
theorem su(l:List (Int×Γ)):(l.flatMap dW).length=l.length*2:=by
 induction l with
 |nil=>rfl
 |cons a l b=>rw[List.flatMap_cons,List.length_append,b];simp[dW];omega
theorem OC.rc(h:OC w B v l):RC w B v l:=by
 rcases h with⟨k,⟨rfl,h0⟩|⟨g,b,a,rfl,f,d,j,c,hs,i⟩⟩
 ·obtain rfl:l=[]:=List.eq_nil_of_length_eq_zero h0;exact⟨Θ,0,rfl,Nat.le_refl _,by simp[ZI],fun _=>rfl,fun h=>absurd h (Nat.lt_irrefl 0)⟩
 ·exact⟨_,b,rfl,j,c,(fun e=>by cases e),fun _=>⟨g,a,rfl,f,d,i⟩⟩
theorem RC.below{w':Δ}(h:RC w B v l)(hk:∀(g:Nat) (cur:Array Γ),w.heap[g]?=Ψ (Obj.cells cur 76 (0,0)) ->w'.heap[g]?=w.heap[g]?):RC w' B v l:=by obtain⟨a,m,rfl,d,c,i,h⟩:=h;refine⟨a,m,rfl,d,c,i,fun h0=>?_⟩;obtain⟨g,cur,rfl,e,b,f⟩:=h h0;exact⟨g,cur,rfl,e,((hk g cur b).trans b),f⟩
theorem RC.low{w':Δ}(h:RC w B v l)(hk:ξ w.heap.size w w'):RC w' B v l:=h.below fun g a b=>hk.block g (Ξ.1 b).1
theorem RC.cells(h:RC w B v l)(h0:0<l.length):∃g m,v=υ (Ψ ⟨g,0,Θ⟩) l.length m/\B<=g/\g<w.heap.size/\l.length<=m/\m<=9223372036854775807/\(∀j u,(l.flatMap dW)[j]?=Ψ u->w.cell? ⟨g,j,Θ⟩=Ψ u):=by
 obtain⟨a,m,rfl,i,e,o,h⟩:=h;obtain⟨g,c,rfl,n,f,k⟩:=h h0;refine⟨g,m,rfl,n,(Ξ.1 f).1,i,by unfold ZI at e;exact e,fun j u b=>?_⟩;rw[<-k]at b;have d:c[j]?=Ψ u:=by
  rw[List.getElem?_take]at b;split at b
  ·simpa using b
  ·cases b
 simp[ι,f,d]
theorem RC.reads{cs:List HC}(h:RC w B v l)(hc:aY w l cs):sa w v cs:=by
 obtain⟨a,m,e,f,d,s,r⟩:=id h;rw[hc.1]at f e;refine⟨a,m,e,f,by unfold ZI at d;exact d,fun h0=>?_⟩;obtain⟨g,t,b,_,p,_,_,j⟩:=h.cells (by rw[hc.1];exact h0);rw[e]at b;obtain rfl:a=Ψ ⟨g,0,Θ⟩:=by injection b
 refine⟨g,0,rfl,p,fun i k n e=>?_⟩;have hi:i<l.length:=by rw[hc.1];exact(List.getElem?_eq_some_iff.1 e).1
 obtain⟨q,c,b⟩:∃k v,l[i]?=Ψ (k,v):=⟨_,_,List.getElem?_eq_getElem hi⟩;obtain⟨rfl,o⟩:=hc.2 i q c k n b e;obtain⟨e1,e2⟩:=jx dW (fun v=>χ ψ v.1) (fun v=>v.2) (fun _=>rfl) l i _ b;rw[Nat.zero_add];exact⟨j _ _ e1,c,j _ _ e2,o⟩
def Apart(x y:Γ):Prop:=∀g,x.ownBlock=Ψ g->y.ownBlock≠Ψ g
def bd(g:GH)(k:HV):List HV:=if k.1=0 then(if k.2=0 then g.roots else if k.2=1 then g.aA else g.done)else(cellAt g k).2
def IsKey(g:GH)(k:HV):Prop:=(k.1=0/\0<=k.2/\k.2<=2)\/(k.1=3/\0<=k.2/\k.2<g.new.length)\/(k.1=4/\0<=k.2/\k.2<g.old.length)
def kD(w:Δ)(B:Nat)(row:HV->Γ)(g:GH):Prop:=(∀k,IsKey g k->OV w B (row k) (bd g k))/\∀k k',IsKey g k->IsKey g k'->k≠k'->Apart (row k) (row k')
def cellsOf(row:HV->Γ)(kind:Int)(cs:List HC):List (Int×Γ):=cs.zipIdx.map fun x=>(x.1.1,row (kind,(x.2:Int)))
def dm(w:Δ)(B b:Nat)(g:GH):Prop:=∃n o m row,B<=b/\w.heap[b]?=Ψ (φ #[n,o,row (0,0),row (0,1),row (0,2),m] 114 (0,0))/\
 RC w B n (cellsOf row 3 g.new)/\RC w B o (cellsOf row 4 g.old)/\OI w B m g.marked/\kD w B row g
theorem bH{kind:Int}{cs:List HC}(h:cs[i]?=Ψ c):(cellsOf row kind cs)[i]?=Ψ (c.1,row (kind,(i:Int))):=by simp[cellsOf,List.getElem?_map,List.getElem?_zipIdx,h]
theorem aT(row:HV->Γ)(kind:Int)(cs:List HC):(cellsOf row kind cs).length=cs.length:=by simp[cellsOf]
theorem oi(h:g.new[i]?=Ψ c):IsKey g (3,(i:Int))/\bd g (3,(i:Int))=c.2:=by have:=(List.getElem?_eq_some_iff.1 h).1;refine⟨.inr (.inl ⟨rfl,by omega,by omega⟩),?_⟩;simp[bd,cellAt,List.getD,h]
theorem j6(h:g.old[i]?=Ψ c):IsKey g (4,(i:Int))/\bd g (4,(i:Int))=c.2:=by have:=(List.getElem?_eq_some_iff.1 h).1;refine⟨.inr (.inr ⟨rfl,by omega,by omega⟩),?_⟩;simp[bd,cellAt,List.getD,h]
theorem kD.roots(h:kD w B row g):OV w B (row (0,0)) g.roots/\OV w B (row (0,1)) g.aA/\OV w B (row (0,2)) g.done:=⟨h.1 (0,0) (.inl ⟨rfl,by decide,by decide⟩),h.1 (0,1) (.inl ⟨rfl,by decide,by decide⟩),h.1 (0,2) (.inl ⟨rfl,by decide,by decide⟩)⟩
theorem kD.N6(h:kD w B row g):aY w (cellsOf row 3 g.new) g.new:=
 ⟨aT _ _ _,fun i k v d c e1 e2=>by
   rw[bH e2]at e1;cases e1
   obtain⟨b,a⟩:=oi e2;have:=h.1 _ b;rw[a]at this;exact⟨rfl,this.reads⟩⟩
theorem kD.Du(h:kD w B row g):aY w (cellsOf row 4 g.old) g.old:=
 ⟨aT _ _ _,fun i k v d c e1 e2=>by
   rw[bH e2]at e1;cases e1
   obtain⟨b,a⟩:=j6 e2;have:=h.1 _ b;rw[a]at this;exact⟨rfl,this.reads⟩⟩
theorem dm.reads{w:Δ}{B b:Nat}{g:GH}(h:dm w B b g):mi w b g:=by
 obtain⟨n,o,m,row,f,hb,d,c,e,a⟩:=h;obtain⟨r0,r1,r2⟩:=a.roots;refine⟨n,o,row (0,0),row (0,1),row (0,2),m,?_,?_,?_,?_,?_,?_,d.reads a.N6,c.reads a.Du,r0.reads,r1.reads,r2.reads,e.reads⟩
 all_goals simp[ι,hb]
theorem dm.below{w w':Δ}{B b:Nat}{g:GH}(h:dm w B b g)(hk:ξ w.heap.size w w'):dm w' B b g:=by
 obtain⟨n,o,m,row,i,hb,f,e,j,d⟩:=h;have c:b<w.heap.size:=by
  rcases Nat.lt_or_ge b w.heap.size with h|h
  ·exact h
  ·rw[ZW h]at hb;cases hb
 exact⟨n,o,m,row,i,(hk.block b c).trans hb,f.low hk,e.low hk,j.below hk,fun k a=>(d.1 k a).below hk,d.2⟩
end
def BJ(lo hi:Nat)(v:Γ):Prop:=∀g,v.ownBlock=Ψ g->lo<=g/\g<hi
theorem BJ.apart{a b c d:Nat}{x y:Γ}(hx:BJ a b x)(hy:BJ c d y)(h:b<=c):Apart x y:=fun g e f=>by have:=hx g e;have:=hy g f;omega
theorem Apart.symm{x y:Γ}(h:Apart x y):Apart y x:=fun g a b=>h g b a
def dp(ln lo:List (Int×Γ))(r wi d:Γ)(k:HV):Γ:=if k.1=0 then(if k.2=0 then r else if k.2=1 then wi else d)else((if k.1=3 then ln else lo).getD k.2.toNat (0,υ Θ 0 0)).2
theorem iY{ln lo:List (Int×Γ)}{r wi d:Γ}{cs:List HC}{w:Δ}{B:Nat}{kind:Int}(hk:kind=3\/kind=4)(h:df w B (if kind=3 then ln else lo) cs):cellsOf (dp ln lo r wi d) kind cs=(if kind=3 then ln else lo):=by
 have a:kind≠0:=by omega
 apply List.ext_getElem?;intro i;rcases Nat.lt_or_ge i cs.length with hi|hi
 ·obtain⟨p,q,e⟩:=cQ hi;rw[bH e];have b:i<(if kind=3 then ln else lo).length:=by rw[h.1];exact hi
  obtain⟨⟨c,x⟩,e2⟩:∃x,(if kind=3 then ln else lo)[i]?=Ψ x:=⟨_,List.getElem?_eq_getElem b⟩;obtain⟨rfl,_⟩:=h.2.1 i c x p q e2 e;rw[e2];simp[dp,a,List.getD,e2]
 ·rw[List.getElem?_eq_none (by rw[aT];exact hi),List.getElem?_eq_none (by rw[h.1];exact hi)]
theorem N7{w:Δ}{B b s1 s2 s3 s4:Nat}{g:GH}{n o r wi d m:Γ}{ln lo:List (Int×Γ)}(hB:B<=b)(hb:w.heap[b]?=Ψ (φ #[n,o,r,wi,d,m] 114 (0,0)))
 (hn:OC w B n ln) (en:df w B ln g.new) (ho:OC w B o lo) (eo:df w B lo g.old) (hr:OV w B r g.roots) (hw:OV w B wi g.aA) (hd:OV w B d g.done) (hm:OI w B m g.marked)
 (r1:∀p∈ln,BJ B s1 p.2) (r2:∀p∈lo,BJ s1 s2 p.2) (r3:BJ s2 s3 r) (r4:BJ s3 s4 wi) (r5:BJ s4 w.heap.size d) (h12:s1<=s2) (h23:s2<=s3) (h34:s3<=s4):dm w B b g:=by
 have c3:cellsOf (dp ln lo r wi d) 3 g.new=ln:=by simpa using iY (ln:=ln) (lo:=lo) (r:=r) (wi:=wi) (d:=d) (kind:=3) (.inl rfl) (by simpa using en)
 have H:cellsOf (dp ln lo r wi d) 4 g.old=lo:=by simpa using iY (ln:=ln) (lo:=lo) (r:=r) (wi:=wi) (d:=d) (kind:=4) (.inr rfl) (by simpa using eo)
 have s:∀i:Nat,i<g.new.length->∃p c,ln[i]?=Ψ p/\g.new[i]?=Ψ c/\dp ln lo r wi d (3,(i:Int))=p.2:=by intro i hi;obtain⟨p,q,e⟩:=cQ hi;have:=bH (row:=dp ln lo r wi d) (kind:=3) e;rw[c3]at this;exact⟨_,_,this,e,rfl⟩
 have l:∀i:Nat,i<g.old.length->∃p c,lo[i]?=Ψ p/\g.old[i]?=Ψ c/\dp ln lo r wi d (4,(i:Int))=p.2:=by intro i hi;obtain⟨p,q,e⟩:=cQ hi;have:=bH (row:=dp ln lo r wi d) (kind:=4) e;rw[H]at this;exact⟨_,_,this,e,rfl⟩
 have f:∀k,IsKey g k->(∃i:Nat,i<g.new.length/\k=(3,(i:Int)))\/(∃i:Nat,i<g.old.length/\k=(4,(i:Int)))\/k=(0,0)\/k=(0,1)\/k=(0,2):=by
  rintro⟨a,c⟩ (⟨x,z,C⟩|⟨x,z,C⟩|⟨x,z,C⟩)
  ·dsimp only at x z C;subst x;have:c=0\/c=1\/c=2:=by omega
   rcases this with rfl|rfl|rfl<;>simp
  ·dsimp only at x z C;subst x;exact .inl ⟨c.toNat,by omega,by simp;omega⟩
  ·dsimp only at x z C;subst x;exact .inr (.inl ⟨c.toNat,by omega,by simp;omega⟩)
 refine⟨n,o,m,dp ln lo r wi d,hB,hb,by rw[c3];exact hn.rc,by rw[H];exact ho.rc,hm,fun k F=>?_,fun k J F E t=>?_⟩
 ·rcases f k F with⟨i,hi,rfl⟩|⟨i,hi,rfl⟩|rfl|rfl|rfl
  ·obtain⟨p,c,e1,e2,e3⟩:=s i hi;rw[e3,(oi e2).2];exact(en.2.1 i p.1 p.2 c.1 c.2 e1 e2).2
  ·obtain⟨p,c,e1,e2,e3⟩:=l i hi;rw[e3,(j6 e2).2];exact(eo.2.1 i p.1 p.2 c.1 c.2 e1 e2).2
  ·exact hr
  ·exact hw
  ·exact hd
 ·have v:∀i:Nat,i<g.new.length->BJ B s1 (dp ln lo r wi d (3,(i:Int))):=fun i hi=>by obtain⟨p,c,e1,e2,e3⟩:=s i hi;rw[e3];exact r1 p (List.mem_of_getElem? e1)
  have y:∀i:Nat,i<g.old.length->BJ s1 s2 (dp ln lo r wi d (4,(i:Int))):=fun i hi=>by obtain⟨p,c,e1,e2,e3⟩:=l i hi;rw[e3];exact r2 p (List.mem_of_getElem? e1)
  have L:dp ln lo r wi d (0,0)=r:=rfl;have t1:dp ln lo r wi d (0,1)=wi:=rfl;have t2:dp ln lo r wi d (0,2)=d:=rfl;rcases f k F with⟨i,hi,rfl⟩|⟨i,hi,rfl⟩|rfl|rfl|rfl<;>rcases f J E with⟨j,u,rfl⟩|⟨j,u,rfl⟩|rfl|rfl|rfl
  ·obtain⟨p,c,e1,e2,e3⟩:=s i hi;obtain⟨D,I,A,K,G⟩:=s j u;rw[e3,G];rcases Nat.lt_trichotomy i j with h|h|h
   ·exact en.2.2 i j p D h e1 A
   ·subst h;exact absurd rfl t
   ·exact Apart.symm (en.2.2 j i D p h A e1)
  ·exact(v i hi).apart (y j u) (Nat.le_refl _)
  ·exact(v i hi).apart r3 (by omega)
  ·exact(v i hi).apart r4 (by omega)
  ·exact(v i hi).apart r5 (by omega)
  ·exact((v j u).apart (y i hi) (Nat.le_refl _)).symm
  ·obtain⟨p,c,e1,e2,e3⟩:=l i hi;obtain⟨D,I,A,K,G⟩:=l j u;rw[e3,G];rcases Nat.lt_trichotomy i j with h|h|h
   ·exact eo.2.2 i j p D h e1 A
   ·subst h;exact absurd rfl t
   ·exact Apart.symm (eo.2.2 j i D p h A e1)
  ·exact(y i hi).apart r3 (by omega)
  ·exact(y i hi).apart r4 (by omega)
  ·exact(y i hi).apart r5 (by omega)
  ·exact((v j u).apart r3 (by omega)).symm
  ·exact((y j u).apart r3 (by omega)).symm
  ·exact absurd rfl t
  ·exact r3.apart r4 (by omega)
  ·exact r3.apart r5 (by omega)
  ·exact((v j u).apart r4 (by omega)).symm
  ·exact((y j u).apart r4 (by omega)).symm
  ·exact(r3.apart r4 (by omega)).symm
  ·exact absurd rfl t
  ·exact r4.apart r5 (by omega)
  ·exact((v j u).apart r5 (by omega)).symm
  ·exact((y j u).apart r5 (by omega)).symm
  ·exact(r3.apart r5 (by omega)).symm
  ·exact(r4.apart r5 (by omega)).symm
  ·exact absurd rfl t
theorem i1{W w1:Δ}(hb:ξ W.heap.size W w1):∀b o,b<W.heap.size->w1.cell? ⟨b,o,Θ⟩=W.cell? ⟨b,o,Θ⟩:=fun b o h=>hb.cell (p:=⟨b,o,Θ⟩) h
theorem Iz{g:GH}(h:eC g):∀c∈g.new++g.old,c.2.length<=1000000:=by intro c hc;obtain⟨a,_⟩:=zy (p:=c.1) (vs:=c.2) (h.cells c hc);omega
theorem OV.range{w:Δ}{B:Nat}{v:Γ}{l:List HV}(h:OV w B v l):BJ B w.heap.size v:=fun g a=>h.lt g a
theorem df.range{w:Δ}{B:Nat}{l:List (Int×Γ)}{cs:List HC}(h:df w B l cs):∀p∈l,BJ B w.heap.size p.2:=by
 intro p b;obtain⟨i,hi⟩:=List.mem_iff_getElem?.1 b;have a:i<cs.length:=by rw[<-h.1];exact(List.getElem?_eq_some_iff.1 hi).1
 obtain⟨k,c,e⟩:=cQ a;exact(h.2.1 i p.1 p.2 k c hi e).2.range
theorem BJ.mono{a b a' b':Nat}{v:Γ}(h:BJ a b v)(h1:a'<=a)(h2:b<=b'):BJ a' b' v:=fun g c=>by have:=h g c;omega
theorem sw(w:Δ)(v:Γ)(g:GH)(hv:GV w v g)(hk:eC g)(hm:cN g=0)(hl:g.marked.length<=1000000):
 ZU aD.prog 82 #[v] w fun e w'=>(∃b,e=.returned (ω (Ψ ⟨b,0,Θ⟩))/\dm w' w.heap.size b g)/\ξ w.heap.size w w':=by
 obtain⟨n,o,r,wi,d,m,rfl,h1,h2,h3,h4,h5,h6⟩:=hv;have H1:=Ω h1;have H2:=Ω h2;have H3:=Ω h3;have H4:=Ω h4;have H5:=Ω h5;have H6:=Ω h6;obtain⟨Y,X,rfl,_,_,_⟩:=h1;obtain⟨O,M,rfl,_,_,_⟩:=h2;obtain⟨ar,R,rfl,_,_,_⟩:=h3;obtain⟨aw,W,rfl,_,_,_⟩:=h4;obtain⟨ad,T,rfl,_,_,_⟩:=h5;obtain⟨L,V,rfl,_,_,_⟩:=h6;have K:=Ω hk;have HM:=Ω hm;have S:mi ((w.alloc (φ #[.slice Y g.new.length X,.slice O g.old.length M,.slice ar g.roots.length R,.slice aw g.aA.length W,.slice ad g.done.length T,.slice L g.marked.length V] 26)).alloc (φ #[.slice Y g.new.length X,.slice O g.old.length M,.slice ar g.roots.length R,.slice aw g.aA.length W,.slice ad g.done.length T,.slice L g.marked.length V] 114)) (w.heap.size+1) g:=by
  have J:∀o1 o2:Obj,ξ w.heap.size w ((w.alloc o1).alloc o2):=fun o1 o2=>(af w o1).alloc (by simp) o2
  refine⟨_,_,_,_,_,_,?_,?_,?_,?_,?_,?_,H1.out.below (J _ _),H2.out.below (J _ _),H3.out.below (J _ _),H4.out.below (J _ _),H5.out.below (J _ _),H6.out.below (J _ _)⟩
  all_goals go_simp
 have HC:=Ω S;clear hk hm S
 go_enter aD.func82,Tryz.ntmps82
 go_wp2_with fail
 refine(Ix _ _ g HC.out K.out hl).mono ?_;rintro e s ⟨he,t⟩;obtain rfl:=sm he HM.out;have a:=i1 t;have Z:=t.size;simp only[World.size_alloc]at Z a;have y:ξ w.heap.size w s:=(((η _ _).alloc (Nat.le_refl _) _).alloc (by simp) _).trans (t.mono (by simp;omega));have f0:s.cell? ⟨w.heap.size,0,Θ⟩=Ψ (.slice Y g.new.length X):=(a _ _ (by omega)).trans (by go_simp);have f1:s.cell? ⟨w.heap.size,1,Θ⟩=Ψ (.slice O g.old.length M):=(a _ _ (by omega)).trans (by go_simp);have f2:s.cell? ⟨w.heap.size,2,Θ⟩=Ψ (.slice ar g.roots.length R):=(a _ _ (by omega)).trans (by go_simp);have f3:s.cell? ⟨w.heap.size,3,Θ⟩=Ψ (.slice aw g.aA.length W):=(a _ _ (by omega)).trans (by go_simp);have f4:s.cell? ⟨w.heap.size,4,Θ⟩=Ψ (.slice ad g.done.length T):=(a _ _ (by omega)).trans (by go_simp);have f5:s.cell? ⟨w.heap.size,5,Θ⟩=Ψ (.slice L g.marked.length V):=(a _ _ (by omega)).trans (by go_simp);clear t a he
 go_wp2_with fail
 have hlt:w.heap.size<s.heap.size:=by omega
 have FN:=Ω (Iz K.out);have L1:=Ω (show g.new.length<=1000000 by have:=K.out.news;omega);have L2:=Ω (show g.old.length<=1000000 by have:=K.out.bw;omega);have L3:=Ω (show g.roots.length<=1000000 by have:=K.out.four;omega);have L4:=Ω (show g.aA.length<=1000000 by have:=K.out.aA.1;omega);have L5:=Ω (show g.done.length<=1000000 by have:=K.out.done.1;omega)
 go_region_held3 (fun w'=>w'.cell? ⟨w.heap.size,0,Θ⟩=Ψ (.slice Y g.new.length X)/\w'.cell? ⟨w.heap.size,1,Θ⟩=Ψ (.slice O g.old.length M)/\w'.cell? ⟨w.heap.size,2,Θ⟩=Ψ (.slice ar g.roots.length R)/\
  w'.cell? ⟨w.heap.size,3,Θ⟩=Ψ (.slice aw g.aA.length W)/\w'.cell? ⟨w.heap.size,4,Θ⟩=Ψ (.slice ad g.done.length T)/\w'.cell? ⟨w.heap.size,5,Θ⟩=Ψ (.slice L g.marked.length V))
  (go_keep)
  (first
    |(go_at_call 147;(with_reducible refine(zC _ (.slice Y g.new.length X) g.new (H1.out.below y.drew) L1.out (fun c hc=>FN.out c (List.mem_append_left _ hc))).mono ?_);rintro e w4 ⟨⟨r4,rfl,G⟩,I⟩;have z:=y.drew.trans (I.mono y.size);have P:=i1 I;have Fx:=Ω G;obtain⟨a4,m4,rfl,_⟩:=G.reads;clear G;have hs4:=I.size;simp only[World.size_drew]at hs4 P;have ht4:w.heap.size<w4.heap.size:=by omega)
    |(go_at_call 147;(with_reducible refine(zC _ (.slice O g.old.length M) g.old (H2.out.below z) L2.out (fun c hc=>FN.out c (List.mem_append_right _ hc))).mono ?_);rintro e w5 ⟨⟨r5,rfl,x⟩,l⟩;have D:=z.trans (l.mono z.size);have hc5:=i1 l;have HO5:=Ω x;obtain⟨a5,m5,rfl,_⟩:=x.reads;clear x;have hs5:=l.size;have ht5:w.heap.size<w5.heap.size:=by omega)
    |(go_at_call 148;(with_reducible refine(og _ (.slice ar g.roots.length R) g.roots (H3.out.below D) L3.out).mono ?_);rintro e w6 ⟨⟨r6,rfl,C⟩,j⟩;have B:=D.trans (j.mono D.size);have hc6:=i1 j;have U:=Ω C;obtain⟨a6,m6,rfl,_⟩:=C.reads;clear C;have hs6:=j.size;have ht6:w.heap.size<w6.heap.size:=by omega)
    |(go_at_call 148;(with_reducible refine(og _ (.slice aw g.aA.length W) g.aA (H4.out.below B) L4.out).mono ?_);rintro e w7 ⟨⟨r7,rfl,A⟩,q⟩;have H:=B.trans (q.mono B.size);have hc7:=i1 q;have Q:=Ω A;obtain⟨a7,m7,rfl,_⟩:=A.reads;clear A;have hs7:=q.size;have ht7:w.heap.size<w7.heap.size:=by omega)
    |(go_at_call 148;(with_reducible refine(og _ (.slice ad g.done.length T) g.done (H5.out.below H) L5.out).mono ?_);rintro e w8 ⟨⟨r8,rfl,u⟩,h⟩;have F:=H.trans (h.mono H.size);have hc8:=i1 h;have N:=Ω u;obtain⟨a8,m8,rfl,_⟩:=u.reads;clear u;have hs8:=h.size;have V9:w.heap.size<w8.heap.size:=by omega)
    |(go_at_call 149;(with_reducible refine(wj _ (.slice L g.marked.length V) g.marked (H6.out.below F) hl).mono ?_);rintro e w9 ⟨⟨r9,rfl,E⟩,i⟩;have Dv:=F.trans (i.mono F.size);have hc9:=i1 i;have HO9:=Ω E;obtain⟨a9,m9,rfl,_⟩:=E.reads;clear E;have hs9:=i.size;have ht9:w.heap.size<w9.heap.size:=by omega))
 clear f0 f1 f2 f3 f4 f5 P hc5 hc6 hc7 hc8 hc9
 go_wp2
 go_ret;have k:=af w9 (φ #[.slice a4 g.new.length m4,.slice a5 g.old.length m5,.slice a6 g.roots.length m6,.slice a7 g.aA.length m7,.slice a8 g.done.length m8,.slice a9 g.marked.length m9] 114);obtain⟨ln,hn,en⟩:=Fx.out;obtain⟨lo,ho,eo⟩:=HO5.out;have z9:=i.trans (k.mono i.size);have z8:=h.trans (z9.mono h.size);have z7:=q.trans (z8.mono q.size);have z6:=j.trans (z7.mono j.size);have z5:=l.trans (z6.mono l.size);have f:w.heap.size<=s.drew.heap.size:=by simp;omega
 refine⟨⟨_,rfl,N7 (s1:=w4.heap.size) (s2:=w5.heap.size) (s3:=w6.heap.size) (s4:=w7.heap.size) (by omega) (θ w9 _) ((hn.below z5).less f) ((en.below z5).less f) ((ho.below z6).less (by omega)) ((eo.below z6).less (by omega))
  ((U.out.below z7).less (by omega)) ((Q.out.below z8).less (by omega)) ((N.out.below z9).less (by omega)) ((HO9.out.below k).less (by omega))
  (fun p hp=>(en.range p hp).mono f (Nat.le_refl _)) eo.range U.out.range Q.out.range (N.out.range.mono (Nat.le_refl _) (by simp;omega)) hs5 hs6 hs7⟩,Dv.trans (k.mono (by omega))⟩
theorem zD(w:Δ)(b bn len m k:Nat)(hc:w.cell? ⟨b,0,Θ⟩=Ψ (υ (Ψ ⟨bn,0,Θ⟩) len m))(hk:k<len)(hl:len<=1000000):
 ZU aD.prog 199 #[ω (Ψ ⟨b,0,Θ⟩),.agg #[χ ψ 3,χ ψ k]] w fun e w'=>e=.returned (ω (Ψ ⟨bn,k*2,Θ⟩))/\ξ w.heap.size w w':=by
 have hb:=az hc;have h0:(0:Int)<=k:=by omega
 have a:(k:Int)<len:=by omega
 go_enter aD.func199,Tryz.ntmps199
 go_wp2
 go_quiet (fail)
 go_wp2
 go_ret;exact⟨rfl,by first|exact bl (af w _) _|exact(af w _)⟩
theorem ol(w:Δ)(b bn len m k:Nat)(hc:w.cell? ⟨b,1,Θ⟩=Ψ (υ (Ψ ⟨bn,0,Θ⟩) len m))(hk:k<len)(hl:len<=1000000):
 ZU aD.prog 199 #[ω (Ψ ⟨b,0,Θ⟩),.agg #[χ ψ 4,χ ψ k]] w fun e w'=>e=.returned (ω (Ψ ⟨bn,k*2,Θ⟩))/\ξ w.heap.size w w':=by
 have hb:=az hc;have h0:(0:Int)<=k:=by omega
 have a:(k:Int)<len:=by omega
 go_enter aD.func199,Tryz.ntmps199
 go_wp2
 go_quiet (fail)
 go_wp2
 go_ret;exact⟨rfl,by first|exact bl (af w _) _|exact(af w _)⟩
section
variable(x:HV)(w:Δ)
def jA(w:Δ)(b:Nat)(l:List HV):Prop:=∃es clk,w.heap[b]?=Ψ (.map es clk)/\es.toList.map (fun e=>(e.key,e.val))=l.zipIdx.map fun x=>(eB x.1,Value.int ψ (x.2:Int))
theorem zE(y:HV)(w:Δ):(Op.equal 50 (eB x) (eB y)).run aD.prog w=.ok (x==y) w:=by have:=VY x.1 x.2 y.1 y.2 w;have e:(x.1==y.1&&x.2==y.2)=(x==y):=rfl;rw[e]at this;exact this
theorem ly(x:HV)(w:Δ):∀(es:List MapEntry) (l:List HV) (j i:Nat),es.map (fun e=>(e.key,e.val))=(l.zipIdx j).map (fun x=>(eB x.1,Value.int ψ (x.2:Int))) ->
 (Instr.findAsking 50 (eB x) es i).run aD.prog w=.ok (if x∈l then Ψ (i+l.idxOf x,χ ψ ((j+l.idxOf x:Nat):Int))else Θ) w
 |[],l,j,i,h=>by
  cases l with
  |nil=>simp[Instr.findAsking]
  |cons a l=>simp at h
 |e::es,l,j,i,h=>by
  cases l with
  |nil=>simp at h
  |cons a l=>
   simp only[List.map_cons,List.zipIdx_cons,List.cons.injEq,Prod.mk.injEq]at h;obtain⟨⟨h1,h2⟩,h3⟩:=h;have ih:=ly x w es l (j+1) (i+1) h3;unfold Instr.findAsking;rw[Z8,h1,zE,ο];by_cases hx:x=a
   ·subst hx;simp[h2]
   ·have hb:(x==a)=κ:=by simp[hx]
    rw[hb];simp only[Bool.false_eq_true,if_false];rw[ih];have hne:¬a=x:=fun h=>hx h.symm
    by_cases hm:x∈l
    ·have hb2:(a==x)=κ:=by simp[hne]
     have hi:(a::l).idxOf x=l.idxOf x+1:=by rw[List.idxOf_cons,hb2];rfl
     rw[hi,if_pos hm,if_pos (List.mem_cons_of_mem _ hm)]
     congr 2
     simp only[Option.some.injEq,Prod.mk.injEq];exact⟨by omega,by congr 2;omega⟩
    ·simp[hm,hx]
theorem IA:aD.prog.underlying 110=Ψ (.map 50 3):=by kernel_rfl
theorem aeZ:(zeroValue 3).run aD.prog w=.ok (χ ψ 0) w:=by kernel_rfl
theorem ae0:∃fs,aD.prog.underlying 50=Ψ (.struct fs):=⟨_,by rw[aD.lq];exact Tryz.underlying50⟩
theorem Dw(e:Bool)(p q:Int)(w:Δ):(Instr.checkKey e 10000 50 (.agg #[χ ψ p,χ ψ q])).run aD.prog w=.ok () w:=by cases e<;>kernel_rfl
theorem run_findKey(es:List MapEntry)(l:List HV)(h:es.map (fun e=>(e.key,e.val))=l.zipIdx.map (fun x=>(eB x.1,Value.int ψ (x.2:Int)))):
 (Instr.findKey 50 (eB x) es).run aD.prog w=.ok (if x∈l then Ψ (l.idxOf x,χ ψ ((l.idxOf x:Nat):Int))else Θ) w:=by
 obtain⟨c,b⟩:=ae0;unfold Instr.findKey;rw[Z8,ZX b,ο];have d:=ly x w es l 0 0 h;cases es with
 |nil=>
  cases l with
  |nil=>simp[Instr.findNow]
  |cons a l=>simp at h
 |cons e es=>
  have:Instr.findNow (.struct c) (eB x) (e::es) 0=Θ:=by
   unfold Instr.findNow;have:Instr.sameNow (.struct c) (eB x) e.key=Θ:=by unfold Instr.sameNow eB;rfl
   rw[this]
  rw[this];simpa using d
theorem fP{w:Δ}{b:Nat}{l:List HV}(h:jA w b l):
 (Instr.lookup 110 (.map (Ψ b)) (eB x) μ).run aD.prog w=.ok (.tuple #[χ ψ (if x∈l then((l.idxOf x:Nat):Int)else 0),.bool (decide (x∈l))]) w:=by
 obtain⟨d,a,hb,g⟩:=h;have e:=run_findKey x w d.toList l g;unfold Instr.lookup;simp only[Z8,ZX IA,ο];have i:(getObj b).run aD.prog w=.ok (.map d a) w:=by simp[getObj,Sem.run,hb]
 simp only[i,ο,ZJ,Z8];have c:=Dw d.isEmpty x.1 x.2 w;rw[show eB x=.agg #[χ ψ x.1,χ ψ x.2]from rfl]at e⊢;rw[c];simp only[ο,e];by_cases f:x∈l
 ·simp[f]
 ·simp[f,aeZ]
end
section
variable{w:Δ}{l:List HV}
theorem sx{b:Nat}(x:HV)(h:jA w b l)(hx:x∉l):
 ∃w',(Instr.mapUpdate 110 (.map (Ψ b)) (eB x) (χ ψ (l.length:Int))).run aD.prog w=.ok () w'/\jA w' b (l++[x])/\w.grownBy w' (Ψ b):=by
 obtain⟨c,a,hb,j⟩:=h;have i:=run_findKey x w c.toList l j;have d:=(Ξ.1 hb).1;refine⟨{w with heap:=w.heap.setIfInBounds b (.map (c.push {key:=eB x,val:=χ ψ (l.length:Int),born:=a}) (a+1))},?_,?_,?_⟩
 ·unfold Instr.mapUpdate;simp only[Z8,ZX IA,ο];have m:(getObj b).run aD.prog w=.ok (.map c a) w:=by simp[getObj,Sem.run,hb]
  simp only[m,ο,ZJ,Z8];have g:=Dw κ x.1 x.2 w;rw[show eB x=.agg #[χ ψ x.1,χ ψ x.2]from rfl]at i⊢;rw[g];simp only[ο,i,if_neg hx];simp[setObj,Sem.run,hb]
 ·refine⟨c.push {key:=eB x,val:=χ ψ (l.length:Int),born:=a},a+1,by simp[d],?_⟩;rw[Array.toList_push,List.map_append,j,List.zipIdx_append,List.map_append];simp
 ·refine⟨rfl,rfl,rfl,by simp,fun k n f=>?_⟩;have:k≠b:=fun e=>f (by rw[e])
  simp[Array.getElem?_setIfInBounds,ZZ this]
theorem pn(x:HV):∀(l:List HV) (k:Nat),k<l.length->(l.set k x).flatMap lU=((l.flatMap lU).set (k*2) (χ ψ x.1)).set (k*2+1) (χ ψ x.2)
 |[],k,h=>by simp at h
 |a::l,0,h=>by simp[lU]
 |a::l,k+1,h=>by have:=pn x l k (by simpa using h);rw[List.set_cons_succ,List.flatMap_cons,List.flatMap_cons,this,show(k+1)*2=k*2+1+1 by omega];simp[lU]
theorem OV.set{B g n m k:Nat}{x:HV}(h:OV w B (υ (Ψ ⟨g,0,Θ⟩) n m) l)(hk:k<l.length):
 OV ((w.setCell ⟨g,k*2,Θ⟩ (χ ψ x.1)).setCell ⟨g,k*2+1,Θ⟩ (χ ψ x.2)) B (υ (Ψ ⟨g,0,Θ⟩) n m) (l.set k x):=by
 rcases h with⟨d,⟨h0,_⟩|⟨p,e,a,c,f,j,o,b,hs,i⟩⟩
 ·cases h0
 ·cases c
  refine⟨by rw[pn x l k hk];simpa using d,.inr ⟨g,m,(a.setIfInBounds (k*2) (χ ψ x.1)).setIfInBounds (k*2+1) (χ ψ x.2),by simp,f,?_,by simpa using o,b,by simpa using hs,?_⟩⟩
  ·simp[ZY,ZV,j]
  ·rw[pn x l k hk,<-i];simp only[ZO,List.length_set,List.take_set]
theorem OV.at_{B g n m k:Nat}{p q:Int}(h:OV w B (υ (Ψ ⟨g,0,Θ⟩) n m) l)(hk:l[k]?=Ψ (p,q)):
 w.cell? ⟨g,k*2,Θ⟩=Ψ (χ ψ p)/\w.cell? ⟨g,k*2+1,Θ⟩=Ψ (χ ψ q)/\(∀i,w.frozen? ⟨g,i,Θ⟩=κ)/\B<=g/\g<w.heap.size:=by
 have c:=h.lt g rfl;obtain⟨a,z,b,x,u,s⟩:=aF h;have o:=(List.getElem?_eq_some_iff.1 hk).1;obtain⟨t,f,_,d,j,hc⟩:=s (by omega);simp at b;obtain⟨rfl,_,rfl⟩:=b;cases f
 obtain⟨e1,e2⟩:=jx lU (fun v=>χ ψ v.1) (fun v=>χ ψ v.2) (fun _=>rfl) l k _ hk;refine⟨hc _ _ e1,hc _ _ e2,fun i=>?_,c⟩;rcases h with⟨_,⟨h0,_⟩|⟨t,r,e,b,y,d,_⟩⟩
 ·cases h0
 ·cases b
  simp[ZK,d]
end
section
variable{x:HV}{w a:Δ}{l:List HV}{k:Nat}{f:HV->HV}
theorem zF{row:Option Nat}(h:a.grownBy w row)(n:Nat):a.grownBy (w.drewN n) row:=⟨h.os,h.tape,h.output,h.size,h.block⟩
theorem zG{row:Option Nat}(h:a.grownBy w row)(o:Obj):a.grownBy (w.alloc o) row:=⟨h.os,h.tape,h.output,Nat.le_trans h.size (by simp),fun i hi b=>(ε w o i (Nat.lt_of_lt_of_le hi h.size)).trans (h.block i hi b)⟩
theorem sz{g:Nat}(h:a.grownBy w (Ψ g)){p:Addr}(hp:p.block=g\/a.heap.size<=p.block)(u:Γ):a.grownBy (w.setCell p u) (Ψ g):=
 ⟨h.os,h.tape,h.output,by simpa[ZY]using h.size,fun i hi b=>(Z9 w p u i (by
   rintro rfl;rcases hp with hp|hp
   ·exact b (by rw[hp])
   ·omega)).trans (h.block i hi b)⟩
theorem jA.of_block{w':Δ}{b:Nat}(h:jA w b l)(hb:w'.heap[b]?=w.heap[b]?):jA w' b l:=by obtain⟨d,a,c,e⟩:=h;exact⟨d,a,hb.trans c,e⟩
theorem jA.lt{b:Nat}(h:jA w b l):b<w.heap.size:=by obtain⟨d,c,a,e⟩:=h;exact(Ξ.1 a).1
theorem IB(h:l[k]?=Ψ x):((l.take k).map f++l.drop k).set k (f x)=(l.take (k+1)).map f++l.drop (k+1):=by
 have a:=(List.getElem?_eq_some_iff.1 h).1;have b:=(List.getElem?_eq_some_iff.1 h).2;have:k-((l.take k).map f).length=0:=by simp;omega
 rw[List.set_append_right _ _ (by simp;omega),this,List.drop_eq_getElem_cons a,List.set_cons_zero,bW h];simp
theorem IC(h:l[k]?=Ψ x)(hf:f x=x):(l.take k).map f++l.drop k=(l.take (k+1)).map f++l.drop (k+1):=by have a:=(List.getElem?_eq_some_iff.1 h).1;have b:=(List.getElem?_eq_some_iff.1 h).2;rw[List.drop_eq_getElem_cons a,bW h,b];simp[hf]
theorem Wa(h:l[k]?=Ψ x):((l.take k).map f++l.drop k)[k]?=Ψ x:=by
 have a:=(List.getElem?_eq_some_iff.1 h).1;rw[List.getElem?_append_right (by simp;omega)];have:k-((l.take k).map f).length=0:=by simp;omega
 rw[this,List.getElem?_drop];simpa using h
theorem uO(w:Δ)(B bs bm:Nat)(v so:Γ)(l order:List HV)(from_:Int)(hv:OV w B v l)(hs:w.heap[bs]?=Ψ (φ #[so,.map (Ψ bm)] 112 (0,0)))(hm:jA w bm order)
 (hf0:0<=from_) (hf1:from_<=1000000) (ho:order.length<=1000000) (hl:l.length<=1000000):
 ZU aD.prog 227 #[v,ω (Ψ ⟨bs,0,Θ⟩),χ ψ from_] w fun e w'=>e=.returned (.tuple #[])/\OV w' B v (l.map (lr order from_))/\w.grownBy w' v.ownBlock:=by
 have HV:=Ω hv;have s:v.ownBlock≠Ψ bs:=by
  intro e;rcases hv with⟨_,⟨rfl,_⟩|⟨g,A,F,rfl,V,z,_⟩⟩
  ·cases e
  ·cases e
   rw[z]at hs;cases hs
 have t:v.ownBlock≠Ψ bm:=by
  intro e;obtain⟨es,Q,J,_⟩:=hm;rcases hv with⟨_,⟨rfl,_⟩|⟨g,A,F,rfl,V,z,_⟩⟩
  ·cases e
  ·cases e
   rw[z]at J;cases J
 have x:=(Ξ.1 hs).1;have y:=hm.lt;obtain⟨a,m,D,S,C,L⟩:=aF hv;unfold ZI at C;have R:=Ω L;have G:=Ω s;have E:=Ω t;have U:=Ω hs;have O:=Ω hm;clear L s t hs hm hv;subst D
 go_enter aD.func227,Tryz.ntmps227
 go_wp2
 go_loopw [12] (fun i wr=>∃k:Nat,k<=l.length/\i=χ ψ k/\OV wr B (.slice a l.length m) ((l.take k).map (lr order from_)++l.drop k)/\w.grownBy wr (ZN (.slice a l.length m))) (fun i _=>l.length-(intOf i).toNat)
 case atStart=>exact⟨0,Nat.zero_le _,rfl,by simpa using HV.out,World.grownBy.refl _ _⟩
 case round=>
  obtain⟨k,X,rfl,b,f⟩:=hrel;by_cases u:k<l.length
  ·obtain⟨g,rfl,_⟩:=R.out (by omega);obtain⟨p,q,e1⟩:=ep u;have T:=f.size;have j:((l.take k).map (lr order from_)++l.drop k).length=l.length:=by simp;omega
   have h:=b;rw[<-j]at h;obtain⟨c1,c2,n,P,W⟩:=OV.at_ b (Wa e1);have Y:=n (k*2);have f2:=n (k*2+1);have N:wr.cell? ⟨bs,1,Θ⟩=Ψ (.map (Ψ bm)):=by have:=(f.block bs x (ZZ G.out)).trans U.out;simp[ι,this]
   have r:=O.out.of_block (f.block bm y (ZZ E.out));have d:=fun nq=>fP (w:=(wr.alloc (φ #[χ ψ p,χ ψ q] 50)).drewN nq) (p,q) (r.of_block (ε wr _ bm (by omega)))
   have I:bs<wr.heap.size:=by omega
   have M:=Ω e1;have K:=Ω b;clear h n e1 r j b;unfold eB at d;dsimp only at d;by_cases o:(p,q)∈order
   ·simp only[o,if_true,decide_true]at d;have H:=List.idxOf_lt_length_of_mem o;have c:lr order from_ (p,q)=(4,from_+(order.idxOf (p,q):Nat)):=by simp[lr,o]
    have HR:=Ω c;clear c o;generalize order.idxOf (p,q)=Z at d H HR
    go_wp2
    go_quiet (fail)
    clear d
    go_wp2
    refine⟨⟨k+1,by omega,by go_num,?_,?_⟩,by simp[intOf];omega⟩
    ·rw[<-IB M.out,HR.out];exact((K.out.alloc _).below (hU _ _ _)).set (by simp;omega)
    ·show w.grownBy _ (Ψ g);exact sz (p:=⟨g,k*2+1,Θ⟩) (sz (p:=⟨g,k*2,Θ⟩) (zF (zG f _) _) (.inl rfl) _) (.inl rfl) _
   ·simp only[o,if_false,decide_false]at d;have c:lr order from_ (p,q)=(p,q):=by simp[lr,o]
    have HR:=Ω c;clear c o
    go_wp2
    go_quiet (fail)
    clear d
    go_wp2
    exact⟨⟨k+1,by omega,by go_num,by rw[<-IC M.out HR.out];exact(K.out.alloc _).below (hU _ _ _),zF (zG f _) _⟩,by simp[intOf];omega⟩
  ·go_wp2
   go_end0;refine⟨rfl,?_,f⟩;rw[List.take_of_length_le (by omega),List.drop_eq_nil_of_le (by omega),List.append_nil]at b;exact b
end
section
def bS(w:Δ)(B bs bm:Nat)(so:Γ)(l:List HV):Prop:=B<=bs/\B<=bm/\w.heap[bs]?=Ψ (φ #[so,.map (Ψ bm)] 112 (0,0))/\OV w B so l/\jA w bm l
structure cz(w w':Δ)(bs bm:Nat)(so so':Γ):Prop where
 os:w'.os=w.os
 tape:w'.tape=w.tape
 output:w'.output=w.output
 size:w.heap.size<=w'.heap.size
 block:∀k,k<w.heap.size->k≠bs->k≠bm->so.ownBlock≠Ψ k->w'.heap[k]?=w.heap[k]?
 own:∀k,so'.ownBlock=Ψ k->so.ownBlock=Ψ k\/w.heap.size<=k
section
variable{w w' w'':Δ}{B bs bm:Nat}{so so' ae1:Γ}{l:List HV}
theorem cz.bK(h:ξ w.heap.size w w'):cz w w' bs bm so so:=⟨h.os,h.tape,h.output,h.size,fun k a _ _ _=>h.block k a,fun k e=>.inl e⟩
theorem cz.refl(w:Δ):cz w w bs bm so so:=.bK (η _ _)
theorem cz.trans(h:cz w w' bs bm so so')(k:cz w' w'' bs bm so' ae1):cz w w'' bs bm so ae1:=
 ⟨k.os.trans h.os,k.tape.trans h.tape,k.output.trans h.output,Nat.le_trans h.size k.size,
   fun i hi a b c=>(k.block i (Nat.lt_of_lt_of_le hi h.size) a b (fun e=>by
    rcases h.own i e with e|e
    ·exact c e
    ·omega)).trans (h.block i hi a b c),
   fun i e=>by
    rcases k.own i e with e|e
    ·exact h.own i e
    ·exact .inr (Nat.le_trans h.size e)⟩
theorem cz.below(h:cz w w' bs bm so so')(hs:bS w B bs bm so l)(hB:B<=w.heap.size):ξ B w w':=⟨h.os,h.tape,h.output,h.size,fun k a=>h.block k (by omega) (by have:=hs.1;omega) (by have:=hs.2.1;omega) (fun e=>by have:=(hs.2.2.2.1.lt k e).1;omega)⟩
theorem cz.cell(h:cz w w' bs bm so so'){a:Addr}(ha:a.block<w.heap.size)(h1:a.block≠bs)(h2:a.block≠bm)(h3:so.ownBlock≠Ψ a.block):w'.cell? a=w.cell? a:=World.cell?_of_block (h.block a.block ha h1 h2 h3)
theorem bS.below(h:bS w B bs bm so l)(hk:ξ w.heap.size w w'):bS w' B bs bm so l:=⟨h.1,h.2.1,(hk.block bs (Ξ.1 h.2.2.1).1).trans h.2.2.1,h.2.2.2.1.below hk,h.2.2.2.2.of_block (hk.block bm h.2.2.2.2.lt)⟩
theorem bS.Q4(h:bS w B bs bm so l):bs<w.heap.size/\bm<w.heap.size:=⟨(Ξ.1 h.2.2.1).1,h.2.2.2.2.lt⟩
def wm(k bs bm:Nat)(so:Γ):Prop:=k≠bs/\k≠bm/\so.ownBlock≠Ψ k
theorem bS.free(h:bS w B bs bm so l){k:Nat}{cur:Array Γ}{t:ZM}{fr:Nat×Nat}(hk:w.heap[k]?=Ψ (.cells cur t fr))(h1:t≠112)(h2:t≠50):wm k bs bm so:=by
 obtain⟨_,_,hb,c,j,d,b,_⟩:=h;refine⟨fun e=>?_,fun e=>?_,fun e=>?_⟩
 ·subst e;rw[hb]at hk;cases hk;exact h1 rfl
 ·subst e;rw[b]at hk;cases hk
 ·rcases c with⟨_,⟨rfl,_⟩|⟨g,f,a,rfl,m,i,_⟩⟩
  ·cases e
  ·cases e;rw[i]at hk;cases hk;exact h2 rfl
theorem bS.low(h:bS w B bs bm so l){k:Nat}(hk:k<B):wm k bs bm so:=⟨fun e=>by have:=h.1;omega,fun e=>by have:=h.2.1;omega,fun e=>by have:=(h.2.2.2.1.lt k e).1;omega⟩
end
theorem ID(w:Δ)(B bs bm:Nat)(so:Γ)(l:List HV)(p q:Int)(hs:bS w B bs bm so l)(hx:(p,q)∈l):
 ZU aD.prog 197 #[ω (Ψ ⟨bs,0,Θ⟩),.agg #[χ ψ p,χ ψ q]] w fun e w'=>(∃i:Int,e=.returned (χ ψ i))/\(∃so',bS w' B bs bm so' (meet l (p,q))/\cz w w' bs bm so so'):=by
 have c:meet l (p,q)=l:=by unfold meet;rw[if_pos (by simpa using hx)]
 rw[c];have k:=Ω hs;obtain⟨n,h,hb,j,d⟩:=hs;have g:=(Ξ.1 hb).1;have hc:w.cell? ⟨bs,1,Θ⟩=Ψ (.map (Ψ bm)):=by simp[ι,hb]
 have f:=d.lt;have a:=fun nq=>fP (w:=(w.alloc (φ #[χ ψ p,χ ψ q] 50)).drewN nq) (p,q) (d.of_block (ε w _ bm f))
 unfold eB at a;simp only[hx,if_true,decide_true]at a;clear hb j d hx c;generalize l.idxOf (p,q)=m at a
 go_enter aD.func197,Tryz.ntmps197
 go_wp2
 go_quiet (fail)
 clear a
 go_wp2
 go_ret;have b:ξ w.heap.size w ((w.alloc (φ #[χ ψ p,χ ψ q] 50)).drewN nq):=bl (af w _) _;exact⟨⟨_,rfl⟩,_,k.out.below b,cz.bK b⟩
end
section
variable{w:Δ}
theorem heap_setCell_same{b i:Nat}{cur:Array Γ}{t:ZM}{fr:Nat×Nat}{v:Γ}(h:w.heap[b]?=Ψ (.cells cur t fr)):(w.setCell ⟨b,i,Θ⟩ v).heap[b]?=Ψ (.cells (cur.setIfInBounds i v) t fr):=by simp[ZY,ZV,h]
theorem ae2{a b c:Δ}{row:Option Nat}(h:ξ a.heap.size a b)(k:b.grownBy c row):a.grownBy c row:=⟨k.os.trans h.os,k.tape.trans h.tape,k.output.trans h.output,Nat.le_trans h.size k.size,fun i hi d=>(k.block i (Nat.lt_of_lt_of_le hi h.size) d).trans (h.block i hi)⟩
theorem bS.ne{B bs bm:Nat}{so:Γ}{l:List HV}(h:bS w B bs bm so l):bs≠bm/\so.ownBlock≠Ψ bs/\so.ownBlock≠Ψ bm:=by
 obtain⟨_,_,hb,f,k,i,b,_⟩:=h;refine⟨fun e=>?_,fun e=>?_,fun e=>?_⟩
 ·subst e;rw[hb]at b;cases b
 ·rcases f with⟨_,⟨rfl,_⟩|⟨g,c,a,rfl,j,d,_⟩⟩
  ·cases e
  ·cases e;rw[d]at hb;cases hb
 ·rcases f with⟨_,⟨rfl,_⟩|⟨g,c,a,rfl,j,d,_⟩⟩
  ·cases e
  ·cases e;rw[d]at b;cases b
theorem IE{w2 w3 w4:Δ}{B bs bm gg cap:Nat}{so:Γ}{l:List HV}{x:HV}(hs:bS w B bs bm so l)(h2:ξ w.heap.size w w2)(h3:w2.grownBy w3 (Ψ bm))(hm:jA w3 bm (l++[x]))(h4:w3.grownBy w4 so.ownBlock)(ho:OV w4 B (υ (Ψ ⟨gg,0,Θ⟩) (l.length+1) cap) (l++[x]))(hat:so.ownBlock=Ψ gg\/w3.heap.size<=gg):
 bS (w4.setCell ⟨bs,0,Θ⟩ (υ (Ψ ⟨gg,0,Θ⟩) (l.length+1) cap)) B bs bm (υ (Ψ ⟨gg,0,Θ⟩) (l.length+1) cap) (l++[x])/\
 cz w (w4.setCell ⟨bs,0,Θ⟩ (υ (Ψ ⟨gg,0,Θ⟩) (l.length+1) cap)) bs bm so (υ (Ψ ⟨gg,0,Θ⟩) (l.length+1) cap):=by
 obtain⟨a,b,r⟩:=hs.ne;obtain⟨j,y⟩:=hs.Q4;have t:=h2.size;have z3:=h3.size;have u:=h4.size;have p:=(h2.block bs j).trans hs.2.2.1;have q:=(h3.block bs (by omega) (fun e=>a (ζ e))).trans p;have o:=(h4.block bs (by omega) (ZZ b)).trans q;have n:=hm.of_block (h4.block bm (by omega) (ZZ r));have s:gg≠bs:=by
  rcases hat with e|e
  ·rintro rfl;exact b e
  ·omega
 refine⟨⟨hs.1,hs.2.1,?_,?_,?_⟩,⟨?_,?_,?_,?_,?_,?_⟩⟩
 ·have:=heap_setCell_same (i:=0) (v:=υ (Ψ ⟨gg,0,Θ⟩) (l.length+1) cap) o;simpa using this
 ·refine aS ho fun g m=>Z9 _ _ _ _ ?_
  cases m
  exact s
 ·exact n.of_block (Z9 _ _ _ _ (ZZ a))
 ·exact h4.os.trans (h3.os.trans h2.os)
 ·exact h4.tape.trans (h3.tape.trans h2.tape)
 ·exact h4.output.trans (h3.output.trans h2.output)
 ·simp[ZY];omega
 ·intro k d c f h;refine(Z9 _ _ _ _ c).trans ((h4.block k (by omega) (ZZ h)).trans ((h3.block k (by omega) (fun e=>f (ζ e))).trans (h2.block k d)))
 ·intro k e;cases e
  rcases hat with e|e
  ·exact .inl e
  ·exact .inr (by dsimp only;omega)
theorem IF(w:Δ)(B bs bm:Nat)(so:Γ)(l:List HV)(p q:Int)(hs:bS w B bs bm so l)(hx:(p,q)∉l)(hl:l.length<=1000000):
 ZU aD.prog 197 #[ω (Ψ ⟨bs,0,Θ⟩),.agg #[χ ψ p,χ ψ q]] w fun e w'=>(∃i:Int,e=.returned (χ ψ i))/\(∃so',bS w' B bs bm so' (meet l (p,q))/\cz w w' bs bm so so'):=by
 have F:meet l (p,q)=l++[(p,q)]:=by unfold meet;rw[if_neg (by simpa using hx)]
 rw[F];have P:=Ω hs;obtain⟨hB,hBm,hb,W,S⟩:=hs;obtain⟨i0,hi,z,D,E⟩:=info_parts nh;have u:=(Ξ.1 hb).1;have H:w.cell? ⟨bs,1,Θ⟩=Ψ (.map (Ψ bm)):=by simp[ι,hb]
 have I:=S.lt;obtain⟨a,m,G,hm1,hm2,_⟩:=aF W;have v:w.cell? ⟨bs,0,Θ⟩=Ψ (.slice a l.length m):=by simp[ι,hb,G]
 have y:=fun nq=>fP (w:=(w.alloc (φ #[χ ψ p,χ ψ q] 50)).drewN nq) (p,q) (S.of_block (ε w _ bm I))
 unfold eB at y;simp only[hx,if_false,decide_false]at y;have HI:=Ω hi;have Q:=Ω z;have R:=Ω D;have L:=Ω E;have HX:=Ω hx;subst G;clear hb W S hx F hi z D E
 go_enter aD.func197,Tryz.ntmps197
 go_wp2
 go_quiet (fail)
 clear y;have c:ξ w.heap.size w ((w.alloc (φ #[χ ψ p,χ ψ q] 50)).drewN nq):=bl (af w _) _;have n:((w.alloc (φ #[χ ψ p,χ ψ q] 50)).drewN nq).cell? ⟨w.heap.size,0,Θ⟩=Ψ (χ ψ p):=by go_simp
 have k:((w.alloc (φ #[χ ψ p,χ ψ q] 50)).drewN nq).cell? ⟨w.heap.size,1,Θ⟩=Ψ (χ ψ q):=by go_simp
 have d:w.heap.size<((w.alloc (φ #[χ ψ p,χ ψ q] 50)).drewN nq).heap.size:=by simp
 generalize ((w.alloc (φ #[χ ψ p,χ ψ q] 50)).drewN nq)=r at c n k d⊢;have k0:r.cell? ⟨bs,0,Θ⟩=Ψ (.slice a l.length m):=(i1 c bs 0 u).trans v;have Z:r.cell? ⟨bs,1,Θ⟩=Ψ (.map (Ψ bm)):=(i1 c bs 1 u).trans H
 go_wp2_with fail
 go_still_tail 6,(by kernel_rfl)
 change ZQ _ _ _ _ _ (World.drew _)
 clear k0 Z;replace c:=c.drew;replace n:r.drew.cell? ⟨w.heap.size,0,Θ⟩=Ψ (χ ψ p):=n;replace k:r.drew.cell? ⟨w.heap.size,1,Θ⟩=Ψ (χ ψ q):=k;replace d:w.heap.size<r.drew.heap.size:=d;generalize r.drew=r at c n k d⊢;have h:=P.out.below c;obtain⟨b,o,C,f⟩:=sx (p,q) h.2.2.2.2 HX.out;unfold eB at o;dsimp only at o;have K:w.heap.size≠bm:=by omega
 obtain⟨T,Y,V⟩:=h.ne;have g0:b.cell? ⟨bs,0,Θ⟩=Ψ (.slice a l.length m):=(f.cell_far ⟨bs,0,Θ⟩ h.Q4.1 (fun e=>T (ζ e))).trans ((i1 c bs 0 u).trans v);have gf:b.frozen? ⟨bs,0,Θ⟩=κ:=(f.frozen_far ⟨bs,0,Θ⟩ h.Q4.1 (fun e=>T (ζ e))).trans (by simp[ZK,h.2.2.1]);have g1:b.cell? ⟨w.heap.size,0,Θ⟩=Ψ (χ ψ p):=(f.cell_far ⟨w.heap.size,0,Θ⟩ d (fun e=>K (ζ e))).trans n;have g2:b.cell? ⟨w.heap.size,1,Θ⟩=Ψ (χ ψ q):=(f.cell_far ⟨w.heap.size,1,Θ⟩ d (fun e=>K (ζ e))).trans k;have A:OV b B (.slice a l.length m) l:=aS h.2.2.2.1 fun g U=>f.block g (h.2.2.2.1.lt g U).2 (fun e=>V (by rw[U,ζ e]))
 have hz3:=f.size;have hBz:B<=w.heap.size:=by omega
 have s:bs<b.heap.size:=by omega
 have HO:=Ω A;have X:=Ω Y;have H5:=Ω (fun e=>by have:=(P.out.2.2.2.1.lt _ e.symm).2;omega:Ψ w.heap.size≠ZN (.slice a l.length m));have HB:=Ω (⟨c,f,C⟩:ξ w.heap.size w r/\r.grownBy b (Ψ bm)/\jA b bm (l++[(p,q)]));clear v H c n k h C f T Y V A K
 go_wp2_with fail
 clear o
 go_region_law
  ((refine step_append_lies _ (by rfl) _ _ _ (by rfl) B 50 i0 _ 2 16 lx HI.out Q.out R.out L.out rfl (by omega) (.slice a l.length m) l.length (l.flatMap lU) (by rfl) (HO.out.below (by first|exact(af b _).drew|exact(af b _)|exact((η _ b).drew.alloc (Nat.le_refl _) _)|exact((η _ b).drew.alloc (Nat.le_refl _) _).drew))
     ⟨b.heap.size,0,Θ⟩ 1 1 [χ ψ p,χ ψ q] (by rfl) (by rfl) (World.news_of_block (cs:=#[χ ψ p,χ ψ q]) (t:=50) (fr:=(0,0)) (θ b _)) (by simp[Value.oneCell'])
     (by omega) (by unfold ZI;omega) (by omega) (by simp;omega) (b.heap.size+1) (by simp) ?_;intro gg M w4 x j J hlt;have gf4:w4.frozen? ⟨bs,0,Θ⟩=κ:=(j.frozen_far ⟨bs,0,Θ⟩ (by simp;omega) (ZZ X.out)).trans ((((af b _).drew).frozen (p:=⟨bs,0,Θ⟩) s).trans gf);have gc4:w4.cell? ⟨bs,0,Θ⟩=Ψ (.slice a l.length m):=(j.cell_far ⟨bs,0,Θ⟩ (by simp;omega) (ZZ X.out)).trans ((((af b _).drew).cell (p:=⟨bs,0,Θ⟩) s).trans g0)))
 all_goals go_wp2
 all_goals
  go_ret;obtain⟨b2,b3,m3⟩:=HB.out;have O:b.grownBy w4 (ZN (.slice a l.length m)):=ae2 (by first|exact(af b _).drew|exact(af b _)|exact((η _ b).drew.alloc (Nat.le_refl _) _)|exact((η _ b).drew.alloc (Nat.le_refl _) _).drew) j;have N:OV w4 B (υ (Ψ ⟨gg,0,Θ⟩) (l.length+1) M) (l++[(p,q)]):=by unfold OV;rw[List.flatMap_append,List.length_append];exact x
  obtain⟨e1,e2⟩:=IE P.out b2 b3 m3 O N (by rcases J with e|e;exact .inl e;exact .inr (by omega));exact⟨⟨_,rfl⟩,_,e1,e2⟩
end
theorem IG(w:Δ)(B bs bm:Nat)(so:Γ)(l:List HV)(p q:Int)(hs:bS w B bs bm so l)(hl:l.length<=1000000):
 ZU aD.prog 197 #[ω (Ψ ⟨bs,0,Θ⟩),.agg #[χ ψ p,χ ψ q]] w fun e w'=>(∃i:Int,e=.returned (χ ψ i))/\(∃so',bS w' B bs bm so' (meet l (p,q))/\cz w w' bs bm so so'):=by
 by_cases a:(p,q)∈l
 ·exact ID w B bs bm so l p q hs a
 ·exact IF w B bs bm so l p q hs a hl
theorem IH(l:List HV)(v:HV):(meet l v).length<=l.length+1:=by unfold meet;split<;>simp
theorem lW(mv:HV->Bool):∀(vs l:List HV),(visit mv l vs).length<=l.length+vs.length
 |[],l=>by simp[visit]
 |v::vs,l=>by have:=lW mv vs (if mv v then meet l v else l);have h2:=IH l v;simp only[visit,List.foldl_cons,List.length_cons]at this⊢;split at this<;>split<;>simp_all<;>omega
theorem j7(mv:HV->Bool)(vs l:List HV)(v:HV):visit mv l (vs++[v])=if mv v then meet (visit mv l vs) v else visit mv l vs:=by simp[visit]
def wn(f:Nat)(mv:HV->Bool):Prop:=(f=151/\mv=dy)\/(f=168/\mv=co)
def Q5(v:Γ)(bs bm:Nat)(so:Γ):Prop:=∀a n m,v=υ (Ψ a) n m->0<n->wm a.block bs bm so
theorem wo(f:Nat)(mv:HV->Bool)(hmv:wn f mv)(w:Δ)(B bs bm b1 b2:Nat)(so v:Γ)(l vs:List HV)(hs:bS w B bs bm so l)(hv:eI w v vs)(hf:Q5 v bs bm so)
 (h1:w.cell? ⟨b1,0,Θ⟩=Ψ (.func (.func f) #[] #[])) (f1:wm b1 bs bm so) (h2:w.cell? ⟨b2,0,Θ⟩=Ψ (ω (Ψ ⟨bs,0,Θ⟩))) (f2:wm b2 bs bm so) (hl:l.length+vs.length<=1000000):
 ZU aD.prog 196 #[v,ω (Ψ ⟨b1,0,Θ⟩),ω (Ψ ⟨b2,0,Θ⟩)] w fun e w'=>e=.returned (.tuple #[])/\(∃so',bS w' B bs bm so' (visit mv l vs)/\cz w w' bs bm so so'):=by
 have HV:=Ω hv;have U:=Ω hf;have I:=Ω f1;have H:=Ω f2;obtain⟨a,m,rfl,hm,W,R⟩:=hv;have L:=az h1;have J:=az h2;have X:=Ω h1;have Z:=Ω h2;have V:=Ω R;clear h1 h2 R hf f1 f2
 go_enter aD.func196,Tryz.ntmps196
 go_wp2
 go_loopw [8] (fun i wr=>∃k:Nat,k<=vs.length/\i=χ ψ k/\∃so',bS wr B bs bm so' (visit mv l (vs.take k))/\cz w wr bs bm so so') (fun i _=>vs.length-(intOf i).toNat)
 case atStart=>exact⟨0,Nat.zero_le _,rfl,so,hs,cz.refl _⟩
 case round=>
  obtain⟨k,hk,rfl,so',h,d⟩:=hrel;by_cases G:k<vs.length
  ·obtain⟨O,Q,rfl,A,z⟩:=V.out (by omega);obtain⟨p,q,e1⟩:=ep G;have hz:=d.size;have fr:=U.out _ _ _ rfl (by omega);obtain⟨N,M⟩:=z k p q e1;have c1:=(d.cell (a:=⟨O,Q+k*2,Θ⟩) A fr.1 fr.2.1 fr.2.2).trans N;have c2:=(d.cell (a:=⟨O,Q+k*2+1,Θ⟩) A fr.1 fr.2.1 fr.2.2).trans M;have D:=(d.cell (a:=⟨b1,0,Θ⟩) L I.out.1 I.out.2.1 I.out.2.2).trans X.out;have y:=(d.cell (a:=⟨b2,0,Θ⟩) J H.out.1 H.out.2.1 H.out.2.2).trans Z.out;have T:=lW mv (vs.take k) l;have S:(vs.take k).length<=k:=List.length_take_le _ _;have P:b1<wr.heap.size:=by omega
   have n:b2<wr.heap.size:=by omega
   have F:=Ω e1;have E:=Ω h;have C:=Ω d;have FR:=Ω fr;clear z e1 h d fr N M;have j:(visit mv l (vs.take k)).length<=1000000:=by omega
   rcases hmv with⟨rfl,rfl⟩|⟨rfl,rfl⟩
   ·by_cases x:dy (p,q)=μ
    ·have u:=Ω x
     go_wp2_with fail
     refine(wd _ (p,q)).mono ?_;rintro e g ⟨rfl,c⟩;have b:ξ wr.heap.size wr g:=(af _ _).trans (c.mono (by simp));have n1:g.cell? ⟨wr.heap.size,0,Θ⟩=Ψ (χ ψ p):=(c.cell (p:=⟨wr.heap.size,0,Θ⟩) (by simp)).trans (by go_simp);have n2:g.cell? ⟨wr.heap.size,1,Θ⟩=Ψ (χ ψ q):=(c.cell (p:=⟨wr.heap.size,1,Θ⟩) (by simp)).trans (by go_simp);have g3:=(b.cell (p:=⟨b2,0,Θ⟩) n).trans y;have K:=b.size;clear c1 c2 D y
     go_wp2_with fail
     refine(IG _ B bs bm so' _ p q (E.out.below b) j).mono ?_;rintro e w4 ⟨⟨Y,rfl⟩,o,r,t⟩
     go_wp2_with fail
     exact⟨⟨k+1,by omega,by go_num,o,by rw[bW F.out,j7,if_pos u.out];exact r,C.out.trans ((cz.bK b).trans t)⟩,by simp[intOf];omega⟩
    ·have s:dy (p,q)=κ:=by simpa using x
     have u:=Ω s;clear x
     go_wp2_with fail
     refine(wd _ (p,q)).mono ?_;rintro e g ⟨rfl,c⟩;have b:ξ wr.heap.size wr g:=(af _ _).trans (c.mono (by simp));clear c1 c2 D y
     go_wp2_with fail
     exact⟨⟨k+1,by omega,by go_num,so',by rw[bW F.out,j7,if_neg (by rw[u.out];decide)];exact E.out.below b,C.out.trans (cz.bK b)⟩,by simp[intOf];omega⟩
   ·by_cases x:co (p,q)=μ
    ·have u:=Ω x
     go_wp2_with fail
     refine(sd _ (p,q)).mono ?_;rintro e g ⟨rfl,c⟩;have b:ξ wr.heap.size wr g:=(af _ _).trans (c.mono (by simp));have n1:g.cell? ⟨wr.heap.size,0,Θ⟩=Ψ (χ ψ p):=(c.cell (p:=⟨wr.heap.size,0,Θ⟩) (by simp)).trans (by go_simp);have n2:g.cell? ⟨wr.heap.size,1,Θ⟩=Ψ (χ ψ q):=(c.cell (p:=⟨wr.heap.size,1,Θ⟩) (by simp)).trans (by go_simp);have g3:=(b.cell (p:=⟨b2,0,Θ⟩) n).trans y;have K:=b.size;clear c1 c2 D y
     go_wp2_with fail
     refine(IG _ B bs bm so' _ p q (E.out.below b) j).mono ?_;rintro e w4 ⟨⟨Y,rfl⟩,o,r,t⟩
     go_wp2_with fail
     exact⟨⟨k+1,by omega,by go_num,o,by rw[bW F.out,j7,if_pos u.out];exact r,C.out.trans ((cz.bK b).trans t)⟩,by simp[intOf];omega⟩
    ·have s:co (p,q)=κ:=by simpa using x
     have u:=Ω s;clear x
     go_wp2_with fail
     refine(sd _ (p,q)).mono ?_;rintro e g ⟨rfl,c⟩;have b:ξ wr.heap.size wr g:=(af _ _).trans (c.mono (by simp));clear c1 c2 D y
     go_wp2_with fail
     exact⟨⟨k+1,by omega,by go_num,so',by rw[bW F.out,j7,if_neg (by rw[u.out];decide)];exact E.out.below b,C.out.trans (cz.bK b)⟩,by simp[intOf];omega⟩
  ·go_wp2
   go_end0;rw[List.take_of_length_le (by omega)]at h;exact⟨rfl,so',h,d⟩
end Kn
namespace Kn
open Go Go.RowKit Go.Shelf Md
section
attribute [local go_sem] Oper.semAt_some
def tb(B:Nat)(W W':Δ):Prop:=ξ B W W'/\∀(k:Nat) (cur:Array Γ) (fr:Nat×Nat),W.heap[k]?=Ψ (.cells cur 23 fr) ->W'.heap[k]?=Ψ (.cells cur 23 fr)
theorem tb.trans{B:Nat}{X Y Z:Δ}(h:tb B X Y)(k:tb B Y Z):tb B X Z:=⟨h.1.trans k.1,fun i a fr e=>k.2 i a fr (h.2 i a fr e)⟩
theorem tb.refl(B:Nat)(X:Δ):tb B X X:=⟨η _ _,fun _ _ _ e=>e⟩
theorem tb.book{B:Nat}{w:Δ}(hB:B<=w.heap.size)(W:Δ)(l:Nat)(o o':Obj)(hl:w.heap.size<=l)(h:W.heap[l]?=Ψ o)(hc:o.isCells=κ)(hw:o.isWalk=κ):tb B W (W.putObj l o'):=⟨belowK_b hB W l o o' hl h hc hw,fun k a fr e=>(World.putObj_heap_other (by rintro rfl;rw[h]at e;cases e;cases hc)).trans e⟩
theorem tb.alloc{B:Nat}{X Y:Δ}(h:tb B X Y)(hB:B<=Y.heap.size)(o:Obj):tb B X (Y.alloc o):=⟨h.1.alloc hB o,fun k a fr e=>(ε Y o k (Ξ.1 (h.2 k a fr e)).1).trans (h.2 k a fr e)⟩
theorem N8{a w:Δ}{row:Option Nat}(h:a.grownBy w row):a.grownBy w.drew row:=⟨h.os,h.tape,h.output,h.size,h.block⟩
theorem II(w:Δ)(b:Nat):ZU aD.prog 198 #[ω (Ψ ⟨b,0,Θ⟩)] w fun e w'=>e=.returned (.func (.func 231) #[] #[ω (Ψ ⟨w.heap.size,0,Θ⟩)])/\w'=w.alloc (φ #[ω (Ψ ⟨b,0,Θ⟩)] 104):=by
 go_enter aD.func198,Tryz.ntmps198
 go_wp2
 go_ret;exact⟨rfl,rfl⟩
def three(g:GH):List (List HV):=[g.roots,g.done,g.aA]
theorem Dx:∀(ls:List (List HV)) (k:Nat) (l:List HV) (j:Nat),ls[k]?=Ψ l->j<l.length->((ls.take k).flatten++l.take j).length<ls.flatten.length
 |[],k,l,j,h,_=>by simp at h
 |a::ls,0,l,j,h,hj=>by simp at h;subst h;simp;omega
 |a::ls,k+1,l,j,h,hj=>by have:=Dx ls k l j (by simpa using h) hj;simp only[List.take_succ_cons,List.flatten_cons,List.length_append]at this⊢;omega
theorem uP(g:GH):(three g).flatten=cJ g:=by simp[three,cJ]
theorem ET{ls:List (List HV)}{k:Nat}{l:List HV}(h:ls[k]?=Ψ l):(ls.take (k+1)).flatten=(ls.take k).flatten++l.take l.length:=by rw[List.take_add_one,h];simp
theorem EU(n:Nat)(hn:1<=n)(l b bg:Nat)(g:GH)(J Jx:List HV->Δ->Prop)(W0 W:Δ)(hJ:AbidesFrom W.heap.size J)
 (hY:∀pre x W1,J pre W1->pre.length<(cJ g).length->YieldAt Fence.wide (n-1) aD.prog l #[eB x] W1 fun e W'=>(e=.returned (.bool μ)/\J (pre++[x]) W'/\tb W0.heap.size W1 W')\/(e=.returned (.bool κ)/\Jx (pre++[x]) W'))
 (hbg:W.cell? ⟨bg,0,Θ⟩=Ψ (ω (Ψ ⟨b,0,Θ⟩))) (hg:mi W0 b g) (hW:ξ W0.heap.size W0 W) (h0:J [] W):
 CallsIn Fence.wide n aD.prog 231 #[.func (.yield l) #[] #[],ω (Ψ ⟨bg,0,Θ⟩)] W fun e W'=>(∃v,e=.returned v)/\
  ((∃ys,ys=cJ g/\J ys W')\/(∃pre,True/\Jx pre W')):=by
 obtain⟨n0,o0,r0,wi,d0,m0,c0,c1,c2,c3,c4,c5,_,_,h3,h4,h5,_⟩:=hg;have H3:=Ω h3;have H4:=Ω h4;have H5:=Ω h5;obtain⟨ar,d,rfl,_,_,_⟩:=h3;obtain⟨aw,h,rfl,_,_,_⟩:=h4;obtain⟨ad,f,rfl,_,_,_⟩:=h5;have hb:=az c0;have f2:=(hW.cell (p:=⟨b,2,Θ⟩) hb).trans c2;have f3:=(hW.cell (p:=⟨b,3,Θ⟩) hb).trans c3;have f4:=(hW.cell (p:=⟨b,4,Θ⟩) hb).trans c4;have ard:=az hbg;have hb':b<W.heap.size:=Nat.lt_of_lt_of_le hb hW.size;have HY:=Ω hY;clear hY c0 c1 c2 c3 c4 c5;refine callsIn_of_wp aD.func231 rfl trivial ?_ rfl;simp only[Tryz.ntmps231,List.size_toArray,List.length_cons,List.length_nil,Nat.reduceAdd,Nat.reduceSub,Array.replicate_succ,Array.replicate_zero,List.push_toArray,List.append_toArray,List.nil_append,List.cons_append]
 gi_wp2_with fail
 refine wpIn_wide.2 ?_
 go_region_held3 (fun N=>N.cell? ⟨bg,0,Θ⟩=Ψ (ω (Ψ ⟨b,0,Θ⟩))/\N.cell? ⟨b,2,Θ⟩=Ψ (.slice ar g.roots.length d)/\N.cell? ⟨b,3,Θ⟩=Ψ (.slice aw g.aA.length h)/\N.cell? ⟨b,4,Θ⟩=Ψ (.slice ad g.done.length f)) (go_keep) (fail)
 gi_wp2_with fail
 have S:=hW.size;have C:tb W0.heap.size W ((W.alloc (φ #[.slice ar g.roots.length d,.slice ad g.done.length f,.slice aw g.aA.length h] 23)).drew):=by have:=(tb.refl W0.heap.size W).alloc S (φ #[.slice ar g.roots.length d,.slice ad g.done.length f,.slice aw g.aA.length h] 23);exact⟨this.1.drew,this.2⟩
 have s:J [] ((W.alloc (φ #[.slice ar g.roots.length d,.slice ad g.done.length f,.slice aw g.aA.length h] 23)).drew):=hJ _ _ _ Θ h0 (N8 (ZH W _ Θ)) (fun r e=>by cases e);have R:((W.alloc (φ #[.slice ar g.roots.length d,.slice ad g.done.length f,.slice aw g.aA.length h] 23)).drew).heap[W.heap.size]?=Ψ (φ #[.slice ar g.roots.length d,.slice ad g.done.length f,.slice aw g.aA.length h] 23 (0,0)):=θ W _;have B:W.heap.size<((W.alloc (φ #[.slice ar g.roots.length d,.slice ad g.done.length f,.slice aw g.aA.length h] 23)).drew).heap.size:=by simp
 generalize ((W.alloc (φ #[.slice ar g.roots.length d,.slice ad g.done.length f,.slice aw g.aA.length h] 23)).drew)=W9 at C s R B⊢;have hL:∀k:Nat,k<3->∃ax P l,(three g)[k]?=Ψ l/\(∀X:Δ,X.heap[W.heap.size]?=Ψ (φ #[.slice ar g.roots.length d,.slice ad g.done.length f,.slice aw g.aA.length h] 23 (0,0)) ->X.cell? ⟨W.heap.size,k,Θ⟩=Ψ (.slice ax l.length P))/\eI W0 (.slice ax l.length P) l:=by
  intro k hk
  match k,hk with
  |0,_=>exact⟨ar,d,g.roots,rfl,fun X e=>by simp[ι,e],H3.out⟩
  |1,_=>exact⟨ad,f,g.done,rfl,fun X e=>by simp[ι,e],H5.out⟩
  |2,_=>exact⟨aw,h,g.aA,rfl,fun X e=>by simp[ι,e],H4.out⟩
 have HL:=Ω hL;have HX:=Ω R;clear hL R f2 f3 f4
 gi_loopw [24] (fun i wr=>∃k:Nat,k<=3/\i=χ ψ k/\J ((three g).take k).flatten wr/\tb W0.heap.size W9 wr) (fun i _=>3-(intOf i).toNat)
 case atStart=>exact⟨0,by omega,rfl,by simpa using s,tb.refl _ _⟩
 case round=>
  obtain⟨k,hk,rfl,w,t⟩:=hrel;clear s;by_cases A:k<3
  ·obtain⟨ax,P,K,z,y,O⟩:=HL.out k A;have T:=y wr (t.2 _ _ _ HX.out);obtain⟨ax',mx',he,hmx,N4,E⟩:=O;cases he
   have HA:=Ω E;have D:=Ω z;have H:=Nat.lt_of_lt_of_le B t.1.size;have u:decide ((k:Int)<3)=μ:=by simp;omega
   clear y E z
   gi_wp2_with fail
   clear u
   gi_loopw [30] (fun i wr=>∃j:Nat,j<=K.length/\i=χ ψ j/\J (((three g).take k).flatten++K.take j) wr/\tb W0.heap.size W9 wr) (fun i _=>K.length-(intOf i).toNat)
   case atStart=>exact⟨0,by omega,rfl,by simpa using w,t⟩
   case round=>
    obtain⟨j,hj,rfl,m,o⟩:=hrel;clear w T H;by_cases c:j<K.length
    ·obtain⟨ba,oa,e,Y,I⟩:=HA.out (by omega);cases e
     obtain⟨p,q,e1⟩:=ep c;have L:=hW.trans (C.1.trans o.1);obtain⟨d1,d2⟩:=(I.below L Y) j p q e1;have a:=Dx _ _ _ _ D.out c;rw[uP]at a;have G:=hJ _ _ (wr.alloc (φ #[χ ψ p,χ ψ q] 50)) Θ m (ZH wr _ Θ) (fun r e=>by cases e);obtain⟨fn,tmps,M,body,hy,hR⟩:=HY.out _ (p,q) _ G a;unfold eB at hy;dsimp only at hy;have E1:=Ω e1;have Q:=L.size;clear I e1 a G m
     gi_wp2_with fail
     refine hR.mono ?_;rintro e W3 (⟨rfl,Z,u⟩|⟨rfl,F⟩)
     ·gi_wp2_with fail
      go_roundw
      case rel=>exact⟨j+1,by omega,by go_num,by rw[bW E1.out,<-List.append_assoc];exact Z,(o.alloc Q _).trans u⟩
      case measure=>simp[intOf];omega
     ·gi_wp2_with fail
      refine bodyPost_ret (results_none rfl _ _ _) rfl ?_;exact⟨⟨_,rfl⟩,.inr ⟨_,trivial,F⟩⟩
    ·have V:j=K.length:=by omega
     subst V;rw[<-ET D.out]at m;clear c
     gi_wp2_with fail
     exact⟨⟨k+1,by omega,by go_num,m,o⟩,by simp[intOf];omega⟩
  ·have U:k=3:=by omega
   subst U;clear A
   gi_wp2_with fail
   go_end0;refine⟨⟨_,rfl⟩,.inl ⟨_,rfl,?_⟩⟩;rw[<-uP];exact w
theorem wu(n:Nat)(hn:1<=n)(b bg:Nat)(g:GH)(w0 w:Δ)(hb:ξ w0.heap.size w0 w)(hbg:w.cell? ⟨bg,0,Θ⟩=Ψ (ω (Ψ ⟨b,0,Θ⟩)))(hg:mi w0 b g):
 SeqStopsK Fence.wide n aD.prog 231 #[ω (Ψ ⟨bg,0,Θ⟩)] (fun x:HV=>#[eB x]) (tb w0.heap.size) (fun ys=>ys=cJ g) (fun _=>True) (cJ g).length w:=fun l J e W a d f c h0=>
 EU n hn l b bg g J e w0 W d c ((a.cell (p:=⟨bg,0,Θ⟩) (az hbg)).trans hbg) hg (hb.trans (a.mono hb.size)) h0
end
end Kn
namespace Md
theorem j8:∀(N:Nat) (l:List Nat),l.Nodup->(∀x∈l,x<N) ->l.length<=N
 |0,l,_,h=>by
  cases l with
  |nil=>exact Nat.le_refl _
  |cons a l=>exact absurd (h a List.mem_cons_self) (Nat.not_lt_zero _)
 |N+1,l,hn,h=>by
  by_cases hm:N∈l
  ·have h1:=j8 N (l.erase N) (hn.erase N) fun x hx=>by have:=(List.Nodup.mem_erase_iff hn).1 hx;have:=h x this.2;omega
   have h2:=List.length_erase_of_mem hm;omega
  ·have:=j8 N l hn fun x hx=>by
    have:=h x hx;have:x≠N:=fun e=>hm (e▸hx)
    omega
   omega
def zH(g:GH)(v:HV):Prop:=(v.1=3/\0<=v.2/\v.2<g.new.length)\/(v.1=4/\0<=v.2/\v.2<g.old.length)
def Wb(g:GH)(v:HV):Nat:=if v.1=3 then v.2.toNat else g.new.length+v.2.toNat
structure c9(g:GH)(mv:HV->Bool)(o:List HV):Prop where
 nodup:o.Nodup
 ok:∀v∈o,zH g v/\mv v=μ
theorem c9.len{g:GH}{mv:HV->Bool}{o:List HV}(h:c9 g mv o):o.length<=g.new.length+g.old.length:=by
 have:=j8 (g.new.length+g.old.length) (o.map (Wb g)) ?_ ?_
 ·simpa using this
 ·rw[List.Nodup,List.pairwise_map];refine h.nodup.imp_of_mem fun {a b} c hb i e=>i ?_
  obtain⟨c,_⟩:=h.ok a c;obtain⟨hb,_⟩:=h.ok b hb;obtain⟨a1,q⟩:=a;obtain⟨p,r⟩:=b;unfold zH at c hb;unfold Wb at e;dsimp only at c hb e;rcases c with⟨rfl,f,d⟩|⟨rfl,f,d⟩<;>rcases hb with⟨rfl,m,l⟩|⟨rfl,m,l⟩<;>simp at e⊢<;>omega
 ·intro x n;obtain⟨v,k,rfl⟩:=List.mem_map.1 n;obtain⟨j,_⟩:=h.ok v k;unfold zH at j;unfold Wb;rcases j with⟨e,f,d⟩|⟨e,f,d⟩
  ·rw[if_pos e];omega
  ·rw[if_neg (by omega)];omega
theorem c9.nil(g:GH)(mv:HV->Bool):c9 g mv []:=⟨List.nodup_nil,fun v a=>by cases a⟩
theorem c9.meet{g:GH}{mv:HV->Bool}{o:List HV}{v:HV}(h:c9 g mv o)(hv:zH g v)(hm:mv v=μ):c9 g mv (meet o v):=by
 unfold Md.meet;split
 ·exact h
 ·rename_i hc;refine⟨?_,fun x c=>?_⟩
  ·rw[List.nodup_append];refine⟨h.nodup,by simp,fun a d b hb e=>?_⟩;simp at hb;subst hb;subst e;simp at hc;exact hc d
  ·rcases List.mem_append.1 c with c|c
   ·exact h.ok x c
   ·simp at c;subst c;exact⟨hv,hm⟩
theorem c9.visit{g:GH}{mv:HV->Bool}:∀{vs:List HV} {o:List HV},c9 g mv o->(∀v∈vs,mv v=μ->zH g v) ->c9 g mv (visit mv o vs)
 |[],o,h,_=>h
 |v::vs,o,h,hv=>by
  have:Md.visit mv o (v::vs)=Md.visit mv (if mv v then Md.meet o v else o) vs:=rfl;rw[this];refine c9.visit ?_ fun x hx=>hv x (List.mem_cons_of_mem _ hx)
  split
  ·rename_i hm;exact h.meet (hv v List.mem_cons_self hm) hm
  ·exact h
def zI(g:GH)(v:HV):Prop:=co v=μ->zH g v
theorem pY{g:GH}{v:HV}(h:mh g v=0):zI g v:=by
 intro hc;obtain⟨k,n⟩:=v;unfold co at hc;unfold zH;simp at hc;dsimp only;rcases hc with rfl|rfl
 ·simp[mh,eO]at h;omega
 ·simp[mh,eO]at h;omega
def uQ(mv:HV->Bool):Prop:=mv=dy\/mv=co
theorem uQ.cell{mv:HV->Bool}(h:uQ mv){v:HV}(hv:mv v=μ):co v=μ:=by
 rcases h with rfl|rfl
 ·unfold dy at hv;unfold co;rw[hv];rfl
 ·exact hv
def jB(g:GH):Prop:=∀c∈g.new++g.old,∀v∈c.2,zI g v
theorem j9{g:GH}{v:HV}(h:zH g v):cellAt g v∈g.new++g.old:=by
 unfold cellAt;rcases h with⟨e,a,b⟩|⟨e,a,b⟩
 ·rw[if_pos e];have:v.2.toNat<g.new.length:=by omega
  rw[List.getD,List.getElem?_eq_getElem this];exact List.mem_append_left _ (List.getElem_mem _)
 ·rw[if_neg (by omega)];have:v.2.toNat<g.old.length:=by omega
  rw[List.getD,List.getElem?_eq_getElem this];exact List.mem_append_right _ (List.getElem_mem _)
theorem c9.round{g:GH}{mv:HV->Bool}{o:List HV}{k:Nat}{v:HV}(h:c9 g mv o)(hm:uQ mv)(hc:jB g)(hk:o[k]?=Ψ v):c9 g mv (Md.visit mv o (cellAt g v).2):=h.visit fun x b a=>hc _ (j9 (h.ok v (List.mem_of_getElem? hk)).1) x b (hm.cell a)
theorem c9.Dm{g:GH}{mv:HV->Bool}(hm:uQ mv)(hc:jB g):∀(f k:Nat) {o:List HV},c9 g mv o->c9 g mv (Dm g mv f k o)
 |0,k,o,h=>h
 |f+1,k,o,h=>by
  unfold Md.Dm;split
  ·exact h
  ·rename_i v hv;exact c9.Dm hm hc f (k+1) (h.round hm hc hv)
theorem c9.bV{g:GH}{mv:HV->Bool}{more:List HV}(hm:uQ mv)(hc:jB g)(hs:∀v∈cJ g,zI g v)(hmo:∀v∈more,zI g v):c9 g mv (bV g mv more):=c9.Dm hm hc _ _ (((c9.nil g mv).visit fun v a b=>hs v a (hm.cell b)).visit fun v a b=>hmo v a (hm.cell b))
end Md
namespace Kn
open Go Go.RowKit Go.Shelf Md
section
attribute [local go_sem] Oper.semAt_some
structure RS(w W:Δ)(f:Nat)(so:Γ)(l:List HV):Prop where
 scan:bS W w.heap.size (w.heap.size+1+1) (w.heap.size+1) so l
 c1:W.heap[w.heap.size]?=Ψ (φ #[.func (.func f) #[] #[]] 181 (0,0))
 c2:W.heap[w.heap.size+1+1+1]?=Ψ (φ #[ω (Ψ ⟨w.heap.size+1+1,0,Θ⟩)] 106 (0,0))
 cf:W.heap[w.heap.size+1+1+1+1]?=Ψ (φ #[.func (.func 196) #[] #[ω (Ψ ⟨w.heap.size,0,Θ⟩),ω (Ψ ⟨w.heap.size+1+1+1,0,Θ⟩)]] 232 (0,0))
 below:ξ w.heap.size w W
section
variable{w W W':Δ}{f:Nat}{so so':Γ}{l l':List HV}
theorem RS.uR(h:RS w W f so l):wm w.heap.size (w.heap.size+1+1) (w.heap.size+1) so:=h.scan.free h.c1 (by decide) (by decide)
theorem RS.uS(h:RS w W f so l):wm (w.heap.size+1+1+1) (w.heap.size+1+1) (w.heap.size+1) so:=h.scan.free h.c2 (by decide) (by decide)
theorem RS.IJ(h:RS w W f so l):wm (w.heap.size+1+1+1+1) (w.heap.size+1+1) (w.heap.size+1) so:=h.scan.free h.cf (by decide) (by decide)
theorem RS.IK(h:RS w W f so l):W.cell? ⟨w.heap.size,0,Θ⟩=Ψ (.func (.func f) #[] #[]):=by simp[ι,h.c1]
theorem RS.zJ(h:RS w W f so l):W.cell? ⟨w.heap.size+1+1+1,0,Θ⟩=Ψ (ω (Ψ ⟨w.heap.size+1+1,0,Θ⟩)):=by simp[ι,h.c2]
theorem RS.zK(h:RS w W f so l):W.cell? ⟨w.heap.size+1+1+1+1,0,Θ⟩=Ψ (.func (.func 196) #[] #[ω (Ψ ⟨w.heap.size,0,Θ⟩),ω (Ψ ⟨w.heap.size+1+1+1,0,Θ⟩)]):=by simp[ι,h.cf]
theorem RS.to(h:RS w W f so l)(hs:bS W' w.heap.size (w.heap.size+1+1) (w.heap.size+1) so' l')(ht:cz W W' (w.heap.size+1+1) (w.heap.size+1) so so'):RS w W' f so' l':=
 ⟨hs,(ht.block _ (Ξ.1 h.c1).1 h.uR.1 h.uR.2.1 h.uR.2.2).trans h.c1,(ht.block _ (Ξ.1 h.c2).1 h.uS.1 h.uS.2.1 h.uS.2.2).trans h.c2,
   (ht.block _ (Ξ.1 h.cf).1 h.IJ.1 h.IJ.2.1 h.IJ.2.2).trans h.cf,h.below.trans (ht.below h.scan h.below.size)⟩
theorem RS.low(h:RS w W f so l)(hk:ξ W.heap.size W W'):RS w W' f so l:=h.to (h.scan.below hk) (cz.bK hk)
theorem RS.grown(h:RS w W f so l){row:Option Nat}{B:Nat}(hB:w.heap.size+1<B)(hg:W.grownBy W' row)(hr:∀r,row=Ψ r->B<=r/\∃o:Obj,W.heap[r]?=Ψ o/\o.isCells=κ):RS w W' f so l:=by
 have a:∀(k:Nat) (b:Array Γ) (t:ZM) (fr:Nat×Nat),W.heap[k]?=Ψ (.cells b t fr) ->W'.heap[k]?=W.heap[k]?:=fun k b t fr m=>
  hg.block k (Ξ.1 m).1 (fun e=>by
   obtain⟨_,o,c,hc⟩:=hr k e.symm;rw[m]at c;cases c
   cases hc)
 have i:=h.below.size;obtain⟨p,n,hb,c,j⟩:=h.scan;refine⟨⟨p,n,(a _ _ _ _ hb).trans hb,aS c fun g e=>?_,j.of_block (hg.block _ j.lt fun e=>?_)⟩,(a _ _ _ _ h.c1).trans h.c1,(a _ _ _ _ h.c2).trans h.c2,(a _ _ _ _ h.cf).trans h.cf,
  h.below.grown hg i (fun k e=>by have:=(hr k e).1;omega)⟩
 ·rcases c with⟨_,⟨rfl,_⟩|⟨s,q,b,rfl,_,d,_⟩⟩
  ·cases e
  ·cases e
   exact a _ _ _ _ d
 ·have:=(hr _ e.symm).1;omega
theorem RS.keeps(h:RS w W f so l)(ht:cz W W' (w.heap.size+1+1) (w.heap.size+1) so so'){B:Nat}(hB:w.heap.size+1<B):KeepsFrom B W W':=
 ⟨ht.size,fun k o g a hc=>by
   refine(ht.block k (Ξ.1 a).1 (fun e=>?_) (by omega) (fun e=>?_)).trans a
   ·subst e;rw[h.scan.2.2.1]at a;cases a
    cases hc
   ·rcases h.scan.2.2.2.1 with⟨_,⟨rfl,_⟩|⟨i,d,c,rfl,_,b,_⟩⟩
    ·cases e
    ·cases e
     rw[b]at a;cases a
     cases hc⟩
theorem RS.kps(h:RS w W f so l)(ht:cz W W' (w.heap.size+1+1) (w.heap.size+1) so so'):tb w.heap.size W W':=⟨ht.below h.scan h.below.size,fun k b fr e=>by have a:=h.scan.free e (by decide) (by decide);exact(ht.block k (Ξ.1 e).1 a.1 a.2.1 a.2.2).trans e⟩
end
theorem N9{g:GH}{mv:HV->Bool}{k:Nat}{o:List HV}(h:o.length<=k):∀f,Dm g mv f k o=o
 |0=>rfl
 |f+1=>by unfold Dm;rw[List.getElem?_eq_none h]
theorem IL{g:GH}{mv:HV->Bool}{k N:Nat}{o:List HV}{v:HV}(h:o[k]?=Ψ v)(hk:k<N+1):Dm g mv (N+1-k) k o=Dm g mv (N+1-(k+1)) (k+1) (visit mv o (cellAt g v).2):=by rw[show N+1-k=(N+1-(k+1))+1 by omega,Dm,h]
theorem IM(w:Δ)(f:Nat)(b:Nat):RS w ((((((w.alloc (φ #[.func (.func f) #[] #[]] 181)).alloc (.map #[] 0)).alloc (φ #[υ Θ 0 0,.map (Ψ (w.heap.size+1))] 112)).alloc (φ #[ω (Ψ ⟨w.heap.size+1+1,0,Θ⟩)] 106)).alloc
 (φ #[.func (.func 196) #[] #[ω (Ψ ⟨w.heap.size,0,Θ⟩),ω (Ψ ⟨w.heap.size+1+1+1,0,Θ⟩)]] 232)).alloc (φ #[ω (Ψ ⟨b,0,Θ⟩)] 104)) f (υ Θ 0 0) []:=by
 have push:∀(w:Δ) (o:Obj) (k:Nat),k<w.heap.size->(w.alloc o).heap[k]?=w.heap[k]?:=fun w o k h=>ε w o k h
 refine⟨⟨by omega,by omega,?_,OV.nil _ _,⟨#[],0,?_,rfl⟩⟩,?_,?_,?_,?_⟩
 ·rw[push _ _ _ (by simp),push _ _ _ (by simp),push _ _ _ (by simp)];have:=θ ((w.alloc (φ #[.func (.func f) #[] #[]] 181)).alloc (.map #[] 0)) (φ #[υ Θ 0 0,.map (Ψ (w.heap.size+1))] 112);simpa using this
 ·rw[push _ _ _ (by simp),push _ _ _ (by simp),push _ _ _ (by simp),push _ _ _ (by simp)];have:=θ (w.alloc (φ #[.func (.func f) #[] #[]] 181)) (.map #[] 0);simpa using this
 ·rw[push _ _ _ (by simp;omega),push _ _ _ (by simp;omega),push _ _ _ (by simp;omega),push _ _ _ (by simp;omega),push _ _ _ (by simp)];exact θ w _
 ·rw[push _ _ _ (by simp),push _ _ _ (by simp)];have:=θ (((w.alloc (φ #[.func (.func f) #[] #[]] 181)).alloc (.map #[] 0)).alloc (φ #[υ Θ 0 0,.map (Ψ (w.heap.size+1))] 112)) (φ #[ω (Ψ ⟨w.heap.size+1+1,0,Θ⟩)] 106);simpa using this
 ·rw[push _ _ _ (by simp)];have:=θ ((((w.alloc (φ #[.func (.func f) #[] #[]] 181)).alloc (.map #[] 0)).alloc (φ #[υ Θ 0 0,.map (Ψ (w.heap.size+1))] 112)).alloc (φ #[ω (Ψ ⟨w.heap.size+1+1,0,Θ⟩)] 106)) (φ #[.func (.func 196) #[] #[ω (Ψ ⟨w.heap.size,0,Θ⟩),ω (Ψ ⟨w.heap.size+1+1+1,0,Θ⟩)]] 232);simpa using this
 ·exact(((((((η _ w).alloc (Nat.le_refl _) _).alloc (by simp) _).alloc (by simp;omega) _).alloc (by simp;omega) _).alloc (by simp;omega) _).alloc (by simp;omega) _)
end
end Kn
namespace Rg
open Go
section
variable{P:ZS}{ops:Array ZT}{Q:Exit->ZL->Δ->Prop}{md:Z7}{S:Δ->Prop}{m:Nat}
def Any(P:ZS)(md:Z7)(ops:Array ZT)(Q:Exit->ZL->Δ->Prop)(S:Δ->Prop)(m:Nat):Nat->Array Bool->ZL->Δ->Prop
 |0,listed,a,w=>Z2 md ops listed=[]/\Q .normal a w
 |f+1,listed,a,w=>(Z2 md ops listed=[] ->Q .normal a w)/\∀i∈Z2 md ops listed,wpOp P ops Q i (fun a' w'=>(i<m->S w')/\Any P md ops Q S m f (listed.setIfInBounds i μ) a' w') a w
theorem Any.out:∀{f:Nat} {listed:Array Bool} {a:ZL} {w:Δ},Any P md ops Q S m f listed a w->wpAny P md ops Q f listed a w
 |0,_,_,_,h=>h
 |f+1,_,_,_,h=>⟨h.1,fun i hi=>wpOp_mono (fun _ _ h'=>h'.2.out) (h.2 i hi)⟩
def fp(P:ZS)(ops:Array ZT)(S:Δ->Prop)(L:ZL->Prop):List ZT->ZL->Prop
 |[],a=>L a
 |o::l,a=>∃v,YieldsIf P ops S o v a/\fp P ops S L l (a.put o.dst v)
theorem fp.nil{L:ZL->Prop}{a:ZL}(h:L a):fp P ops S L [] a:=h
theorem fp.step{L:ZL->Prop}{o:ZT}{l:List ZT}{a:ZL}{v:Γ}(hw:Region.wanted o (yielded ops a.tmps)=μ)(hv:∀w,S w->(execOp a.eval o).run P w=.ok (.value v) w)(h:fp P ops S L l (a.put o.dst v)):fp P ops S L (o::l) a:=⟨v,.inl ⟨hw,hv⟩,h⟩
theorem Any.rest:∀(l:List ZT) (k:Nat) (listed:Array Bool) (a:ZL) (w:Δ),m<=k->(∀j,l[j]?=ops[k+j]?) ->Z4 md ops l.length k listed=μ->ZQ P ops Q l a w->Any P md ops Q S m l.length listed a w
 |[],_,_,_,_,_,_,hB,h=>⟨by simpa[Z4]using hB,h⟩
 |o::l,k,listed,a,w,hm,hl,hB,h=>by
  have h0:ops[k]?=Ψ o:=by simpa using (hl 0).symm
  simp only[List.length_cons,Z4,Z3,decide_eq_true_eq]at hB;refine⟨fun h1=>(by rw[hB.1]at h1;cases h1),fun i hi=>?_⟩;rw[hB.1]at hi;obtain rfl:i=k:=by simpa using hi
  have hw:wpOp P ops Q i (ZQ P ops Q l) a w:=by unfold wpOp;simp only[h0];exact h
  exact wpOp_mono (fun a' w' h'=>⟨fun hlt=>absurd hlt (Nat.not_lt.2 hm),Any.rest l (i+1) _ a' w' (by omega) (fun j=>by have:=hl (j+1);simpa[Nat.add_assoc,Nat.add_comm 1 j]using this) hB.2 h'⟩) hw
end
section
variable{P:ZS}{ops:Array ZT}{Q:Exit->ZL->Δ->Prop}{md:Z7}{S:Δ->Prop}{m:Nat}
def pA(P:ZS)(ops:Array ZT)(Q:Exit->ZL->Δ->Prop)(S:Δ->Prop)(K:ZL->Δ->Prop):Nat->Nat->ZL->Δ->Prop
 |0,_,a,w=>K a w
 |c+1,k,a,w=>wpOp P ops Q k (fun a' w'=>S w'/\pA P ops Q S K c (k+1) a' w') a w
theorem pA.zero{K:ZL->Δ->Prop}{k:Nat}{a:ZL}{w:Δ}(h:K a w):pA P ops Q S K 0 k a w:=h
theorem pA.succ{K:ZL->Δ->Prop}{c k:Nat}{a:ZL}{w:Δ}(h:wpOp P ops Q k (fun a' w'=>S w'/\pA P ops Q S K c (k+1) a' w') a w):pA P ops Q S K (c+1) k a w:=h
theorem Any.afK{K:ZL->Δ->Prop}{g:Nat}(hend:∀listed a w,Z4 md ops g m listed=μ->K a w->Any P md ops Q S m g listed a w):
 ∀(c k:Nat) (listed:Array Bool) (a:ZL) (w:Δ),k+c=m->Z4 md ops (c+g) k listed=μ->pA P ops Q S K c k a w->Any P md ops Q S m (c+g) listed a w
 |0,k,listed,a,w,hk,hB,h=>by
  obtain rfl:k=m:=by omega
  rw[Nat.zero_add]at hB⊢;exact hend listed a w hB h
 |c+1,k,listed,a,w,hk,hB,h=>by
  rw[Nat.add_right_comm]at hB⊢;simp only[Z4,Z3,decide_eq_true_eq]at hB;refine⟨fun h1=>(by rw[hB.1]at h1;cases h1),fun i hi=>?_⟩;rw[hB.1]at hi;obtain rfl:i=k:=by simpa using hi
  exact wpOp_mono (fun a' w' h'=>⟨fun _=>h'.1,Any.afK hend c (i+1) _ a' w' (by omega) hB.2 h'.2⟩) h
end
section
variable{P:ZS}{ops:Array ZT}{Q:Exit->ZL->Δ->Prop}{md:Z7}{S:Δ->Prop}{m:Nat}
def Down(md:Z7)(ops:Array ZT)(listed:Array Bool):Prop:=∀(j:Nat) oj,ops[j]?=Ψ oj->listed.getD j κ=μ->∀e∈oj.after,Z1 md e=μ->listed.getD e.on κ=μ
def aaC(md:Z7)(ops:Array ZT):Nat->Nat->Nat->Bool
 |0,_,_=>κ
 |f+1,j,i=>match ops[j]? with
  |some o=>(o.after.any fun e=>Z1 md e&&e.on==i)||o.after.any fun e=>Z1 md e&&aaC md ops f e.on i
  |none=>κ
theorem aaB{listed:Array Bool}(hd:Down md ops listed){i:Nat}:∀(f j:Nat) oj,ops[j]?=Ψ oj->(∀e∈oj.after,Z1 md e=μ->listed.getD e.on κ=μ) ->aaC md ops f j i=μ->listed.getD i κ=μ
 |0,_,_,_,_,h=>by cases h
 |f+1,j,oj,hj,ha,h=>by
  simp only[aaC,hj,Bool.or_eq_true,Array.any_eq_true,Z3,beq_iff_eq]at h;rcases h with⟨k,hk,h1,h2⟩|⟨k,hk,h1,h2⟩
  ·rw[<-h2];exact ha _ (Array.getElem_mem hk) h1
  ·have he:=ha _ (Array.getElem_mem hk) h1;cases f with
   |zero=>cases h2
   |succ f=>
    cases ho:ops[oj.after[k].on]? with
    |none=>simp[aaC,ho]at h2
    |some o'=>exact aaB hd (f+1) _ o' ho (fun e h1 h3=>hd _ o' ho he e h1 h3) h2
def aaJ(md:Z7)(ops:Array ZT)(n m:Nat):Bool:=(List.range ops.size).all fun j=>decide (j<m)||(List.range n).all fun i=>aaC md ops ops.size j i
theorem aaD{listed:Array Bool}{j t:Nat}(h:listed.getD t κ=μ):(listed.setIfInBounds j μ).getD t κ=μ:=by
 by_cases e:j=t
 ·subst e;have b:j<listed.size:=Nat.lt_of_not_le fun a=>by simp[ZW a]at h
  simp[b]
 ·rw[getD_set_ne κ e];exact h
theorem Down.set{listed:Array Bool}(hd:Down md ops listed){j:Nat}(hj:j∈Z2 md ops listed):Down md ops (listed.setIfInBounds j μ):=by
 intro t f c b e a hb;by_cases d:j=t
 ·subst d;obtain⟨_,g,u2,u3⟩:=mem_ready.1 hj;rw[c]at u2;cases u2
  exact aaD (u3 e a hb)
 ·rw[getD_set_ne κ d]at b;exact aaD (hd t f c b e a hb)
theorem Any.aaF{i:Nat}{o:ZT}{v:Γ}(hi:ops[i]?=Ψ o)(him:i<m)(hsel:∀(j:Nat) (o:ZT) cs b,ops[j]?=Ψ o->o.op≠.select cs b)
 (hQ:∀c a w,Q (.panic c) (a.put o.dst v) w->Q (.panic c) a w) (Q8:∀(j:Nat) oj,ops[j]?=Ψ oj->m<=j->aaC md ops ops.size j i=μ):
 ∀(f:Nat) (listed:Array Bool) (a:ZL) (w:Δ),Down md ops listed->(∀(j:Nat) oj,ops[j]?=Ψ oj->j≠i->listed.getD j μ=κ->(∀e∈oj.after,Z1 md e=μ->e.on≠i) ->o.apart ops oj=μ) ->
  i∈Z2 md ops listed->YieldsIf P ops S o v a->S w->Any P md ops Q S m f (listed.setIfInBounds i μ) (a.put o.dst v) w->Any P md ops Q S m (f+1) listed a w
 |0,listed,a,w,hd,hfree,hr,hy,hS,H=>by
  refine⟨fun h=>(by rw[h]at hr;cases hr),fun j hj=>?_⟩;by_cases e:j=i
  ·subst e;exact hy.wpOp hi hS ⟨fun _=>hS,H⟩
  ·have h1:=ready_mono hj e;rw[H.1]at h1;cases h1
 |f+1,listed,a,w,hd,hfree,hr,hy,hS,H=>by
  refine⟨fun h=>(by rw[h]at hr;cases hr),fun j hj=>?_⟩;by_cases e:j=i
  ·subst e;exact hy.wpOp hi hS ⟨fun _=>hS,H⟩
  ·obtain⟨u1,oj,u2,u3⟩:=mem_ready.1 hj;have u0:=(mem_ready.1 hr).1;have hil:¬listed.getD i κ=μ:=fun h1=>by
    rcases Nat.lt_or_ge i listed.size with h'|h'
    ·simp[h']at u0 h1;rw[u0]at h1;cases h1
    ·simp[ZW h']at h1
   have hni:∀e∈oj.after,Z1 md e=μ->e.on≠i:=fun e he hb h0=>by have h1:=u3 e he hb;rw[h0]at h1;exact hil h1
   have hjm:j<m:=Nat.lt_of_not_le fun hm=>hil (aaB hd _ j oj u2 u3 (Q8 j oj u2 hm))
   have h1:=H.2 j (ready_mono hj e);refine wpOp_mono (fun a' w' h=>?_) (wpOp_putIf u2 (hfree j oj u2 e u1 hni) (fun cs b=>hsel i o cs b hi) (fun cs b=>hsel j oj cs b u2) hQ hy h1);obtain⟨k1,k2,k3⟩:=h;refine⟨k2,Any.aaF hi him hsel hQ Q8 f _ a' w' (hd.set hj) (fun t ot t1 t2 t3 t4=>?_) (ready_mono hr (ZZ e)) k1 (k2 hjm) ?_⟩
   ·by_cases hkj:t=j
    ·subst hkj;exact hfree t ot t1 e u1 t4
    ·rw[getD_set_ne μ (ZZ hkj)]at t3;exact hfree t ot t1 t2 t3 t4
   ·rw[Array.setIfInBounds_comm _ _ (e)];exact k3
theorem Any.aaE{L:ZL->Prop}{n g:Nat}{w:Δ}(hsel:ZR ops=μ)(hQ:∀c a (d:Option Nat) v w,Q (.panic c) (a.put d v) w->Q (.panic c) a w)(hl:aaJ md ops n m=μ)(hnm:n<=m)(hS:S w)
 (hend:∀listed a,Z4 md ops g n listed=μ->L a->Any P md ops Q S m g listed a w):
 ∀(l:List ZT) (k:Nat) (listed:Array Bool) (a:ZL),Down md ops listed->(∀j,j<l.length->l[j]?=ops[k+j]?) ->k+l.length=n->Z0 md ops g l.length k listed=μ->fp P ops S L l a->Any P md ops Q S m (l.length+g) listed a w
 |[],k,listed,a,_,_,hk,hB,h=>by
  obtain rfl:k=n:=by simpa using hk
  simp only[List.length_nil,Nat.zero_add];exact hend listed a (by simpa[Z0]using hB) h
 |o::l,k,listed,a,hd,hlk,hk,hB,⟨v,hy,h⟩=>by
  have h0:ops[k]?=Ψ o:=by simpa using (hlk 0 (by simp)).symm
  simp only[List.length_cons,Z0,Z3]at hB;obtain⟨⟨hr,hf⟩,hB'⟩:=hB;have hkn:k<n:=by simp only[List.length_cons]at hk;omega
  have hr':k∈Z2 md ops listed:=by simpa using hr
  rw[List.length_cons,Nat.add_right_comm];refine Any.aaF h0 (Nat.lt_of_lt_of_le hkn hnm) (Region.noSelect_spec hsel) (fun c a w h=>hQ c a _ _ w h) (fun j oj hj hm=>?_) _ listed a w hd (Region.free_spec h0 hf) hr' hy hS ?_
  ·have h1:=List.all_eq_true.1 hl j (List.mem_range.2 (Ξ.1 hj).1);simp only[Bool.or_eq_true,decide_eq_true_eq]at h1;rcases h1 with h1|h1
   ·omega
   ·exact List.all_eq_true.1 h1 k (List.mem_range.2 hkn)
  ·exact Any.aaE hsel hQ hl hnm hS hend l (k+1) _ _ (hd.set hr') (fun j hj=>by have:=hlk (j+1) (by simp;omega);simpa[Nat.add_assoc,Nat.add_comm 1 j]using this) (by simp only[List.length_cons]at hk;omega) hB' h
theorem aaH{id:Nat}(n c:Nat){l:List ZT}{a:ZL}{w:Δ}(S:Δ->Prop)(hm:P.follows .mixedOrders=μ)(hB:(ZR l.toArray&&aaJ .any l.toArray n (n+c)&&Z0 .any l.toArray (l.length-n) n 0 (ZP l.length κ)&&decide (n+c<=l.length))=μ)
 (hQ:∀c a (d:Option Nat) v w,Q (.panic c) (a.put d v) w->Q (.panic c) a w) (hS:S w.drew)
 (h:fp P l.toArray S (fun a'=>pA P l.toArray Q S (ZQ P l.toArray Q (l.drop (n+c))) c n a' w.drew) (l.take n) a):(Code.region id l.toArray μ).wp P Q a w:=by
 simp only[Z3,decide_eq_true_eq]at hB;obtain⟨⟨⟨i,f⟩,o⟩,x⟩:=hB;refine wp_region_any hm ?_;have b:(l.take n).length=n:=by simp;omega
 have p:(l.drop (n+c)).length=l.length-(n+c):=by simp
 have q:=Any.aaE (P:=P) (md:=.any) (ops:=l.toArray) (Q:=Q) (S:=S) (m:=n+c) (n:=n) (g:=l.length-n) (w:=w.drew) i hQ f (by omega) hS (L:=fun a'=>pA P l.toArray Q S (ZQ P l.toArray Q (l.drop (n+c))) c n a' w.drew)
  (fun listed a' e h=>?_) (l.take n) 0 (ZP l.length κ) a (fun j y t s=>?_) (fun j k=>by rw[b]at k;simp[k]) (by simpa using b) (by rw[b];exact o) h
 ·have:=q.out;rw[b,show n+(l.length-n)=l.toArray.size by simp;omega]at this;simpa using this
 ·have u:l.length-n=c+(l.length-(n+c)):=by omega
  rw[u]at e⊢;refine Any.afK (fun listed a w hs r=>?_) c n listed a' w.drew rfl e h;have:=Any.rest (P:=P) (md:=.any) (ops:=l.toArray) (Q:=Q) (S:=S) (m:=n+c) (l.drop (n+c)) (n+c) listed a w (Nat.le_refl _) (fun j=>by simp[List.getElem?_drop]) (by rw[p];exact hs) r;rwa[p]at this
 ·exfalso;have k:=(Ξ.1 t).1;simp at k;simp[k]at s
theorem wp_cut{id n:Nat}{l:List ZT}{a:ZL}{w:Δ}(S:Δ->Prop)(hm:P.follows .mixedOrders=μ)(hB:(ZR l.toArray&&aaJ .any l.toArray n (n+2)&&Z0 .any l.toArray (l.length-n) n 0 (ZP l.length κ)&&decide (n+2<=l.length))=μ)
 (hQ:∀c a (d:Option Nat) v w,Q (.panic c) (a.put d v) w->Q (.panic c) a w) (hS:S w.drew)
 (h:fp P l.toArray S (fun a'=>wpOp P l.toArray Q n (fun a1 w1=>S w1/\wpOp P l.toArray Q (n+1) (fun a2 w2=>S w2/\ZQ P l.toArray Q (l.drop (n+2)) a2 w2) a1 w1) a' w.drew) (l.take n) a):(Code.region id l.toArray μ).wp P Q a w:=
 aaH n 2 S hm hB hQ hS h
end
end Rg
