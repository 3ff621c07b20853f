/- A part of the proof of GcKnown; no conditions. -/
import Derived.Test.YtbnmpafbfoaggaaGreatDoorQ1
import Derived.ArgAppend
import Derived.Maps.RangeRun
import Derived.StillTailTactics
set_option linter.unusedVariables false
set_option linter.unusedSimpArgs false
set_option maxRecDepth 100000
set_option maxHeartbeats 16000000
noncomputable section
open Go.Lib renaming hid->Ω
open Option renaming none->Ψ,some->Θ
open Array renaming getElem?_eq_some_iff->Ξ,toList_modify->Z1,toList_filter->Z0,toList_push->ZZ
open Go.World renaming cell?->Δ,frozen?->Z7
open Go.Value renaming pointer->Γ,int->υ,slice->ι
open Go.RowKit.Below renaming refl->ω,heap_setCell->μ
open Go.IntKind renaming i64->ψ
open Go renaming World->χ,Value->ο,run_underlying->κ,Calls->ε,heap_alloc_new->Z4,leftOf->ZY,callsIn_wide->ZU,method->ZS
open Go.Obj renaming cells->φ
open Go.RowKit renaming Below->ξ
open Bool renaming false->θ,true->Z8
open Int renaming eq_ofNat_of_zero_le->η
open Go.Result renaming andThen_ok->ζ
open Go.Sem renaming run_bind->Z9,run_pure->ZX,run->ZR
open Go.Instr renaming typeAssert->Z3,mapUpdate->ZV,findNow->ZT
open Go.Builtin renaming append_->Z2,delete_->ZW
namespace Go.Proofs.YtbnmpafbfoaggaaGreatDoor
namespace Kn
open Go Go.RowKit Go.Shelf Md
section
variable{w:χ}{B:Nat}
attribute [local go_sem] Oper.semAt_some
theorem zL(mv:HV->Bool):∀(vs l:List HV),l.length<=(visit mv l vs).length
 |[],l=>Nat.le_refl _
 |v::vs,l=>by
  have:=zL mv vs (if mv v then meet l v else l);have h2:l.length<=(if mv v then meet l v else l).length:=by
   split
   ·unfold meet;split<;>simp
   ·exact Nat.le_refl _
  exact Nat.le_trans h2 this
theorem wn.jw{f:Nat}{mv:HV->Bool}(h:wn f mv):uQ mv:=by
 rcases h with⟨_,rfl⟩|⟨_,rfl⟩
 ·exact .inl rfl
 ·exact .inr rfl
theorem Wc(W:χ)(p q:Int):eI (W.alloc (φ #[υ ψ p,υ ψ q] 50)) (ι (Θ ⟨W.heap.size,0,Ψ⟩) 1 1) [(p,q)]:=by
 refine⟨_,1,rfl,Nat.le_refl _,by decide,fun _=>⟨W.heap.size,0,rfl,by simp,fun i k n e=>?_⟩⟩;have a:=Z4 W (φ #[υ ψ p,υ ψ q] 50);cases i with
 |zero=>simp at e;obtain⟨rfl,rfl⟩:=e;simp only[Δ];rw[a];simp
 |succ i=>simp at e
theorem IN{W:χ}{bs bm:Nat}{so:ο}{l:List HV}(h:bS W B bs bm so l):wm W.heap.size bs bm so:=⟨fun e=>by have:=h.Q4.1;omega,fun e=>by have:=h.Q4.2;omega,fun e=>by have:=(h.2.2.2.1.lt _ e).2;omega⟩
theorem uT{W:χ}{v so:ο}{l l':List HV}{bs bm:Nat}(h:eI w v l)(hs:bS W w.heap.size bs bm so l'):Q5 v bs bm so:=fun a n m e h0=>by
 obtain⟨d,f,rfl,_,_,c⟩:=h;cases e
 obtain⟨b,o,e,hb,_⟩:=c h0;cases e
 exact hs.low hb
theorem Dy{b:Nat}{g:GH}{n o m:ο}{row:HV->ο}(hb:w.heap[b]?=Θ (φ #[n,o,row (0,0),row (0,1),row (0,2),m] 114 (0,0)))(h1:RC w B n (cellsOf row 3 g.new))(h2:RC w B o (cellsOf row 4 g.old))(h4:kD w B row g){p q:Int}(hi:zH g (p,q))(hl:g.new.length+g.old.length<=100000):∃bn j ar mr,row (p,q)=.slice ar (cellAt g (p,q)).2.length mr/\w.cell? ⟨bn,j*2,Ψ⟩=Θ (υ ψ (cellAt g (p,q)).1)/\
 w.cell? ⟨bn,j*2+1,Ψ⟩=Θ (.slice ar (cellAt g (p,q)).2.length mr)/\eI w (.slice ar (cellAt g (p,q)).2.length mr) (cellAt g (p,q)).2/\bn<w.heap.size/\
 ∀w1,ξ w.heap.size w w1->ε aD.prog 199 #[Γ (Θ ⟨b,0,Ψ⟩),.agg #[υ ψ p,υ ψ q]] w1 fun e w'=>e=.returned (Γ (Θ ⟨bn,j*2,Ψ⟩))/\ξ w1.heap.size w1 w':=by
 have t:=(Ξ.1 hb).1;rcases hi with⟨e,s,G⟩|⟨e,s,G⟩
 ·dsimp only at e s G;subst e;obtain⟨i,rfl⟩:=η s;have hi:i<g.new.length:=by omega
  obtain⟨y,A,f⟩:=cQ hi;have h:cellAt g (3,(i:Int))=(y,A):=by simp[cellAt,List.getD,f]
  have c:=bH (row:=row) (kind:=3) f;obtain⟨gn,u,rfl,_,r,D,_,x⟩:=h1.cells (by rw[aT];omega);obtain⟨C,F⟩:=jx dW (fun v=>υ ψ v.1) (fun v=>v.2) (fun _=>rfl) _ i _ c;obtain⟨z,E⟩:=oi f;have a:=(h4.1 _ z).reads;rw[E]at a;dsimp only at a;obtain⟨ar,mr,k,_⟩:=id a;rw[h];dsimp only;rw[k]at a;refine⟨gn,i,ar,mr,k,x _ _ C,?_,a,r,fun w1 l=>?_⟩
  ·rw[<-k];exact x _ _ F
  ·have d:w1.cell? ⟨b,0,Ψ⟩=Θ (ι (Θ ⟨gn,0,Ψ⟩) g.new.length u):=by rw[l.cell (p:=⟨b,0,Ψ⟩) t];simp[Δ,hb,aT]
   exact zD w1 b gn g.new.length u i d hi (by omega)
 ·dsimp only at e s G;subst e;obtain⟨i,rfl⟩:=η s;have hi:i<g.old.length:=by omega
  obtain⟨y,A,f⟩:=cQ hi;have h:cellAt g (4,(i:Int))=(y,A):=by simp[cellAt,List.getD,f]
  have c:=bH (row:=row) (kind:=4) f;obtain⟨gn,u,rfl,_,r,D,_,x⟩:=h2.cells (by rw[aT];omega);obtain⟨C,F⟩:=jx dW (fun v=>υ ψ v.1) (fun v=>v.2) (fun _=>rfl) _ i _ c;obtain⟨z,E⟩:=j6 f;have a:=(h4.1 _ z).reads;rw[E]at a;dsimp only at a;obtain⟨ar,mr,k,_⟩:=id a;rw[h];dsimp only;rw[k]at a;refine⟨gn,i,ar,mr,k,x _ _ C,?_,a,r,fun w1 l=>?_⟩
  ·rw[<-k];exact x _ _ F
  ·have d:w1.cell? ⟨b,1,Ψ⟩=Θ (ι (Θ ⟨gn,0,Ψ⟩) g.old.length u):=by rw[l.cell (p:=⟨b,1,Ψ⟩) t];simp[Δ,hb,aT]
   exact ol w1 b gn g.old.length u i d hi (by omega)
theorem EV{b:Nat}{g:GH}(hg:dm w B b g){p q:Int}(hi:zH g (p,q))(hl:g.new.length+g.old.length<=100000):∃bn j ar mr,w.cell? ⟨bn,j*2,Ψ⟩=Θ (υ ψ (cellAt g (p,q)).1)/\
 w.cell? ⟨bn,j*2+1,Ψ⟩=Θ (.slice ar (cellAt g (p,q)).2.length mr)/\eI w (.slice ar (cellAt g (p,q)).2.length mr) (cellAt g (p,q)).2/\bn<w.heap.size/\
 ∀w1,ξ w.heap.size w w1->ε aD.prog 199 #[Γ (Θ ⟨b,0,Ψ⟩),.agg #[υ ψ p,υ ψ q]] w1 fun e w'=>e=.returned (Γ (Θ ⟨bn,j*2,Ψ⟩))/\ξ w1.heap.size w1 w':=by
 obtain⟨n,o,m,row,f,hb,d,a,i,c⟩:=hg;obtain⟨bn,j,ar,mr,_,h⟩:=Dy hb d a c hi hl;exact⟨bn,j,ar,mr,h⟩
theorem po(f:Nat)(mv:HV->Bool)(hmv:wn f mv)(w:χ)(B b:Nat)(g:GH)(more:ο)(ms:List HV)(hg:dm w B b g)(hv:eI w more ms)
 (hc:jB g) (hs:∀v∈cJ g,zI g v) (hm:∀v∈ms,zI g v) (hml:ms.length<=100000) (hn:g.new.length+g.old.length<=100000) (hsl:(cJ g).length<=100000) (hvl:∀c∈g.new++g.old,c.2.length<=100000):
 ε aD.prog 150 #[Γ (Θ ⟨b,0,Ψ⟩),.func (.func f) #[] #[],more] w fun e w'=>(∃bs bm so,e=.returned (Γ (Θ ⟨bs,0,Ψ⟩))/\bS w' w.heap.size bs bm so (bV g mv ms))/\ξ w.heap.size w w':=by
 have hmm:=@run_makeMap aD.prog;have HG:=Ω hg;have HV:=Ω hv;have HS:=Ω hs;have HM:=Ω hm;clear hs hm;obtain⟨am,mm,rfl,_,_,_⟩:=hv;refine(ZU (n:=6)).1 ?_;refine callsIn_of_wp_marks aD.func150 rfl trivial ?_ rfl;simp only[Tryz.ntmps150,List.size_toArray,List.length_cons,List.length_nil,Nat.reduceAdd,Nat.reduceSub,Array.replicate_succ,Array.replicate_zero,List.push_toArray,List.append_toArray,List.nil_append,List.cons_append]
 gi_wp2_with (refine⟨trivial,?_⟩;gi_at_call 198;refine(ZU.2 (II _ b)).mono ?_;rintro e w' ⟨rfl,rfl⟩)
 clear hmm;have h0:=IM w f b;have hbg:((((((w.alloc (φ #[.func (.func f) #[] #[]] 181)).alloc (.map #[] 0)).alloc (φ #[ι Ψ 0 0,.map (Θ (w.heap.size+1))] 112)).alloc (φ #[Γ (Θ ⟨w.heap.size+1+1,0,Ψ⟩)] 106)).alloc
  (φ #[.func (.func 196) #[] #[Γ (Θ ⟨w.heap.size,0,Ψ⟩),Γ (Θ ⟨w.heap.size+1+1+1,0,Ψ⟩)]] 232)).alloc (φ #[Γ (Θ ⟨b,0,Ψ⟩)] 104)).cell? ⟨w.heap.size+1+1+1+1+1,0,Ψ⟩=Θ (Γ (Θ ⟨b,0,Ψ⟩)):=by go_simp
 have Q:((((((w.alloc (φ #[.func (.func f) #[] #[]] 181)).alloc (.map #[] 0)).alloc (φ #[ι Ψ 0 0,.map (Θ (w.heap.size+1))] 112)).alloc (φ #[Γ (Θ ⟨w.heap.size+1+1,0,Ψ⟩)] 106)).alloc
  (φ #[.func (.func 196) #[] #[Γ (Θ ⟨w.heap.size,0,Ψ⟩),Γ (Θ ⟨w.heap.size+1+1+1,0,Ψ⟩)]] 232)).alloc (φ #[Γ (Θ ⟨b,0,Ψ⟩)] 104)).heap.size=w.heap.size+1+1+1+1+1+1:=by simp
 generalize (((((w.alloc (φ #[.func (.func f) #[] #[]] 181)).alloc (.map #[] 0)).alloc (φ #[ι Ψ 0 0,.map (Θ (w.heap.size+1))] 112)).alloc (φ #[Γ (Θ ⟨w.heap.size+1+1,0,Ψ⟩)] 106)).alloc
  (φ #[.func (.func 196) #[] #[Γ (Θ ⟨w.heap.size,0,Ψ⟩),Γ (Θ ⟨w.heap.size+1+1+1,0,Ψ⟩)]] 232)).alloc (φ #[Γ (Θ ⟨b,0,Ψ⟩)] 104)=w6 at h0 hbg Q⊢
 have Z6:=Ω Q;have I:w.heap.size+1<w6.heap.size:=by omega
 have anh:w.heap.size<=w6.heap.size:=by omega
 clear Q;refine wpIn_rangeFunc_ownH rfl (by omega) (gf:=231) (lb:=#[Γ (Θ ⟨w.heap.size+1+1+1+1+1,0,Ψ⟩)]) rfl trivial (enters_of aD.func231 (by kernel_rfl) rfl)
  (wu 5 (by omega) b (w.heap.size+1+1+1+1+1) g w w6 h0.below hbg HG.out.reads) tb.trans (tb.book anh) (ω _ _) (fun _=>rfl)
  (fun E W=>∃so,RS w W f so (visit mv [] E)) (fun _ _ _=>False)
  (fun s A C row T R hr=>by obtain⟨so,h⟩:=T;exact⟨so,h.grown I R hr⟩) (fun _ _ _ _ _ h _ _=>h) ⟨_,h0⟩
  (fun x a' W=>∃M,W.heap[M]?=Θ (φ #[υ ψ x.1,υ ψ x.2] 50 (0,0))/\a'={tmps:=#[Γ (Θ ⟨b,0,Ψ⟩),.func (.func f) #[] #[],.slice am ms.length mm,undef,Γ (Θ ⟨w.heap.size,0,Ψ⟩),undef,Γ Ψ,Γ (Θ ⟨w.heap.size+1+1+1,0,Ψ⟩),Γ (Θ ⟨w.heap.size+1+1+1+1,0,Ψ⟩),Γ (Θ ⟨M,0,Ψ⟩),undef,.map (Θ (w.heap.size+1)),.agg #[ι Ψ 0 0,.map (Θ (w.heap.size+1))],Γ (Θ ⟨w.heap.size+1+1,0,Ψ⟩),.func (.func 196) #[] #[Γ (Θ ⟨w.heap.size,0,Ψ⟩),Γ (Θ ⟨w.heap.size+1+1+1,0,Ψ⟩)],Γ (Θ ⟨b,0,Ψ⟩),.func (.func 231) #[] #[Γ (Θ ⟨w.heap.size+1+1+1+1+1,0,Ψ⟩)],eB x,undef,undef,undef,undef,undef,undef,undef,undef,undef,undef,undef,undef,undef,undef,undef,undef,undef,undef,undef,undef,undef,undef,undef,undef,undef,undef,undef,undef,undef,undef,undef],defers:=[]})
  (fun x a' s A C row T R hr=>by
    obtain⟨M,h1,h2⟩:=T;refine⟨M,(R.block M (Ξ.1 h1).1 (fun e=>?_)).trans h1,h2⟩;obtain⟨_,o,ho,hc'⟩:=hr M e.symm;rw[h1]at ho;cases ho
    cases hc') ?assign ?body ?done ?stop
 case assign=>
  rintro l E ⟨p,q⟩ W K ⟨so,L⟩ G;unfold eB
  gi_wp2
  exact G _ _ ((KeepsOthers.alloc _ _).from _) ((tb.refl _ _).alloc L.below.size _) ⟨so,L.low (af W _)⟩ ⟨W.heap.size,Z4 W _,rfl⟩
 case body=>
  rintro l E ⟨p,q⟩ a' W hl ⟨r,hr⟩ ⟨so,L⟩ ⟨M,O,rfl⟩ hlt;have cf:=L.zK;have x0:W.cell? ⟨M,0,Ψ⟩=Θ (υ ψ p):=by simp[Δ,O]
  have x1:W.cell? ⟨M,1,Ψ⟩=Θ (υ ψ q):=by simp[Δ,O]
  have F:=Ω L;clear hr O L;unfold eB
  gi_wp2_with fail
  refine⟨trivial,?_⟩;have hb1:=af W (φ #[υ ψ p,υ ψ q] 50);have z:=F.out.low hb1;have am0:=lW mv E [];simp only[List.length_nil,Nat.zero_add]at am0;refine(CallsIn.inRound l (ZU.2 (wo f mv hmv _ w.heap.size _ _ _ _ so _ (visit mv [] E) [(p,q)] z.scan (Wc W p q) (fun a n m e _=>by cases e;exact IN F.out.scan) z.IK z.uR z.zJ z.uS (by simp;omega)))).mono ?_;rintro e W3 ⟨rfl,so3,hs3,ht3⟩
  gi_wp2_with fail
  have P:=(cz.bK (bs:=w.heap.size+1+1) (bm:=w.heap.size+1) (so:=so) hb1).trans ht3;have hvx:visit mv (visit mv [] E) [(p,q)]=visit mv [] (E++[(p,q)]):=by simp[visit]
  rw[hvx]at hs3;exact⟨F.out.keeps P I,F.out.kps P,so3,F.out.to hs3 P⟩
 case done=>
  rintro D xs W hD rfl ⟨so,L⟩ G;have cf:=L.zK;have F:=Ω L;clear L
  gi_wp2_with fail
  refine⟨trivial,?_⟩;have am1:=lW mv (cJ g) [];simp only[List.length_nil,Nat.zero_add]at am1;refine(ZU.2 (wo f mv hmv _ w.heap.size _ _ _ _ so _ (visit mv [] (cJ g)) ms F.out.scan (HV.out.below (F.out.below)) (uT HV.out F.out.scan) F.out.IK F.out.uR F.out.zJ F.out.uS (by omega))).mono ?_;rintro e W1 ⟨rfl,so1,qv,U⟩;have z:=F.out.to qv U;have hK1:=(F.out.keeps U I).same D _ hD G rfl;have c21:=z.zJ;have y:=Ω z;have S:=Ω hK1;clear z qv U G hK1 cf F;have J:=((c9.nil g mv).visit (vs:=cJ g) fun v hv O=>HS.out v hv (hmv.jw.cell O)).visit (vs:=ms) fun v hv O=>HM.out v hv (hmv.jw.cell O)
  have hR:bV g mv ms=Dm g mv (g.new.length+g.old.length+1-0) 0 (visit mv (visit mv [] (cJ g)) ms):=rfl;generalize visit mv (visit mv [] (cJ g)) ms=o1 at y J hR;have HR:=Ω hR;have Y:=Ω J;clear hR J
  gi_wp2_with fail
  clear c21
  gi_loopw [10] (fun i wr=>∃k:Nat,∃so o,i=υ ψ k/\k<=o.length/\Hid (bV g mv ms=Dm g mv (g.new.length+g.old.length+1-k) k o)/\Hid (RS w wr f so o)/\Hid (c9 g mv o)/\Hid (wr.heap[D]?=Θ (.deferred (Θ [])))) (fun i _=>g.new.length+g.old.length-(intOf i).toNat)
  case atStart=>exact⟨0,so1,o1,rfl,Nat.zero_le _,HR,y,Y,S⟩
  case round=>
   clear y Y S HR;obtain⟨k,so,o,rfl,hk,HR,y,Y,S⟩:=hrel;have hol:=Y.out.len;have c2:=y.out.zJ;have Z:=y.out.scan.2.2.1;obtain⟨aso,mso,hso,hle,_,_⟩:=aF y.out.scan.2.2.2.1;have c0:wr.cell? ⟨w.heap.size+1+1,0,Ψ⟩=Θ (.slice aso o.length mso):=by simp[Δ,Z,hso]
   clear Z;by_cases hlt:k<o.length
   ·obtain⟨p,q,e1⟩:=ep hlt;subst hso;obtain⟨gs,cs,e,_⟩:=y.out.scan.2.2.2.1.form (by omega);obtain rfl:aso=Θ ⟨gs,0,Ψ⟩:=by injection e
    clear e;obtain⟨d1,d2,_,_,_⟩:=OV.at_ y.out.scan.2.2.2.1 e1;obtain⟨V,_⟩:=Y.out.ok _ (List.mem_of_getElem? e1);have hcl:(cellAt g (p,q)).2.length<=100000:=hvl _ (j9 V);obtain⟨bn,j,ar,mr,t1,t2,t3,t4,t5⟩:=EV HG.out V hn;have cf:=y.out.zK;have H:=y.out.below;have HFV:=Ω (uT t3 y.out.scan);have HT3:=Ω t3;have HT5:=Ω t5;have E1:=Ω e1;clear e1 t3 t5 t1 V;have hk0:(0:Int)<=(k:Int):=by omega
    have hk1:(k:Int)<(o.length:Int):=by omega
    gi_wp2_with fail
    refine wpIn_wide.2 ?_;have hbw:=(ω wr.heap.size wr).drew;refine wp_region_noPanic ?_;refine Rg.aaH 9 4 (fun x=>x.cell? ⟨w.heap.size+1+1+1+1,0,Ψ⟩=Θ (.func (.func 196) #[] #[Γ (Θ ⟨w.heap.size,0,Ψ⟩),Γ (Θ ⟨w.heap.size+1+1+1,0,Ψ⟩)])/\x.cell? ⟨w.heap.size+1+1+1,0,Ψ⟩=Θ (Γ (Θ ⟨w.heap.size+1+1,0,Ψ⟩))/\x.cell? ⟨w.heap.size+1+1,0,Ψ⟩=Θ (ι (Θ ⟨gs,0,Ψ⟩) o.length mso)/\x.cell? ⟨gs,k*2,Ψ⟩=Θ (υ ψ p)/\x.cell? ⟨gs,k*2+1,Ψ⟩=Θ (υ ψ q)) (by kernel_rfl) (by kernel_rfl) (fun c a d v w h=>h) ⟨cf,c2,c0,d1,d2⟩ ?_;simp only[Nat.reduceAdd,List.take_succ_cons,List.take_zero,List.drop_succ_cons,List.drop_zero]
    iterate 9
     (refine Rg.fp.step (v:=?_) (by rfl) (fun u hu=>?_) ?_
      rotate_left
      (obtain⟨hu0,hu1,hu2,hu3,hu4⟩:=hu
       go_simp
       try rfl))
    refine Rg.fp.nil (Rg.pA.succ ?_);simp only[Act.put,List.setIfInBounds_toArray,List.set_cons_zero,List.set_cons_succ];refine wpOp_step rfl (fun K G=>?_);go_simp;refine(HT5.out _ (H.trans (hbw.mono H.size))).mono ?_;rintro e w3 ⟨rfl,hb3⟩;have t:=hbw.trans (hb3.mono (by simp));have q2:=((H.trans (t.mono H.size)).cell (p:=⟨bn,j*2+1,Ψ⟩) t4).trans t2;have s3:=((y.out.low t).zK);have hz3:=t.size;have z0:=(t.cell (p:=⟨w.heap.size+1+1+1+1,0,Ψ⟩) (az cf)).trans cf;have z1:=(t.cell (p:=⟨w.heap.size+1+1+1,0,Ψ⟩) (az c2)).trans c2;have z2:=(t.cell (p:=⟨w.heap.size+1+1,0,Ψ⟩) (az c0)).trans c0;have z3:=(t.cell (p:=⟨gs,k*2,Ψ⟩) (az d1)).trans d1;have z4:=(t.cell (p:=⟨gs,k*2+1,Ψ⟩) (az d2)).trans d2;refine G _ _ ⟨⟨z0,z1,z2,z3,z4⟩,Rg.pA.succ ?_⟩;clear G K;refine wpOp_step rfl (fun K G=>?_);go_simp;refine G _ _ ⟨⟨z0,z1,z2,z3,z4⟩,Rg.pA.succ ?_⟩;clear G K;refine wpOp_step rfl (fun K G=>?_);go_simp;refine G _ _ ⟨⟨z0,z1,z2,z3,z4⟩,Rg.pA.succ ?_⟩;clear G K;refine wpOp_step rfl (fun K G=>?_);go_simp;refine G _ _ ⟨⟨z0,z1,z2,z3,z4⟩,Rg.pA.zero ?_⟩;clear G K z0 z1 z2 z3 z4
    go_wp2_with (go_at_call 196;refine(wo f mv hmv _ w.heap.size _ _ _ _ _ _ o (cellAt g (p,q)).2 (y.out.low t).scan (HT3.out.below (H.trans (t.mono H.size))) HFV.out (y.out.low t).IK (y.out.low t).uR (y.out.low t).zJ (y.out.low t).uS (by omega)).mono ?_;rintro e w4 ⟨rfl,so4,hs4,ht4⟩;have H4:=Ω ((y.out.low t).to hs4 ht4);have hK4:=(((y.out.low t).keeps ht4 I).same D _ hD (((t.block D (Ξ.1 S.out).1)).trans S.out) rfl);have HK4:=Ω hK4;clear hK4;have s4:=H4.out.zK)
    refine NoPanic.normal ?_
    gi_wp2_with fail
    refine⟨⟨k+1,so4,visit mv o (cellAt g (p,q)).2,by go_num,?_,Ω ?_,H4,Ω (Y.out.round hmv.jw hc E1.out),HK4⟩,by simp[intOf];omega⟩
    ·have:=zL mv (cellAt g (p,q)).2 o;omega
    ·rw[<-IL E1.out (by omega)];exact HR.out
   ·have X:=HR.out;rw[N9 (by omega)]at X;have HRE:=Ω X;clear X
    gi_wp2_with fail
    refine⟨by simp,.inl ⟨_,_,rfl,run_takeDeferred S.out,?_⟩⟩;have N:=y.out.grown (row:=Θ D) I (grownBy_putObj' wr D (.deferred Ψ)) (fun r e=>by cases e;exact⟨hD,_,S.out,rfl⟩);have hsc:=N.scan;rw[<-HRE.out]at hsc;exact⟨_,results_tmp rfl _ _ _,⟨w.heap.size+1+1,w.heap.size+1,so,rfl,hsc⟩,N.below⟩
 case stop=>rintro D c E W _ _ h _;exact h.elim
end
end Kn
namespace Kn
open Go Go.RowKit Md
section
def ww(w:χ)(B:Nat)(KS:List HV)(row:HV->ο)(eT:HV->List HV):Prop:=(∀k∈KS,OV w B (row k) (eT k))/\∀k∈KS,∀k'∈KS,k≠k'->Apart (row k) (row k')
theorem ww.step{w w':χ}{B:Nat}{KS:List HV}{row:HV->ο}{eT:HV->List HV}{k:HV}{l':List HV}(h:ww w B KS row eT)(hk:k∈KS)(hg:w.grownBy w' (row k).ownBlock)(ho:OV w' B (row k) l'):ww w' B KS row (fun x=>if x=k then l' else eT x):=by
 refine⟨fun x b=>?_,h.2⟩;by_cases e:x=k
 ·subst e;simpa using ho
 ·simp only[e,if_false];exact aS (h.1 x b) fun g a=>hg.block g ((h.1 x b).lt g a).2 (fun c=>h.2 x b k hk e g a c.symm)
theorem ww.low{w w':χ}{B:Nat}{KS:List HV}{row:HV->ο}{eT:HV->List HV}(h:ww w B KS row eT)(hk:ξ w.heap.size w w'):ww w' B KS row eT:=⟨fun x a=>(h.1 x a).below hk,h.2⟩
def fQ(f:List HV->List HV)(nj:HV->List HV)(KS:List HV)(i:Nat)(x:HV):List HV:=if x∈KS.take i then f (nj x)else nj x
theorem pZ{f:List HV->List HV}{nj:HV->List HV}{KS:List HV}{i:Nat}{k:HV}(hn:KS.Nodup)(hk:KS[i]?=Θ k):
 (fun x=>if x=k then f (fQ f nj KS i k)else fQ f nj KS i x)=fQ f nj KS (i+1):=by
 funext x
 have c:k∉KS.take i:=by
  intro h;obtain⟨j,b⟩:=List.mem_iff_getElem?.1 h;have a:j<i:=by have:=(List.getElem?_eq_some_iff.1 b).1;simp at this;omega
  rw[List.getElem?_take,if_pos a]at b;have g:=(List.getElem?_eq_some_iff.1 b);have d:=(List.getElem?_eq_some_iff.1 hk);have:=(List.pairwise_iff_getElem.1 hn) j i g.1 d.1 a;exact this (g.2.trans d.2.symm)
 unfold fQ;rw[bW hk];by_cases e:x=k
 ·subst e;simp[c]
 ·simp[e]
theorem hV{f:List HV->List HV}{nj:HV->List HV}{KS:List HV}{i:Nat}{k:HV}(hn:KS.Nodup)(hk:KS[i]?=Θ k):fQ f nj KS i k=nj k:=by
 have c:k∉KS.take i:=by
  intro g;obtain⟨j,b⟩:=List.mem_iff_getElem?.1 g;have a:j<i:=by have:=(List.getElem?_eq_some_iff.1 b).1;simp at this;omega
  rw[List.getElem?_take,if_pos a]at b;have e:=(List.getElem?_eq_some_iff.1 b);have d:=(List.getElem?_eq_some_iff.1 hk);have:=(List.pairwise_iff_getElem.1 hn) j i e.1 d.1 a;exact this (e.2.trans d.2.symm)
 simp[fQ,c]
theorem BK{f:List HV->List HV}{nj:HV->List HV}{KS:List HV}{k:HV}(hk:k∈KS):fQ f nj KS KS.length k=f (nj k):=by simp[fQ,hk]
theorem zM{f:List HV->List HV}{nj:HV->List HV}{KS:List HV}:fQ f nj KS 0=nj:=by
 funext x
 simp[fQ]
def TC(w:χ)(B B0:Nat)(v:ο)(l:List (Int×ο)):Prop:=OC w B0 v l\/(RC w B v l/\∃a,v=.slice a l.length l.length)
theorem TC.rc{w:χ}{B B0:Nat}{v:ο}{l:List (Int×ο)}(h:TC w B B0 v l)(hB:B<=B0):RC w B v l:=by
 rcases h with h|h
 ·exact(h.less hB).rc
 ·exact h.1
theorem TC.low{w w':χ}{B B0:Nat}{v:ο}{l:List (Int×ο)}(h:TC w B B0 v l)(hk:ξ w.heap.size w w'):TC w' B B0 v l:=by
 rcases h with h|h
 ·exact .inl (h.below hk)
 ·exact .inr ⟨h.1.low hk,h.2⟩
section
variable{ops:Array Oper}{rest:List Oper}{o:Oper}{a:Act}{w:χ}{Q:Exit->Act->χ->Prop}
theorem tL(hgd:o.guard=Ψ)(s x:Operand)(ho:o.op=.call {callee:=.builtin .append,args:=#[s,x],argTypes:=#[22,22]})
 (B B0:Nat) (v:ο) (l:List (Int×ο)) (hs:a.eval s=v) (hown:TC w B B0 v l) (ad:Addr) (c:Nat) (u:Int×ο) (ha:u.2.oneCell'=Z8) (hx:a.eval x=ι (Θ ad) 1 c)
 (hu:w.cell? (ad.add 0)=Θ (υ ψ u.1)/\w.cell? (ad.add 1)=Θ u.2) (hl:l.length<=1000000000) (hB:B0<=w.heap.size)
 (h:∀v' w',OC w' B0 v' (l++[u]) ->ξ B0 w w'->wpList aD.prog ops Q rest (a.put o.dst v') w'):wpList aD.prog ops Q (o::rest) a w:=by
 rcases hown with hown|⟨i,a0,rfl⟩
 ·exact wh hgd s x ho B0 v l hs hown ad c u ha hx hu hl hB fun v' w' p n _=>h v' w' p n
 ·obtain⟨C,hi,q,r,m⟩:=info_parts ni;refine wpList_append_grows w hgd s x 22 ho 76 C _ 2 32 mF hi q r m rfl (by decide) a0 l.length l.length (l.flatMap dW) hs (fun e=>?_) (su l) (fun b e j D f=>?_) ad 1 c (dW u) hx rfl (fun j z d=>?_) (fun z hz=>?_) (by omega) (by unfold maxLen;omega) (by omega) fun v' w' p n=>?_
  ·obtain⟨F,E,t,_,_,A,_⟩:=i;cases t
   exact⟨A e,A e⟩
  ·have h0:0<l.length:=by
    rcases Nat.eq_zero_or_pos l.length with h0|h0
    ·have:l=[]:=List.eq_nil_of_length_eq_zero h0;subst this;simp at f
    ·exact h0
   obtain⟨g,E,t,_,_,_,_,hc⟩:=i.cells h0;cases t
   cases e
   have:(⟨g,0,Ψ⟩:Addr).add j=⟨g,j,Ψ⟩:=by unfold Addr.add;split<;>simp_all
   rw[this];exact hc j D f
  ·match j,d with
   |0,d=>cases d;exact hu.1
   |1,d=>cases d;exact hu.2
   |j+2,d=>simp[dW]at d
  ·simp[dW]at hz;rcases hz with rfl|rfl
   ·rfl
   ·exact ha
  ·refine h v' w' ?_ ((ω B0 w).grown n hB (fun k e=>by cases e));have:w'.ownsRow B0 76 2 v' (l++[u]).length ((l++[u]).flatMap dW):=by rw[List.flatMap_append,List.length_append];have y:=eV p hB;simpa using y
   exact this
end
theorem RC.take{w:χ}{B:Nat}{a:Option Addr}{n m s:Nat}{l:List (Int×ο)}(h:RC w B (.slice a n m) l)(hs:s<=l.length):RC w B (.slice a s s) (l.take s)/\(a=Ψ->s=0):=by
 obtain⟨r,u,e,t,q,i,j⟩:=h;cases e
 have d:(l.take s).length=s:=by simp;omega
 refine⟨⟨a,s,by rw[d],by omega,by omega,fun e=>by have:=i e;omega,fun h0=>?_⟩,fun e=>by have:=i e;omega⟩;obtain⟨g,c,rfl,o,k,p⟩:=j (by omega);refine⟨g,c,rfl,o,k,?_⟩;rw[d];have f:(l.take s).flatMap dW=(l.flatMap dW).take (s*2):=by
  have e:l.flatMap dW=(l.take s).flatMap dW++(l.drop s).flatMap dW:=by rw[<-List.flatMap_append,List.take_append_drop]
  have b:((l.take s).flatMap dW).length=s*2:=by rw[su,d]
  rw[e,<-b,List.take_left]
 rw[f,<-p,List.take_take]
 congr 1
 omega
end
section
variable{stay:Nat}{w':χ}{J:Nat->Prop}{g:GH}
def bC(stay:Nat)(order:List HV):List HV:=(List.range stay).map (fun i:Nat=>((4,(i:Int)):HV))++order
def rowsOf(g:GH)(row:HV->ο)(ks:List HV):List (Int×ο):=ks.map fun k=>((cellAt g k).1,row k)
theorem fo(stay:Nat)(order:List HV):(bC stay order).length=stay+order.length:=by simp[bC]
theorem nk(g:GH)(row:HV->ο)(ks:List HV):(rowsOf g row ks).length=ks.length:=by simp[rowsOf]
theorem wy{row:HV->ο}{order:List HV}(h:stay<=g.old.length):(cellsOf row 4 g.old).take stay=(rowsOf g row (bC stay order)).take stay:=by
 apply List.ext_getElem?;intro i;rw[List.getElem?_take,List.getElem?_take];by_cases hi:i<stay
 ·rw[if_pos hi,if_pos hi];obtain⟨p,q,e⟩:=cQ (show i<g.old.length by omega);rw[bH e];simp[rowsOf,bC,List.getElem?_map,List.getElem?_append_left,hi,cellAt,List.getD,e]
 ·rw[if_neg hi,if_neg hi]
theorem zN{row:HV->ο}{k:Nat}{order:List HV}{v:HV}(h:order[k]?=Θ v):(rowsOf g row (bC stay order)).take (stay+(k+1))=(rowsOf g row (bC stay order)).take (stay+k)++[((cellAt g v).1,row v)]:=by
 rw[<-Nat.add_assoc];apply bW;have:(bC stay order)[stay+k]?=Θ v:=by unfold bC;rw[List.getElem?_append_right (by simp)];simpa using h
 simp[rowsOf,List.getElem?_map,this]
def gB(stay:Nat)(order:List HV):List HV:=bC stay order++[(0,0),(0,2),(0,1)]
theorem sA{order:List HV}{k:HV}(h:k∈bC stay order):(∃i:Nat,i<stay/\k=(4,(i:Int)))\/k∈order:=by
 rcases List.mem_append.1 h with h|h
 ·obtain⟨i,hi,rfl⟩:=List.mem_map.1 h;exact .inl ⟨i,List.mem_range.1 hi,rfl⟩
 ·exact .inr h
theorem jC{order:List HV}(hin:∀v∈order,zH g v){k:HV}(h:k∈bC stay order):k.1≠0:=by
 rcases sA h with⟨i,_,rfl⟩|h
 ·show(4:Int)≠0
  decide
 ·rcases hin k h with⟨e,_⟩|⟨e,_⟩<;>omega
theorem IP{order:List HV}(hs:stay<=g.old.length)(hin:∀v∈order,zH g v){k:HV}(h:k∈bC stay order):zH g k:=by
 rcases sA h with⟨i,hi,rfl⟩|h
 ·exact .inr ⟨rfl,by dsimp only;omega,by dsimp only;omega⟩
 ·exact hin k h
theorem IQ{order:List HV}(hs:stay<=g.old.length)(hin:∀v∈order,zH g v){k:HV}(h:k∈gB stay order):IsKey g k:=by
 rcases List.mem_append.1 h with h|h
 ·rcases IP hs hin h with h|h
  ·exact .inr (.inl h)
  ·exact .inr (.inr h)
 ·simp at h;rcases h with rfl|rfl|rfl
  ·exact .inl ⟨rfl,by decide,by decide⟩
  ·exact .inl ⟨rfl,by decide,by decide⟩
  ·exact .inl ⟨rfl,by decide,by decide⟩
theorem oq{g:GH}{order:List HV}(hn:order.Nodup)(hst:(∀v∈order,v.1=3)\/stay=0):(bC stay order).Nodup:=by
 unfold bC;rw[List.nodup_append];refine⟨?_,hn,fun a d b hb e=>?_⟩
 ·rw[List.Nodup,List.pairwise_map];refine(List.nodup_range (n:=stay)).imp fun {i j} c e=>c ?_
  simp at e;omega
 ·subst e;obtain⟨i,hi,rfl⟩:=List.mem_map.1 d;rcases hst with h|h
  ·have:=h _ hb;dsimp only at this;omega
  ·subst h;simp at hi
theorem BL{order:List HV}(hn:order.Nodup)(hst:(∀v∈order,v.1=3)\/stay=0)(hin:∀v∈order,zH g v):(gB stay order).Nodup:=by unfold gB;rw[List.nodup_append];refine⟨oq (g:=g) hn hst,by decide,fun a c b hb e=>?_⟩;subst e;have:=jC hin c;simp at hb;rcases hb with rfl|rfl|rfl<;>exact this rfl
theorem wA{w:χ}{B:Nat}{row:HV->ο}{KS:List HV}(h:kD w B row g)(hk:∀k∈KS,IsKey g k):ww w B KS row (bd g):=⟨fun k a=>h.1 k (hk k a),fun k e c d b=>h.2 k c (hk k e) (hk c d) b⟩
theorem IR{order:List HV}(hs:stay<=g.old.length):g.old.take stay++order.map (cellAt g)=(bC stay order).map (cellAt g):=by
 unfold bC;rw[List.map_append]
 congr 1
 apply List.ext_getElem?;intro i;rw[List.getElem?_take];by_cases hi:i<stay
 ·rw[if_pos hi];obtain⟨p,q,e⟩:=cQ (show i<g.old.length by omega);simp[hi,cellAt,List.getD,e]
 ·rw[if_neg hi];simp[hi]
theorem sB{order:List HV}(hs:stay<=g.old.length):(Md.move g order stay).old=(bC stay order).map fun k=>EN order stay (cellAt g k):=by show(g.old.take stay++order.map (cellAt g)).map (EN order stay)=_;rw[IR hs,List.map_map];rfl
def cR(w:χ)(B b:Nat)(g:GH)(J:Nat->Prop):Prop:=∃n o m row,B<=b/\w.heap[b]?=Θ (φ #[n,o,row (0,0),row (0,1),row (0,2),m] 114 (0,0))/\
 RC w B n (cellsOf row 3 g.new)/\RC w B o (cellsOf row 4 g.old)/\OI w B m g.marked/\kD w B row g/\∀j,J j->j≠b/\∀k,IsKey g k->(row k).ownBlock≠Θ j
theorem cR.own{w:χ}{B b:Nat}(h:cR w B b g J):dm w B b g:=by obtain⟨n,o,m,row,e,hb,d,a,f,c,_⟩:=h;exact⟨n,o,m,row,e,hb,d,a,f,c⟩
theorem cR.wC{w:χ}{B b:Nat}(h:dm w B b g)(hJ:∀j,J j->j<B):cR w B b g J:=by
 obtain⟨n,o,m,row,l,hb,i,f,p,c⟩:=h;refine⟨n,o,m,row,l,hb,i,f,p,c,fun j a=>⟨fun e=>?_,fun k d e=>?_⟩⟩
 ·have:=hJ j a;omega
 ·have:=hJ j a;have:=((c.1 k d).lt j e).1;omega
theorem cR.below{w w':χ}{B b:Nat}{g:GH}{J:Nat->Prop}(h:cR w B b g J)(hk:ξ w.heap.size w w'):cR w' B b g J:=by obtain⟨n,o,m,row,i,hb,e,d,j,c,f⟩:=h;exact⟨n,o,m,row,i,(hk.block b (Ξ.1 hb).1).trans hb,e.low hk,d.low hk,j.below hk,⟨fun k a=>(c.1 k a).below hk,c.2⟩,f⟩
theorem IS{w:χ}{B b:Nat}{order:List HV}{row:HV->ο}{v:ο}(hBb:B<=b)(hb:w.heap[b]?=Θ (φ #[ι Ψ 0 0,v,row (0,0),row (0,1),row (0,2),ι Ψ 0 0] 114 (0,0)))(hrc:RC w B v (rowsOf g row (bC stay order)))(hk:ww w B (gB stay order) row (fQ (List.map (lr order stay)) (bd g) (gB stay order) (gB stay order).length))(hn:(bC stay order).Nodup)(hs:stay<=g.old.length)(hin:∀v∈order,zH g v)(hJ:∀j,J j->j≠b/\∀k∈gB stay order,(row k).ownBlock≠Θ j):cR w B b (Md.move g order stay) J:=by
 have n:∀k,k∈gB stay order->OV w B (row k) ((bd g k).map (lr order stay)):=fun k h=>by have:=hk.1 k h;rwa[BK h]at this
 have A:(0,0)∈gB stay order:=by simp[gB]
 have m1:(0,1)∈gB stay order:=by simp[gB]
 have m2:(0,2)∈gB stay order:=by simp[gB]
 have s:(Md.move g order stay).old.length=(bC stay order).length:=by rw[sB hs];simp
 have l:∀k,IsKey (Md.move g order stay) k->(∃i:Nat,i<(bC stay order).length/\k=(4,(i:Int)))\/k=(0,0)\/k=(0,1)\/k=(0,2):=by
  rintro⟨a,c⟩ (⟨o,x,C⟩|⟨o,x,C⟩|⟨o,x,C⟩)
  ·dsimp only at o x C;subst o;have:c=0\/c=1\/c=2:=by omega
   rcases this with rfl|rfl|rfl<;>simp
  ·dsimp only at o x C;have:(Md.move g order stay).new.length=0:=rfl;omega
  ·dsimp only at o x C;subst o;rw[s]at C;exact .inl ⟨c.toNat,by omega,by simp;omega⟩
 obtain⟨f,d⟩:∃r:HV->ο,r=fun k=>if k.1=4 then row ((bC stay order).getD k.2.toNat (0,0))else row k:=⟨_,rfl⟩
 have m:∀i:Nat,i<(bC stay order).length->∃k,(bC stay order)[i]?=Θ k/\f (4,(i:Int))=row k:=fun i hi=>by obtain⟨k,e⟩:∃k,(bC stay order)[i]?=Θ k:=⟨_,List.getElem?_eq_getElem hi⟩;exact⟨k,e,by simp[d,List.getD,e]⟩
 have K:f (0,0)=row (0,0):=by simp[d]
 have H:f (0,1)=row (0,1):=by simp[d]
 have F:f (0,2)=row (0,2):=by simp[d]
 clear d;refine⟨ι Ψ 0 0,v,ι Ψ 0 0,f,hBb,by rw[K,H,F];exact hb,?_,?_,OI.nil _ _,⟨?_,?_⟩,fun j t=>⟨(hJ j t).1,fun k y=>?_⟩⟩
 ·exact⟨Ψ,0,rfl,Nat.le_refl _,by simp[maxLen],fun _=>rfl,fun h=>absurd h (Nat.lt_irrefl 0)⟩
 ·have e:cellsOf f 4 (Md.move g order stay).old=rowsOf g row (bC stay order):=by
   apply List.ext_getElem?;intro i;rcases Nat.lt_or_ge i (bC stay order).length with hi|hi
   ·obtain⟨k,z,er⟩:=m i hi;have N:(Md.move g order stay).old[i]?=Θ (EN order stay (cellAt g k)):=by rw[sB hs];simp[z]
    rw[bH N,er];simp[rowsOf,z,EN]
   ·rw[List.getElem?_eq_none (by rw[aT,s];exact hi),List.getElem?_eq_none (by rw[nk];exact hi)]
  rw[e];exact hrc
 ·intro k y;rcases l k y with⟨i,hi,rfl⟩|rfl|rfl|rfl
  ·obtain⟨k,z,er⟩:=m i hi;rw[er];have M:=List.mem_of_getElem? z;have h:=n k (List.mem_append_left _ M);have Q:bd (Md.move g order stay) (4,(i:Int))=(bd g k).map (lr order stay):=by have P:=jC hin M;simp[bd,P,cellAt,List.getD,sB hs,z,EN]
   rw[Q];exact h
  ·rw[K];exact n _ A
  ·rw[H];exact n _ m1
  ·rw[F];exact n _ m2
 ·intro k O o x u;rcases l k o with⟨i,hi,rfl⟩|rfl|rfl|rfl<;>rcases l O x with⟨j,t,rfl⟩|rfl|rfl|rfl
  ·obtain⟨p,E,er⟩:=m i hi;obtain⟨q,D,L⟩:=m j t;rw[er,L];refine hk.2 p (List.mem_append_left _ (List.mem_of_getElem? E)) q (List.mem_append_left _ (List.mem_of_getElem? D)) fun e=>u ?_
   subst e;have I:=List.getElem?_eq_some_iff.1 E;have G:=List.getElem?_eq_some_iff.1 D;have:=List.pairwise_iff_getElem.1 hn;rcases Nat.lt_trichotomy i j with h|h|h
   ·exact absurd (I.2.trans G.2.symm) (this i j I.1 G.1 h)
   ·rw[h]
   ·exact absurd (G.2.trans I.2.symm) (this j i G.1 I.1 h)
  all_goals (try rw[K])
  all_goals (try rw[H])
  all_goals (try rw[F])
  all_goals first
   |exact absurd rfl u
   |(obtain⟨p,E,er⟩:=m i hi
     rw[er];exact hk.2 p (List.mem_append_left _ (List.mem_of_getElem? E)) _ (by first|exact A|exact m1|exact m2) (fun e=>by have:=jC hin (List.mem_of_getElem? E);rw[e]at this;exact this rfl))
   |(obtain⟨q,D,L⟩:=m j t
     rw[L];exact hk.2 _ (by first|exact A|exact m1|exact m2) q (List.mem_append_left _ (List.mem_of_getElem? D)) (fun e=>by have:=jC hin (List.mem_of_getElem? D);rw[<-e]at this;exact this rfl))
   |exact hk.2 _ (by first|exact A|exact m1|exact m2) _ (by first|exact A|exact m1|exact m2) u
 ·rcases l k y with⟨i,hi,rfl⟩|rfl|rfl|rfl
  ·obtain⟨k,z,er⟩:=m i hi;rw[er];exact(hJ j t).2 k (List.mem_append_left _ (List.mem_of_getElem? z))
  ·rw[K];exact(hJ j t).2 _ A
  ·rw[H];exact(hJ j t).2 _ m1
  ·rw[F];exact(hJ j t).2 _ m2
def qb(w w':χ):Prop:=∀(j:Nat) (c:Array ο),w.heap[j]?=Θ (.cells c 131 (0,0)) ->w'.heap[j]?=w.heap[j]?
theorem qb.trans{w w1 w2:χ}(h1:qb w w1)(h2:qb w1 w2):qb w w2:=fun j c a=>(h2 j c ((h1 j c a).trans a)).trans (h1 j c a)
theorem qb.bK{w:χ}(h:ξ w.heap.size w w'):qb w w':=fun j c a=>h.block j (Ξ.1 a).1
theorem qb.sC{w:χ}{x:Option Nat}(h:w.grownBy w' x)(hx:∀g,x=Θ g->∃cur,w.heap[g]?=Θ (.cells cur 50 (0,0))):qb w w':=fun j c a=>h.block j (Ξ.1 a).1 fun e=>by obtain⟨cur,hc⟩:=hx j e.symm;rw[a]at hc;cases hc
theorem qb.IT{w:χ}{b:Nat}{c0:Array ο}(hb:w.heap[b]?=Θ (.cells c0 114 (0,0)))(h:∀k,k≠b->w'.heap[k]?=w.heap[k]?):qb w w':=fun j c a=>h j fun e=>by subst e;rw[hb]at a;cases a
structure MS(w W:χ)(B b bs bm:Nat)(order:List HV)(v:ο)(L:List (Int×ο))(KS:List HV)(row:HV->ο)(eT:HV->List HV):Prop where
 below:ξ B w W
 rc:RC W B v L
 kr:ww W B KS row eT
 hb:W.heap[b]?=w.heap[b]?
 hs:W.heap[bs]?=w.heap[bs]?/\qb w W/\∀j,j<w.heap.size->j≠b->(∀k∈KS,(row k).ownBlock≠Θ j) ->W.heap[j]?=w.heap[j]?
 met:jA W bm order
theorem MS.low{w W W':χ}{B b bs bm:Nat}{order:List HV}{v:ο}{L:List (Int×ο)}{KS:List HV}{row:HV->ο}{eT:HV->List HV}(h:MS w W B b bs bm order v L KS row eT)(hk:ξ W.heap.size W W')(hB:B<=W.heap.size)(hbl:b<W.heap.size)(hsl:bs<W.heap.size):MS w W' B b bs bm order v L KS row eT:=⟨h.below.trans (hk.mono hB),h.rc.low hk,h.kr.low hk,(hk.block b hbl).trans h.hb,⟨(hk.block bs hsl).trans h.hs.1,h.hs.2.1.trans (qb.bK hk),fun j a c d=>(hk.block j (Nat.lt_of_lt_of_le a h.below.size)).trans (h.hs.2.2 j a c d)⟩,h.met.of_block (hk.block bm h.met.lt)⟩
theorem MS.rename{w W W':χ}{B b bs bm:Nat}{order:List HV}{v:ο}{L:List (Int×ο)}{KS:List HV}{row:HV->ο}{eT:HV->List HV}{k:HV}{l':List HV}{c1 c2:Array ο}(h:MS w W B b bs bm order v L KS row eT)(hk:k∈KS)(hg:W.grownBy W' (row k).ownBlock)(ho:OV W' B (row k) l')
 (hb:w.heap[b]?=Θ (.cells c1 114 (0,0))) (hs:w.heap[bs]?=Θ (.cells c2 112 (0,0))) (hB:B<=W.heap.size):MS w W' B b bs bm order v L KS row (fun x=>if x=k then l' else eT x):=by
 have a:∀g,(row k).ownBlock=Θ g->∃d,W.heap[g]?=Θ (.cells d 50 (0,0)):=fun g e=>by
  rcases h.kr.1 k hk with⟨_,⟨m,_⟩|⟨u,s,d,m,_,f,_⟩⟩
  ·rw[m]at e;cases e
  ·rw[m]at e;cases e;exact⟨d,f⟩
 have i:=h.hb.trans hb;have l:=h.hs.1.trans hs;refine⟨h.below.grown hg hB fun g e=>(h.kr.1 k hk).lt g e|>.1,h.rc.below fun g d f=>hg.block g (Ξ.1 f).1 fun e=>?_,h.kr.step hk hg ho,(hg.block b (Ξ.1 i).1 fun e=>?_).trans h.hb,⟨(hg.block bs (Ξ.1 l).1 fun e=>?_).trans h.hs.1,h.hs.2.1.trans (qb.sC hg a),fun j n q o=>(hg.block j (Nat.lt_of_lt_of_le n h.below.size) fun e=>o _ hk e.symm).trans (h.hs.2.2 j n q o)⟩,
  h.met.of_block (hg.block bm h.met.lt fun e=>?_)⟩
 ·obtain⟨c,hc⟩:=a g e.symm;rw[f]at hc;cases hc
 ·obtain⟨c,hc⟩:=a b e.symm;rw[i]at hc;cases hc
 ·obtain⟨c,hc⟩:=a bs e.symm;rw[l]at hc;cases hc
 ·obtain⟨c,hc⟩:=a bm e.symm;obtain⟨t,r,p,_⟩:=h.met;rw[p]at hc;cases hc
end
theorem qd{W:χ}{B b:Nat}{v:ο}{l:List HV}{c:Array ο}{t:TypeId}{fr:Nat×Nat}(ho:OV W B v l)(hb:W.heap[b]?=Θ (.cells c t fr))(ht:t≠50):v.ownBlock≠Θ b:=by
 intro e;rcases ho with⟨_,⟨rfl,_⟩|⟨g,d,a,rfl,_,f,_⟩⟩
 ·cases e
 ·cases e
  rw[f]at hb;cases hb
  exact ht rfl
theorem IU{w:χ}{B:Nat}{v v':ο}{l:List HV}(h:v=v')(k:OV w B v l):OV w B v' l:=h▸k
theorem BM(w:χ)(B b Bs bs bm:Nat)(so:ο)(g:GH)(mv:HV->Bool)(order:List HV)(stay:Nat){J:Nat->Prop}(hg:cR w B b g J)(hs:bS w Bs bs bm so order)(hord:c9 g mv order)
 (hst:(stay=g.old.length/\∀v∈order,v.1=3)\/stay=0) (hB:B<=w.heap.size) (hn:g.new.length+g.old.length<=1000) (hvl:∀c∈g.new++g.old,c.2.length<=100000) (hr:g.roots.length<=100000) (hwl:g.aA.length<=100000) (hdl:g.done.length<=100000):
 ε aD.prog 191 #[Γ (Θ ⟨b,0,Ψ⟩),Γ (Θ ⟨bs,0,Ψ⟩),υ ψ stay] w fun e w'=>e=.returned (.tuple #[])/\cR w' B b (Md.move g order stay) J/\ξ B w w'/\w'.heap[bs]?=w.heap[bs]?/\qb w w'/\∀j,J j->j<w.heap.size->w'.heap[j]?=w.heap[j]?:=by
 have HG:=Ω hg;have W:=Ω hs;have HO:=Ω hord;obtain⟨n,o,m,row,hBb,hb,h1,h2,h3,h4,h5⟩:=hg;have HJ:=Ω h5;clear h5;have hol:=hord.len;have f:stay<=g.old.length:=by rcases hst with⟨h,_⟩|h<;>omega
 have hbl:=(Ξ.1 hb).1;have hc1:w.cell? ⟨b,1,Ψ⟩=Θ o:=by simp[Δ,hb]
 have hcs0:w.cell? ⟨bs,0,Ψ⟩=Θ so:=by simp[Δ,hs.2.2.1]
 have am4:=hs.Q4.1;obtain⟨as0,ms0,hso,hsm,N',_⟩:=aF hs.2.2.2.1;unfold maxLen at N';obtain⟨ao,mo,ho,hm1,U,Fw,_⟩:=id h2;rw[aT]at ho hm1;subst ho;subst hso;obtain⟨htk,F⟩:=h2.take (s:=stay) (by rw[aT];exact f);rw[wy (order:=order) f]at htk;have ae4:TC w B w.heap.size (.slice ao stay stay) ((rowsOf g row (bC stay order)).take (stay+0)):=.inr ⟨htk,ao,by simp[rowsOf,bC]⟩;have ae5:=Ω ae4;have HB:=Ω hb;have HR:=Ω h4;have HM2:=Ω U;have H1:=Ω h1;have H2:=Ω h2;have HM3:=Ω Fw;have HNo:=Ω F;have hk0:(0:Int)<=(stay:Int):=by omega
 have hk1:(stay:Int)<=(mo:Int):=by omega
 have hk2:(stay:Int)<=(stay:Int):=by omega
 have hmo:mo<=9223372036854775807:=by unfold maxLen at U;exact U
 obtain⟨r0,r1,r2⟩:=h4.roots;obtain⟨a0,V,hr0,_⟩:=aF r0;obtain⟨a1,m1,hr1,_⟩:=aF r1;obtain⟨Z,m2,hr2,_⟩:=aF r2;have HR0:=Ω hr0;have HR1:=Ω hr1;have HR2:=Ω hr2;clear hb h1 h2 h3 h4 htk ae4 hs hord U Fw F hr0 hr1 hr2 r0 r1 r2
 go_enter aD.func191,Tryz.ntmps191
 go_wp2_with fail
 go_loopw [6,26] (fun v i wr=>∃k:Nat,k<=order.length/\i=υ ψ k/\TC wr B w.heap.size v ((rowsOf g row (bC stay order)).take (stay+k))/\ξ w.heap.size w wr) (fun _ i _=>order.length-(intOf i).toNat)
 case atStart=>exact⟨0,Nat.zero_le _,rfl,ae5.out,ω _ _⟩
 case round=>
  obtain⟨k,L,rfl,K,a⟩:=hrel;clear hc1 hcs0;by_cases r:k<order.length
  ·obtain⟨p,q,e1⟩:=ep r;obtain⟨gs,cs,e,_⟩:=W.out.2.2.2.1.form (by omega);obtain rfl:as0=Θ ⟨gs,0,Ψ⟩:=by injection e
   clear e;obtain⟨d1,d2,_,_,hgl⟩:=OV.at_ W.out.2.2.2.1 e1;obtain⟨A,_⟩:=HO.out.ok _ (List.mem_of_getElem? e1);obtain⟨bn,j,ar,mr,t0,t1,t2,t3,t4,t5⟩:=Dy HB.out H1.out H2.out HR.out A (by omega);have HT0:=Ω t0;clear t0;have f1:=(a.cell (p:=⟨gs,k*2,Ψ⟩) hgl).trans d1;have f2:=(a.cell (p:=⟨gs,k*2+1,Ψ⟩) hgl).trans d2;have HT1:=Ω t1;have HT2:=Ω t2;have HT5:=Ω t5;have E1:=Ω e1;have HTC:=Ω K;have hz:=a.size;clear t1 t2 t3 t5 e1 K d1 d2 A
   go_wp2_with fail
   refine(HT5.out _ (a.trans ((af wr _).mono hz))).mono ?_;rintro e w3 ⟨rfl,hb3⟩;have S:=a.trans (((af wr (φ #[υ ψ p,υ ψ q] 50)).mono hz).trans (hb3.mono (by simp;omega)));have q1:=(S.cell (p:=⟨bn,j*2,Ψ⟩) t4).trans HT1.out;have q2:=(S.cell (p:=⟨bn,j*2+1,Ψ⟩) t4).trans HT2.out;clear f1 f2;have hcl:(cellAt g (p,q)).2.length<=100000:=hvl _ (j9 (HO.out.ok _ (List.mem_of_getElem? E1.out)).1);have hz3:=S.size;have H:((rowsOf g row (bC stay order)).take (stay+k)).length<=1000000000:=by have:=List.length_take_le (stay+k) (rowsOf g row (bC stay order));omega
   go_wp2_with (at_builtin;refine tL rfl _ _ rfl B w.heap.size _ _ rfl (HTC.out.low (((af wr (φ #[υ ψ p,υ ψ q] 50)).trans (hb3.mono (by simp))).alloc (by have:=hb3.size;simp at this;omega) _)) ⟨w3.heap.size,0,Ψ⟩ _ ((cellAt g (p,q)).1,.slice ar (cellAt g (p,q)).2.length mr) rfl rfl (by simp[go_sem,Addr.add]) H (by simp;omega) ?_;intro v' w5 ho5 hb5)
   go_wp2_with fail
   go_roundw
   case rel=>exact⟨k+1,by omega,by go_num,.inl (by rw[zN E1.out,HT0.out];exact ho5),(S.alloc hz3 _).trans hb5⟩
   case measure=>simp[intOf];omega
  ·have M:k=order.length:=by omega
   subst M;obtain⟨w1,hw1⟩:∃w1,w1=wr:=⟨_,rfl⟩;subst hw1;have P:(rowsOf g row (bC stay order)).take (stay+order.length)=rowsOf g row (bC stay order):=List.take_of_length_le (by rw[nk,fo];exact Nat.le_refl _);rw[P]at K;have hrc:=K.rc hB;clear K P ae5;have hLl:(rowsOf g row (bC stay order)).length=stay+order.length:=by rw[nk,fo]
   obtain⟨av,G,hv,hvm,arm,_,_⟩:=id hrc;rw[hLl]at hv hvm;subst hv;have A:∀v∈order,zH g v:=fun v hv=>(HO.out.ok v hv).1
   have I:(∀v∈order,v.1=3)\/stay=0:=hst.elim (fun h=>.inl h.2) .inr;have hND:=oq (g:=g) (stay:=stay) HO.out.nodup I;have hKN:=BL (g:=g) (stay:=stay) HO.out.nodup I A;have hms:MS w w1 B b bs bm order (.slice av (stay+order.length) G) (rowsOf g row (bC stay order)) (gB stay order) row (fQ (List.map (lr order stay)) (bd g) (gB stay order) 0):=by rw[zM];exact⟨a.mono hB,hrc,(wA HR.out (fun k L=>IQ f A L)).low a,a.block b hbl,⟨a.block bs am4,qb.bK a,fun j h1 _ _=>a.block j h1⟩,W.out.2.2.2.2.of_block (a.block bm W.out.Q4.2)⟩
   have hzw:=a.size;have HMS:=Ω hms;have HND:=Ω hND;have z:=Ω hKN;have O:=Ω A;have ae7:=Ω hLl;clear hrc hms hND hKN A hLl r a hst I
   go_wp2_with fail
   go_loopw [41] (fun i wr=>∃k:Nat,k<=stay+order.length/\i=υ ψ k/\w1.heap.size<=wr.heap.size/\Hid (MS w wr B b bs bm order (.slice av (stay+order.length) G) (rowsOf g row (bC stay order)) (gB stay order) row (fQ (List.map (lr order stay)) (bd g) (gB stay order) k))) (fun i _=>stay+order.length-(intOf i).toNat)
   case atStart=>exact⟨0,Nat.zero_le _,rfl,Nat.le_refl _,HMS⟩
   case round=>
    obtain⟨k,L,rfl,hzx,u⟩:=hrel;clear HMS;by_cases r:k<stay+order.length
    ·obtain⟨d,ek⟩:∃d,(bC stay order)[k]?=Θ d:=⟨_,List.getElem?_eq_getElem (by rw[fo];exact r)⟩;have eK:(gB stay order)[k]?=Θ d:=by unfold gB;rw[List.getElem?_append_left (by rw[fo];exact r)];exact ek
     have eL:(rowsOf g row (bC stay order))[k]?=Θ ((cellAt g d).1,row d):=by simp[rowsOf,ek]
     obtain⟨f1,f2⟩:=jx dW (fun v=>υ ψ v.1) (fun v=>v.2) (fun _=>rfl) _ k _ eL;obtain⟨gv,mv2,e,_,hgv,_,_,hx⟩:=u.out.rc.cells (by rw[ae7.out];omega);rw[ae7.out]at e;obtain rfl:av=Θ ⟨gv,0,Ψ⟩:=by injection e
     clear e;have c1:=hx _ _ f1;have c2:=hx _ _ f2;have t:=List.mem_of_getElem? eK;have x:=u.out.kr.1 d t;rw[hV z.out eK]at x;have hkl:(bd g d).length<=100000:=by have hmk:=List.mem_of_getElem? ek;have h1:=jC O.out hmk;have h2:=hvl _ (j9 (IP f O.out hmk));simpa[bd,h1]using h2
     obtain⟨ar,mr,l,_⟩:=aF x;rw[l]at c2;have HOV:=Ω x;have C:=Ω l;have EK:=Ω eK;clear hx f1 f2 x l eL ek eK;have hbx:b<wr.heap.size:=by omega
     have hsx:bs<wr.heap.size:=by omega
     have hBx:B<=wr.heap.size:=by omega
     have R:=u.out.low (af wr (φ #[υ ψ (cellAt g d).1,.slice ar (bd g d).length mr] 76)) hBx hbx hsx
     go_wp2_with fail
     refine(uO _ B bs bm _ (.slice as0 order.length ms0) (bd g d) order stay (IU C.out (by have:=R.kr.1 d t;rwa[hV z.out EK.out]at this)) (R.hs.1.trans W.out.2.2.1) R.met (by omega) (by omega) (by omega) (by omega)).mono ?_;rintro e w4 ⟨rfl,N,D⟩
     go_wp2_with fail
     refine⟨⟨k+1,by omega,by go_num,?_,Ω ?_⟩,by simp[intOf];omega⟩
     ·have:=D.size;simp at this;omega
     ·rw[<-pZ z.out EK.out];have:=R.rename t (by rw[C.out];exact D) (IU C.out.symm N) HB.out W.out.2.2.1 (by simp;omega);rw[hV z.out EK.out];exact this
    ·have M:k=stay+order.length:=by omega
     subst M;have a:=u.out.hb.trans HB.out;have e2:wr.cell? ⟨b,2,Ψ⟩=Θ (.slice a0 g.roots.length V):=by simp[Δ,a,HR0.out]
     have e3:wr.cell? ⟨b,3,Ψ⟩=Θ (.slice a1 g.aA.length m1):=by simp[Δ,a,HR1.out]
     have e4:wr.cell? ⟨b,4,Ψ⟩=Θ (.slice Z g.done.length m2):=by simp[Δ,a,HR2.out]
     have hbx:b<wr.heap.size:=by omega
     have hsx:bs<wr.heap.size:=by omega
     have hBx:B<=wr.heap.size:=by omega
     clear a
     go_wp2_with fail
     go_region_held3 (fun w'=>w'.cell? ⟨b,2,Ψ⟩=Θ (.slice a0 g.roots.length V)/\w'.cell? ⟨b,3,Ψ⟩=Θ (.slice a1 g.aA.length m1)/\w'.cell? ⟨b,4,Ψ⟩=Θ (.slice Z g.done.length m2)) (go_keep) (fail)
     go_wp2_with fail
     clear e2 e3 e4;have T:ξ wr.heap.size wr ((wr.alloc (φ #[.slice a0 g.roots.length V,.slice Z g.done.length m2,.slice a1 g.aA.length m1] 23)).drew):=(af wr _).drew;have Y:((wr.alloc (φ #[.slice a0 g.roots.length V,.slice Z g.done.length m2,.slice a1 g.aA.length m1] 23)).drew).heap[wr.heap.size]?=Θ (φ #[.slice a0 g.roots.length V,.slice Z g.done.length m2,.slice a1 g.aA.length m1] 23 (0,0)):=Z4 wr _;have hM9:=u.out.low T hBx hbx hsx;have hz9:=T.size;generalize ((wr.alloc (φ #[.slice a0 g.roots.length V,.slice Z g.done.length m2,.slice a1 g.aA.length m1] 23)).drew)=w9 at T Y hM9 hz9⊢;have hL:∀j:Nat,j<3->∃aj mj d,(gB stay order)[stay+order.length+j]?=Θ d/\row d=.slice aj (bd g d).length mj/\(bd g d).length<=100000/\
      (∀X:χ,X.heap[wr.heap.size]?=Θ (φ #[.slice a0 g.roots.length V,.slice Z g.done.length m2,.slice a1 g.aA.length m1] 23 (0,0)) ->X.cell? ⟨wr.heap.size,j,Ψ⟩=Θ (.slice aj (bd g d).length mj)):=by
      have hat:∀j:Nat,(gB stay order)[stay+order.length+j]?=([(0,0),(0,2),(0,1)]:List HV)[j]?:=fun j=>by unfold gB;rw[List.getElem?_append_right (by rw[fo];omega),fo,Nat.add_sub_cancel_left]
      intro j E
      match j,E with
      |0,_=>exact⟨a0,V,(0,0),hat 0,HR0.out,hr,fun X e=>by simp[Δ,e];rfl⟩
      |1,_=>exact⟨Z,m2,(0,2),hat 1,HR2.out,hdl,fun X e=>by simp[Δ,e];rfl⟩
      |2,_=>exact⟨a1,m1,(0,1),hat 2,HR1.out,hwl,fun X e=>by simp[Δ,e];rfl⟩
     have HL:=Ω hL;have HM9:=Ω hM9;have HX9:=Ω Y;have aro:wr.heap.size<w9.heap.size:=(Ξ.1 Y).1;obtain⟨W2,hW2⟩:∃W2,W2=wr:=⟨_,rfl⟩;subst hW2;clear hL hM9 Y T u
     go_loopw [68] (fun i wr=>∃k:Nat,k<=3/\i=υ ψ k/\w9.heap.size<=wr.heap.size/\Hid (wr.heap[W2.heap.size]?=Θ (φ #[.slice a0 g.roots.length V,.slice Z g.done.length m2,.slice a1 g.aA.length m1] 23 (0,0)))/\Hid (MS w wr B b bs bm order (.slice av (stay+order.length) G) (rowsOf g row (bC stay order)) (gB stay order) row (fQ (List.map (lr order stay)) (bd g) (gB stay order) (stay+order.length+k)))) (fun i _=>3-(intOf i).toNat)
     case atStart=>exact⟨0,Nat.zero_le _,rfl,Nat.le_refl _,HX9,HM9⟩
     case round=>
      obtain⟨k,L,rfl,hzx,HXr,u⟩:=hrel;clear HM9 HX9;by_cases r:k<3
      ·obtain⟨aj,mj,d,eK,l,hkl,hcx⟩:=HL.out k r;have c1:=hcx wr HXr.out;have t:=List.mem_of_getElem? eK;have x:=u.out.kr.1 d t;rw[hV z.out eK,l]at x;have hBr:B<=wr.heap.size:=by omega
       have hx3:W2.heap.size<wr.heap.size:=by omega
       have HOV:=Ω x;have C:=Ω l;have EK:=Ω eK;clear hcx x l eK
       go_wp2_with fail
       refine(uO _ B bs bm _ (.slice as0 order.length ms0) (bd g d) order stay HOV.out (u.out.hs.1.trans W.out.2.2.1) u.out.met (by omega) (by omega) (by omega) (by omega)).mono ?_;rintro e w4 ⟨rfl,N,D⟩
       go_wp2_with fail
       refine⟨⟨k+1,by omega,by go_num,?_,Ω ?_,Ω ?_⟩,by simp[intOf];omega⟩
       ·have:=D.size;omega
       ·exact(D.block _ hx3 (Ne.symm (qd HOV.out HXr.out (by decide)))).trans HXr.out
       ·rw[<-Nat.add_assoc,<-pZ z.out EK.out];have:=u.out.rename t (by rw[C.out];exact D) (IU C.out.symm N) HB.out W.out.2.2.1 hBr;rw[hV z.out EK.out];exact this
      ·have M:k=3:=by omega
       subst M;have a:=u.out.hb.trans HB.out;have e0:wr.cell? ⟨b,0,Ψ⟩=Θ n:=by simp[Δ,a]
       have e1:wr.cell? ⟨b,1,Ψ⟩=Θ (.slice ao g.old.length mo):=by simp[Δ,a]
       have e5:wr.cell? ⟨b,5,Ψ⟩=Θ m:=by simp[Δ,a]
       have q0:wr.frozen? ⟨b,0,Ψ⟩=θ:=by simp[Z7,a]
       have q1:wr.frozen? ⟨b,1,Ψ⟩=θ:=by simp[Z7,a]
       have q5:wr.frozen? ⟨b,5,Ψ⟩=θ:=by simp[Z7,a]
       have HBW:=Ω a;clear a r
       go_wp2_with fail
       go_end0;have s1:=heap_setCell_same (i:=1) (v:=.slice av (stay+order.length) G) HBW.out;have s2:=heap_setCell_same (i:=0) (v:=ι Ψ 0 0) s1;have s3:=heap_setCell_same (i:=5) (v:=ι Ψ 0 0) s2;have y:∀g':Nat,g'≠b->(((wr.setCell ⟨b,1,Ψ⟩ (.slice av (stay+order.length) G)).setCell ⟨b,0,Ψ⟩ (ι Ψ 0 0)).setCell ⟨b,5,Ψ⟩ (ι Ψ 0 0)).heap[g']?=wr.heap[g']?:=fun g' h=>by rw[μ _ _ _ _ h,μ _ _ _ _ h,μ _ _ _ _ h]
       have H:stay+order.length+3=(gB stay order).length:=by simp[gB,fo]
       have Q:=u.out.kr;rw[H]at Q;refine⟨rfl,IS hBb (by simpa using s3) (u.out.rc.below fun g' cur hg'=>y g' (by rintro rfl;rw[HBW.out]at hg';cases hg')) ⟨fun k L=>aS (Q.1 k L) fun g' e=>y g' (by rintro rfl;exact qd (Q.1 k L) HBW.out (by decide) e),Q.2⟩ HND.out f O.out (fun j E=>⟨(HJ.out j E).1,fun k L=>(HJ.out j E).2 k (IQ f O.out L)⟩),?_,?_,fun j c E=>(y j (by rintro rfl;rw[HB.out]at E;cases E)).trans (u.out.hs.2.1 j c E),fun j E r=>(y j (HJ.out j E).1).trans (u.out.hs.2.2 j r (HJ.out j E).1 fun k L=>(HJ.out j E).2 k (IQ f O.out L))⟩
       ·exact((u.out.below.setCell (p:=⟨b,1,Ψ⟩) hBb _).setCell (p:=⟨b,0,Ψ⟩) hBb _).setCell (p:=⟨b,5,Ψ⟩) hBb _
       ·refine(y bs ?_).trans u.out.hs.1;rintro rfl;have:=W.out.2.2.1;rw[HB.out]at this;cases this
theorem aX{P:Program}{w:χ}{ops:Array Oper}{o:Oper}{a:Act}{K:Act->χ->Prop}{Q:Exit->Act->χ->Prop}{E:Prop}(hgd:o.guard=Ψ)(s x:Operand)(t:TypeId)
 (ho:o.op=.call {callee:=.builtin .append,args:=#[s,x],argTypes:=#[t,t]}) (v v2:ο) (hs:a.eval s=v) (hx:a.eval x=v2) (R:ο->χ->Prop)
 (hrun:∃v' w',(Z2 #[t,t] o.type #[v,v2]).run P w=.ok v' w'/\R v' w') (h:∀v' w',R v' w'->K (a.put o.dst v') w'):
 if Region.wanted o (yielded ops a.tmps)=Z8 then Oper.wp P o a w K Q else E:=by
 have hw:Region.wanted o (yielded ops a.tmps)=Z8:=by simp[Region.wanted,hgd]
 rw[if_pos hw];obtain⟨v',w',c,b⟩:=hrun;unfold Oper.wp execOp;simp only[ho,resolve,invoke,builtin,Z9,ZX,ζ,List.map_toArray,List.map_cons,List.map_nil,hs,hx,c];exact h v' w' b
theorem tN{w:χ}{ty:TypeId}{a:Option Addr}{n:Nat}{l l2:List HV}{v2:ο}(h:eI w (.slice a n n) l)(h2:eI w v2 l2)(hl:l.length<=1000000)(hl2:l2.length<=1000000):
 ∃v' w',(Z2 #[23,23] ty #[.slice a n n,v2]).run aD.prog w=.ok v' w'/\(eI w' v' (l++l2)/\ξ w.heap.size w w'/\∃a' m',v'=.slice a' (l++l2).length m'):=by
 obtain⟨v,hi,q,r,s⟩:=info_parts nh;obtain⟨a',m',e,H,I,y⟩:=id h;cases e
 obtain⟨x,m2,rfl,F,G,E⟩:=id h2;rcases Nat.eq_zero_or_pos l2.length with h0|h0
 ·have d:l2=[]:=List.eq_nil_of_length_eq_zero h0;subst d;refine⟨.slice a l.length l.length,w,?_,by simpa using h,ω _ _,a,l.length,by simp⟩;rcases x with _|x
  ·simp[Z2,κ lx,sizeOf,typeInfo,hi,Builtin.lenOf,Builtin.firstCells,storeCells];cases a<;>simp
  ·have C:=run_firstCells_some (P:=aD.prog) w v.size 0 x 0 m2 [] (by simp) (by simp);simp[Z2,κ lx,sizeOf,typeInfo,hi,Builtin.lenOf,storeCells,C];cases a<;>simp[storeCells]
 ·obtain⟨A,z,rfl,D,g⟩:=E h0;rcases a with _|a
  ·have d:l=[]:=by
    rcases Nat.eq_zero_or_pos l.length with m|m
    ·exact List.eq_nil_of_length_eq_zero m
    ·obtain⟨_,_,e,_⟩:=y m;cases e
   subst d;obtain⟨v',w',f,r1,r2,_⟩:=run_append_own (P:=aD.prog) w w.heap.size 23 ty 50 v _ 2 16 lx hi q r s rfl (by decide) (ι Ψ 0 0) 0 [] (World.ownsRow_nil w _ 50 2) ⟨A,z,Ψ⟩ l2.length m2 (l2.flatMap lU) (fx l2) (zt g) (V1 l2) (by unfold maxLen;omega) (by omega) (Nat.le_refl _);have c:OV w' w.heap.size v' l2:=by unfold OV;simpa using r1
   obtain⟨a',m',i,_⟩:=aF c;exact⟨v',w',f,by simpa using c.reads,(ω _ w).grown r2 (Nat.le_refl _) (fun k e=>by cases e),a',m',by simpa using i⟩
  ·have p:∀j u,(l.flatMap lU)[j]?=Θ u->w.cell? (a.add j)=Θ u:=by
    intro j u B;rcases Nat.eq_zero_or_pos l.length with m|m
    ·have:l=[]:=List.eq_nil_of_length_eq_zero m;subst this;simp at B
    ·obtain⟨b,o,e,hb,t⟩:=y m;cases e
     exact zt t j u B
   obtain⟨v',w',f,r1,r2⟩:=run_append_arg_grows (P:=aD.prog) w 23 ty 50 v _ 2 16 lx hi q r s rfl (by decide) a l.length l.length (l.flatMap lU) (fx l) p ⟨A,z,Ψ⟩ l2.length m2 (l2.flatMap lU) (fx l2) (zt g) (by omega) (by unfold maxLen;omega) (by omega);have c:OV w' w.heap.size v' (l++l2):=by unfold OV;rw[List.flatMap_append,List.length_append];exact r1
   obtain⟨a',m',i,_⟩:=aF c;exact⟨v',w',f,c.reads,(ω _ w).grown r2 (Nat.le_refl _) (fun k e=>by cases e),a',m',i⟩
section
variable(w:χ)(B b:Nat)
structure im(g:GH):Prop where
 cells:jB g
 cJ:∀v∈cJ g,zI g v
 news:g.new.length<=400
 bw:g.old.length<=400
 roots:g.roots.length<=10000
 aA:g.aA.length<=10000
 done:g.done.length<=10000
 eT:∀c∈g.new++g.old,c.2.length<=100
 marks:∀n∈g.marked,0<=n/\n<g.old.length
 marked:g.marked.length<=1000
theorem im.pp{g:GH}(h:im g):(Md.cJ g).length<=100000:=by have:=h.roots;have:=h.aA;have:=h.done;simp[Md.cJ];omega
theorem sD{g:GH}(h:im g):∀(l:List Int),(∀n∈l,0<=n/\n<g.old.length) ->(l.flatMap fun n=>(g.old.getD n.toNat (0,[])).2).length<=l.length*100
 |[],_=>Nat.le_refl _
 |n::l,hm=>by
  have ih:=sD h l fun x hx=>hm x (List.mem_cons_of_mem _ hx)
  have h1:=hm n List.mem_cons_self;have h2:n.toNat<g.old.length:=by omega
  have h3:=h.eT (g.old[n.toNat]) (List.mem_append_right _ (List.getElem_mem h2));rw[List.flatMap_cons,List.length_append,List.length_cons];have h4:(g.old.getD n.toNat (0,[])).2.length<=100:=by rw[List.getD,List.getElem?_eq_getElem h2];exact h3
  omega
theorem im.more{g:GH}(h:im g):(c6 g).length<=100000:=by have:=sD h g.marked h.marks;have:=h.marked;unfold c6;omega
theorem im.zO{g:GH}(h:im g):∀v∈c6 g,zI g v:=by
 intro v a;obtain⟨n,c,a⟩:=List.mem_flatMap.1 a;have d:=h.marks n c;have b:n.toNat<g.old.length:=by omega
 rw[List.getD,List.getElem?_eq_getElem b]at a;exact h.cells _ (List.mem_append_right _ (List.getElem_mem b)) v a
theorem EW{g:GH}{l:List Int}{n:Int}:(l++[n]).flatMap (fun n=>(g.old.getD n.toNat (0,[])).2)=l.flatMap (fun n=>(g.old.getD n.toNat (0,[])).2)++(g.old.getD n.toNat (0,[])).2:=by simp
theorem dv{w:χ}:eI w (ι Ψ 0 0) []:=⟨Ψ,0,rfl,Nat.le_refl _,by decide,fun h=>absurd h (Nat.lt_irrefl 0)⟩
theorem bS.less{w:χ}{B B' bs bm:Nat}{so:ο}{l:List HV}(h:bS w B bs bm so l)(hB:B'<=B):bS w B' bs bm so l:=⟨Nat.le_trans hB h.1,Nat.le_trans hB h.2.1,h.2.2.1,h.2.2.2.1.less hB,h.2.2.2.2⟩
theorem eI.tight{w:χ}{a:Option Addr}{n m:Nat}{l:List HV}(h:eI w (.slice a n m) l):n=l.length/\eI w (.slice a n n) l:=by
 obtain⟨d,g,e,f,c,b⟩:=h;cases e
 exact⟨rfl,a,l.length,rfl,Nat.le_refl _,by omega,b⟩
theorem BN(g:GH)(hg:dm w B b g)(hp:im g):
 ε aD.prog 307 #[.agg #[],Γ (Θ ⟨b,0,Ψ⟩)] w fun e w'=>(∃bs bm so,e=.returned (.tuple #[Γ (Θ ⟨bs,0,Ψ⟩),υ ψ 0])/\bS w' w.heap.size bs bm so (bV g co []))/\ξ w.heap.size w w':=by
 have h:=Ω hg;have a:=Ω hp;clear hg hp
 go_enter aD.func307,Tryz.ntmps307
 go_wp2_with fail
 have d:=af w (φ #[] 119);refine(po 168 co (.inr ⟨rfl,rfl⟩) _ B b g _ [] (h.out.below d) dv a.out.cells a.out.cJ (fun v i=>by cases i) (by simp) (by have:=a.out.news;have:=a.out.bw;omega) a.out.pp (fun c hc=>by have:=a.out.eT c hc;omega)).mono ?_;rintro e j ⟨⟨bs,bm,so,rfl,hs⟩,f⟩
 go_wp2_with fail
 go_ret2
 exact⟨⟨bs,bm,so,rfl,hs.less (by simp)⟩,d.trans (f.mono (by simp))⟩
theorem zP(g:GH)(hg:dm w B b g)(hp:im g):
 ε aD.prog 309 #[.agg #[],Γ (Θ ⟨b,0,Ψ⟩)] w fun e w'=>(∃bs bm so,e=.returned (.tuple #[Γ (Θ ⟨bs,0,Ψ⟩),υ ψ 0])/\bS w' w.heap.size bs bm so (bV g co []))/\ξ w.heap.size w w':=by
 have h:=Ω hg;have a:=Ω hp;clear hg hp
 go_enter aD.func309,Tryz.ntmps309
 go_wp2_with fail
 have d:=af w (φ #[] 120);refine(po 168 co (.inr ⟨rfl,rfl⟩) _ B b g _ [] (h.out.below d) dv a.out.cells a.out.cJ (fun v i=>by cases i) (by simp) (by have:=a.out.news;have:=a.out.bw;omega) a.out.pp (fun c hc=>by have:=a.out.eT c hc;omega)).mono ?_;rintro e j ⟨⟨bs,bm,so,rfl,hs⟩,f⟩
 go_wp2_with fail
 go_ret2
 exact⟨⟨bs,bm,so,rfl,hs.less (by simp)⟩,d.trans (f.mono (by simp))⟩
theorem qe(g:GH)(hg:dm w B b g)(hp:im g):
 ε aD.prog 83 #[.agg #[],Γ (Θ ⟨b,0,Ψ⟩)] w fun e w'=>(∃bs bm so,e=.returned (.tuple #[Γ (Θ ⟨bs,0,Ψ⟩),υ ψ (g.old.length:Int)])/\bS w' w.heap.size bs bm so (bV g dy (c6 g)))/\ξ w.heap.size w w':=by
 have HG:=Ω hg;have f:=Ω hp;obtain⟨n,o,m,row,hBb,hb,R,U,V,h4⟩:=hg;have q:=(Ξ.1 hb).1;obtain⟨am,mm,O,hm1,hm2,Q⟩:=V.reads;have P:w.cell? ⟨b,5,Ψ⟩=Θ (.slice am g.marked.length mm):=by simp[Δ,hb,O]
 obtain⟨ao,mo,F,ho1,ho2,_⟩:=U.reads h4.Du;have j:w.cell? ⟨b,1,Ψ⟩=Θ (.slice ao g.old.length mo):=by simp[Δ,hb,F]
 have E:=Ω j;have HM:=Ω Q;have HB:=Ω hb;have H1:=Ω R;have H2:=Ω U;have H4:=Ω h4;clear hp hb R U V h4 Q F O j;have S:=af w (φ #[] 102)
 go_enter aD.func83,Tryz.ntmps83
 go_wp2_with fail
 have M:=(S.cell (p:=⟨b,5,Ψ⟩) q).trans P
 go_loopw [6,15] (fun v i wr=>∃k:Nat,k<=g.marked.length/\i=υ ψ k/\eI wr v ((g.marked.take k).flatMap fun n=>(g.old.getD n.toNat (0,[])).2)/\ξ w.heap.size w wr) (fun _ i _=>g.marked.length-(intOf i).toNat)
 case atStart=>exact⟨0,Nat.zero_le _,rfl,dv,S⟩
 case round=>
  obtain⟨k,hk,rfl,z,a⟩:=hrel;clear P M;by_cases Y:k<g.marked.length
  ·obtain⟨ba,oa,e,hba,N⟩:=HM.out (by omega);cases e
   obtain⟨n0,e1⟩:=lw Y;have d1:=(N.below a hba) k n0 e1;obtain⟨I,hn1⟩:=f.out.marks n0 (List.mem_of_getElem? e1);obtain⟨i,rfl⟩:=η I;have hi:i<g.old.length:=by omega
   obtain⟨kd,s,D⟩:=cQ hi;have r:=bH (row:=row) (kind:=4) D;obtain⟨gn,mn,e,_,W,_,_,T⟩:=H2.out.cells (by rw[aT];omega);subst e;have j:wr.cell? ⟨b,1,Ψ⟩=Θ (ι (Θ ⟨gn,0,Ψ⟩) g.old.length mn):=by have:=HB.out;rw[aT]at this;rw[a.cell (p:=⟨b,1,Ψ⟩) q];simp[Δ,this]
   obtain⟨f1,f2⟩:=jx dW (fun v=>υ ψ v.1) (fun v=>v.2) (fun _=>rfl) _ i _ r;obtain⟨ky,kv⟩:=j6 D;have d:=(H4.out.1 _ ky).reads;rw[kv]at d;dsimp only at d;obtain⟨ar,mr,hr,_⟩:=id d;rw[hr]at d;have c2:wr.cell? ⟨gn,i*2+1,Ψ⟩=Θ (.slice ar s.length mr):=by rw[a.cell (p:=⟨gn,i*2+1,Ψ⟩) W,<-hr];exact T _ _ f2
   have hvl:s.length<=100:=f.out.eT (kd,s) (List.mem_append_right _ (List.mem_of_getElem? D));have hLl:((g.marked.take k).flatMap fun n=>(g.old.getD n.toNat (0,[])).2).length<=100000:=by have R:=sD f.out (g.marked.take k) (fun x T=>f.out.marks x (List.mem_of_mem_take T));have U:=List.length_take_le k g.marked;have V:=f.out.marked;omega
   have A:(g.old.getD (Int.toNat (i:Int)) (0,[])).2=s:=by simp[List.getD,D]
   have G:((g.marked.take (k+1)).flatMap fun n=>(g.old.getD n.toNat (0,[])).2)=((g.marked.take k).flatMap fun n=>(g.old.getD n.toNat (0,[])).2)++s:=by rw[bW e1,EW,A]
   have J:=Ω G;obtain⟨av,mv,rfl,t,hv2,_⟩:=id z;have HV:=Ω z;have HVS:=Ω d;have hi0:(0:Int)<=(i:Int):=by omega
   have X:(0:Int)<=(((g.marked.take k).flatMap fun n=>(g.old.getD n.toNat (0,[])).2).length:Int):=by omega
   have Z:(((g.marked.take k).flatMap fun n=>(g.old.getD n.toNat (0,[])).2).length:Int)<=(mv:Int):=by omega
   clear N e1 I r f1 f2 d hr z G A D T kv ky;generalize ((g.marked.take k).flatMap fun n=>(g.old.getD n.toNat (0,[])).2)=L at J HV hLl X Z t⊢
   go_wp2_with fail
   go_region_law ((refine aX rfl _ _ 23 (by rfl) (.slice av L.length L.length) (.slice ar s.length mr) (by rfl) (by rfl) _ (tN (l:=L) (l2:=s) ((HV.out.tight.2).below (ω _ wr).drew) (HVS.out.below (a.trans ((ω _ wr).drew.mono a.size))) (by omega) (by omega)) ?_;intro v' w1 R))
   all_goals
    obtain⟨k1,k2,_⟩:=R
    go_wp2_with fail
    go_roundw
    case rel=>exact⟨k+1,by omega,by go_num,by rw[J.out];exact k1,a.trans (((ω _ wr).drew.trans k2).mono a.size)⟩
    case measure=>simp[intOf];omega
  ·have hke:k=g.marked.length:=by omega
   subst hke;rw[List.take_of_length_le (Nat.le_refl _)]at z;have y:eI wr _ (c6 g):=z;clear z;have H:=f.out.more;have K:=Ω f.out.zO;obtain⟨av,mv,rfl,t,hv2,_⟩:=id y;have HV:=Ω y;have j:=(a.cell (p:=⟨b,1,Ψ⟩) q).trans E.out;clear y;obtain⟨ms,u⟩:∃ms,ms=c6 g:=⟨_,rfl⟩;rw[<-u]at HV K t H⊢;have HMS:=Ω u;clear u
   go_wp2_with fail
   have h:=a.trans ((ω _ wr).drew.mono a.size)
   go_region_held3 (fun w'=>w'.cell? ⟨b,1,Ψ⟩=Θ (.slice ao g.old.length mo)) (first|assumption|go_keep)
    (first|(go_at_call 150;(refine(po 151 dy (.inl ⟨rfl,rfl⟩) _ B b g _ ms (HG.out.below h) (HV.out.below (ω _ wr).drew) f.out.cells f.out.cJ K.out H (by have:=f.out.news;have:=f.out.bw;omega) f.out.pp (fun c hc=>by have:=f.out.eT c hc;omega)).mono ?_);rintro e w3 ⟨⟨bs,bm,so,rfl,hs⟩,hb3⟩;have C:=h.trans (hb3.mono h.size);have hc3:=(C.cell (p:=⟨b,1,Ψ⟩) q).trans E.out))
   go_wp2_with fail
   go_ret2
   exact⟨⟨bs,bm,so,rfl,by rw[<-HMS.out];exact hs.less h.size⟩,C⟩
end
section
variable{c:Array ο}{b:Nat}(w:χ){J:Nat->Prop}(g:GH){B:Nat}
def cq(J:Nat->Prop)(B b:Nat)(g:GH)(s:uH)(w:χ)(e:Ending)(w':χ):Prop:=
 match Md.collect s g with
 |none=>e=.returned (.tuple #[υ ψ 0,.bool θ])/\cR w' B b g J/\ξ B w w'/\qb w w'/\∀j,J j->j<w.heap.size->w'.heap[j]?=w.heap[j]?
 |some (n,g')=>e=.returned (.tuple #[υ ψ (n:Int),.bool Z8])/\cR w' B b g' J/\ξ B w w'/\qb w w'/\∀j,J j->j<w.heap.size->w'.heap[j]?=w.heap[j]?
theorem cF{w:χ}{e:TypeId}{size n:Nat}{v:ο}{xs:List ο}{t:TypeId}{fr:Nat×Nat}(ho:w.ownsRow B e size v n xs)(hb:w.heap[b]?=Θ (.cells c t fr))(ht:t≠e):v.ownBlock≠Θ b:=by
 intro h;rcases ho with⟨_,⟨rfl,_⟩|⟨g,d,a,rfl,_,f,_⟩⟩
 ·cases h
 ·cases h
  rw[f]at hb;cases hb
  exact ht rfl
theorem cR.ne{w:χ}{j:Nat}{g:GH}(h:cR w B b g J)(hj:J j):j≠b:=by obtain⟨n,o,m,row,i,c,f,d,k,e,a⟩:=h;exact(a j hj).1
theorem cR.copy{w:χ}{b2:Nat}{g:GH}(h:cR w B b2 g J)(hJb:∀j,J j->j≠b)(hb:w.heap[b]?=Θ (.cells c 114 (0,0)))(hBb:B<=b):
 ∃a0 n0 m0 a1 n1 m1 a2 n2 m2 a3 n3 m3 a4 n4 m4 a5 n5 m5,w.heap[b2]?=Θ (φ #[.slice a0 n0 m0,.slice a1 n1 m1,.slice a2 n2 m2,.slice a3 n3 m3,.slice a4 n4 m4,.slice a5 n5 m5] 114 (0,0))/\
  ∀w':χ,w'.heap[b]?=Θ (φ #[.slice a0 n0 m0,.slice a1 n1 m1,.slice a2 n2 m2,.slice a3 n3 m3,.slice a4 n4 m4,.slice a5 n5 m5] 114 (0,0)) ->(∀k,k≠b->w'.heap[k]?=w.heap[k]?) ->cR w' B b g J:=by
 obtain⟨n,o,m,row,H,p,t,r,l,e,D⟩:=h;obtain⟨r0,r1,r2⟩:=e.roots;obtain⟨G,E,x,_⟩:=id t;obtain⟨C,A,v,_⟩:=id r;obtain⟨z,F,u,_⟩:=aF l;obtain⟨a0,m0,q,_⟩:=aF r0;obtain⟨a1,m1,e1,_⟩:=aF r1;obtain⟨a2,m2,e2,_⟩:=aF r2;refine⟨G,_,E,C,_,A,a0,_,m0,a1,_,m1,a2,_,m2,z,_,F,by rw[p,x,v,u,q,e1,e2],fun w' f a=>?_⟩;refine⟨n,o,m,row,hBb,by rw[f,x,v,u,q,e1,e2],t.below fun g i d=>a g (by rintro rfl;rw[hb]at d;cases d),r.below fun g i d=>a g (by rintro rfl;rw[hb]at d;cases d),aS l fun g d=>a g (by rintro rfl;exact cF l hb (by decide) d),⟨fun k s=>aS (e.1 k s) fun g d=>a g (by rintro rfl;exact cF (e.1 k s) hb (by decide) d),e.2⟩,fun j y=>⟨hJb j y,(D j y).2⟩⟩
theorem dm.obj{w:χ}{g:GH}(h:dm w B b g):B<=b/\b<w.heap.size/\∃c,w.heap[b]?=Θ (.cells c 114 (0,0)):=by obtain⟨n,o,m,row,a,hb,_⟩:=h;exact⟨a,(Ξ.1 hb).1,_,hb⟩
theorem wD{w:χ}{v0 v1 v2 v3 v4 v5:ο}(hb:w.heap[b]?=Θ (.cells c 114 (0,0)))(hc:c.size=6):
 ((((((w.setCell ⟨b,0,Ψ⟩ v0).setCell ⟨b,1,Ψ⟩ v1).setCell ⟨b,2,Ψ⟩ v2).setCell ⟨b,3,Ψ⟩ v3).setCell ⟨b,4,Ψ⟩ v4).setCell ⟨b,5,Ψ⟩ v5).heap[b]?=Θ (φ #[v0,v1,v2,v3,v4,v5] 114 (0,0))/\
 ∀k,k≠b->((((((w.setCell ⟨b,0,Ψ⟩ v0).setCell ⟨b,1,Ψ⟩ v1).setCell ⟨b,2,Ψ⟩ v2).setCell ⟨b,3,Ψ⟩ v3).setCell ⟨b,4,Ψ⟩ v4).setCell ⟨b,5,Ψ⟩ v5).heap[k]?=w.heap[k]?:=by
 constructor
 ·have h:=heap_setCell_same (i:=5) (v:=v5) (heap_setCell_same (i:=4) (v:=v4) (heap_setCell_same (i:=3) (v:=v3) (heap_setCell_same (i:=2) (v:=v2) (heap_setCell_same (i:=1) (v:=v1) (heap_setCell_same (i:=0) (v:=v0) hb)))));rw[h];clear h;obtain⟨l⟩:=c;have d:l.length=6:=hc;clear hc hb;rcases l with _|⟨x0,_|⟨x1,_|⟨x2,_|⟨x3,_|⟨x4,_|⟨x5,_|⟨x6,l⟩⟩⟩⟩⟩⟩⟩
  all_goals first
   |(exfalso;simp at d;done)
   |rfl
 ·intro k a;rw[μ _ _ _ _ a,μ _ _ _ _ a,μ _ _ _ _ a,μ _ _ _ _ a,μ _ _ _ _ a,μ _ _ _ _ a]
theorem mH:Md.collect .minor g=if 32<g.old.length+(bV g dy (c6 g)).length then Ψ else Θ ((bV g dy (c6 g)).length,Md.move g (bV g dy (c6 g)) g.old.length):=rfl
theorem ou:Md.collect .full g=if 32<(bV g co []).length then Ψ else Θ ((bV g co []).length,Md.move g (bV g co []) 0):=by show(if 32<0+_ then _ else _)=_;rw[Nat.zero_add];rfl
theorem mI:Md.collect .major g=if 32<(bV (iF g) co []).length then Ψ else Θ ((bV (iF g) co []).length,Md.move (iF g) (bV (iF g) co []) 0):=by show(if 32<0+_ then _ else _)=_;rw[Nat.zero_add];rfl
theorem IV:(Z3 (.iface 102 (.agg #[])) 171 120 Z8).run aD.prog w=.ok (.tuple #[.agg #[],.bool θ]) w:=by kernel_rfl
theorem Oa:(Z3 (.iface 119 (.agg #[])) 171 120 Z8).run aD.prog w=.ok (.tuple #[.agg #[],.bool θ]) w:=by kernel_rfl
theorem IW:(Z3 (.iface 120 (.agg #[])) 171 120 Z8).run aD.prog w=.ok (.tuple #[.agg #[],.bool Z8]) w:=by kernel_rfl
theorem IX:(ZS 463 102 (.agg #[]) "caracole/gc.plan").run aD.prog w=.ok (83,.agg #[]) w:=by kernel_rfl
theorem IY:(ZS 463 102 (.agg #[]) "caracole/gc.sort").run aD.prog w=.ok (306,.agg #[]) w:=by kernel_rfl
theorem Ob:(ZS 463 119 (.agg #[]) "caracole/gc.plan").run aD.prog w=.ok (307,.agg #[]) w:=by kernel_rfl
theorem IZ:(ZS 463 120 (.agg #[]) "caracole/gc.plan").run aD.prog w=.ok (309,.agg #[]) w:=by kernel_rfl
theorem I0:(ZS 463 120 (.agg #[]) "caracole/gc.sort").run aD.prog w=.ok (310,.agg #[]) w:=by kernel_rfl
theorem lz(B b:Nat)(g:GH)(hg:cR w B b g J)(hp:im g)(hB:B<=w.heap.size):
 ε aD.prog 144 #[Γ (Θ ⟨b,0,Ψ⟩),.iface 102 (.agg #[])] w (cq J B b g .minor w):=by
 have N:=Ω hg;have m:=Ω hp;clear hg hp;have S:=IV;have U:=IX
 go_enter aD.func144,Tryz.ntmps144
 go_wp2_with fail
 clear S U;have K:=af w (φ #[] 120);refine(qe _ B b g (N.out.own.below K) m.out).mono ?_;rintro e w3 ⟨⟨M,bm,so,rfl,hs⟩,T⟩;obtain⟨a,k⟩:∃o,o=bV g dy (c6 g):=⟨_,rfl⟩;rw[<-k]at hs;have s:c9 g dy a:=by rw[k];exact c9.bV (.inl rfl) m.out.cells m.out.cJ m.out.zO
 have d:=K.trans (T.mono (by simp));obtain⟨A,E,G,hsm,N',_⟩:=aF hs.2.2.2.1;have D:w3.cell? ⟨M,0,Ψ⟩=Θ (.slice A a.length E):=by simp[Δ,hs.2.2.1,G]
 have hol:=s.len;have hn1:=m.out.news;have hn2:=m.out.bw;have HO:=Ω k;have HK:=Ω s;have HS:=Ω hs;have C:=N.out.below d;have y:=Ω C;clear k s hs G C;by_cases r:32<g.old.length+a.length
 ·have t:(32:Int)<(g.old.length:Int)+(a.length:Int):=by omega
  go_wp2_with fail
  go_ret2
  have R:Md.collect .minor g=Ψ:=by rw[mH,<-HO.out,if_pos r]
  unfold cq;rw[R];exact⟨rfl,y.out,d.mono hB,qb.bK d,fun j _ n=>d.block j n⟩
 ·have t:¬(32:Int)<(g.old.length:Int)+(a.length:Int):=by omega
  go_wp2_with fail
  refine(BM w3 B b _ M bm so g dy a g.old.length y.out HS.out HK.out (.inl ⟨rfl,fun v hv=>by have:=(HK.out.ok v hv).2;simpa[dy]using this⟩) (Nat.le_trans hB d.size) (by omega) (fun c hc=>by have:=m.out.eT c hc;omega) (by have:=m.out.roots;omega) (by have:=m.out.aA;omega) (by have:=m.out.done;omega)).mono ?_;rintro e w4 ⟨rfl,x,I,z,H,F⟩;have hcs:w4.cell? ⟨M,0,Ψ⟩=Θ (.slice A a.length E):=by have:=D;simp only[Δ]at this⊢;rw[z];exact this
  obtain⟨h,hbl,c,u⟩:=x.own.obj;obtain⟨a0,W,m0,a1,n1,m1,a2,n2,m2,a3,n3,m3,a4,n4,Y,a5,Z,X,q,l⟩:=x.copy (fun j L=>N.out.ne L) u h;have e0:w4.cell? ⟨b,0,Ψ⟩=Θ (.slice a0 W m0):=by simp[Δ,q]
  have e1:w4.cell? ⟨b,1,Ψ⟩=Θ (.slice a1 n1 m1):=by simp[Δ,q]
  have e2:w4.cell? ⟨b,2,Ψ⟩=Θ (.slice a2 n2 m2):=by simp[Δ,q]
  have e3:w4.cell? ⟨b,3,Ψ⟩=Θ (.slice a3 n3 m3):=by simp[Δ,q]
  have e4:w4.cell? ⟨b,4,Ψ⟩=Θ (.slice a4 n4 Y):=by simp[Δ,q]
  have e5:w4.cell? ⟨b,5,Ψ⟩=Θ (.slice a5 Z X):=by simp[Δ,q]
  have f:∀i,w4.frozen? ⟨b,i,Ψ⟩=θ:=fun i=>by simp[Z7,q]
  have f0:=f 0;have f1:=f 1;have f2:=f 2;have f3:=f 3;have f4:=f 4;have f5:=f 5;have hne:M≠b:=by rintro rfl;have:=HS.out.2.2.1;obtain⟨_,_,c',Q⟩:=y.out.own.obj;rw[Q]at this;cases this
  have HC:=Ω l;have P:=Ω ((qb.bK d).trans H);have V:=Ω (And.intro F u);clear H F;have H2:=Ω q;have H4:=Ω I;clear f l q u x I z D
  go_wp2_with fail
  go_ret2
  obtain⟨k1,O⟩:=wD (v0:=.slice a0 W m0) (v1:=.slice a1 n1 m1) (v2:=.slice a2 n2 m2) (v3:=.slice a3 n3 m3) (v4:=.slice a4 n4 Y) (v5:=.slice a5 Z X) H2.out rfl;have R:Md.collect .minor g=Θ (a.length,Md.move g a g.old.length):=by rw[mH,<-HO.out,if_neg r]
  unfold cq;rw[R];exact⟨rfl,HC.out _ k1 O,(d.mono hB).trans ((((((H4.out.setCell (p:=⟨b,0,Ψ⟩) h _).setCell (p:=⟨b,1,Ψ⟩) h _).setCell (p:=⟨b,2,Ψ⟩) h _).setCell (p:=⟨b,3,Ψ⟩) h _).setCell (p:=⟨b,4,Ψ⟩) h _).setCell (p:=⟨b,5,Ψ⟩) h _),P.out.trans (qb.IT H2.out O),fun j L n=>(O j (N.out.ne L)).trans ((V.out.1 j L (Nat.lt_of_lt_of_le n d.size)).trans (d.block j n))⟩
theorem tO(B b:Nat)(g:GH)(hg:cR w B b g J)(hp:im g)(hB:B<=w.heap.size):
 ε aD.prog 144 #[Γ (Θ ⟨b,0,Ψ⟩),.iface 119 (.agg #[])] w (cq J B b g .full w):=by
 have N:=Ω hg;have q:=Ω hp;clear hg hp;have S:=Oa;have U:=Ob
 go_enter aD.func144,Tryz.ntmps144
 go_wp2_with fail
 clear S U;have K:=af w (φ #[] 120);refine(BN _ B b g (N.out.own.below K) q.out).mono ?_;rintro e w3 ⟨⟨M,bm,so,rfl,hs⟩,T⟩;obtain⟨a,k⟩:∃o,o=bV g co []:=⟨_,rfl⟩;rw[<-k]at hs;have s:c9 g co a:=by rw[k];exact c9.bV (.inr rfl) q.out.cells q.out.cJ (fun v hv=>by cases hv)
 have d:=K.trans (T.mono (by simp));obtain⟨A,E,G,hsm,N',_⟩:=aF hs.2.2.2.1;have D:w3.cell? ⟨M,0,Ψ⟩=Θ (.slice A a.length E):=by simp[Δ,hs.2.2.1,G]
 have hol:=s.len;have hn1:=q.out.news;have hn2:=q.out.bw;have HO:=Ω k;have HK:=Ω s;have HS:=Ω hs;have C:=N.out.below d;have y:=Ω C;clear k s hs G C;by_cases r:32<a.length
 ·have t:(32:Int)<(a.length:Int):=by omega
  go_wp2_with fail
  go_ret2
  have R:Md.collect .full g=Ψ:=by rw[ou,<-HO.out,if_pos r]
  unfold cq;rw[R];exact⟨rfl,y.out,d.mono hB,qb.bK d,fun j _ m=>d.block j m⟩
 ·have t:¬(32:Int)<(a.length:Int):=by omega
  go_wp2_with fail
  refine(BM w3 B b _ M bm so g co a 0 y.out HS.out HK.out (.inr rfl) (Nat.le_trans hB d.size) (by omega) (fun c hc=>by have:=q.out.eT c hc;omega) (by have:=q.out.roots;omega) (by have:=q.out.aA;omega) (by have:=q.out.done;omega)).mono ?_;rintro e w4 ⟨rfl,x,I,z,H,F⟩;have hcs:w4.cell? ⟨M,0,Ψ⟩=Θ (.slice A a.length E):=by have:=D;simp only[Δ]at this⊢;rw[z];exact this
  obtain⟨h,hbl,c,u⟩:=x.own.obj;obtain⟨a0,W,m0,a1,n1,m1,a2,n2,m2,a3,n3,m3,a4,n4,Y,a5,Z,X,n,l⟩:=x.copy (fun j L=>N.out.ne L) u h;have e0:w4.cell? ⟨b,0,Ψ⟩=Θ (.slice a0 W m0):=by simp[Δ,n]
  have e1:w4.cell? ⟨b,1,Ψ⟩=Θ (.slice a1 n1 m1):=by simp[Δ,n]
  have e2:w4.cell? ⟨b,2,Ψ⟩=Θ (.slice a2 n2 m2):=by simp[Δ,n]
  have e3:w4.cell? ⟨b,3,Ψ⟩=Θ (.slice a3 n3 m3):=by simp[Δ,n]
  have e4:w4.cell? ⟨b,4,Ψ⟩=Θ (.slice a4 n4 Y):=by simp[Δ,n]
  have e5:w4.cell? ⟨b,5,Ψ⟩=Θ (.slice a5 Z X):=by simp[Δ,n]
  have f:∀i,w4.frozen? ⟨b,i,Ψ⟩=θ:=fun i=>by simp[Z7,n]
  have f0:=f 0;have f1:=f 1;have f2:=f 2;have f3:=f 3;have f4:=f 4;have f5:=f 5;have hne:M≠b:=by rintro rfl;have:=HS.out.2.2.1;obtain⟨_,_,c',Q⟩:=y.out.own.obj;rw[Q]at this;cases this
  have HC:=Ω l;have P:=Ω ((qb.bK d).trans H);have V:=Ω (And.intro F u);clear H F;have H2:=Ω n;have H4:=Ω I;clear f l n u x I z D
  go_wp2_with fail
  go_ret2
  obtain⟨k1,O⟩:=wD (v0:=.slice a0 W m0) (v1:=.slice a1 n1 m1) (v2:=.slice a2 n2 m2) (v3:=.slice a3 n3 m3) (v4:=.slice a4 n4 Y) (v5:=.slice a5 Z X) H2.out rfl;have R:Md.collect .full g=Θ (a.length,Md.move g a 0):=by rw[ou,<-HO.out,if_neg r]
  unfold cq;rw[R];exact⟨rfl,HC.out _ k1 O,(d.mono hB).trans ((((((H4.out.setCell (p:=⟨b,0,Ψ⟩) h _).setCell (p:=⟨b,1,Ψ⟩) h _).setCell (p:=⟨b,2,Ψ⟩) h _).setCell (p:=⟨b,3,Ψ⟩) h _).setCell (p:=⟨b,4,Ψ⟩) h _).setCell (p:=⟨b,5,Ψ⟩) h _),P.out.trans (qb.IT H2.out O),fun j L m=>(O j (N.out.ne L)).trans ((V.out.1 j L (Nat.lt_of_lt_of_le m d.size)).trans (d.block j m))⟩
end
end Kn
namespace Kn
open Go Go.RowKit Md
open Go.ChangeMaps (setBlock)
section
variable{w':χ}{r b:Nat}{left:List Int}(ty:TypeId)(n:Int){w:χ}
def zQ(n:Int):ο×ο:=(υ ψ n,.bool Z8)
structure We(es:Array MapEntry)(clk:Nat)(l:List Int):Prop where
 keys:es.toList.map (fun e=>(e.key,e.val))=l.map zQ
 born:(es.toList.map (·.born)).Nodup
 old:∀e∈es.toList,e.born<clk
def bk(w:χ)(b:Nat)(l:List Int):Prop:=∃es clk,w.heap[b]?=Θ (.map es clk)/\We es clk l
theorem nl:aD.prog.underlying 205=Θ (.map 3 4):=by kernel_rfl
theorem ae8:aD.prog.underlying 3=Θ (.int ψ):=by kernel_rfl
theorem ae9(w:χ):(zeroValue 4).run aD.prog w=.ok (.bool θ) w:=by kernel_rfl
theorem sE(e:Bool)(n:Int)(w:χ):(Instr.checkKey e 10000 3 (υ ψ n)).run aD.prog w=.ok () w:=by unfold Instr.checkKey;rw[Z9,κ ae8];rfl
theorem uU(n:Int):∀(es:List MapEntry) (l:List Int) (i:Nat),es.map (fun e=>(e.key,e.val))=l.map zQ->
 ZT (.int ψ) (υ ψ n) es i=Θ (if n∈l then Θ (i+l.idxOf n,.bool Z8)else Ψ)
 |[],l,i,h=>by
  cases l with
  |nil=>simp[ZT]
  |cons a l=>simp at h
 |e::es,l,i,h=>by
  cases l with
  |nil=>simp at h
  |cons a l=>
   simp only[List.map_cons,List.cons.injEq,zQ,Prod.mk.injEq]at h;obtain⟨⟨h1,h2⟩,h3⟩:=h;have ih:=uU n es l (i+1) h3;unfold ZT;rw[h1];simp only[Instr.sameNow,if_true];by_cases hx:n=a
   ·subst hx;simp[h2]
   ·have hb:(n==a)=θ:=by simp[hx]
    rw[hb];simp only[ih];have hne:¬a=n:=fun h=>hx h.symm
    by_cases hm:n∈l
    ·have hb2:(a==n)=θ:=by simp[hne]
     have hi:(a::l).idxOf n=l.idxOf n+1:=by rw[List.idxOf_cons,hb2];rfl
     rw[hi,if_pos hm,if_pos (List.mem_cons_of_mem _ hm)]
     congr 3
     omega
    ·simp[hm,hx]
theorem jb(w:χ)(es:List MapEntry)(l:List Int)(h:es.map (fun e=>(e.key,e.val))=l.map zQ):
 (Instr.findKey 3 (υ ψ n) es).run aD.prog w=.ok (if n∈l then Θ (l.idxOf n,.bool Z8)else Ψ) w:=by
 unfold Instr.findKey;rw[Z9,κ ae8,ζ,uU n es l 0 h];simp
theorem run_get{es:Array MapEntry}{clk:Nat}(h:w.heap[b]?=Θ (.map es clk)):(getObj b).run aD.prog w=.ok (.map es clk) w:=by simp[getObj,ZR,h]
theorem gL{α β:Type}(f:α->β):∀(l:List α) (i:Nat),(l.eraseIdx i).map f=(l.map f).eraseIdx i
 |[],i=>by simp
 |a::l,0=>by simp
 |a::l,i+1=>by simp[gL f l i]
theorem ke{l:List Int}(h:bk w b l):
 (Instr.lookup 205 (.map (Θ b)) (υ ψ n) Z8).run aD.prog w=.ok (.tuple #[.bool (decide (n∈l)),.bool (decide (n∈l))]) w:=by
 obtain⟨f,e,hb,d⟩:=h;have c:=jb n w f.toList l d.keys;unfold Instr.lookup;simp only[Z9,κ nl,ζ,run_get hb,ZX,sE,c];by_cases a:n∈l
 ·simp[a]
 ·simp[a,ae9]
theorem bk.made(w:χ):bk (w.alloc (.map #[] 0)) w.heap.size []:=⟨#[],0,Z4 w _,⟨rfl,List.nodup_nil,fun e a=>by simp at a⟩⟩
theorem bk.lt{l:List Int}(h:bk w b l):b<w.heap.size:=by obtain⟨c,a,hb,_⟩:=h;exact(Ξ.1 hb).1
theorem bk.of_block{l:List Int}(h:bk w b l)(hb:w'.heap[b]?=w.heap[b]?):bk w' b l:=by obtain⟨c,a,e,r⟩:=h;exact⟨c,a,hb.trans e,r⟩
theorem bk.below{l:List Int}(h:bk w b l)(hk:ξ w.heap.size w w'):bk w' b l:=h.of_block (hk.block b h.lt)
theorem sF{es:Array MapEntry}{clk:Nat}{l:List Int}(h:We es clk l):es.size=l.length:=by have:=congrArg List.length h.keys;simpa using this
theorem sG(w:χ)(b:Nat)(o:Obj):w.grownBy {w with heap:=w.heap.setIfInBounds b o} (Θ b):=
 ⟨rfl,rfl,rfl,by simp,fun k c a=>by
   have:k≠b:=fun e=>a (by rw[e])
   simp[Array.getElem?_setIfInBounds,Ne.symm this]⟩
theorem kh{α β:Type}(f:α->β)(g:α->α):∀(l:List α) (i:Nat),(∀a,l[i]?=Θ a->f (g a)=f a) ->(l.modify i g).map f=l.map f
 |[],i,h=>by simp
 |a::l,0,h=>by simp[h a rfl]
 |a::l,i+1,h=>by have:=kh f g l i (fun b hb=>h b (by simpa using hb));simp[this]
theorem ki{l:List Int}(h:bk w b l):
 ∃w',(ZV 205 (.map (Θ b)) (υ ψ n) (.bool Z8)).run aD.prog w=.ok () w'/\bk w' b (nb l n)/\w.grownBy w' (Θ b)/\w'.heap.size=w.heap.size:=by
 obtain⟨g,f,hb,i⟩:=h;have r:=jb n w g.toList l i.keys;have m:=(Ξ.1 hb).1;by_cases o:n∈l
 ·have hi:l.idxOf n<l.length:=List.idxOf_lt_length_of_mem o;have u:=sF i;have k:∀e,g.toList[l.idxOf n]?=Θ e->e.key=υ ψ n/\e.val=.bool Z8:=by intro e c;have j:=congrArg (fun z=>z[l.idxOf n]?) i.keys;simp only[List.getElem?_map,c,Option.map_some]at j;rw[List.getElem?_eq_getElem hi]at j;simp[zQ]at j;exact j
  refine⟨{w with heap:=w.heap.setIfInBounds b (.map (g.modify (l.idxOf n) fun e=>{e with key:=υ ψ n,val:=.bool Z8}) f)},?_,?_,sG w b _,by simp⟩
  ·unfold ZV;simp only[Z9,κ nl,ζ,run_get hb,ZX,sE,r,if_pos o];have v:(((g[l.idxOf n]?).map (·.key)).getD (υ ψ n))=υ ψ n:=by have:g[l.idxOf n]?=Θ (g[l.idxOf n]'(by omega)):=Array.getElem?_eq_getElem (by omega);rw[this];exact(k _ (by simp)).1
   rw[v];simp[Instr.keyThatStays,Instr.sameBits,setObj,ZR,hb]
  ·have d:nb l n=l:=by unfold nb;rw[if_pos (by simpa using o)]
   rw[d];refine⟨g.modify (l.idxOf n) fun e=>{e with key:=υ ψ n,val:=.bool Z8},f,by simp[m],⟨?_,?_,?_⟩⟩
   ·rw[<-i.keys,Z1];exact kh _ _ _ _ fun e c=>by rw[(k e c).1,(k e c).2]
   ·rw[Z1];have:=kh (fun e:MapEntry=>e.born) (fun e:MapEntry=>{e with key:=Value.int ψ n,val:=Value.bool Z8}) g.toList (l.idxOf n) (fun e _=>rfl);rw[this];exact i.born
   ·intro e c;rw[Z1]at c;have:e.born∈(g.toList.modify (l.idxOf n) fun e=>{e with key:=υ ψ n,val:=.bool Z8}).map (·.born):=List.mem_map_of_mem c;have p:=kh (fun e:MapEntry=>e.born) (fun e:MapEntry=>{e with key:=Value.int ψ n,val:=Value.bool Z8}) g.toList (l.idxOf n) (fun e _=>rfl);rw[p]at this;obtain⟨q,j,s⟩:=List.mem_map.1 this;rw[<-s];exact i.old q j
 ·refine⟨{w with heap:=w.heap.setIfInBounds b (.map (g.push {key:=υ ψ n,val:=.bool Z8,born:=f}) (f+1))},?_,?_,sG w b _,by simp⟩
  ·unfold ZV;simp only[Z9,κ nl,ζ,run_get hb,ZX,sE,r,if_neg o];simp[setObj,ZR,hb]
  ·have d:nb l n=l++[n]:=by unfold nb;rw[if_neg (by simpa using o)]
   rw[d];refine⟨_,f+1,by simp[m];rfl,⟨?_,?_,?_⟩⟩
   ·rw[ZZ,List.map_append,i.keys,List.map_append];simp[zQ]
   ·rw[ZZ,List.map_append,List.nodup_append];refine⟨i.born,by simp,fun a t b hb e=>?_⟩;simp at hb;subst hb;subst e;obtain⟨q,j,s⟩:=List.mem_map.1 t;have:=i.old q j;omega
   ·intro e c;rw[ZZ]at c;rcases List.mem_append.1 c with c|c
    ·have:=i.old e c;omega
    ·simp at c;subst c;exact Nat.lt_succ_self _
theorem uV{l:List Int}(h:bk w b l):(Builtin.len_ #[205] ty #[.map (Θ b)]).run aD.prog w=.ok (υ ψ (l.length:Int)) w:=by obtain⟨e,d,hb,a⟩:=h;have c:=sF a;simp[Builtin.len_,κ nl,run_get hb,c];rfl
theorem wE{l:List Int}(h:bk w b l):
 ∃w',(ZW #[205,3] ty #[.map (Θ b),υ ψ n]).run aD.prog w=.ok (.tuple #[]) w'/\bk w' b (l.erase n)/\w.grownBy w' (Θ b)/\w'.heap.size=w.heap.size:=by
 obtain⟨g,c,hb,f⟩:=h;have o:=jb n w g.toList l f.keys;have k:=(Ξ.1 hb).1;by_cases m:n∈l
 ·refine⟨{w with heap:=w.heap.setIfInBounds b (.map (g.eraseIdxIfInBounds (l.idxOf n)) c)},?_,?_,sG w b _,by simp⟩
  ·simp[ZW,κ nl,run_get hb,sE,o,if_pos m,setObj,ZR,hb]
  ·have hi:l.idxOf n<l.length:=List.idxOf_lt_length_of_mem m;have p:=sF f;have d:(g.eraseIdxIfInBounds (l.idxOf n)).toList=g.toList.eraseIdx (l.idxOf n):=by unfold Array.eraseIdxIfInBounds;rw[dif_pos (by omega)];simp
   refine⟨_,c,by simp[k];rfl,⟨?_,?_,?_⟩⟩
   ·rw[d,gL,f.keys,<-gL,List.erase_eq_eraseIdx_of_idxOf (a:=n) (i:=l.idxOf n) rfl]
   ·rw[d,gL];exact f.born.sublist (List.eraseIdx_sublist _ _)
   ·intro e j;rw[d]at j;exact f.old e ((List.eraseIdx_sublist _ _).subset j)
 ·refine⟨{w with heap:=w.heap.setIfInBounds b (.map g c)},?_,?_,sG w b _,by simp⟩
  ·simp[ZW,κ nl,run_get hb,sE,o,if_neg m,setObj,ZR,hb]
  ·rw[List.erase_of_not_mem m];exact⟨g,c,by simp[k],f⟩
def eD(w:χ)(r b:Nat)(l left:List Int):Prop:=∃es clk since seen c0,w.heap[b]?=Θ (.map es clk)/\We es clk l/\w.heap[r]?=Θ (.mapIter (Θ b) since seen c0)/\(∀e∈es.toList,e.born<since)/\since<=c0/\since<=clk/\
 (ZY es seen).toList.map (·.key)=left.map (Value.int ψ)
theorem eD.keys{l:List Int}(h:eD w r b l left):bk w b l:=by obtain⟨f,c,a,seen,c0,e,d,_⟩:=h;exact⟨f,c,e,d⟩
theorem eD.of_block{l:List Int}(h:eD w r b l left)(hb:w'.heap[b]?=w.heap[b]?)(hr:w'.heap[r]?=w.heap[r]?):eD w' r b l left:=by obtain⟨g,c,a,seen,c0,f,d,i,e⟩:=h;exact⟨g,c,a,seen,c0,hb.trans f,d,hr.trans i,e⟩
theorem eD.lt{l:List Int}(h:eD w r b l left):r<w.heap.size/\b<w.heap.size/\r≠b:=by obtain⟨j,f,a,seen,c0,d,g,c,i⟩:=h;refine⟨(Ξ.1 c).1,(Ξ.1 d).1,fun e=>?_⟩;subst e;rw[d]at c;cases c
theorem qg{l:List Int}(h:bk w b l):
 ∃w',(Instr.range 205 (.map (Θ b))).run aD.prog w=.ok (Γ (Θ ⟨w.heap.size,0,Ψ⟩)) w'/\eD w' w.heap.size b l l/\w.grownBy w' Ψ/\w'.heap.size=w.heap.size+1:=by
 obtain⟨c,a,hb,d⟩:=h;have e:=(Ξ.1 hb).1;refine⟨_,run_range_map w 205 3 4 b c a nl hb,⟨c,a,a,#[],a,(Below.heap_alloc w _ b e).trans hb,d,Z4 w _,d.old,Nat.le_refl _,Nat.le_refl _,?_⟩,World.grownBy_alloc w _ Ψ,by simp⟩;have:ZY c #[]=c:=by unfold ZY;simp
 rw[this];have:=congrArg (List.map Prod.fst) d.keys;simpa[zQ,Function.comp_def]using this
theorem filter_one{α β:Type}[DecidableEq β](f:α->β):∀(L:List α) (e:α),(L.map f).Nodup->e∈L->∃A B,L=A++e::B/\L.filter (fun x=>!(f x==f e))=A++B
 |[],e,_,h=>by cases h
 |a::L,e,hn,h=>by
  rw[List.map_cons,List.nodup_cons]at hn;rcases List.mem_cons.1 h with rfl|h
  ·refine⟨[],L,rfl,?_⟩;have:L.filter (fun x=>!(f x==f e))=L:=List.filter_eq_self.2 fun x hx=>by
    have:f x≠f e:=fun he=>hn.1 (he▸List.mem_map_of_mem hx)
    simp[this]
   simp[this]
  ·obtain⟨A,B,h1,h2⟩:=filter_one f L e hn.2 h;have hne:f a≠f e:=fun he=>hn.1 (he▸List.mem_map_of_mem h)
   refine⟨a::A,B,by rw[h1];rfl,?_⟩;rw[List.filter_cons_of_pos (by simp[hne]),h2];rfl
theorem sH{l:List Int}(h:eD w r b l left):
 (left=[]/\(Instr.next (Γ (Θ ⟨r,0,Ψ⟩)) θ ty).run aD.prog w=.ok (.tuple #[.bool θ]) w)\/
 ∃A B n w',left=A++n::B/\(Instr.next (Γ (Θ ⟨r,0,Ψ⟩)) θ ty).run aD.prog w=.ok (.tuple #[.bool Z8,υ ψ n,.bool Z8]) w'/\eD w' r b l (A++B)/\w.grownBy w' (Θ r)/\w'.heap.size=w.heap.size/\
  (Instr.entry (Γ (Θ ⟨r,0,Ψ⟩))).run aD.prog w'=.ok (.tuple #[υ ψ n,.bool Z8]) w':=by
 obtain⟨H,y,D⟩:=h.lt;obtain⟨f,c,a,seen,c0,N,u,U,M,R,m,v⟩:=h;rcases run_next_at (P:=aD.prog) w ty r b a c0 seen f c U N M R with⟨h0,d⟩|⟨e,j,i,p,d⟩
 ·left;refine⟨?_,d⟩;have:(ZY f seen).toList=[]:=by simpa using h0
  rw[this]at v;simpa using v.symm
 ·right;have s:e∈f.toList:=by unfold ZY at j;simp at j;simpa using j.1
  have G:∃n,e.key=υ ψ n/\e.val=.bool Z8:=by have:(e.key,e.val)∈f.toList.map (fun e=>(e.key,e.val)):=List.mem_map_of_mem s;rw[u.keys]at this;obtain⟨n,_,K⟩:=List.mem_map.1 this;simp[zQ]at K;exact⟨n,K.1.symm,K.2.symm⟩
  obtain⟨n,z,O⟩:=G;have I:((ZY f seen).toList.map (·.born)).Nodup:=by unfold ZY;rw[Z0];exact u.born.sublist (List.Sublist.map _ List.filter_sublist)
  obtain⟨A,B,C,T⟩:=filter_one (fun e:MapEntry=>e.born) _ e I j;rw[C,List.map_append,List.map_cons]at v;obtain⟨S,W,rfl,J,L⟩:=List.map_eq_append_iff.1 v.symm;obtain⟨V,Q,rfl,o,F⟩:=List.map_eq_cons_iff.1 L;rw[z]at o;cases o
  have g:i.heap=w.heap:=by rcases p with rfl|rfl<;>rfl
  have q:w.grownBy (setBlock i r (.mapIter (Θ b) a (seen.push e.born) c)) (Θ r):=by
   have:=sG i r (.mapIter (Θ b) a (seen.push e.born) c);rcases p with rfl|rfl
   ·exact this
   ·exact⟨this.os,this.tape,this.output,this.size,this.block⟩
  have E:(setBlock i r (.mapIter (Θ b) a (seen.push e.born) c)).heap.size=w.heap.size:=by rw[<-g];simp[setBlock]
  have k:(setBlock i r (.mapIter (Θ b) a (seen.push e.born) c)).heap[r]?=Θ (.mapIter (Θ b) a (seen.push e.born) c):=by simp[setBlock,g,H]
  have t:(setBlock i r (.mapIter (Θ b) a (seen.push e.born) c)).heap[b]?=Θ (.map f c):=by rw[q.block b y (fun j=>D (Option.some.inj j).symm)];exact N
  refine⟨S,Q,n,_,rfl,?_,⟨f,c,a,seen.push e.born,c,t,u,k,M,m,m,?_⟩,q,E,?_⟩
  ·rw[d,z,O]
  ·have:(ZY f (seen.push e.born)).toList=(ZY f seen).toList.filter (fun x=>!(x.born==e.born)):=by
    unfold ZY;rw[Z0,Z0,List.filter_filter];refine List.filter_congr fun x _=>?_
    rw[Array.contains_push,Bool.not_or,Bool.and_comm]
   rw[this,T,List.map_append,List.map_append,J,F]
  ·have:=run_entry_at (P:=aD.prog) _ r b a seen f c e k t s u.born;rw[this,z,O]
end
end Kn
namespace Kn
open Go Go.RowKit Md
section
variable(w:χ)(a:Option Addr)(n:Nat)(s:ο)(m b:Nat)
def qw(w:χ)(b:Nat)(h:PH):Prop:=∃c r wi d,w.cell? ⟨b,0,Ψ⟩=Θ c/\w.cell? ⟨b,1,Ψ⟩=Θ r/\w.cell? ⟨b,2,Ψ⟩=Θ wi/\w.cell? ⟨b,3,Ψ⟩=Θ d/\sa w c h.cells/\eI w r h.roots/\n9 w wi h.aA/\n9 w d h.done
theorem qw.below{w w':χ}{b:Nat}{h:PH}(hk:ξ w.heap.size w w')(hp:qw w b h):qw w' b h:=by
 obtain⟨c,r,a,d,c0,c1,c2,c3,g,e,i,f⟩:=hp;have hb:=az c0;refine⟨c,r,a,d,?_,?_,?_,?_,g.below hk,e.below hk,i.below hk,f.below hk⟩
 all_goals rw[hk.cell (p:=⟨b,_,Ψ⟩) hb];assumption
theorem dq(e:Int):ε aD.prog 219 #[.bool θ,υ ψ e] w fun r w'=>r=.returned (.tuple #[])/\w'=w:=by
 go_enter aD.func219,Tryz.ntmps219
 go_wp2
 go_end0;exact⟨rfl,rfl⟩
theorem sI:ε aD.prog 181 #[.agg #[υ ψ 0,.slice a n m]] w fun e w'=>e=.returned (.iface 264 (.agg #[υ ψ 0,.slice a n m]))/\ξ w.heap.size w w':=by
 go_enter aD.func181,Tryz.ntmps181
 go_wp2
 go_ret;exact⟨rfl,((ω _ _).alloc (Nat.le_refl _) _)⟩
theorem sJ:ε aD.prog 181 #[.agg #[υ ψ 1,.slice a n m]] w fun e w'=>e=.returned (.iface 265 (.agg #[υ ψ 1,.slice a n m]))/\ξ w.heap.size w w':=by
 go_enter aD.func181,Tryz.ntmps181
 go_wp2
 go_ret;exact⟨rfl,((ω _ _).alloc (Nat.le_refl _) _)⟩
theorem Oc(name:String)(f:Nat)(h:name= "caracole/heap.least"/\f=317\/name= "caracole/heap.most"/\f=319\/name= "caracole/heap.keeps"/\f=316\/name= "caracole/heap.loses"/\f=318):
 (ZS 463 264 (.agg #[υ ψ 0,s]) name).run aD.prog w=.ok (f,.agg #[υ ψ 0,s]) w:=by
 rcases h with⟨rfl,rfl⟩|⟨rfl,rfl⟩|⟨rfl,rfl⟩|⟨rfl,rfl⟩<;>kernel_rfl
theorem Od(name:String)(f:Nat)(h:name= "caracole/heap.least"/\f=323\/name= "caracole/heap.most"/\f=325\/name= "caracole/heap.keeps"/\f=322\/name= "caracole/heap.loses"/\f=324):
 (ZS 463 265 (.agg #[υ ψ 1,s]) name).run aD.prog w=.ok (f,.agg #[υ ψ 1,s]) w:=by
 rcases h with⟨rfl,rfl⟩|⟨rfl,rfl⟩|⟨rfl,rfl⟩|⟨rfl,rfl⟩<;>kernel_rfl
theorem Oe:ε aD.prog 317 #[.agg #[υ ψ 0,.slice a n m]] w fun e w'=>e=.returned (υ ψ 0)/\ξ w.heap.size w w':=by
 go_enter aD.func317,Tryz.ntmps317
 go_wp2
 go_ret;exact⟨rfl,((ω _ _).alloc (Nat.le_refl _) _)⟩
theorem Wf:ε aD.prog 319 #[.agg #[υ ψ 0,.slice a n m]] w fun e w'=>e=.returned (υ ψ 4)/\ξ w.heap.size w w':=by
 go_enter aD.func319,Tryz.ntmps319
 go_wp2
 go_ret;exact⟨rfl,((ω _ _).alloc (Nat.le_refl _) _)⟩
theorem Of:ε aD.prog 323 #[.agg #[υ ψ 1,.slice a n m]] w fun e w'=>e=.returned (υ ψ 1)/\ξ w.heap.size w w':=by
 go_enter aD.func323,Tryz.ntmps323
 go_wp2
 go_ret;exact⟨rfl,((ω _ _).alloc (Nat.le_refl _) _)⟩
theorem Wh:ε aD.prog 325 #[.agg #[υ ψ 1,.slice a n m]] w fun e w'=>e=.returned (υ ψ 1)/\ξ w.heap.size w w':=by
 go_enter aD.func325,Tryz.ntmps325
 go_wp2
 go_ret;exact⟨rfl,((ω _ _).alloc (Nat.le_refl _) _)⟩
theorem Og:ε aD.prog 318 #[.agg #[υ ψ 0,.slice a n m],.map (Θ b)] w fun e w'=>e=.returned (.bool θ)/\ξ w.heap.size w w':=by
 go_enter aD.func318,Tryz.ntmps318
 go_wp2
 go_ret;exact⟨rfl,((ω _ _).alloc (Nat.le_refl _) _)⟩
theorem afa(l:List Int)(v:HV)(h:bk w b l):ε aD.prog 180 #[.map (Θ b),eB v] w fun e w'=>e=.returned (.bool (has l v))/\ξ w.heap.size w w':=by
 obtain⟨k,n⟩:=v;unfold eB;dsimp only;by_cases c:k=1
 ·subst c;have f:=ke n (h.of_block (w':=w.alloc (φ #[υ ψ 1,υ ψ n] 50)) (Below.heap_alloc w _ b h.lt));have a:has l (1,n)=decide (n∈l):=by unfold has;simp
  rw[a];have g:=Ω h;clear a h;generalize decide (n∈l)=t at f⊢
  go_enter aD.func180,Tryz.ntmps180
  go_wp2
  go_ret;exact⟨rfl,((ω _ _).alloc (Nat.le_refl _) _)⟩
 ·have a:has l (k,n)=Z8:=by unfold has;simp[c]
  rw[a];have d:(k==1)=θ:=by simp[c]
  clear a h
  go_enter aD.func180,Tryz.ntmps180
  go_wp2
  go_ret;exact⟨rfl,((ω _ _).alloc (Nat.le_refl _) _)⟩
theorem Oh(l:List Int)(v:HV)(vs:List HV)(h:bk w b l)(hs:eI w s (v::vs)):ε aD.prog 324 #[.agg #[υ ψ 1,s],.map (Θ b)] w fun e w'=>e=.returned (.bool (!has l v))/\ξ w.heap.size w w':=by
 obtain⟨a,m,rfl,u,t,k⟩:=hs;obtain⟨p,q⟩:=v;obtain⟨bv,o,rfl,hb,d⟩:=k (by simp);obtain⟨r,i⟩:=d 0 p q rfl;have c:=af w (φ #[υ ψ 1,ι (Θ ⟨bv,o,Ψ⟩) ((p,q)::vs).length m] 265);have e1:=(c.cell (p:=⟨bv,o+0*2,Ψ⟩) hb).trans r;have e2:=(c.cell (p:=⟨bv,o+0*2+1,Ψ⟩) hb).trans i;simp only[Nat.zero_mul,Nat.add_zero]at e1 e2;have f:(0:Int)<(((p,q)::vs).length:Int):=by simp
 have j:=Ω (h.below c);generalize ((p,q)::vs).length=n at c e1 e2 f j⊢;clear h d k r i
 go_enter aD.func324,Tryz.ntmps324
 go_wp2_with fail
 refine(afa _ b l (p,q) j.out).mono ?_;rintro e x ⟨rfl,g⟩
 go_wp2_with fail
 go_ret;exact⟨rfl,c.trans (g.mono (by simp))⟩
theorem I1:ε aD.prog 261 #[.iface 264 (.agg #[υ ψ 0,.slice a n m])] w fun e w'=>e=.returned (.slice a n m)/\ξ w.heap.size w w':=by
 have b:∀w:χ,(Z3 (.iface 264 (.agg #[υ ψ 0,.slice a n m])) 208 264 Z8).run aD.prog w=.ok (.tuple #[.agg #[υ ψ 0,.slice a n m],.bool Z8]) w:=fun w=>by kernel_rfl
 go_enter aD.func261,Tryz.ntmps261
 go_wp2
 go_ret;exact⟨rfl,((ω _ _).alloc (Nat.le_refl _) _)⟩
end
section
variable(w:χ)(b:Nat)
theorem EX{h:PH}{n:Int}(e:Ik h n=0):∃(i:Nat) (k:Int) (vs:List HV),n=(i:Int)/\h.cells[i]?=Θ (k,vs)/\k≠3:=by
 unfold Ik at e;split at e
 ·cases e
 ·rename_i b;have h0:0<=n:=by omega
  obtain⟨i,rfl⟩:=η h0;obtain⟨k,vs,a⟩:=cQ (l:=h.cells) (k:=i) (by omega);refine⟨i,k,vs,rfl,a,fun e3=>?_⟩;rw[if_pos]at e
  ·cases e
  ·simp[List.getD,a,e3]
theorem I2(h:PH)(n:Int)(hp:qw w b h)(hl:h.cells.length<=1000000)(e:Ik h n=0):ε aD.prog 221 #[Γ (Θ ⟨b,0,Ψ⟩),υ ψ n] w fun e w'=>e=.returned (.tuple #[])/\ξ w.heap.size w w':=by
 obtain⟨i,k,q,rfl,g,l⟩:=EX e;obtain⟨c,r,z,d,c0,c1,c2,c3,t,_⟩:=hp;obtain⟨a,m,rfl,y,u,j⟩:=t;have hi:=(List.getElem?_eq_some_iff.1 g).1;obtain⟨bc,o,rfl,hb,f⟩:=j (by omega);obtain⟨A,_⟩:=f i k q g;have v:¬((i:Int)<0):=by omega
 have p:¬((h.cells.length:Int)<=(i:Int)):=by omega
 have s:(i:Int)<(h.cells.length:Int):=by omega
 have x:(k==3)=θ:=by simp[l]
 clear f j e g l
 go_enter aD.func221,Tryz.ntmps221
 go_wp2_with fail
 ((with_reducible refine(dq _ _).mono ?_))
 rintro e w' ⟨rfl,rfl⟩
 go_wp2_with fail
 ((with_reducible refine(dq _ _).mono ?_))
 rintro e w' ⟨rfl,rfl⟩
 go_wp2
 go_end0;exact⟨rfl,ω _ _⟩
theorem pq(h:PH)(p q:Int)(hp:qw w b h)(hl:h.cells.length<=1000000)(e:uI h (p,q)=0):ε aD.prog 220 #[Γ (Θ ⟨b,0,Ψ⟩),.agg #[υ ψ p,υ ψ q]] w fun e w'=>e=.returned (.tuple #[])/\ξ w.heap.size w w':=by
 have g:=Ω hp;clear hp;by_cases h0:p=0
 ·subst h0;have a:¬(q< -99)/\¬(99<q):=by simp[uI]at e;omega
  obtain⟨a,c⟩:=a;clear e
  go_enter aD.func220,Tryz.ntmps220
  go_wp2_with fail
  ((with_reducible refine(dq _ _).mono ?_))
  rintro e w' ⟨rfl,rfl⟩
  go_wp2
  go_end0;exact⟨rfl,af _ _⟩
 ·by_cases a:p=1
  ·subst a;have d:Ik h q=0:=by simpa[uI]using e
   have HR:=Ω d;clear e d h0
   go_enter aD.func220,Tryz.ntmps220
   go_wp2_with fail
   refine(I2 _ b h q (g.out.below (af _ _)) hl HR.out).mono ?_;rintro e w' ⟨rfl,hw⟩
   go_wp2
   go_end0;exact⟨rfl,(af _ _).trans (hw.mono (by simp))⟩
  ·have c:p=2/\q=0:=by
    unfold uI at e;dsimp only at e;rw[if_neg h0,if_neg a]at e;split at e
    ·rename_i c;split at e
     ·rename_i f;exact⟨c,f⟩
     ·cases e
    ·cases e
   obtain⟨rfl,rfl⟩:=c;have i:=nc 2 0;clear e h0 a
   go_enter aD.func220,Tryz.ntmps220
   go_wp2_with fail
   ((with_reducible refine(dq _ _).mono ?_))
   rintro e w' ⟨rfl,rfl⟩
   go_wp2
   go_end0;exact⟨rfl,af _ _⟩
structure HOK(h:PH):Prop where
 kinds:∀c∈h.cells,(c.1=0/\c.2.length<=4)\/(c.1=1/\c.2.length=1)
 eT:∀c∈h.cells,∀v∈c.2,uI h v=0
 many:h.cells.length<=40
 four:h.roots.length=4
 roots:∀v∈h.roots,uI h v=0
 aA:h.aA=[]
 done:h.done=[]
theorem I3(h:PH)(hp:qw w b h)(hk:HOK h):ε aD.prog 175 #[Γ (Θ ⟨b,0,Ψ⟩)] w fun e w'=>e=.returned (.tuple #[])/\ξ w.heap.size w w':=by
 have H:=Ω hp;have K:=Ω hk;obtain⟨c,r,wi,d,c0,c1,c2,c3,h1,h2,h3,h4⟩:=hp;have hb:=az c0;obtain⟨ac,mc,rfl,hmc,am9,hac⟩:=h1;obtain⟨ar,mr,rfl,hmr,aeW,har⟩:=h2;obtain⟨aw,mw,rfl,hmw,aeX,_⟩:=h3;obtain⟨ad,V,rfl,hmd,aeY,_⟩:=h4;rw[hk.aA]at c2 hmw;rw[hk.done]at c3 hmd;simp only[List.length_nil]at c2 c3 hmw hmd;have HC:=Ω hac;have HR:=Ω har;have h40:¬((40:Int)<h.cells.length):=by have:=hk.many;omega
 have hr4:decide ((h.roots.length:Int)<4)=θ:=by have:=hk.four;simp;omega
 have hr5:decide ((4:Int)<h.roots.length)=θ:=by have:=hk.four;simp;omega
 have hl:h.cells.length<=1000000:=by have:=hk.many;omega
 have C1:=Ω c1;have C2:=Ω c2;have C3:=Ω c3;clear hk hac har c1 c2 c3
 go_enter aD.func175,Tryz.ntmps175
 go_wp2_with fail
 ((with_reducible refine(dq _ _).mono ?_))
 rintro e w' ⟨rfl,rfl⟩
 go_wp2_with fail
 clear c0 h40
 go_loopw [27] (fun i wr=>∃k:Nat,k<=h.cells.length/\i=υ ψ k/\ξ w'.heap.size w' wr) (fun i _=>h.cells.length-(intOf i).toNat)
 case atStart=>exact⟨0,Nat.zero_le _,rfl,ω _ _⟩
 case round=>
  obtain⟨k,hk,rfl,a⟩:=hrel;by_cases hlt:k<h.cells.length
  ·obtain⟨ba,oa,e,Z,J⟩:=HC.out (by omega);cases e
   obtain⟨kd,f,e1⟩:=cQ hlt;obtain⟨d1,x,d2,hx⟩:=(J.below a Z) k kd f e1;have G:=List.mem_of_getElem? e1;have B:=K.out.kinds _ G;have D:=Ω (K.out.eT _ G);have HXV:=Ω hx;obtain⟨z,y,rfl,hmx,N4,hax⟩:=hx;have u:=a.size;dsimp only at B;clear J e1 G hax;have P:=af wr (φ #[υ ψ kd,.slice z f.length y] 76);rcases B with⟨rfl,hle⟩|⟨rfl,hle⟩
   ·have hm1:=fun w=>Oc w (.slice z f.length y) "caracole/heap.least" 317 (.inl ⟨rfl,rfl⟩)
    have T:=fun w=>Oc w (.slice z f.length y) "caracole/heap.most" 319 (.inr (.inl ⟨rfl,rfl⟩))
    have t1:decide ((f.length:Int)<0)=θ:=by simp<;>omega
    have t2:decide ((4:Int)<f.length)=θ:=by simp<;>omega
    go_wp2_with fail
    ((with_reducible refine(dq _ _).mono ?_))
    rintro e s ⟨rfl,rfl⟩
    go_wp2_with fail
    refine(sI _ _ _ _).mono ?_;rintro e s ⟨rfl,m⟩;have n2:s.cell? ⟨wr.heap.size,1,Ψ⟩=Θ (.slice z f.length y):=(m.cell (p:=⟨wr.heap.size,1,Ψ⟩) (by simp)).trans (by go_simp);have q1:ξ wr.heap.size wr s:=P.trans (m.mono (by simp));have t:wr.heap.size<s.heap.size:=by have:=m.size;simp at this;omega
    clear m P
    go_wp2_with fail
    go_region_held3 (fun x=>x.cell? ⟨wr.heap.size,1,Ψ⟩=Θ (.slice z f.length y)) (first|assumption|go_keep)
     (first
       |(go_at_call 317;(refine(Oe _ _ _ _).mono ?_);rintro e w2 ⟨rfl,F⟩;have A:=(ω s.heap.size s).drew.trans (F.mono (by simp));have Y:=q1.trans (A.mono q1.size);have n3:=(A.cell (p:=⟨wr.heap.size,1,Ψ⟩) t).trans n2;have M:=Nat.lt_of_lt_of_le t A.size)
       |(go_at_call 219;(with_reducible refine(dq _ _).mono ?_);rintro e w3 ⟨rfl,rfl⟩))
    clear n2 q1 F t A
    go_wp2_with fail
    go_region_held3 (fun x=>x.cell? ⟨wr.heap.size,1,Ψ⟩=Θ (.slice z f.length y)) (first|assumption|go_keep)
     (first
       |(go_at_call 319;(refine(Wf _ _ _ _).mono ?_);rintro e w4 ⟨rfl,N⟩;have X:=(ω w3.heap.size w3).drew.trans (N.mono (by simp));have q4:=Y.trans (X.mono Y.size);have n4:=(X.cell (p:=⟨wr.heap.size,1,Ψ⟩) M).trans n3)
       |(go_at_call 219;(with_reducible refine(dq _ _).mono ?_);rintro e w5 ⟨rfl,rfl⟩))
    clear n3 Y N M X
    go_wp2_with fail
    clear n4 t1 t2 hm1 T;have U:=Ω (HXV.out.below q4);have I:=a.trans (q4.mono u)
    go_loopw [59] (fun i wr=>∃j:Nat,j<=f.length/\i=υ ψ j/\ξ w5.heap.size w5 wr) (fun i _=>f.length-(intOf i).toNat)
    case atStart=>exact⟨0,Nat.zero_le _,rfl,ω _ _⟩
    case round=>
     obtain⟨j,hj,rfl,g⟩:=hrel;clear q4;have l:=I.trans (g.mono I.size);have v:=l.size;have E:=g.size;by_cases o:j<f.length
     ·obtain⟨a9,m9,e9,_,_,C⟩:=U.out.below g;cases e9
      obtain⟨ba2,oa2,e,afb,n⟩:=C (by omega);cases e
      obtain⟨p,q,e1⟩:=ep o;obtain⟨f1,f2⟩:=n j p q e1;have L:=Ω (D.out _ (List.mem_of_getElem? e1));clear n e1 C
      go_wp2_with fail
      refine(pq _ b h p q (H.out.below (l.alloc v _)) hl L.out).mono ?_;rintro e w6 ⟨rfl,W⟩
      go_wp2_with fail
      exact⟨⟨j+1,by omega,by go_num,(g.alloc E _).trans (W.mono (by simp;omega))⟩,by simp[intOf];omega⟩
     ·go_wp2_with fail
      exact⟨⟨k+1,by omega,by go_num,l⟩,by simp[intOf];omega⟩
   ·have hla:1<=f.length:=by omega
    have hlb:f.length<=1:=by omega
    clear hle;have hm1:=fun w=>Od w (.slice z f.length y) "caracole/heap.least" 323 (.inl ⟨rfl,rfl⟩)
    have T:=fun w=>Od w (.slice z f.length y) "caracole/heap.most" 325 (.inr (.inl ⟨rfl,rfl⟩))
    have t1:decide ((f.length:Int)<1)=θ:=by simp<;>omega
    have t2:decide ((1:Int)<f.length)=θ:=by simp<;>omega
    go_wp2_with fail
    ((with_reducible refine(dq _ _).mono ?_))
    rintro e s ⟨rfl,rfl⟩
    go_wp2_with fail
    refine(sJ _ _ _ _).mono ?_;rintro e s ⟨rfl,m⟩;have n2:s.cell? ⟨wr.heap.size,1,Ψ⟩=Θ (.slice z f.length y):=(m.cell (p:=⟨wr.heap.size,1,Ψ⟩) (by simp)).trans (by go_simp);have q1:ξ wr.heap.size wr s:=P.trans (m.mono (by simp));have t:wr.heap.size<s.heap.size:=by have:=m.size;simp at this;omega
    clear m P
    go_wp2_with fail
    go_region_held3 (fun x=>x.cell? ⟨wr.heap.size,1,Ψ⟩=Θ (.slice z f.length y)) (first|assumption|go_keep)
     (first
       |(go_at_call 323;(refine(Of _ _ _ _).mono ?_);rintro e w2 ⟨rfl,F⟩;have A:=(ω s.heap.size s).drew.trans (F.mono (by simp));have Y:=q1.trans (A.mono q1.size);have n3:=(A.cell (p:=⟨wr.heap.size,1,Ψ⟩) t).trans n2;have M:=Nat.lt_of_lt_of_le t A.size)
       |(go_at_call 219;(with_reducible refine(dq _ _).mono ?_);rintro e w3 ⟨rfl,rfl⟩))
    clear n2 q1 F t A
    go_wp2_with fail
    go_region_held3 (fun x=>x.cell? ⟨wr.heap.size,1,Ψ⟩=Θ (.slice z f.length y)) (first|assumption|go_keep)
     (first
       |(go_at_call 325;(refine(Wh _ _ _ _).mono ?_);rintro e w4 ⟨rfl,N⟩;have X:=(ω w3.heap.size w3).drew.trans (N.mono (by simp));have q4:=Y.trans (X.mono Y.size);have n4:=(X.cell (p:=⟨wr.heap.size,1,Ψ⟩) M).trans n3)
       |(go_at_call 219;(with_reducible refine(dq _ _).mono ?_);rintro e w5 ⟨rfl,rfl⟩))
    clear n3 Y N M X
    go_wp2_with fail
    clear n4 t1 t2 hm1 T;have U:=Ω (HXV.out.below q4);have I:=a.trans (q4.mono u)
    go_loopw [59] (fun i wr=>∃j:Nat,j<=f.length/\i=υ ψ j/\ξ w5.heap.size w5 wr) (fun i _=>f.length-(intOf i).toNat)
    case atStart=>exact⟨0,Nat.zero_le _,rfl,ω _ _⟩
    case round=>
     obtain⟨j,hj,rfl,g⟩:=hrel;clear q4;have l:=I.trans (g.mono I.size);have v:=l.size;have E:=g.size;by_cases o:j<f.length
     ·obtain⟨a9,m9,e9,_,_,C⟩:=U.out.below g;cases e9
      obtain⟨ba2,oa2,e,afb,n⟩:=C (by omega);cases e
      obtain⟨p,q,e1⟩:=ep o;obtain⟨f1,f2⟩:=n j p q e1;have L:=Ω (D.out _ (List.mem_of_getElem? e1));clear n e1 C
      go_wp2_with fail
      refine(pq _ b h p q (H.out.below (l.alloc v _)) hl L.out).mono ?_;rintro e w6 ⟨rfl,W⟩
      go_wp2_with fail
      exact⟨⟨j+1,by omega,by go_num,(g.alloc E _).trans (W.mono (by simp;omega))⟩,by simp[intOf];omega⟩
     ·go_wp2_with fail
      exact⟨⟨k+1,by omega,by go_num,l⟩,by simp[intOf];omega⟩
  ·have d1:=(a.cell (p:=⟨b,1,Ψ⟩) hb).trans C1.out
   go_wp2_with fail
   ((with_reducible refine(dq _ _).mono ?_))
   rintro e s ⟨rfl,rfl⟩
   go_wp2_with fail
   ((with_reducible refine(dq _ _).mono ?_))
   rintro e s ⟨rfl,rfl⟩
   go_wp2_with fail
   clear d1 hr4 hr5
   go_loopw [90] (fun i wr=>∃k:Nat,k<=h.roots.length/\i=υ ψ k/\ξ w'.heap.size w' wr) (fun i _=>h.roots.length-(intOf i).toNat)
   case atStart=>exact⟨0,Nat.zero_le _,rfl,a⟩
   case round=>
    clear a;obtain⟨A,hk2,rfl,a⟩:=hrel;have u:=a.size;by_cases o:A<h.roots.length
    ·obtain⟨ba,oa,e,Z,J⟩:=HR.out (by omega);cases e
     obtain⟨p,q,e1⟩:=ep o;obtain⟨f1,f2⟩:=(J.below a Z) A p q e1;have L:=Ω (K.out.roots _ (List.mem_of_getElem? e1));clear J e1
     go_wp2_with fail
     refine(pq _ b h p q (H.out.below (a.alloc u _)) hl L.out).mono ?_;rintro e w3 ⟨rfl,hb3⟩
     go_wp2_with fail
     exact⟨⟨A+1,by omega,by go_num,(a.alloc u _).trans (hb3.mono (by simp;omega))⟩,by simp[intOf];omega⟩
    ·have e2:=(a.cell (p:=⟨b,2,Ψ⟩) hb).trans C2.out;have e3:=(a.cell (p:=⟨b,3,Ψ⟩) hb).trans C3.out
     go_wp2_with fail
     go_region_held3 (fun w'=>w'.cell? ⟨b,2,Ψ⟩=Θ (.slice aw 0 mw)/\w'.cell? ⟨b,3,Ψ⟩=Θ (.slice ad 0 V)) (go_keep) (fail)
     go_wp2_with fail
     have S:ξ w'.heap.size w' ((wr.alloc (φ #[.slice aw 0 mw,.slice ad 0 V] 24)).drew):=(a.alloc u _).drew;have O:((wr.alloc (φ #[.slice aw 0 mw,.slice ad 0 V] 24)).drew).cell? ⟨wr.heap.size,0,Ψ⟩=Θ (.slice aw 0 mw):=by go_simp
     have Q:((wr.alloc (φ #[.slice aw 0 mw,.slice ad 0 V] 24)).drew).cell? ⟨wr.heap.size,1,Ψ⟩=Θ (.slice ad 0 V):=by go_simp
     have R:wr.heap.size<((wr.alloc (φ #[.slice aw 0 mw,.slice ad 0 V] 24)).drew).heap.size:=by simp
     generalize ((wr.alloc (φ #[.slice aw 0 mw,.slice ad 0 V] 24)).drew)=w9 at S O Q R⊢;generalize wr.heap.size=bx at O Q R u⊢;have hL:∀k:Nat,k<2->∃z y,w9.cell? ⟨bx,k,Ψ⟩=Θ (.slice z 0 y):=by
      intro k hk
      match k,hk with
      |0,_=>exact⟨_,_,O⟩
      |1,_=>exact⟨_,_,Q⟩
     have HL:=Ω hL;clear hL O Q e2 e3 a
     go_loopw [110] (fun i wr=>∃k:Nat,k<=2/\i=υ ψ k/\ξ w9.heap.size w9 wr) (fun i _=>2-(intOf i).toNat)
     case atStart=>exact⟨0,by omega,rfl,ω _ _⟩
     case round=>
      obtain⟨k3,hk3,rfl,a⟩:=hrel;by_cases hlt3:k3<2
      ·obtain⟨z,y,hc⟩:=HL.out k3 hlt3;have hcw:=(a.cell (p:=⟨bx,k3,Ψ⟩) R).trans hc;clear hc
       go_wp2_with fail
       ((with_reducible refine(dq _ _).mono ?_))
       rintro e s ⟨rfl,rfl⟩
       go_wp2_with fail
       clear hcw
       go_loopw [120] (fun i wr=>i=υ ψ 0/\ξ w9.heap.size w9 wr) (fun i _=>0)
       case atStart=>exact⟨rfl,a⟩
       case round=>
        obtain⟨rfl,g⟩:=hrel
        go_wp2_with fail
        exact⟨⟨k3+1,by omega,by go_num,g⟩,by simp[intOf];omega⟩
      ·go_wp2_with fail
       go_end0;exact⟨rfl,S.trans (a.mono S.size)⟩
end
end Kn
