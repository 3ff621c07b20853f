/- A part of the proof of GcBack; no conditions. -/
import Derived.Test.YtbnmpafbfoaggaaGreatDoorK0
import Derived.Test.YtbnmpafbfoaggaaGreatDoorK1
import Derived.Test.YtbnmpafbfoaggaaGreatDoorK2
import Derived.Carry
import Derived.Deep.Cut
import Derived.Deep.CutBlock
import Derived.Deep.DeepCutAuto
import Derived.Deep.AppendLies
set_option linter.defProp false
set_option linter.unusedVariables false
set_option linter.unusedSimpArgs false
set_option maxRecDepth 100000
set_option maxHeartbeats 16000000
noncomputable section
open Go.Lib renaming hid->I
open Array renaming getElem?_eq_some_iff->Ω
open Go.IntKind renaming i64->Ψ
open Go.Value renaming int->Ξ,slice->ZP,pointer->Zb
open Option renaming some->U,none->Z,map_eq_some_iff->YV
open List renaming getElem?_eq_some_iff->Θ,mem_of_getElem?->ω,getElem?_eq_getElem->χ,mem_map->ο,getD->ξ,setIfInBounds_toArray->μ,range->κ,mem_iff_getElem?->η,mem_filter->ε,map_append->Z8,map_congr_left->Z2,take_succ_cons->Z1,drop_succ_cons->Z0,set_cons_zero->ZY,set_cons_succ->ZX,getElem?_map->ZW,getElem?_set_self->ZV,pairwise_iff_getElem->ZU,length_filter_le->ZT,replicate->ZS,ext_getElem?->ZR,length_map->ZQ,take_length->ZO,take_zero->ZN,drop_zero->ZM,take_of_length_le->ZI,contains_iff_mem->ZF,getElem?_set->ZD,map_map->ZC,getElem?_append_left->ZB,eq_nil_of_length_eq_zero->Zx,length_set->Zw,mem_append->Zv,map_cons->Zs,getElem?_eq_none->Zk,length_replicate->Zj,mem_append_right->Zi,getElem?_set_ne->Zh,getElem?_take->Ze,filter_append->Zd,length_append->Zc,foldl_append->Y',nodup_append->Y9,getElem_mem->Y6,mem_eraseIdx_iff_getElem?->Y5,foldl_cons->Y2,mem_cons->YW,getElem_replicate->YT,length_pos_of_mem->YS,take_append_drop->YR,eraseIdx_sublist->YQ,mem_cons_of_mem->YP,mem_append_left->YO,mem_cons_self->YM,length_range->YI,prefix_refl->YH,length_take->YG,any_eq_true->YE,all_eq_true->YA,range_succ->Yy,mem_zipIdx->Yx,append_nil->Yw,nodup_nil->Yv,mem_range->Yt
open Go.Obj renaming cells->Δ
open And renaming intro->Γ
open Go renaming heap_alloc_new->ψ,Calls->ι,World->θ,run_underlying->ZK,results->ZH,bodyPost_ret->ZE,wpOp_step->Zz,madeCells->Zr,maxLen->Zq,info_parts->Zp,leaves_cons->Zn,block_lt_of_cell->Y0,TypeId->YY,wpList_step->YU,callsD_of_wpS->YN,Leaves->YK,settle->YJ,run_append_arg_grows->Yz,wpS_region->Ys
open Go.World renaming cell?->φ,frozen?->YZ,ownsRow_nil->YL
open Go.RowKit renaming Below->Y,Hid->Zf
open Go.RowKit.Below renaming refl->υ,heap_alloc->Z4
open Bool renaming true->R,false->ζ,and_eq_true->YB
open Int renaming eq_ofNat_of_zero_le->Z9,toNat_natCast->Y8
open Go.Addr renaming add->ZL
open Go.Builtin renaming append_->ZJ,delete_->Y7,lenOf->YF
open Go.Result renaming andThen_ok->ZG
open Go.Instr renaming makeFunc->ZA,lookup->Za,mapUpdate->Y4,findNow->YX,findKey->Yu
open List.cons renaming injEq->Zy
open Decidable renaming byContradiction->Zu
open Go.Sem renaming run_bind->Zt,run_pure->Zl,run->YD
open Array.mk renaming injEq->Zo
open Go.Act renaming put->Zm
open Ne renaming symm->Zg
namespace Go.Proofs.YtbnmpafbfoaggaaGreatDoor
open Go.Proofs.Tryz hiding prog
open Go.Proofs.aD
namespace Kn
open Go Go.RowKit Md
section
variable(w:θ){l:List HV}
def GG(h):dT h=J1 h (h.cells.length+1) 0 (iZ (iZ (iZ [] h.roots)<|h.done.map tT)<|h.aA.map tT):=by unfold dT Fe;rw[ts,ts]
theorem wY(h:PH):∀(f k:Nat) (o:List Int),o<+:J1 h f k o
 |0,_,_=>YH _
 |f+1,k,o=>by
  unfold J1;split
  exact YH _;exact(lT _ _).trans<|wY h f _ _
def QA:∀{N} {v},v∈l->v.1=1->v.2∈iZ N l:=by
 induction l with
 |nil=>exactλh=>by cases h
 |cons u l c=>
  intro N v a b;rw[vZ];obtain rfl|a:=YW.1 a
  rw[if_pos b];exact(lT l _).subset<|Kp _ _;exact c a b
def OF{A C}(h:A<+:C)(c:∀v∈l,v.1=1->v.2∈A):l.map (yA A)=l.map (yA C):=
 Z2 λv b=>by
  unfold yA;split
  rename_i a;rw[Jr h (c v b a)];rfl
def QB{S F l:List Int}{k n}(d:l[k]?=U n)(c:iZ S (l.map tT)<+:F):iZ S ((l.take<|k+1).map tT)=nb (iZ S<|(l.take k).map tT) n/\(((nb (iZ S<|(l.take k).map tT) n).idxOf n:Nat):Int)=oZ F n:=by
 have a:iZ S ((l.take<|k+1).map tT)=nb (iZ S<|(l.take k).map tT) n:=by rw[bW d,Z8,ts];rfl
 refine⟨a,?_⟩;have b:iZ S ((l.take<|k+1).map tT)<+:iZ S (l.map tT):=by have:=lT ((l.drop<|k+1).map tT)<|iZ S<|(l.take<|k+1).map tT;rwa[<-ts,<-Z8,YR]at this
 rw[a]at b;unfold oZ;rw[Jr (b.trans c) (Kp _ _)]
structure J9(h:PH)(F:List Int)(k:Nat)(o:List Int):Prop where
 nodup:o.Nodup
 rng:∀n∈o,0<=n/\n<(h.cells.length:Int)
 eq:J1 h (h.cells.length+1-k) k o=F
 le:k<=o.length
def WF{h}(a:Ny h)(c:∀v∈l,uI h v=0):∀v∈l,v.1=1->0<=v.2/\v.2<(h.cells.length:Int):=λv b d=>by have:=c v b;unfold uI at this;rw[if_neg (by omega),if_pos d]at this;have⟨i,k,f,e,a,_⟩:=EX this;have:=(Θ.1 a).1;omega
def J9.len{h F k o}(H:J9 h F k o):o.length<=h.cells.length:=PR (h':=h) (p:=id) (N:=λn=>0<=n/\n<(h.cells.length:Int)) (λn a=>a) (λ_ _ _ _ e=>e) H.rng H.nodup
def J9.step{h F}{k i:Nat}{o kd vs}(hw:Ny h)(H:J9 h F k o)(hi:o[k]?=U (i:Int))(hc:h.cells[i]?=U (kd,vs)):J9 h F (k+1) (iZ o vs):=by
 have d:=H.len;have c:=(Θ.1 hi).1;have a:cellP h (i:Int)=(kd,vs):=by simp[cellP,hc]
 have b:=WF hw<|hw.eT _<|ω hc;refine⟨sR _ H.nodup,Ff (N:=λn=>0<=n/\n<(h.cells.length:Int)) H.rng b,?_,?_⟩;have:=H.eq;rw[show h.cells.length+1-k=(h.cells.length+1-(k+1))+1 by omega]at this;unfold J1 at this;rw[hi]at this;dsimp only at this;rwa[a]at this;have:=(lT vs o).length_le;omega
def J9.done{h F k o}(H:J9 h F k o)(c:¬k<o.length):F=o/\k=o.length:=by have b:=H.len;have a:=H.le;refine⟨?_,by omega⟩;have:=H.eq;rw[show h.cells.length+1-k=(h.cells.length-k)+1 by omega]at this;unfold J1 at this;rw[Zk (by omega)]at this;exact this.symm
def J9.begin{h}(hw:Ny h):J9 h (dT h) 0 (iZ (iZ (iZ [] h.roots)<|h.done.map tT)<|h.aA.map tT):=by
 have a:∀l:List Int,(∀n∈l,Ik h n=0) ->∀v∈l.map tT,v.1=1->0<=v.2/\v.2<(h.cells.length:Int):=λl d v c _=>by obtain⟨n,g,rfl⟩:=ο.1 c;have⟨i,k,j,e,b,_⟩:=EX<|d n g;have:=(Θ.1 b).1;show 0<=n/\n<_;omega
 refine⟨sR _<|sR _<|sR _ Yv,?_,(GG h).symm,Nat.zero_le _⟩;exact Ff (N:=λn=>0<=n/\n<(h.cells.length:Int)) (Ff (Ff (λx f=>by cases f)<|WF hw hw.roots)<|a _ hw.done)<|a _ hw.aA
def J9.in_{h F k o}(H:J9 h F k o):o<+:F:=H.eq▸wY _ _ _ _
def take_prefix{a:Type}{A C:List a}{k}(h:A<+:C)(b:k<=A.length):C.take k=A.take k:=by obtain⟨t,rfl⟩:=h;rw[List.take_append_of_le_length b]
def WJ(h:PH)(n:Int):HC:=((cellP h n).1,(cellP h n).2.map<|yA<|dT h)
def four(w:θ)(n:Nat):θ:=(((w.alloc<|.map #[] 0).alloc<|Δ #[.map (U n)] 164).alloc<|Δ #[()] 24).alloc<|Δ #[.func (.func 177) #[] #[.pointer (n+1:Nat),.pointer (n+1+1:Nat)]] 47
def Js(n):Y w w (four w n):=(((af w _).alloc (by simp) _).alloc (by simp;omega) _).alloc (by simp;omega) _
def Pp(n):(four w n).heap.size=w.heap.size+4:=by simp[four]
def QD:kb (four w w) w (w.heap.size+1) (w.heap.size+1+1) (w.heap.size+1+1+1) w () []:=by refine⟨by omega,by omega,by omega,by omega,?_,?_,?_,OI.nil _ _,#[],0,?_,rfl⟩;refine(Z4 _ _ _<|by simp).trans<|(Z4 _ _ _<|by simp).trans ?_;simpa using ψ (w.alloc<|.map #[] 0) (Δ #[.map (U w)] 164);refine(Z4 _ _ _<|by simp).trans ?_;simpa using ψ ((w.alloc<|.map #[] 0).alloc<|Δ #[.map (U w)] 164) (Δ #[()] 24);simpa[four]using ψ (((w.alloc<|.map #[] 0).alloc<|Δ #[.map (U w)] 164).alloc<|Δ #[()] 24) (Δ #[.func (.func 177) #[] #[.pointer (w.heap.size+1:Nat),.pointer (w.heap.size+1+1:Nat)]] 47);exact(Z4 _ _ _ (by simp<;>omega)).trans<|(Z4 _ _ _ (by simp<;>omega)).trans<|(Z4 _ _ _<|by simp).trans<|ψ w _
def Q1(b h)(hp:qw w b h)(hk:Ny h):ι prog 123 #[.pointer b] w λe w'=>(∃r,e=.returned r/\pV w' w r (normal h))/\Y w w w':=by
 have HK:=I hk;have hmm:=@run_makeMap prog;have hb0:=af w<|Δ #[(),(),(),()] 56;have e0:=ψ w<|Δ #[(),(),(),()] 56;have hs0:(w.alloc<|Δ #[(),(),(),()] 56).heap.size=w.heap.size+1:=by simp
 have⟨c,r,wi,d,c0,c1,c2,c3,h1,h2,h3,h4⟩:=hp.below hb0;have hb:=az c0;have H1:=I h1;have H2:=I h2;have H3:=I h3;have H4:=I h4;obtain⟨ar,mr,hrv,-⟩:=h2;subst hrv;have q5:=((Js _<|w.heap.size+1).cell (p:=⟨b,1,Z⟩) hb).trans c1;clear hk h1 h3 h4 hp;unfold four at q5
 go_enter (fU func123 rfl),ntmps123
 go_wp2
 change ι _ _ _ (four (w.alloc<|Δ #[(),(),(),()] 56)<|w.heap.size+1) _
 clear q5;rw[<-hs0];generalize w.alloc _=f at hb0 e0 hs0 c0 c1 c2 c3 hb H1 H2 H3 H4⊢;have G:=I hs0;clear hs0;refine(J8 (four f f) f _ _ _ _ _ _ [] h.roots (QD f) (H2.out.below<|Js f _) (by simp) (by have:=HK.out.four;omega)).mono ?_;rintro e w1 ⟨r1,so1,rfl,ho1,hn1,ht1⟩;obtain⟨S0,hS0⟩:∃S0,S0=iZ [] h.roots:=⟨_,rfl⟩;have hp0:S0<+:dT h:=by rw[hS0,GG];exact(lT _ _).trans<|(lT _ _).trans<|wY _ _ _ _
 rw[<-hS0,OF hp0 (λv hv h1=>by rw[hS0];exact QA hv h1)]at ho1;rw[<-hS0]at hn1;have hB1:Y f f w1:=(Js f _).trans<|J5 (QD f) ht1 (by rw[Pp];omega);have hz1:=ht1.size;rw[Pp]at hz1 ho1;have agi:=ho1.less (B':=f.heap.size) (by omega);obtain⟨a1,m1,rfl,-⟩:=aF ho1;rw[ZQ]at agi;have hout:yB (w1.alloc<|Δ #[(),.slice a1 h.roots.length m1,(),()] 56) f w1.heap.size [] (h.roots.map<|yA<|dT h) (λ_=>[]) so1 () (.slice a1 h.roots.length m1) (λ_=>()):=⟨ψ _ _,OX.nil _ _,agi.alloc _,λ_=>OI.nil _ _,λ_ g hg=>(by cases hg),λ_ g hg=>(by cases hg),by omega⟩
 have hnum:=hn1.below<|af w1<|Δ #[(),.slice a1 h.roots.length m1,(),()] 56;have hB2:=hB1.alloc (by omega)<|Δ #[(),.slice a1 h.roots.length m1,(),()] 56;have c3':=cG hB1 c3 hb;have hb1:b<w1:=by omega
 obtain⟨ad,md,rfl,-⟩:=id H4.out;obtain⟨aw,mw,rfl,-⟩:=id H3.out;have H:=I<|Γ hout<|Γ hnum hB2;have HH0:=I hS0;have hz2:f.heap.size<w1:=by omega
 clear ho1 agi hn1 ht1 hout hnum hB2 hS0 hp0 hB1 hz1
 go_wp2
 clear c3';generalize w1.alloc _=w2 at H⊢;generalize w1.heap.size=p7 at H hz2 hb1⊢;generalize Value.slice a1 h.roots.length m1=vr at H⊢;have HW:=I<|Γ c0<|Γ c2 c3;clear c0 c1 c2 c3
 go_loopw [31] (λi wr=>∃(k:Nat) (E:Value) (u:Bool->Value),k<=h.done.length/\i=Ξ Ψ k/\Zf (yB wr f p7 [] (h.roots.map<|yA<|dT h) (λc=>if c then(h.done.take k).map (oZ<|dT h)else []) E () vr u/\kb wr f (f.heap.size+1) (f.heap.size+1+1) (f.heap.size+1+1+1) f E (iZ S0<|(h.done.take k).map tT)/\Y f f wr)) (λi _=>h.done.length-(intOf i).toNat)
 case atStart=>exact⟨0,so1,_,Nat.zero_le _,rfl,I ⟨by simpa using H.out.1,H.out.2⟩⟩
 case round=>
  clear H so1;obtain⟨k,E,u,hk,rfl,H⟩:=hrel;by_cases J:k<h.done.length
  ·have⟨a9,m9,e9,hm9,aht,O⟩:=H4.out.below H.out.2.2;cases e9
   have⟨ba2,oa2,e,afb,P⟩:=O (by omega);cases e
   have⟨n,e1⟩:=ot J;have f1:=P k n e1;have⟨q1,q2⟩:=QB (S:=S0) (F:=dT h) e1 (by rw[HH0.out,GG];exact(lT _ _).trans<|wY _ _ _ _);have hN:(iZ S0<|(h.done.take k).map tT).length<=1000000:=by have:=B8 ((h.done.take k).map tT) S0;have:=B8 h.roots [];have:=HH0.out;have:=HK.out.four;have:=HK.out.oX;subst S0;simp at *;omega
   have q3:(h.done.take<|k+1).map (oZ<|dT h)=(h.done.take k).map (oZ<|dT h)++[oZ (dT h) n]:=by rw[bW e1,Z8];rfl
   generalize iZ S0 ((h.done.take k).map tT)=Nk at H q1 q2 hN;have C:((h.done.take k).map<|oZ<|dT h).length=k:=by simp;omega
   generalize (h.done.take k).map (oZ<|dT h)=dk at H q3 C;have HQ:=I<|Γ q1<|Γ q2 q3;obtain⟨av,mv,B,-⟩:=aF<|H.out.1.i R;obtain⟨⟨-,-,d3⟩,-,d5,-⟩:=H.out.1.reads H.out.2.1;have hz:=H.out.2.2.size;rw[if_pos rfl,C]at B;rw[B]at d3;have HU:=I B;have HD:=I C;clear O P e1 B q1 q2 q3 C
   go_wp2
   refine Rg.aaH 4 2 (λx=>x ⟨p7,3,Z⟩=U (.slice av k mv)/\x.cell? ⟨f.heap.size+1+1+1,0,Z⟩=U (.func (.func 177) #[] #[Zb (U ⟨f.heap.size+1,0,Z⟩),Zb<|U ⟨f.heap.size+1+1,0,Z⟩])) (by kernel_rfl) (by kernel_rfl) (λc a d v w h=>by cases d<;>exact h) ⟨d3,d5⟩ ?_;simp only[Nat.reduceAdd,Z1,ZN,Z0,ZM]
   iterate 4
    (refine Rg.fp.step (v:=?_) (by rfl) (λx hx=>?_) ?_
     rotate_left
     (have⟨hx0,hx1⟩:=hx
      go_simp
      try rfl))
   refine Rg.fp.nil<|Rg.pA.succ ?_;simp only[Zm,μ,ZY,ZX];refine Zz rfl λK y=>?_;go_simp;have hd:=(υ wr wr).drew;refine(OB _ _ _ _ _ _ E _ n (H.out.2.1.below hd) hN).mono ?_;rw[HQ.out.2.1];rintro e w5 ⟨rfl,so5,D,A⟩;have⟨Ro,m,t,q⟩:=Kq (o:=Δ #[(oZ (dT h) n)] 3) H.out.1 H.out.2.1 H.out.2.2 .refl D A;obtain⟨⟨-,-,g3⟩,gf,g5,-⟩:=Ro.reads D;rw[HU.out]at g3;refine y _ _ ⟨⟨g3,g5⟩,Rg.pA.succ ?_⟩;clear y K;refine Zz rfl λK y=>?_;go_simp;obtain⟨⟨-,-,k3⟩,kf,k5,hk7,-⟩:=m.reads t;have X:=m.i R;rw[HU.out,if_pos rfl]at X;rw[HU.out]at k3;refine y _ _ ⟨⟨k3,k5⟩,Rg.pA.zero ?_⟩;clear y K g3 gf g5 d3 d5;have s:=q.size;have hlen:dk.length<=1000000000:=by have:=HD.out;have:=HK.out.oX;omega
   have HO:=I<|Γ m<|Γ t q;clear m t q
   go_wp2_with (at_builtin;refine Bc rfl _ _ rfl f _ _ rfl X w5.heap.size _ (oZ (dT h) n) rfl (by simp[go_sem,ZL]) hlen s ?_;intro v' w7 l hb7 Q agj;obtain⟨a7,m7,rfl,-⟩:=aF l;have n7:=(Q.block p7 hk7 λe=>cF X HO.out.1.hb nofun e.symm).trans HO.out.1.hb;obtain⟨⟨-,-,-,y3⟩,j7⟩:=dx n7;have j3:=j7 3)
   have⟨x1,x2,x3⟩:=yB.app (b:=R) HO.out.1 HO.out.2.1 l (by rw[HU.out];exact Q) (by rw[HU.out];obtain e|e:=agj;exact .inl e;exact .inr ⟨_,e,.refl⟩) s;have hl':(dk++[oZ (dT h) n]).length=dk.length+1:=by simp
   rw[hl']at x1 x2 x3;refine⟨⟨k+1,so5,λc=>if c=R then .slice a7 (dk.length+1) m7 else u c,by omega,by go_num,I ⟨?_,by rw[HQ.out.1];exact x2,HO.out.2.2.trans x3⟩⟩,by simp[intOf];omega⟩;rw[HQ.out.2.2];have hff:(λc=>if c=R then(if R=R then dk else [])++[oZ (dT h) n]else if c=R then dk else [])=λc=>if c=R then dk++[oZ (dT h) n]else []:=by funext c;cases c<;>rfl
   rw[<-hff];exact x1
  ·have hke:k=h.done.length:=by omega
   subst hke;rw[ZI .refl]at H;obtain⟨S1,hS1⟩:∃S1,S1=iZ S0 (h.done.map tT):=⟨_,rfl⟩;rw[<-hS1]at H;have HH1:=I hS1;have c2':=(H.out.2.2.cell (p:=⟨b,2,Z⟩) hb).trans HW.out.2.1;clear hS1 hk J
   go_wp2
   clear c2'
   go_loopw [50] (λi wr=>∃(k:Nat) (E:Value) (u:Bool->Value),k<=h.aA.length/\i=Ξ Ψ k/\Zf (yB wr f p7 [] (h.roots.map<|yA<|dT h) (λc=>if c then h.done.map (oZ<|dT h)else(h.aA.take k).map (oZ<|dT h)) E () vr u/\kb wr f (f.heap.size+1) (f.heap.size+1+1) (f.heap.size+1+1+1) f E (iZ S1<|(h.aA.take k).map tT)/\Y f f wr)) (λi _=>h.aA.length-(intOf i).toNat)
   case atStart=>exact⟨0,E,_,Nat.zero_le _,rfl,I ⟨by simpa using H.out.1,H.out.2⟩⟩
   case round=>
    clear H E u;obtain⟨k,E,u,hk,rfl,H⟩:=hrel;by_cases J:k<h.aA.length
    ·have⟨a9,m9,e9,hm9,aht,O⟩:=H3.out.below H.out.2.2;cases e9
     have⟨ba2,oa2,e,afb,P⟩:=O (by omega);cases e
     have⟨n,e1⟩:=ot J;have f1:=P k n e1;have⟨q1,q2⟩:=QB (S:=S1) (F:=dT h) e1 (by rw[HH1.out,HH0.out,GG];exact wY _ _ _ _);have hN:(iZ S1<|(h.aA.take k).map tT).length<=1000000:=by have:=B8 ((h.aA.take k).map tT) S1;have:=B8 h.roots [];have:=HH0.out;have:=HH1.out;have:=HK.out.four;have:=HK.out.oX;have:=HK.out.vY;have:=B8 (h.done.map tT) S0;subst S1;subst S0;simp at *;omega
     have q3:(h.aA.take<|k+1).map (oZ<|dT h)=(h.aA.take k).map (oZ<|dT h)++[oZ (dT h) n]:=by rw[bW e1,Z8];rfl
     generalize iZ S1 ((h.aA.take k).map tT)=Nk at H q1 q2 hN;have C:((h.aA.take k).map<|oZ<|dT h).length=k:=by simp;omega
     generalize (h.aA.take k).map (oZ<|dT h)=dk at H q3 C;have HQ:=I<|Γ q1<|Γ q2 q3;obtain⟨av,mv,B,-⟩:=aF<|H.out.1.i ζ;obtain⟨⟨-,d2,-⟩,-,d5,-⟩:=H.out.1.reads H.out.2.1;have hz:=H.out.2.2.size;rw[if_neg (by simp),C]at B;rw[B]at d2;have HU:=I B;have HD:=I C;clear O P e1 B q1 q2 q3 C
     go_wp2
     refine Rg.aaH 4 2 (λx=>x ⟨p7,2,Z⟩=U (.slice av k mv)/\x.cell? ⟨f.heap.size+1+1+1,0,Z⟩=U (.func (.func 177) #[] #[Zb (U ⟨f.heap.size+1,0,Z⟩),Zb<|U ⟨f.heap.size+1+1,0,Z⟩])) (by kernel_rfl) (by kernel_rfl) (λc a d v w h=>by cases d<;>exact h) ⟨d2,d5⟩ ?_;simp only[Nat.reduceAdd,Z1,ZN,Z0,ZM]
     iterate 4
      (refine Rg.fp.step (v:=?_) (by rfl) (λx hx=>?_) ?_
       rotate_left
       (have⟨hx0,hx1⟩:=hx
        go_simp
        try rfl))
     refine Rg.fp.nil<|Rg.pA.succ ?_;simp only[Zm,μ,ZY,ZX];refine Zz rfl λK y=>?_;go_simp;have hd:=(υ wr wr).drew;refine(OB _ _ _ _ _ _ E _ n (H.out.2.1.below hd) hN).mono ?_;rw[HQ.out.2.1];rintro e w5 ⟨rfl,so5,D,A⟩;have⟨Ro,m,t,q⟩:=Kq (o:=Δ #[(oZ (dT h) n)] 3) H.out.1 H.out.2.1 H.out.2.2 .refl D A;obtain⟨⟨-,g3,-⟩,gf,g5,-⟩:=Ro.reads D;rw[HU.out]at g3;refine y _ _ ⟨⟨g3,g5⟩,Rg.pA.succ ?_⟩;clear y K;refine Zz rfl λK y=>?_;go_simp;obtain⟨⟨-,k3,-⟩,kf,k5,hk7,-⟩:=m.reads t;have X:=m.i ζ;rw[HU.out,if_neg<|by simp]at X;rw[HU.out]at k3;refine y _ _ ⟨⟨k3,k5⟩,Rg.pA.zero ?_⟩;clear y K g3 gf g5 d2 d5;have s:=q.size;have hlen:dk.length<=1000000000:=by have:=HD.out;have:=HK.out.vY;omega
     have HO:=I<|Γ m<|Γ t q;clear m t q
     go_wp2_with (at_builtin;refine Bc rfl _ _ rfl f _ _ rfl X w5.heap.size _ (oZ (dT h) n) rfl (by simp[go_sem,ZL]) hlen s ?_;intro v' w7 l hb7 Q agj;obtain⟨a7,m7,rfl,-⟩:=aF l;have n7:=(Q.block p7 hk7 λe=>cF X HO.out.1.hb nofun e.symm).trans HO.out.1.hb;obtain⟨⟨-,-,y3,-⟩,j7⟩:=dx n7;have j3:=j7 2)
     have⟨x1,x2,x3⟩:=yB.app (b:=ζ) HO.out.1 HO.out.2.1 l (by rw[HU.out];exact Q) (by rw[HU.out];obtain e|e:=agj;exact .inl e;exact .inr ⟨_,e,.refl⟩) s;have hl':(dk++[oZ (dT h) n]).length=dk.length+1:=by simp
     rw[hl']at x1 x2 x3;refine⟨⟨k+1,so5,λc=>if c=ζ then .slice a7 (dk.length+1) m7 else u c,by omega,by go_num,I ⟨?_,by rw[HQ.out.1];exact x2,HO.out.2.2.trans x3⟩⟩,by simp[intOf];omega⟩;rw[HQ.out.2.2];have hff:(λc=>if c=ζ then(if ζ=R then h.done.map (oZ<|dT h)else dk)++[oZ (dT h) n]else if c=R then h.done.map (oZ<|dT h)else dk)=λc=>if c=R then h.done.map (oZ<|dT h)else dk++[oZ (dT h) n]:=by funext c;cases c<;>rfl
     rw[<-hff];exact x1
    ·have hke:k=h.aA.length:=by omega
     subst hke;rw[ZI .refl,HH1.out,HH0.out]at H;have hI:=J9.begin HK.out;generalize hS2:iZ (iZ (iZ [] h.roots)<|h.done.map tT) (h.aA.map tT)=S2 at H hI;clear hS2 hk J HH0 HH1
     go_wp2
     go_loopw [12] (λi wr=>∃(k:Nat) (E vc:Value) (u:Bool->Value) (N:List Int),i=Ξ Ψ k/\Zf (J9 h (dT h) k N/\yB wr f p7 ((N.take k).map<|WJ h) (h.roots.map<|yA<|dT h) (λc=>if c then h.done.map (oZ<|dT h)else h.aA.map (oZ<|dT h)) E vc vr u/\kb wr f (f.heap.size+1) (f.heap.size+1+1) (f.heap.size+1+1+1) f E N/\Y f f wr)) (λi _=>h.cells.length-(intOf i).toNat)
     case atStart=>exact⟨0,E,_,u,S2,rfl,I ⟨hI,H.out⟩⟩
     case round=>
      clear H E u hI;obtain⟨k,E,vc,u,N,rfl,H⟩:=hrel;obtain⟨ag,mg,hso,apt,apu,-⟩:=aF H.out.2.2.1.row;have hrow:=H.out.2.2.1.row.reads;subst hso;have e4:=H.out.2.2.1.h4;have d4:wr (f.heap.size+1+1:Nat)=U (.slice ag N.length mg):=by simp[φ,e4]
      have hz:=H.out.2.2.2.size;have ajI:=I hrow;clear hrow e4;by_cases J:k<N.length
      ·obtain⟨a9,m9,e9,-,-,O⟩:=ajI.out;cases e9
       have⟨bg,og,e,hbg,ahD⟩:=O (by omega);cases e
       have⟨n,e1⟩:=ot J;have f1:=ahD k n e1;have⟨hn0,hn1⟩:=H.out.1.rng n<|ω e1;obtain⟨i,rfl⟩:=Z9 hn0;have hil:i<h.cells.length:=by omega
       have⟨ac,mc,hcv,hmc1,am9,hac⟩:=H1.out.below H.out.2.2.2;have⟨bc,oc,e,hbc,ahE⟩:=hac (by omega);subst e;have⟨kd,z,ec⟩:=cQ hil;have⟨g1,x,g2,hx⟩:=ahE i kd z ec;have d0:=(H.out.2.2.2.cell (p:=⟨b,0,Z⟩) hb).trans HW.out.1;rw[hcv]at d0;have hbr:b<wr:=by omega
       have HX:=I hx;obtain⟨ax,mx,hxv,-⟩:=hx;subst hxv;have hkc:k<h.cells.length:=by have:=H.out.1.len;omega
       have HE:=I<|Γ e1 ec;clear O ahD ahE hac e1 ec
       go_wp2
       refine Rg.aaH 11 1 (λx=>x b=U (.slice (bc,oc) h.cells.length mc)/\x (f.heap.size+1+1:Nat)=U (.slice (bg,og) N.length mg)/\x (bg,og+k)=U (Ξ Ψ (i:Int))/\x (bc,oc+i*2)=U (Ξ Ψ kd)/\x (bc,oc+i*2+1)=U (.slice ax z.length mx)) (by kernel_rfl) (by kernel_rfl) (λc a d v w h=>by cases d<;>exact h) ⟨d0,d4,f1,g1,g2⟩ ?_;simp only[Nat.reduceAdd,Z1,ZN,Z0,ZM]
       iterate 11
        (refine Rg.fp.step (v:=?_) (by rfl) (λx hx=>?_) ?_
         rotate_left
         (have⟨hx0,hx1,hx2,hx3,hx4⟩:=hx
          go_simp
          try rfl))
       refine Rg.fp.nil<|Rg.pA.succ ?_;simp only[Zm,μ,ZY,ZX];refine Zz rfl λK y=>?_;go_simp;have hbN:=(υ wr wr).drew.alloc .refl<|Δ #[Ξ Ψ 0,()] 76;have hk5:f.heap.size+1+1<wr:=az d4;refine y _ _ ⟨⟨cG hbN d0 hbr,cG hbN d4 hk5,cG hbN f1 hbg,cG hbN g1 hbc,cG hbN g2 hbc⟩,Rg.pA.zero ?_⟩;clear y K d0 d4 f1 g1 g2 hbN;have hsz:=H.out.2.2.2.size
       go_wp2
       have hbA:Y wr wr ((wr.alloc<|Δ #[kd,.slice ax z.length mx] 76).drew):=(af _ _).drew;have e13:((wr.alloc<|Δ #[kd,.slice ax z.length mx] 76).drew).heap[wr.heap.size]?=U (Δ #[kd,.slice ax z.length mx] 76 (0,0)):=ψ wr _;have hOA:=H.out.2.1.below hbA;have L:=H.out.2.2.1.below hbA;have hBA:=H.out.2.2.2.trans<|hbA.mono hsz;have hXA:=HX.out.below hbA;clear hbA;generalize (wr.alloc _).drew=wA at hOA L hBA hXA e13⊢;generalize wr.heap.size=W at e13 hsz⊢;have⟨lc,hlc,hle⟩:=hOA.c;obtain⟨av,mv,hvv,-⟩:=aF hlc;subst hvv;obtain⟨⟨b0,-,-⟩,-,-,apv,-⟩:=hOA.reads L;obtain⟨b1,b2,-,-⟩:=fl e13;have PE:=(Ω.1 e13).1;have ajK:N.length<=100000:=by have:=H.out.1.len;have:=HK.out.many;omega
       have ajL:z.length<=100000:=by have:=HK.out.kinds _<|ω HE.out.2;dsimp only at this;omega
       refine Rg.aaH 7 3 (λx=>x p7=U (.slice av lc.length mv)/\x W=U (Ξ Ψ kd)/\x ⟨W,1,Z⟩=U (.slice ax z.length mx)) (by kernel_rfl) (by kernel_rfl) (λc a d v w h=>by cases d<;>exact h) ⟨b0,b1,b2⟩ ?_;simp only[Nat.reduceAdd,Z1,ZN,Z0,ZM]
       iterate 7
        (refine Rg.fp.step (v:=?_) (by rfl) (λx hx=>?_) ?_
         rotate_left
         (have⟨hx0,hx1,hx2⟩:=hx
          go_simp
          try rfl))
       refine Rg.fp.nil<|Rg.pA.succ ?_;simp only[Zm,μ,ZY,ZX];refine Zz rfl λK y=>?_;go_simp;have hd:=(υ wA wA).drew;refine(J8 wA.drew _ _ _ _ _ _ _ N z (L.below hd) (hXA.below hd) ajK ajL).mono ?_;rintro e w5 ⟨r,so5,rfl,hr5,D,A⟩;have f13:=(L.below hd).free ((hd.block W PE).trans e13) nofun nofun;have agk:=(A.block W PE f13.1 f13.2.1 f13.2.2).trans<|(hd.block W PE).trans e13;obtain⟨T,mr5,hrv,-⟩:=aF hr5;rw[ZQ]at hrv;subst hrv;have⟨h5,m,t,q⟩:=Kq (o:=Δ #[kd,.slice T z.length mr5] 76) hOA L hBA .refl D A;obtain⟨⟨c0,-,-⟩,-,-,ajM,-⟩:=h5.reads D;obtain⟨c1,c2,-,-⟩:=fl agk;have ahH:OC w5 f (.slice av lc.length mv) lc:=J6 (L.below hd) A (hlc.below hd) nofun nofun;have ahI:=(hle.keep<|kE.below hd).num (L.below hd) A;have hzw:=hBA.size;have KU:=A.size;simp only[World.size_drew]at KU hr5;refine y _ _ ⟨⟨c0,c1,c2⟩,Rg.pA.succ ?_⟩;clear y K;refine Zz rfl λK y=>?_;go_simp;refine y _ _ ⟨⟨c0,c1,c2⟩,Rg.pA.succ ?_⟩;clear y K;refine Zz rfl λK y=>?_;go_simp;refine y _ _ ⟨⟨((af w5 _).cell (p:=⟨p7,0,Z⟩) ajM).trans c0,((af w5 _).cell (p:=⟨W,0,Z⟩) (Ω.1 agk).1).trans c1,((af w5 _).cell (p:=⟨W,1,Z⟩) (Ω.1 agk).1).trans c2⟩,Rg.pA.zero ?_⟩;have hx6:OV (w5.alloc<|Δ #[kd,.slice T z.length mr5] 76) f (.slice T z.length mr5) (z.map<|yA<|iZ N z):=(hr5.less<|by omega).alloc _;have hst:=J9.step HK.out H.out.1 HE.out.1 HE.out.2;rw[OF hst.in_ (λv hv h1=>QA hv h1)]at hx6;clear y K c0 c1 c2 b0 b1 b2;have agm:=ahH.alloc<|Δ #[kd,.slice T z.length mr5] 76;have aeC:=ahI.keep<|kE.below<|af w5<|Δ #[kd,.slice T z.length mr5] 76;have hl6:lc.length<=1000000000:=by have h1:=hle.1;have:=H.out.1.le;have:=H.out.1.len;have:=HK.out.many;rw[ZQ,YG]at h1;omega
       have HQ:=I<|Γ m<|Γ t<|Γ q<|Γ agm<|Γ aeC<|Γ hx6 hst;have s:=q.size;have ajN:=(Ω.1 m.hb).1;clear m t q aeC hx6 hst ahH ahI hlc hle hOA L hBA hXA hr5 D A h5
       go_wp2_with (at_builtin;refine wh rfl _ _ rfl f _ _ rfl agm w5.heap.size _ (kd,.slice T z.length mr5) rfl rfl (by simp[go_sem,ZL]) hl6 s ?_;intro v' w7 l hb7 Q;obtain⟨a7,m7,rfl,-⟩:=aF l;have n7:=(Q.block p7 ajN λe=>cF agm HQ.out.1.hb nofun e.symm).trans HQ.out.1.hb;obtain⟨⟨y0,-⟩,j7⟩:=dx n7;have j0:=j7 0)
       have⟨m,t,q,ahJ,aeC,hx6,hst⟩:=HQ.out;have⟨x1,x2,x3⟩:=yB.cell m ahJ aeC t hx6 l Q s;have hl':(lc++[(kd,Value.slice T z.length mr5)]).length=lc.length+1:=by simp
       rw[hl']at x1 x2 x3;refine⟨⟨k+1,so5,.slice a7 (lc.length+1) m7,u,iZ N z,by go_num,I ⟨hst,?_,x2,q.trans x3⟩⟩,by simp[intOf];omega⟩;have hcs:((iZ N z).take<|k+1).map (WJ h)=(N.take k).map (WJ h)++[(kd,z.map<|yA<|dT h)]:=by
        rw[take_prefix (lT z N) (by omega),bW HE.out.1,Z8];have:cellP h (i:Int)=(kd,z):=by simp[cellP,HE.out.2]
        simp[WJ,this]
       rw[hcs];exact x1
      ·have⟨hF,hkN⟩:=H.out.1.done J;have⟨hO,hN,hB⟩:=H.out.2;have z0:=(hB.block w (by have:=G.out;omega)).trans e0;obtain⟨-,zf⟩:=dx z0;have hne:p7≠w.heap.size:=by have:=G.out;omega
       have f0:=zf 0;have f1:=zf 1;have f2:=zf 2;have f3:=zf 3;obtain⟨⟨s0,s1,s2,s3⟩,-⟩:=dx z0;obtain⟨⟨t0,t1,t2,t3⟩,-⟩:=dx hO.hb;have⟨lc,hlc,hle⟩:=hO.c;obtain⟨a1,n1,v1,-⟩:=aF hlc;obtain⟨a2,n2,v2,-⟩:=aF hO.r;obtain⟨a3,n3,v3,-⟩:=aF<|hO.i ζ;obtain⟨a4,n4,v4,-⟩:=aF<|hO.i R;have hown:pV wr f (.agg #[vc,vr,u ζ,u R]) (normal h):=⟨_,_,_,_,rfl,by have:=hO.c;rw[ZI (by omega),<-hF]at this;exact this,hO.r,hO.i ζ,hO.i R⟩;generalize lc.length=m1 at v1;generalize (h.roots.map<|yA<|dT h).length=m2 at v2;generalize (if ζ=R then h.done.map (oZ<|dT h)else h.aA.map (oZ<|dT h)).length=m3 at v3;generalize (if R=R then h.done.map (oZ<|dT h)else h.aA.map (oZ<|dT h)).length=m4 at v4;rw[v1]at t0;rw[v2]at t1;rw[v3]at t2;rw[v4]at t3;rw[v1,v2,v3,v4]at hown;have HO:=I hown;have HZ:=I z0;have HBB:=I hB;clear hown z0 hB hO hN H v1 v2 v3 v4 hlc hle hF hkN zf
       go_wp2
       have hf:=heap_setCell_same (i:=3) (v:=.slice a4 m4 n4)<|heap_setCell_same (i:=2) (v:=.slice a3 m3 n3)<|heap_setCell_same (i:=1) (v:=.slice a2 m2 n2)<|heap_setCell_same (i:=0) (v:=.slice a1 m1 n1) HZ.out;have hkf:kE f wr ((((wr.setCell w.heap.size<|.slice a1 m1 n1).setCell (w.heap.size,1)<|.slice a2 m2 n2).setCell (w.heap.size,2)<|.slice a3 m3 n3).setCell (w.heap.size,3)<|.slice a4 m4 n4):=λj hb _=>(aq (by have:=G.out;omega)).trans<|(aq (by have:=G.out;omega)).trans<|(aq (by have:=G.out;omega)).trans<|aq (by have:=G.out;omega);have Dv:Y w w wr:=hb0.trans<|HBB.out.mono (by have:=G.out;omega);have hBf:Y w w ((((wr.setCell w.heap.size<|.slice a1 m1 n1).setCell (w.heap.size,1)<|.slice a2 m2 n2).setCell (w.heap.size,2)<|.slice a3 m3 n3).setCell (w.heap.size,3)<|.slice a4 m4 n4):=(((Dv.setCell (p:=(w.heap.size:Addr)) .refl _).setCell (p:=((w.heap.size,1):Addr)) .refl _).setCell (p:=((w.heap.size,2):Addr)) .refl _).setCell (p:=((w.heap.size,3):Addr)) .refl _;generalize ((((wr.setCell w.heap.size<|.slice a1 m1 n1).setCell (w.heap.size,1)<|.slice a2 m2 n2).setCell (w.heap.size,2)<|.slice a3 m3 n3).setCell (w.heap.size,3)<|.slice a4 m4 n4)=wf at hf hkf hBf⊢;obtain⟨⟨y0,y1,y2,y3⟩,-⟩:=dx hf;have hlo:w.heap.size<=f:=by have:=G.out;omega
       have⟨_,_,_,_,e,q1,q2,q3,q4⟩:=HO.out;cases e
       exact ZE (v:=.agg #[.slice a1 m1 n1,.slice a2 m2 n2,.slice a3 m3 n3,.slice a4 m4 n4]) (by simp[ZH,results123,go_sem,y0,y1,y2,y3]) rfl ⟨⟨_,rfl,_,_,_,_,rfl,(q1.keep hkf).less hlo,eV (fd q2 hkf) hlo,eV (fd q3 hkf) hlo,eV (fd q4 hkf) hlo⟩,hBf⟩
end
section
variable(w:θ)(x y:Value)
def Q6(l)(v:eI w x l)(u:eI w y l):
 ι prog 138 #[x,y] w λe w'=>e=.returned (.bool R)/\Y w.heap.size w w':=by
 obtain⟨a,m,rfl,F,t,r⟩:=v;obtain⟨B,D,rfl,s,n,g⟩:=u
 go_enter (fU func138 rfl),ntmps138
 go_wp2
 go_loopw [13] (λi wr=>∃k:Nat,k<=l.length/\i=Ξ Ψ k/\Y w.heap.size w wr) (λi _=>l.length-(intOf i).toNat)
 case atStart=>exact⟨0,Nat.zero_le _,rfl,.refl _ _⟩
 case round=>
  obtain⟨k,A,rfl,hb⟩:=hrel;by_cases h:k<l.length
  ·obtain⟨b,o,rfl,j,d⟩:=r (by omega);obtain⟨z,C,rfl,f,c⟩:=g (by omega);obtain⟨p,q,e1⟩:=ep h;obtain⟨c1,c2⟩:=(d.below hb j) k p q e1;obtain⟨c3,G⟩:=(c.below hb f) k p q e1;have E:=nc p q;clear r g d c e1
   go_wp2
   go_quiet (fail)
   go_wp2
   exact⟨⟨k+1,by omega,by go_num,bl hb _⟩,by simp[intOf];omega⟩
  ·go_wp2
   go_ret;exact⟨rfl,hb⟩
def Q8(l)(u:By w x l)(t:By w y l):
 ι prog 139 #[x,y] w λe w'=>e=.returned (.bool R)/\Y w.heap.size w w':=by
 obtain⟨a,m,rfl,D,s,q⟩:=u;obtain⟨A,C,rfl,r,n,g⟩:=t
 go_enter (fU func139 rfl),ntmps139
 go_wp2
 go_loopw [13] (λi wr=>∃k:Nat,k<=l.length/\i=Ξ Ψ k/\Y w.heap.size w wr) (λi _=>l.length-(intOf i).toNat)
 case atStart=>exact⟨0,Nat.zero_le _,rfl,.refl _ _⟩
 case round=>
  obtain⟨k,z,rfl,hb⟩:=hrel;by_cases h:k<l.length
  ·obtain⟨b,o,rfl,j,d⟩:=q (by omega);obtain⟨v,B,rfl,f,c⟩:=g (by omega);obtain⟨p,e1⟩:=ot h;have c1:=(d.below hb j) k p e1;have c3:=(c.below hb f) k p e1;clear q g d c e1
   go_wp2
   go_quiet (fail)
   go_wp2
   exact⟨⟨k+1,by omega,by go_num,bl hb _⟩,by simp[intOf];omega⟩
  ·go_wp2
   go_ret;exact⟨rfl,hb⟩
def RB(k x y l)(f:eI w x l)(d:eI w y l):
 ι prog 137 #[.agg #[Ξ Ψ k,x],.agg #[Ξ Ψ k,y]] w λe w'=>e=.returned (.bool R)/\Y w.heap.size w w':=by
 have o:=I f;have h:=I d;obtain⟨a,m,rfl,p,j,-⟩:=f;obtain⟨i,n,rfl,g,c,-⟩:=d;have hb:=(af w<|Δ #[Ξ Ψ k,.slice a l.length m] 76).alloc (by simp)<|Δ #[Ξ Ψ k,.slice i l.length n] 76;have q:(k==k)=R:=by simp
 go_enter (fU func137 rfl),ntmps137
 go_wp2_with fail
 refine(Q6 _ _ _ l (o.out.below hb)<|h.out.below hb).mono ?_;rintro e r ⟨rfl,b⟩
 go_wp2
 go_ret;exact⟨rfl,hb.trans<|b.mono (by simp;omega)⟩
def aaS(l)(C:sa w x l)(B:sa w y l):
 ι prog 136 #[x,y,.func (.func 137) #[] #[]] w λe w'=>e=.returned (.bool R)/\Y w.heap.size w w':=by
 have N:=I C;have J:=I B;obtain⟨a,m,rfl,hm,F,-⟩:=C;obtain⟨T,X,rfl,E,v,-⟩:=B
 go_enter (fU func136 rfl),ntmps136
 go_wp2
 go_loopw [17] (λi wr=>∃k:Nat,k<=l.length/\i=Ξ Ψ k/\Y w.heap.size w wr) (λi _=>l.length-(intOf i).toNat)
 case atStart=>exact⟨0,Nat.zero_le _,rfl,.refl _ _⟩
 case round=>
  obtain⟨k,S,rfl,hb⟩:=hrel;by_cases q:k<l.length
  ·obtain⟨_,_,e,-,-,D⟩:=N.out.below hb;cases e
   obtain⟨_,_,e,-,-,j⟩:=J.out.below hb;cases e
   obtain⟨b,o,rfl,G,f⟩:=D (by omega);obtain⟨P,W,rfl,A,c⟩:=j (by omega);obtain⟨p,g,e1⟩:=cQ q;obtain⟨c1,z,c2,hz⟩:=f k p g e1;obtain⟨c3,Q,c4,h⟩:=c k p g e1;have L:=I hz;have s:=I h;obtain⟨K,H,rfl,-⟩:=hz;obtain⟨t,r,rfl,-⟩:=h;have d:=(af wr<|Δ #[Ξ Ψ p,.slice K g.length H] 76).alloc (by simp)<|Δ #[Ξ Ψ p,.slice t g.length r] 76;have n:=hb.size;clear D j f c e1
   go_wp2_with fail
   refine(RB _ p _ _ g (L.out.below d)<|s.out.below d).mono ?_;rintro e O ⟨rfl,u⟩
   go_wp2
   exact⟨⟨k+1,by omega,by go_num,hb.trans<|(d.trans<|u.mono (by simp;omega)).mono n⟩,by simp[intOf];omega⟩
  ·go_wp2
   go_ret;exact⟨rfl,hb⟩
end
def Q9(p x w)(c:w p=U x)(d:w.frozen? p=ζ):
 CallsD prog 135 #[Zb (U p)] .returning w λe g w'=>e=.returned (.tuple #[])/\g=.returning/\∃w1,Y w w w1/\w'=w1.setCell p (Ξ Ψ 0):=by
 have b:=Y0 c;refine YN (fU func135 rfl) rfl λa cs f=>?_;apply Ys;simp[wpOpsS,go_sem,recoverD,f,ntmps135,Exit.thenS];refine(Ad w).mono ?_;rintro e w1 ⟨rfl,hb⟩;have i:=(hb.cell b).trans c;have h:=(hb.frozen b).trans d;cases a
 simp_all [go_sem,bodyPostS,ZH,results135]
 exact⟨w1,hb,rfl⟩
def pV.reads{w B v h}(a:pV w B v h):tH w v h:=by obtain⟨c,r,b,d,e,g,f,h3,h4⟩:=a;exact⟨c,r,b,d,e,g.reads,f.reads,h3.reads,h4.reads⟩
def pV.blocks{w w' B v h}(A:pV w B v h)(s:∀(g:Nat) c t fr,w.heap[g]?=U (Δ c t fr) ->t≠56->w'.heap[g]?=w.heap[g]?):pV w' B v h:=by
 have row:∀{e size n:Nat} {v:Value} {xs:List Value},e≠56->w.ownsRow B e size v n xs->w'.ownsRow B e size v n xs:=λC m=>aS m λg b=>by
  obtain⟨_,⟨rfl,_⟩|⟨D,y,z,rfl,E,a,_⟩⟩:=m;cases b
  cases b
  exact s _ _ _ _ a C
 obtain⟨c,r,p,d,e,⟨l,u,h5,o⟩,q,h3,h4⟩:=A;exact⟨c,r,p,d,e,⟨l,row (by simp) u,h5,λi k x j f e1 e2=>⟨(o i k x j f e1 e2).1,row (by simp) (o i k x j f e1 e2).2⟩⟩,row (by decide) q,row (by decide) h3,row (by decide) h4⟩
def pV.below{w w' B v h}(a:pV w B v h)(d:Y w w w'):pV w' B v h:=a.blocks λg c t fr b _=>d.block g (Ω.1 b).1
def pV.less{w B B' v h}(b:pV w B v h)(a:B'<=B):pV w B' v h:=by obtain⟨c,r,f,d,e,i,g,h3,h4⟩:=b;exact⟨c,r,f,d,e,i.less a,eV g a,eV h3 a,eV h4 a⟩
def SP.at_(h:PH):Rg.SP:=⟨λv w=>∃b,v=.pointer (b:Nat)/\qw w b h,λ_ _ _ hb ⟨b,e,hp⟩=>⟨b,e,hp.below hb⟩⟩
def SP.ph(B:Nat)(h:PH):Rg.SP:=⟨λv w=>pV w B v h,λ_ _ _ hb hp=>hp.below hb⟩
def agn(w v1 v2 h k)(h1:tH w v1 h)(h2:tH w v2 k)(hh:Ny h)(hk:Ny k)(he:normal h=normal k):
 ι prog 71 #[v1,v2] w λe w'=>e=.returned (.tuple #[.bool R,Ξ Ψ 0])/\Y w w w':=by
 have hmf:∀(fn:Fn) (first cap:Array Value) (w:θ),(ZA fn first cap).run prog w=.ok (.func fn first cap) w:=λ_ _ _ _=>rfl;have H1:=I h1;have H2:=I h2;have HH:=I hh;have HK:=I hk;have HE:=I he;obtain⟨c,r,D,d,rfl,-⟩:=h1;obtain⟨H,E,n,G,rfl,-⟩:=h2;clear hh hk he
 go_enter_defers (fU func71 rfl),ntmps71
 go_wp2_with fail
 have z:=((af w<|Δ #[c,r,D,d] 56).alloc (by simp)<|Δ #[H,E,n,G] 56).alloc (by simp;omega)<|Δ #[Ξ Ψ 0] 34;have z1:(((w.alloc<|Δ #[c,r,D,d] 56).alloc<|Δ #[H,E,n,G] 56).alloc<|Δ #[Ξ Ψ 0] 34).heap[w.heap.size]?=U (Δ #[c,r,D,d] 56):=(Z4 _ _ _ (by simp;omega)).trans<|(Z4 _ _ _<|by simp).trans<|ψ w _;have z2:(((w.alloc<|Δ #[c,r,D,d] 56).alloc<|Δ #[H,E,n,G] 56).alloc<|Δ #[Ξ Ψ 0] 34).heap[w.heap.size+1]?=U (Δ #[H,E,n,G] 56):=(Z4 _ _ _<|by simp).trans (by simpa using ψ (w.alloc<|Δ #[c,r,D,d] 56) (Δ #[H,E,n,G] 56));have z3:(((w.alloc<|Δ #[c,r,D,d] 56).alloc<|Δ #[H,E,n,G] 56).alloc<|Δ #[Ξ Ψ 0] 34).heap[w.heap.size+1+1]?=U (Δ #[Ξ Ψ 0] 34):=by simpa using ψ ((w.alloc<|Δ #[c,r,D,d] 56).alloc<|Δ #[H,E,n,G] 56) (Δ #[Ξ Ψ 0] 34)
 have P:(((w.alloc<|Δ #[c,r,D,d] 56).alloc<|Δ #[H,E,n,G] 56).alloc<|Δ #[Ξ Ψ 0] 34).heap.size=w.heap.size+3:=by simp
 generalize ((w.alloc _).alloc _).alloc _=J at z z1 z2 z3 P⊢;have H1':=I<|H1.out.below z;have H2':=I<|H2.out.below z;have B:=I<|Γ z1<|Γ z2<|Γ z3<|Γ P z;clear z1 z2 z3 P z;refine Rg.Pg [.eq (.agg #[c,r,D,d]),SP.at_ h,SP.ph J<|normal h,.eq<|.agg #[H,E,n,G],SP.at_ k,SP.ph J<|normal k,SP.aaG J,SP.aaG J] (λi=>i==6||i==7) (by kernel_rfl) (by kernel_rfl) (by rfl) ?_ ?_
 ·refine⟨?_,?_,?_,?_,?_,?_,?_,?_,trivial⟩
  all_goals intro a2 w2 hb2 a j
  all_goals have S:Y J J w2:=(υ _ J).drew.trans hb2
  ·have b2:=a 2 rfl;simp at b2;obtain⟨q0,q1,q2,q3⟩:=(dx<|(S.block w (by have:=B.out.2.2.2.1;omega)).trans B.out.1).1;clear a j;go_simp;exact⟨_,rfl,.refl _ _,rfl⟩
  ·have d0:=Rg.ir (j 0 _ rfl rfl) rfl;clear a j;go_simp;refine(PP _ _ h (H1'.out.below S) HH.out).mono ?_;rintro e w3 ⟨⟨b,rfl,N⟩,m⟩;exact⟨_,rfl,m,b,rfl,N.reads⟩
  ·obtain⟨b,d0,hp⟩:∃b,(a2.tmps[10]?).getD undef=.pointer (b:Nat)/\qw w2 b h:=j 1 _ rfl rfl;clear a j;go_simp;refine(Q1 _ b h hp HH.out).mono ?_;rintro e w3 ⟨⟨r,rfl,N⟩,m⟩;exact⟨_,rfl,m,N.less S.size⟩
  ·have b2:=a 3 rfl;simp at b2;obtain⟨q0,q1,q2,q3⟩:=(dx<|(S.block (w.heap.size+1) (by have:=B.out.2.2.2.1;omega)).trans B.out.2.1).1;clear a j;go_simp;exact⟨_,rfl,.refl _ _,rfl⟩
  ·have d0:=Rg.ir (j 3 _ rfl rfl) rfl;clear a j;go_simp;refine(PP _ _ k (H2'.out.below S) HK.out).mono ?_;rintro e w3 ⟨⟨b,rfl,N⟩,m⟩;exact⟨_,rfl,m,b,rfl,N.reads⟩
  ·obtain⟨b,d0,hp⟩:∃b,(a2.tmps[13]?).getD undef=.pointer (b:Nat)/\qw w2 b k:=j 4 _ rfl rfl;clear a j;go_simp;refine(Q1 _ b k hp HK.out).mono ?_;rintro e w3 ⟨⟨r,rfl,N⟩,m⟩;exact⟨_,rfl,m,N.less S.size⟩
  all_goals
   clear a j;have hz:=S.size;go_simp;exact⟨_,rfl,af _ _,⟨_,rfl,ψ _ _,hz⟩,by simp[Rg.d6]⟩
 ·rintro vs0 w3 m ⟨s0,s1,s2,s3,s4,s5,⟨C,s6,e6,l6⟩,⟨A,s7,e7,l7⟩,-⟩ hdd;have hne:C≠A:=by have:=hdd 6 7 (by simp) (by simp) (by simp) rfl rfl;simp only[Nat.reduceAdd]at s6 s7;rw[s6,s7]at this;simpa[Rg.d6]using this
  have s0:=s0;have s3:=s3;have s2:=s2;have s5:=s5;rw[HE.out]at s2;have B3:=B.out.2.2.2.2.trans<|((υ _ J).drew.trans m).mono B.out.2.2.2.2.size;have z3:=(m.block (w.heap.size+1+1) (by have:=B.out.2.2.2.1;omega)).trans B.out.2.2.1;have n6:w.heap.size+1+1<C:=by have:=B.out.2.2.2.1;omega
  have n7:w.heap.size+1+1<A:=by have:=B.out.2.2.2.1;omega
  obtain⟨⟨t0,t1,t2,t3⟩,tf⟩:=dx e6;obtain⟨⟨u0,u1,u2,u3⟩,uf⟩:=dx e7;have f0:=tf 0;have f1:=tf 1;have f2:=tf 2;have f3:=tf 3;have f4:=uf 0;have f5:=uf 1;have f6:=uf 2;have f7:=uf 3;have S2:=I s2;have S5:=I s5;obtain⟨x1,x2,x3,x4,v2,p1,p2,p3,p4⟩:=s2.reads;obtain⟨y1,y2,y3,y4,v5,r1,r2,r3,r4⟩:=s5.reads;simp[go_sem,s0,s3,s6,s7,v2,v5];rw[v2]at S2;rw[v5]at S5;obtain⟨ax1,mx1,rfl,-⟩:=p1;obtain⟨ax2,mx2,rfl,-⟩:=p2;obtain⟨ax3,mx3,rfl,-⟩:=p3;obtain⟨ax4,mx4,rfl,-⟩:=p4;obtain⟨ay1,my1,rfl,-⟩:=r1;obtain⟨ay2,my2,rfl,-⟩:=r2;obtain⟨ay3,my3,rfl,-⟩:=r3;obtain⟨ay4,my4,rfl,-⟩:=r4;have Z3:=I z3;have E6:=I e6;have E7:=I e7;clear s0 s1 s2 s3 s4 s5 s6 s7 v2 v5 hdd tf uf e6 e7 z3
  go_wp2_with fail
  obtain⟨c6,k6,B6,z6⟩:=wR (.slice ax1 (normal k).cells.length mx1) (.slice ax2 (normal k).roots.length mx2) (.slice ax3 (normal k).aA.length mx3) (.slice ax4 (normal k).done.length mx4) E6.out;have C6:=S2.out.blocks λg c t fr y L=>k6 g λe=>L (by subst e;rw[E6.out]at y;cases y;rfl);have C5:=S5.out.blocks λg c t fr y L=>k6 g λe=>L (by subst e;rw[E6.out]at y;cases y;rfl);have x:=(k6 A<|Zg hne).trans E7.out;have Z6:=(k6 (w.heap.size+1+1)<|by omega).trans Z3.out;have O:=B3.trans<|B6 w<|by omega
  generalize (((w3.setCell C<|.slice ax1 (normal k).cells.length mx1).setCell (C,1)<|.slice ax2 (normal k).roots.length mx2).setCell (C,2)<|.slice ax3 (normal k).aA.length mx3).setCell (C,3) (.slice ax4 (normal k).done.length mx4)=w6 at c6 C6 C5 x Z6 O⊢;obtain⟨W,k7,B7,z7⟩:=wR (.slice ay1 (normal k).cells.length my1) (.slice ay2 (normal k).roots.length my2) (.slice ay3 (normal k).aA.length my3) (.slice ay4 (normal k).done.length my4) x;have D6:=C6.blocks λg c t fr y L=>k7 g λe=>L (by subst e;rw[x]at y;cases y;rfl);have D5:=C5.blocks λg c t fr y L=>k7 g λe=>L (by subst e;rw[x]at y;cases y;rfl);have q:=(k7 C hne).trans c6;have Z7:=(k7 (w.heap.size+1+1)<|by omega).trans Z6;have Q:=O.trans<|B7 w<|by omega
  clear t0 t1 t2 t3 u0 u1 u2 u3 f0 f1 f2 f3 f4 f5 f6 f7 c6 C6 C5 Z6 O;generalize (((w6.setCell A<|.slice ay1 (normal k).cells.length my1).setCell (A,1)<|.slice ay2 (normal k).roots.length my2).setCell (A,2)<|.slice ay3 (normal k).aA.length my3).setCell (A,3) (.slice ay4 (normal k).done.length my4)=w7 at W D6 D5 q Z7 Q⊢;clear k6 k7 B6 B7 x z6 z7;obtain⟨_,_,_,_,e,p1,p2,p3,p4⟩:=D6.reads;simp only[Value.agg.injEq,Zo,Zy,and_true]at e;obtain⟨rfl,rfl,rfl,rfl⟩:=e;obtain⟨_,_,_,_,e,r1,r2,r3,r4⟩:=D5.reads;simp only[Value.agg.injEq,Zo,Zy,and_true]at e;obtain⟨rfl,rfl,rfl,rfl⟩:=e;refine(aaS _ _ _ _ p1 r1).mono ?_;rintro e w8 ⟨rfl,u⟩;obtain⟨⟨-,m1,m2,m3⟩,-⟩:=dx<|(u.block C (Ω.1 q).1).trans q;obtain⟨⟨-,o1,o2,o3⟩,-⟩:=dx<|(u.block A (Ω.1 W).1).trans W
  go_wp2_with fail
  refine(Q6 _ _ _ _ (p2.below u)<|r2.below u).mono ?_;rintro e w9 ⟨rfl,o⟩;replace o:=u.trans<|o.mono u.size;clear m1 m2 m3 o1 o2 o3;obtain⟨⟨-,-,m2,m3⟩,-⟩:=dx<|(o.block C (Ω.1 q).1).trans q;obtain⟨⟨-,-,o2,o3⟩,-⟩:=dx<|(o.block A (Ω.1 W).1).trans W
  go_wp2_with fail
  refine(Q8 _ _ _ _ (p3.below o)<|r3.below o).mono ?_;rintro e w10 ⟨rfl,l⟩;replace l:=o.trans<|l.mono o.size;clear m2 m3 o2 o3;obtain⟨⟨-,-,-,m3⟩,-⟩:=dx<|(l.block C (Ω.1 q).1).trans q;obtain⟨⟨-,-,-,o3⟩,-⟩:=dx<|(l.block A (Ω.1 W).1).trans W
  go_wp2_with fail
  refine(Q8 _ _ _ _ (p4.below l)<|r4.below l).mono ?_;rintro e T ⟨rfl,s⟩;replace s:=l.trans<|s.mono l.size;clear m3 o3;have F:=(s.block _ (Ω.1 Z7).1).trans Z7;have ze:T (w.heap.size+1+1:Nat)=U (Ξ Ψ 0):=by simp[φ,F]
  have fe:T.frozen? (w.heap.size+1+1:Nat)=ζ:=by simp[YZ,F]
  have ZZ:=I F;clear F
  go_wp2_with fail
  have k2:=heap_setCell_same (i:=0) (v:=Ξ Ψ 0) ZZ.out;have X:=(Q.trans<|s.mono Q.size).setCell (p:=⟨w.heap.size+1+1,0,Z⟩) (by omega:w.heap.size<=w.heap.size+1+1)<|Ξ Ψ 0;generalize T.setCell (w.heap.size+1+1:Nat) (Ξ Ψ 0)=w12 at k2 X⊢;clear ze fe;refine Zn (f:=135) (args:=#[.pointer (w.heap.size+1+1:Nat)]) (by simp) (by simp[go_sem]) ?_;refine(Q9 (w.heap.size+1+1:Nat) (Ξ Ψ 0) _ (by simp[φ,k2])<|by simp[YZ,k2]).mono ?_;rintro e u' w'' ⟨rfl,rfl,w13,K,rfl⟩;have n2:=heap_setCell_same (i:=0) (v:=Ξ Ψ 0)<|(K.block _ (Ω.1 k2).1).trans k2;have B13:=(X.trans<|K.mono X.size).setCell (p:=⟨w.heap.size+1+1,0,Z⟩) (by omega:w.heap.size<=w.heap.size+1+1)<|Ξ Ψ 0;generalize w13.setCell (w.heap.size+1+1:Nat) (Ξ Ψ 0)=w14 at n2 B13⊢;have r9:w14 (w.heap.size+1+1:Nat)=U (Ξ Ψ 0):=by simp[φ,n2]
  simp[YK,YJ,ZH,results71,go_sem,r9];exact B13
section
section
variable{t:YY}{w w2 w3:θ}{B b:Nat}{c vw vd s' x r:Value}{cs:List HC}{roots vs:List HV}{wi d:List Int}{l:List (Int×Value)}{k:Int}
def gN.snoc(E:B<=b)(hb:w.heap[b]?=U (Δ #[c,r,vw,vd] t (0,0)))(H:OI w B vw wi)(G:OI w B vd d)(h3:OC w B c l)(h4:df w B l cs)(h5:OV w B r roots)
 (u:(∀(i:Nat) p,l[i]?=U p->∀g,p.2.ownBlock=U g->r.ownBlock≠U g)/\t≠3/\t≠50/\t≠76) (y:B<=w) (v:Y w w w2) (C:OV w2 w x vs) (m:w2.grownBy w3 c.ownBlock) (L:OC w3 B s' (l++[(k,x)])):
 gN t (w3.setCell b s') B b s' vw vd (cs++[(k,vs)]) roots wi d/\Y B w (w3.setCell b s'):=by
 have a:=h3.below v;have o:=h4.below v;have z:=(v.block b (Ω.1 hb).1).trans hb;have f:=(m.block b (Ω.1 z).1 λe=>cF a z u.2.2.2 e.symm).trans z;have s:df w3 B l cs:=⟨o.1,λi k x A vs e1 e2=>⟨(o.2.1 i k x A vs e1 e2).1,fy (o.2.1 i k x A vs e1 e2).2 a nofun m⟩,o.2.2⟩;have j:∀k,k≠b->(w3.setCell b s').heap[k]?=w3.heap[k]?:=λk h=>aq h;refine⟨⟨r,l++[(k,x)],E,?_,bp (fy (OI.below H v) a nofun m) f u.2.1 j,bp (fy (OI.below G v) a nofun m) f u.2.1 j,bp L f u.2.2.2 j,?_,bp (fy (OV.below h5 v) a nofun m) f u.2.2.1 j,λi p hi g m q=>?_,u.2⟩,?_⟩;rw[aB f];simp;have D:df (w3.setCell b s') B l cs:=⟨s.1,λi k x A vs e1 e2=>⟨(s.2.1 i k x A vs e1 e2).1,bp (s.2.1 i k x A vs e1 e2).2 f u.2.2.1 j⟩,s.2.2⟩;refine D.snoc (OV.less (bp (fy C a nofun m) f u.2.2.1 j) y) λi p hi g m q=>?_;have n:i<cs.length:=by rw[<-h4.1];exact(Θ.1 hi).1
 have⟨F,J,e3⟩:=cQ n;have:=((h4.2.1 i p.1 p.2 F J hi e3).2.lt g m).2;have:=(C.lt g q).1;omega;obtain n|n:=Nat.lt_or_ge i l.length
 ·rw[ZB n]at hi;exact u.1 i p hi g m q
 rw[List.getElem?_append_right n]at hi;have K:p=(k,x):=by
  have:=(Θ.1 hi).1;have h0:i-l.length=0:=by simp at this;omega
  rw[h0]at hi;simpa using hi.symm
 subst K;have:=(C.lt g m).1;have:=(h5.lt g q).2;omega;refine((v.mono y).grown m (Nat.le_trans y v.size) λk e=>?_).setCell (p:=⟨b,0,Z⟩) E _;exact(a.lt k e).1
end
def Pq(w:θ)(B:Nat)(v:Value)(h:PH):Prop:=∃c r vw vd l,v=.agg #[c,r,vw,vd]/\OI w B vw h.aA/\OI w B vd h.done/\OC w B c l/\df w B l h.cells/\OV w B r h.roots/\∀(i:Nat) p,l[i]?=U p->∀g,p.2.ownBlock=U g->r.ownBlock≠U g
def Pq.ph{w B v h}(a:Pq w B v h):pV w B v h:=by obtain⟨c,r,e,f,l,rfl,d,b,h3,h4,h5,_⟩:=a;exact⟨c,r,e,f,rfl,⟨l,h3,h4.1,h4.2.1⟩,h5,d,b⟩
def SP.aeD(B:Nat)(n:YY):Rg.SP:=⟨λv w=>∃g,v=.slice (g:Nat) 0 0/\w.heap[g]?=U (Δ #[] n (0,0))/\B<=g,λ_ _ _ hb ⟨g,h1,h2,h3⟩=>⟨g,h1,(hb.block g (Ω.1 h2).1).trans h2,h3⟩⟩
def ago(w V:θ)(S B:Nat)(sc vw vd:Value)(cs:List HC)(h:PH):Prop:=gN 56 V S B sc vw vd cs h.roots h.aA h.done/\Y S w V
def aaT{w w8 S B s4 b c h}(n:Y S w w8)(f:S<=B)(d:w8.heap[B]?=U (Δ #[(),(),(),()] 56 (0,0)))(h4:OV w8 S s4 h.roots)(m:OI w8 S b h.aA)(l:OI w8 S c h.done):
 ago w ((((w8.setCell B ()).setCell (B,1) s4).setCell (B,2) b).setCell (B,3) c) S B () b c [] h:=by
 have⟨g,a,e,_⟩:=wR () s4 b c d;exact⟨⟨s4,[],f,g,bp m d nofun a,bp l d nofun a,OC.nil _ _,⟨rfl,λi k x r o e1 _=>by simp at e1,λi j p q _ e1 _=>by simp at e1⟩,bp h4 d nofun a,λi p e1=>by simp at e1,by decide⟩,n.trans<|e S f⟩
def RD(w v h)(hv:tH w v h)(hc:h.cells.length<=1000000)(hs:∀c∈h.cells,c.2.length<=1000000)(hr:h.roots.length<=1000000)(hwl:h.aA.length<=1000000)(hd:h.done.length<=1000000):
 ι prog 67 #[v] w λe w'=>(∃r,e=.returned r/\Pq w' w r h)/\Y w w w':=by
 obtain⟨a0,a1,a2,a3,rfl,h0,h1,h2,h3⟩:=hv;have⟨z0,z1,u,hs0⟩:=JZ w (Δ #[a0,a1,a2,a3] 56)<|Δ #[(),(),(),()] 56
 go_enter (fU func67 rfl),ntmps67
 go_wp2
 generalize (w.alloc _).alloc _=L at z0 z1 u hs0⊢;have⟨c0,c1,c2,c3⟩:=(dx z0).1;replace h0:=h0.below u;replace h1:=h1.below u;replace h2:=h2.below u;replace h3:=h3.below u;have P:w.heap.size<L:=by omega
 refine Rg.kl [.eq (.pointer (w.heap.size,1)),.eq a1,SP.ov (w.heap.size+2) h.roots,.eq<|.pointer (w.heap.size,2),.eq a2,SP.oi (w.heap.size+2) h.aA,.eq<|.pointer (w.heap.size,3),.eq a3,SP.oi (w.heap.size+2) h.done,SP.aax (w.heap.size+2) h.roots h.aA h.done,SP.aaG<|w.heap.size+2] (by kernel_rfl) (by kernel_rfl) (by rfl) ?_ ?_
 ·refine⟨?_,?_,?_,?_,?_,?_,?_,?_,?_,?_,?_,trivial⟩
  all_goals intro x2 w2 hb2 d b
  all_goals have f:=(υ _ L).drew.trans hb2
  all_goals first|(have f1:=cG f c1 P;have f2:=cG f c2 P;have f3:=cG f c3 P;have k0:=d 1 rfl;simp at k0;(try have q0:=Rg.ir (b 0 _ rfl rfl) rfl);(try have q1:=Rg.ir (b 3 _ rfl rfl) rfl);(try have K:=Rg.ir (b 6 _ rfl rfl) rfl);clear d b;go_simp;exact⟨_,rfl,.refl _ _,rfl⟩)|skip
  ·have E:=Rg.ir (b 1 _ rfl rfl) rfl;clear d b;go_simp;refine(wb _ a1 h.roots (h1.below f) hr).mono ?_;rintro e w3 ⟨⟨r,rfl,ho⟩,n⟩;exact⟨_,rfl,n,ho.less (by have:=f.size;omega)⟩
  ·have E:=Rg.ir (b 4 _ rfl rfl) rfl;clear d b;go_simp;refine(Jq _ a2 h.aA (h2.below f) hwl).mono ?_;rintro e w3 ⟨⟨r,rfl,ho⟩,n⟩;exact⟨_,rfl,n,ho.less (by have:=f.size;omega)⟩
  ·have E:=Rg.ir (b 7 _ rfl rfl) rfl;clear d b;go_simp;refine(Jq _ a3 h.done (h3.below f) hd).mono ?_;rintro e w3 ⟨⟨r,rfl,ho⟩,n⟩;exact⟨_,rfl,n,ho.less (by have:=f.size;omega)⟩
  ·obtain⟨v1,E,hv1⟩:∃v,(x2.tmps[7]?).getD undef=v/\OV w2 (w.heap.size+2) v _:=⟨_,rfl,b 2 _ rfl rfl⟩;obtain⟨v2,d2,hv2⟩:∃v,(x2.tmps[10]?).getD undef=v/\OI w2 (w.heap.size+2) v _:=⟨_,rfl,b 5 _ rfl rfl⟩;obtain⟨v3,d3,hv3⟩:∃v,(x2.tmps[13]?).getD undef=v/\OI w2 (w.heap.size+2) v _:=⟨_,rfl,b 8 _ rfl rfl⟩;obtain⟨_,_,rfl,_⟩:=aF hv1;obtain⟨_,_,rfl,_⟩:=aF hv2;obtain⟨_,_,rfl,_⟩:=aF hv3;clear d b;go_simp;exact⟨_,rfl,.refl _ _,_,_,_,rfl,hv1,hv2,hv3⟩
  ·clear d b;go_simp;exact⟨_,rfl,af _ _,_,rfl,ψ _ _,by have:=f.size;omega⟩
 ·rintro D w8 hb8 ⟨s0,s1,s2,s3,s4,s5,s6,s7,s8,⟨x4,x6,x8,s9,S4,S6,S8⟩,⟨B,t,xo,hlB⟩,-⟩;have s9:D 9=_:=s9;have t:D 10=_:=t;obtain⟨a4,m4,rfl,_⟩:=aF S4;obtain⟨a6,X,rfl,_⟩:=aF S6;obtain⟨a8,m8,rfl,_⟩:=aF S8;simp[go_sem,s9,t];have T:Y L L w8:=(υ _ L).drew.trans hb8;obtain⟨S,hS⟩:∃S,S=w.heap.size+2:=⟨_,rfl⟩;rw[<-hS]at S4 S6 S8 hlB;have hSw:S=L.heap.size:=by omega
  have HP:=I<|aaT (w:=L) (hSw▸T) hlB xo S4 S6 S8;have⟨xc0,xc1,xc2,xc3,xf0,xf1,xf2,xf3⟩:=km xo;have HV:=I h0;obtain⟨ac,mc,rfl,hmc,am9,_⟩:=h0;have HC0:=I c0;clear S4 S6 S8 s0 s1 s2 s3 s4 s5 s6 s7 s8 s9 t hb8 T xo c0 c1 c2 c3 h1 h2 h3
  go_wp2
  generalize ((((w8.setCell B ()).setCell (B,1)<|.slice a4 h.roots.length m4).setCell ⟨B,2,Z⟩<|.slice a6 h.aA.length X).setCell ⟨B,3,Z⟩<|.slice a8 h.done.length m8)=v9 at HP⊢;clear xc0 xc1 xc2 xc3 xf0 xf1 xf2 xf3
  go_loopw [4] (λi wr=>∃(k:Nat) (sc:Value),k<=h.cells.length/\i=Ξ Ψ k/\Zf (ago L wr S B sc (.slice a6 h.aA.length X) (.slice a8 h.done.length m8) (h.cells.take k) h)) (λi _=>h.cells.length-(intOf i).toNat)
  case atStart=>exact⟨0,(),Nat.zero_le _,rfl,HP⟩
  case round=>
   clear HP;obtain⟨k,sc,hk,rfl,HR⟩:=hrel;have hb:Y L L wr:=hSw▸HR.out.2;have c0:=cG hb HC0.out P;by_cases hlk:k<h.cells.length
   ·have⟨a',mc',he,_,_,W⟩:=HV.out.below hb;cases he
    obtain⟨bb,o,rfl,hbb,W⟩:=W (by omega);have⟨p,N,e1⟩:=cQ hlk;have⟨f0,x,f1,hxv⟩:=W k p N e1;have hvl:=hs _<|ω e1;have⟨r,l,hSB,q,q1,K,A,G,J,Q⟩:=HR.out.1;have hll:l.length=k:=by rw[G.1];simp;omega
    have hsz:=hb.size;have hBl:B<wr:=(Ω.1 q).1;obtain⟨m,j,rfl,_⟩:=aF A;have cs0:wr B=U (.slice m l.length j):=by simp[φ,q]
    have H:=I<|Γ q<|Γ q1<|Γ K<|Γ A<|Γ G<|Γ J Q;have E1:=I e1;have hlw:w.heap.size<wr:=by omega
    clear q q1 K A G J Q e1 W
    go_wp2
    refine Rg.kl [.eq (.pointer B),.eq<|.slice m l.length j,.eq<|.pointer w.heap.size,.eq<|.slice (bb,o) h.cells.length mc,.eq<|Ξ Ψ k,.eq<|.pointer (bb,o+k*2),.eq<|.pointer (bb,o+k*2),.eq p,.eq<|.pointer w.heap.size,.eq<|.slice (bb,o) h.cells.length mc,.eq<|Ξ Ψ k,.eq<|.pointer (bb,o+k*2),.eq<|.pointer (bb,o+k*2+1),.eq x,SP.ov wr N,SP.cell wr p N,SP.adG wr p N] (by kernel_rfl) (by kernel_rfl) (by rfl) ?_ ?_
    ·refine⟨?_,?_,?_,?_,?_,?_,?_,?_,?_,?_,?_,?_,?_,?_,?_,?_,?_,trivial⟩
     all_goals intro a2 w2 hb2 d b
     all_goals have f:=(υ _ wr).drew.trans hb2
     all_goals first|(have g0:=cG f c0 hlw;have g1:=cG f cs0 hBl;have g2:=cG f f0 hbb;have g3:=cG f f1 hbb;have k0:=d 1 rfl;have k1:=d 3 rfl;have k2:=d 4 rfl;simp at k0 k1 k2;(try have q0:=Rg.ir (b 0 _ rfl rfl) rfl);(try have K:=Rg.ir (b 2 _ rfl rfl) rfl);(try have A:=Rg.ir (b 3 _ rfl rfl) rfl);(try have G:=Rg.ir (b 4 _ rfl rfl) rfl);(try have J:=Rg.ir (b 5 _ rfl rfl) rfl);(try have Q:=Rg.ir (b 6 _ rfl rfl) rfl);(try have q8:=Rg.ir (b 8 _ rfl rfl) rfl);(try have q9:=Rg.ir (b 9 _ rfl rfl) rfl);(try have q10:=Rg.ir (b 10 _ rfl rfl) rfl);(try have q11:=Rg.ir (b 11 _ rfl rfl) rfl);(try have q12:=Rg.ir (b 12 _ rfl rfl) rfl);clear d b;go_simp;exact⟨_,rfl,.refl _ _,rfl⟩)|skip
     ·have d0:=Rg.ir (b 13 _ rfl rfl) rfl;clear d b;go_simp;refine(wb _ x N (hxv.below f) hvl).mono ?_;rintro e w3 ⟨⟨r,rfl,ho⟩,n⟩;exact⟨_,rfl,n,ho.less f.size⟩
     ·have d0:=Rg.ir (b 7 _ rfl rfl) rfl;have E:OV w2 wr ((a2.tmps[36]?).getD undef) N:=b 14 _ rfl rfl;have⟨ay,my,d2,_⟩:=aF E;rw[d2]at E;clear d b;go_simp;exact⟨_,rfl,.refl _ _,_,rfl,E⟩
     ·obtain⟨y,d0,E⟩:∃y,(a2.tmps[37]?).getD undef=.agg #[Ξ Ψ p,y]/\OV w2 wr y N:=b 15 _ rfl rfl;clear d b;obtain⟨ay,my,rfl,_⟩:=aF E;go_simp;exact⟨_,rfl,af _ _,_,_,rfl,ψ _ _,E.alloc _⟩
    ·rintro D w3 n ⟨s0,s1,s2,s3,s4,s5,s6,s7,s8,s9,t,s11,s12,s13,s14,s15,⟨g,y,O,hg,hy⟩,_⟩;obtain⟨ay,my,rfl,_⟩:=aF hy;have s1:D 1=.slice m l.length j:=s1;have O:D 16=_:=O;simp[go_sem,s1,O];clear s0 s1 s2 s3 s4 s5 s6 s7 s8 s9 t s11 s12 s13 s14 s15 O c0 f0 f1;have f:=(υ wr wr).drew.trans n;have⟨h1,h2,_,_⟩:=fl hg;have hcB:=(f.block B hBl).trans H.out.1
     go_wp2_with (at_builtin;refine wh rfl _ _ rfl S _ _ rfl (H.out.2.2.2.1.below f) g _ (p,.slice ay N.length my) rfl rfl ⟨h1,h2⟩ (by omega) (by have:=f.size;omega) ?_;intro v' w6 C ahL Qn;obtain⟨a6,X,rfl,_⟩:=aF C;have t1:=(Qn.block B (by have:=f.size;omega) λe=>cF (H.out.2.2.2.1.below f) hcB nofun e.symm).trans hcB;have⟨⟨t2,_⟩,t3⟩:=dx t1)
     have⟨r1,r2⟩:=gN.snoc hSB H.out.1 H.out.2.1 H.out.2.2.1 H.out.2.2.2.1 H.out.2.2.2.2.1 H.out.2.2.2.2.2.1 H.out.2.2.2.2.2.2 (by omega) f hy Qn C;rw[show(l++[(p,Value.slice ay N.length my)]).length=k+1 by simp[hll]]at r1 r2;exact⟨⟨k+1,_,by omega,by go_num,I ⟨by rw[bW E1.out];exact r1,HR.out.2.trans r2⟩⟩,by simp[intOf];omega⟩
   ·have hke:k=h.cells.length:=by omega
    subst hke;have⟨⟨r,l,hSB,q,q1,K,A,G,J,Q⟩,T⟩:=HR.out;rw[ZO]at G;obtain⟨⟨d0,E,d2,d3⟩,-⟩:=dx q;obtain⟨m,j,rfl,_⟩:=aF A;obtain⟨z,F,rfl,_⟩:=aF J;have y1:=(hb.block (w.heap.size+1)<|by omega).trans z1;have⟨e0,e1,e2,e3,g0,g1,g2,g3⟩:=km y1;have HF:=I<|Γ q1<|Γ K<|Γ A<|Γ G<|Γ J Q.1;clear q1 K A G J Q q HR z0 z1
    go_wp2
    have⟨hk,s,hbl,_⟩:=wR (.slice m l.length j) (.slice z h.roots.length F) (.slice a6 h.aA.length X) (.slice a8 h.done.length m8) y1;have hfin:=(u.trans<|T.mono<|by omega).trans<|hbl w<|by omega
    have⟨q1,K,A,G,J,Q⟩:=HF.out;have hown:Pq ((((wr.setCell (w.heap.size+1:Nat)<|.slice m l.length j).setCell (w.heap.size+1,1)<|.slice z h.roots.length F).setCell (w.heap.size+1,2)<|.slice a6 h.aA.length X).setCell (w.heap.size+1,3)<|.slice a8 h.done.length m8) w (.agg #[.slice m l.length j,.slice z h.roots.length F,.slice a6 h.aA.length X,.slice a8 h.done.length m8]) h:=⟨_,_,_,_,l,rfl,eV (bp q1 y1 nofun s)<|by omega,eV (bp K y1 nofun s)<|by omega,eV (bp A y1 nofun s)<|by omega,(lA G y1 nofun s).less<|by omega,eV (bp J y1 nofun s)<|by omega,Q⟩
    clear s hbl q1 K A G J Q HF;generalize ((((wr.setCell (w.heap.size+1:Nat)<|.slice m l.length j).setCell (w.heap.size+1,1)<|.slice z h.roots.length F).setCell (w.heap.size+1,2)<|.slice a6 h.aA.length X).setCell (w.heap.size+1,3)<|.slice a8 h.done.length m8)=a at hk hown hfin⊢;have⟨⟨x0,x1,x2,x3⟩,_⟩:=dx hk;exact ZE (v:=.agg #[.slice m l.length j,.slice z h.roots.length F,.slice a6 h.aA.length X,.slice a8 h.done.length m8]) (by simp[ZH,results67,go_sem,x0,x1,x2,x3]) rfl ⟨⟨_,rfl,hown⟩,hfin⟩
end
section
def WK{P}{w:θ}{o:Oper}{a K Q}(s x t)(G:o.op=.call {callee:=.builtin .append,args:=#[s,x],argTypes:=#[t,t]})(B e i z size bytes)(n:P.underlying t=U (.slice e))(hi:P.info? e=U i)(hz:i.zero=U z)(l:i.size=size)(v:i.bytes=bytes)(y:z.cells.size=size)(r:0<size)(g)(hs:a.eval s=.slice (g:Nat) 0 0)(C:w.heap[g]?=U (Δ #[] e (0,0)))(O:B<=g)(A m c news)(J:a.eval x=.slice A m c)(D:news.length=m*size)(H:0<m->∃ad,A=U ad/\∀j u,news[j]?=U u->w (ad.add j)=U u)(T:∀u∈news,u.oneCell'=R)(q:m<=Zq)(f:m*bytes<=140737488355328)(h:∀d w',w'.ownsRow B e size d m news->Y w w w'->K (a.put o.dst d) w'):o.wp P a w K Q:=by
 have S:=(Ω.1 C).1;obtain⟨d,w',b,E,h3⟩:∃d w',(ZJ #[t,t] o.type #[.slice (g:Nat) 0 0,.slice A m c]).run P w=.ok d w'/\w'.ownsRow B e size d m news/\Y w w w':=by
  obtain h0|h0:=Nat.eq_zero_or_pos m
  subst h0;have L:news=[]:=Zx (by simpa using D);subst L;refine⟨.slice (g:Nat) 0 0,w,?_,⟨by simp,.inr ⟨g,0,#[],rfl,O,C,.refl,by unfold Zq;omega,by simp,by simp⟩⟩,υ _ _⟩;obtain _|N:=A
  simp[ZJ,ZK n,sizeOf,typeInfo,hi,YF,Builtin.firstCells,storeCells];have F:=run_firstCells_some (P:=P) w i.size 0 N 0 c [] (by simp) (by simp);simp[ZJ,ZK n,sizeOf,typeInfo,hi,YF,storeCells,F];obtain⟨ad,rfl,p⟩:=H h0;obtain⟨d,w',b,r1,r2⟩:=Yz (P:=P) w t o.type e i z size bytes n hi hz l v y r ⟨g,0,Z⟩ 0 0 [] (by simp) (by simp) ad m c news D p (by omega) (by simpa using q) (by simpa using f);exact⟨d,w',b,eV (by simpa using r1)<|by omega,(υ _ w).grown r2 .refl λk e=>by cases e⟩
 unfold Oper.wp execOp;simp only[G,resolve,invoke,builtin,Zt,Zl,ZG,List.map_toArray,Zs,List.map_nil,hs,J,b];exact h d w' E h3
section
variable{o:Oper}{a:Act}{w:θ}{Q:Exit->Act->θ->Prop}{K:Act->θ->Prop}
def Pr(s x)(m:o.op=.call {callee:=.builtin .append,args:=#[s,x],argTypes:=#[23,23]})(B g)(hs:a.eval s=.slice (g:Nat) 0 0)(r:w.heap[g]?=U (Δ #[] 50 (0,0)))(q:B<=g)(v2 l2)(t:a.eval x=v2)(p:eI w v2 l2)(l:l2.length<=1000000000)(h:∀j w',OV w' B j l2->Y w w w'->K (a.put o.dst j) w'):o.wp prog a w K Q:=by have⟨k,hi,e,f,d⟩:=Zp nh;obtain⟨A,c,rfl,_,_,n⟩:=p;refine WK s x 23 m B 50 k _ 2 16 lx hi e f d rfl (by decide) g hs r q A l2.length c (l2.flatMap lU) t (fx _) (λh0=>?_) (V1 _) (by unfold Zq;omega) (by omega) h;obtain⟨b,o,rfl,_,i⟩:=n h0;exact⟨_,rfl,zt i⟩
def Ps(s x)(m:o.op=.call {callee:=.builtin .append,args:=#[s,x],argTypes:=#[24,24]})(B g)(hs:a.eval s=.slice (g:Nat) 0 0)(r:w.heap[g]?=U (Δ #[] 3 (0,0)))(q:B<=g)(v2 l2)(t:a.eval x=v2)(p:By w v2 l2)(l:l2.length<=1000000000)(h:∀j w',OI w' B j l2->Y w w w'->K (a.put o.dst j) w'):o.wp prog a w K Q:=by have⟨k,hi,e,f,d⟩:=Zp Dq;obtain⟨A,c,rfl,_,_,n⟩:=p;refine WK s x 24 m B 3 k _ 1 8 se hi e f d rfl (by decide) g hs r q A l2.length c (l2.flatMap eP) t (EO _) (λh0=>?_) (amT _) (by unfold Zq;omega) (by omega) h;obtain⟨b,o,rfl,_,i⟩:=n h0;exact⟨_,rfl,aeU i⟩
end
def agp(w v h)(hv:tH w v h)(hc:h.cells.length<=1000000)(hs:∀c∈h.cells,c.2.length<=1000000)(hr:h.roots.length<=1000000)(hwl:h.aA.length<=1000000)(hd:h.done.length<=1000000):
 ι prog 141 #[v] w λe w'=>(∃r,e=.returned r/\Pq w' w r h)/\Y w w w':=by
 obtain⟨a0,a1,a2,a3,rfl,h0,h1,h2,h3⟩:=hv;have⟨z0,z1,u,hs0⟩:=JZ w (Δ #[a0,a1,a2,a3] 56)<|Δ #[(),(),(),()] 56
 go_enter (fU func141 rfl),ntmps141
 go_wp2_with fail
 generalize (w.alloc _).alloc _=K at z0 z1 u hs0⊢;have⟨c0,c1,c2,c3⟩:=(dx z0).1;replace h0:=h0.below u;replace h1:=h1.below u;replace h2:=h2.below u;replace h3:=h3.below u;have P:w.heap.size<K:=by omega
 refine Rg.kl [SP.aeD (w.heap.size+2) 50,.eq<|.pointer (w.heap.size,1),.eq a1,SP.ov (w.heap.size+2) h.roots,SP.aeD (w.heap.size+2) 3,.eq<|.pointer (w.heap.size,2),.eq a2,SP.oi (w.heap.size+2) h.aA,SP.aeD (w.heap.size+2) 3,.eq<|.pointer (w.heap.size,3),.eq a3,SP.oi (w.heap.size+2) h.done,SP.aax (w.heap.size+2) h.roots h.aA h.done,SP.aaG<|w.heap.size+2] (by kernel_rfl) (by kernel_rfl) (by rfl) ?_ ?_
 ·refine⟨?_,?_,?_,?_,?_,?_,?_,?_,?_,?_,?_,?_,?_,?_,trivial⟩
  all_goals intro x2 L hb2 d b
  all_goals have f:=(υ _ K).drew.trans hb2
  all_goals first|(have f1:=cG f c1 P;have f2:=cG f c2 P;have f3:=cG f c3 P;have k0:=d 1 rfl;simp at k0;(try have q0:=Rg.ir (b 1 _ rfl rfl) rfl);(try have q1:=Rg.ir (b 5 _ rfl rfl) rfl);(try have J:=Rg.ir (b 9 _ rfl rfl) rfl);clear d b;go_simp;exact⟨_,rfl,.refl _ _,rfl⟩)|skip
  ·clear d b;go_simp;exact⟨_,rfl,af _ _,_,rfl,ψ _ _,by have:=f.size;omega⟩
  ·obtain⟨g,d0,e0,l0⟩:∃g,(x2.tmps[5]?).getD undef=.slice (g:Nat) 0 0/\L.heap[g]?=U (Δ #[] 50 (0,0))/\w.heap.size+2<=g:=b 0 _ rfl rfl;have n:=Rg.ir (b 2 _ rfl rfl) rfl;clear d b;refine Pr _ _ rfl (w.heap.size+2) g (by simp[go_sem,d0]) e0 l0 _ h.roots (by simp[go_sem,n]) (h1.below f) (by omega) ?_;intro v' w' g1 X;exact⟨_,rfl,X,g1⟩
  ·clear d b;go_simp;exact⟨_,rfl,af _ _,_,rfl,ψ _ _,by have:=f.size;omega⟩
  ·obtain⟨g,d0,e0,l0⟩:∃g,(x2.tmps[9]?).getD undef=.slice (g:Nat) 0 0/\L.heap[g]?=U (Δ #[] 3 (0,0))/\w.heap.size+2<=g:=b 4 _ rfl rfl;have n:=Rg.ir (b 6 _ rfl rfl) rfl;clear d b;refine Ps _ _ rfl (w.heap.size+2) g (by simp[go_sem,d0]) e0 l0 _ h.aA (by simp[go_sem,n]) (h2.below f) (by omega) ?_;intro v' w' g1 X;exact⟨_,rfl,X,g1⟩
  ·clear d b;go_simp;exact⟨_,rfl,af _ _,_,rfl,ψ _ _,by have:=f.size;omega⟩
  ·obtain⟨g,d0,e0,l0⟩:∃g,(x2.tmps[13]?).getD undef=.slice (g:Nat) 0 0/\L.heap[g]?=U (Δ #[] 3 (0,0))/\w.heap.size+2<=g:=b 8 _ rfl rfl;have n:=Rg.ir (b 10 _ rfl rfl) rfl;clear d b;refine Ps _ _ rfl (w.heap.size+2) g (by simp[go_sem,d0]) e0 l0 _ h.done (by simp[go_sem,n]) (h3.below f) (by omega) ?_;intro v' w' g1 X;exact⟨_,rfl,X,g1⟩
  ·obtain⟨v1,n,hv1⟩:∃v,(x2.tmps[8]?).getD undef=v/\OV L (w.heap.size+2) v _:=⟨_,rfl,b 3 _ rfl rfl⟩;obtain⟨v2,d2,hv2⟩:∃v,(x2.tmps[12]?).getD undef=v/\OI L (w.heap.size+2) v _:=⟨_,rfl,b 7 _ rfl rfl⟩;obtain⟨v3,d3,hv3⟩:∃v,(x2.tmps[16]?).getD undef=v/\OI L (w.heap.size+2) v _:=⟨_,rfl,b 11 _ rfl rfl⟩;obtain⟨_,_,rfl,_⟩:=aF hv1;obtain⟨_,_,rfl,_⟩:=aF hv2;obtain⟨_,_,rfl,_⟩:=aF hv3;clear d b;go_simp;exact⟨_,rfl,.refl _ _,_,_,_,rfl,hv1,hv2,hv3⟩
  ·clear d b;go_simp;exact⟨_,rfl,af _ _,_,rfl,ψ _ _,by have:=f.size;omega⟩
 ·rintro D w8 hb8 ⟨s0,s1,s2,s3,s4,s5,s6,s7,s8,s8a,s8b,s8c,⟨x4,x6,x8,s9,S4,S6,S8⟩,⟨B,t,xo,hlB⟩,-⟩;have s9:D 12=_:=s9;have t:D 13=_:=t;obtain⟨a4,m4,rfl,_⟩:=aF S4;obtain⟨a6,m6,rfl,_⟩:=aF S6;obtain⟨a8,m8,rfl,_⟩:=aF S8;simp[go_sem,s9,t];have T:Y K K w8:=(υ _ K).drew.trans hb8;obtain⟨S,hS⟩:∃S,S=w.heap.size+2:=⟨_,rfl⟩;rw[<-hS]at S4 S6 S8 hlB;have hSw:S=K.heap.size:=by omega
  have HP:=I<|aaT (w:=K) (hSw▸T) hlB xo S4 S6 S8;have⟨xc0,xc1,xc2,xc3,xf0,xf1,xf2,xf3⟩:=km xo;have HV:=I h0;obtain⟨ac,mc,rfl,hmc,am9,_⟩:=h0;have HC0:=I c0;clear S4 S6 S8 s0 s1 s2 s3 s4 s5 s6 s7 s8 s8a s8b s8c s9 t hb8 T xo c0 c1 c2 c3 h1 h2 h3
  go_wp2_with fail
  generalize ((((w8.setCell B ()).setCell (B,1)<|.slice a4 h.roots.length m4).setCell ⟨B,2,Z⟩<|.slice a6 h.aA.length m6).setCell ⟨B,3,Z⟩<|.slice a8 h.done.length m8)=v9 at HP⊢;clear xc0 xc1 xc2 xc3 xf0 xf1 xf2 xf3
  go_loopw [4] (λi wr=>∃(k:Nat) (sc:Value),k<=h.cells.length/\i=Ξ Ψ k/\Zf (ago K wr S B sc (.slice a6 h.aA.length m6) (.slice a8 h.done.length m8) (h.cells.take k) h)) (λi _=>h.cells.length-(intOf i).toNat)
  case atStart=>exact⟨0,(),Nat.zero_le _,rfl,HP⟩
  case round=>
   clear HP;obtain⟨k,sc,hk,rfl,HR⟩:=hrel;have hb:Y K K wr:=hSw▸HR.out.2;have c0:=cG hb HC0.out P;by_cases hlk:k<h.cells.length
   ·have⟨a',mc',he,_,_,W⟩:=HV.out.below hb;cases he
    obtain⟨bb,o,rfl,hbb,W⟩:=W (by omega);have⟨p,N,e1⟩:=cQ hlk;have⟨f0,x,f1,hxv⟩:=W k p N e1;have hvl:=hs _<|ω e1;have⟨r,l,hSB,q,q1,J,A,F,H,Q⟩:=HR.out.1;have hll:l.length=k:=by rw[F.1];simp;omega
    have hsz:=hb.size;have hBl:B<wr:=(Ω.1 q).1;obtain⟨m,j,rfl,_⟩:=aF A;have cs0:wr B=U (.slice m l.length j):=by simp[φ,q]
    have G:=I<|Γ q<|Γ q1<|Γ J<|Γ A<|Γ F<|Γ H Q;have E1:=I e1;have hlw:w.heap.size<wr:=by omega
    clear q q1 J A F H Q e1 W
    go_wp2_with fail
    refine Rg.kl [.eq (.pointer B),.eq<|.slice m l.length j,.eq<|.pointer w.heap.size,.eq<|.slice (bb,o) h.cells.length mc,.eq<|Ξ Ψ k,.eq<|.pointer (bb,o+k*2),.eq<|.pointer (bb,o+k*2),.eq p,SP.aeD wr 50,.eq<|.pointer w.heap.size,.eq<|.slice (bb,o) h.cells.length mc,.eq<|Ξ Ψ k,.eq<|.pointer (bb,o+k*2),.eq<|.pointer (bb,o+k*2+1),.eq x,SP.ov wr N,SP.cell wr p N,SP.adG wr p N] (by kernel_rfl) (by kernel_rfl) (by rfl) ?_ ?_
    ·refine⟨?_,?_,?_,?_,?_,?_,?_,?_,?_,?_,?_,?_,?_,?_,?_,?_,?_,?_,trivial⟩
     all_goals intro a2 L hb2 d b
     all_goals have f:=(υ _ wr).drew.trans hb2
     all_goals first|(have g0:=cG f c0 hlw;have g1:=cG f cs0 hBl;have X:=cG f f0 hbb;have g3:=cG f f1 hbb;have k0:=d 1 rfl;have k1:=d 3 rfl;have k2:=d 4 rfl;simp at k0 k1 k2;(try have q0:=Rg.ir (b 0 _ rfl rfl) rfl);(try have J:=Rg.ir (b 2 _ rfl rfl) rfl);(try have A:=Rg.ir (b 3 _ rfl rfl) rfl);(try have F:=Rg.ir (b 4 _ rfl rfl) rfl);(try have H:=Rg.ir (b 5 _ rfl rfl) rfl);(try have Q:=Rg.ir (b 6 _ rfl rfl) rfl);(try have q8:=Rg.ir (b 9 _ rfl rfl) rfl);(try have q9:=Rg.ir (b 10 _ rfl rfl) rfl);(try have q10:=Rg.ir (b 11 _ rfl rfl) rfl);(try have q11:=Rg.ir (b 12 _ rfl rfl) rfl);(try have q12:=Rg.ir (b 13 _ rfl rfl) rfl);clear d b;go_simp;exact⟨_,rfl,.refl _ _,rfl⟩)|skip
     ·clear d b;go_simp;exact⟨_,rfl,af _ _,_,rfl,ψ _ _,f.size⟩
     ·obtain⟨g,d0,e0,l0⟩:∃g,(a2.tmps[33]?).getD undef=.slice (g:Nat) 0 0/\L.heap[g]?=U (Δ #[] 50 (0,0))/\wr.heap.size<=g:=b 8 _ rfl rfl;have n:=Rg.ir (b 14 _ rfl rfl) rfl;clear d b;refine Pr _ _ rfl wr.heap.size g (by simp[go_sem,d0]) e0 l0 _ N (by simp[go_sem,n]) (hxv.below f) (by omega) ?_;intro v' w' g1 X;exact⟨_,rfl,X,g1⟩
     ·have d0:=Rg.ir (b 7 _ rfl rfl) rfl;have n:OV L wr ((a2.tmps[40]?).getD undef) N:=b 15 _ rfl rfl;have⟨ay,my,d2,_⟩:=aF n;rw[d2]at n;clear d b;go_simp;exact⟨_,rfl,.refl _ _,_,rfl,n⟩
     ·obtain⟨y,d0,n⟩:∃y,(a2.tmps[41]?).getD undef=.agg #[Ξ Ψ p,y]/\OV L wr y N:=b 16 _ rfl rfl;clear d b;obtain⟨ay,my,rfl,_⟩:=aF n;go_simp;exact⟨_,rfl,af _ _,_,_,rfl,ψ _ _,n.alloc _⟩
    ·rintro D w3 hb3 ⟨s0,s1,s2,s3,s4,s5,s6,s7,s8,s9,t,s11,s12,s13,s14,s15,ajQ,⟨g,y,O,hg,hy⟩,_⟩;obtain⟨ay,my,rfl,_⟩:=aF hy;have s1:D 1=.slice m l.length j:=s1;have O:D 17=_:=O;simp[go_sem,s1,O];clear s0 s1 s2 s3 s4 s5 s6 s7 s8 s9 t s11 s12 s13 s14 s15 ajQ O c0 f0 f1;have f:=(υ wr wr).drew.trans hb3;have⟨h1,h2,_,_⟩:=fl hg;have hcB:=(f.block B hBl).trans G.out.1
     go_wp2_with (at_builtin;refine wh rfl _ _ rfl S _ _ rfl (G.out.2.2.2.1.below f) g _ (p,.slice ay N.length my) rfl rfl ⟨h1,h2⟩ (by omega) (by have:=f.size;omega) ?_;intro v' w6 C ahL Qn;obtain⟨a6,m6,rfl,_⟩:=aF C;have t1:=(Qn.block B (by have:=f.size;omega) λe=>cF (G.out.2.2.2.1.below f) hcB nofun e.symm).trans hcB;have⟨⟨t2,_⟩,t3⟩:=dx t1)
     have⟨r1,r2⟩:=gN.snoc hSB G.out.1 G.out.2.1 G.out.2.2.1 G.out.2.2.2.1 G.out.2.2.2.2.1 G.out.2.2.2.2.2.1 G.out.2.2.2.2.2.2 (by omega) f hy Qn C;rw[show(l++[(p,Value.slice ay N.length my)]).length=k+1 by simp[hll]]at r1 r2;exact⟨⟨k+1,_,by omega,by go_num,I ⟨by rw[bW E1.out];exact r1,HR.out.2.trans r2⟩⟩,by simp[intOf];omega⟩
   ·have hke:k=h.cells.length:=by omega
    subst hke;have⟨⟨r,l,hSB,q,q1,J,A,F,H,Q⟩,T⟩:=HR.out;rw[ZO]at F;obtain⟨⟨d0,n,d2,d3⟩,-⟩:=dx q;obtain⟨m,j,rfl,_⟩:=aF A;obtain⟨z,E,rfl,_⟩:=aF H;have y1:=(hb.block (w.heap.size+1)<|by omega).trans z1;have⟨e0,e1,e2,e3,g0,g1,X,g3⟩:=km y1;have HF:=I<|Γ q1<|Γ J<|Γ A<|Γ F<|Γ H Q.1;clear q1 J A F H Q q HR z0 z1
    go_wp2_with fail
    have⟨hk,s,hbl,_⟩:=wR (.slice m l.length j) (.slice z h.roots.length E) (.slice a6 h.aA.length m6) (.slice a8 h.done.length m8) y1;have hfin:=(u.trans<|T.mono<|by omega).trans<|hbl w<|by omega
    have⟨q1,J,A,F,H,Q⟩:=HF.out;have hown:Pq ((((wr.setCell (w.heap.size+1:Nat)<|.slice m l.length j).setCell (w.heap.size+1,1)<|.slice z h.roots.length E).setCell (w.heap.size+1,2)<|.slice a6 h.aA.length m6).setCell (w.heap.size+1,3)<|.slice a8 h.done.length m8) w (.agg #[.slice m l.length j,.slice z h.roots.length E,.slice a6 h.aA.length m6,.slice a8 h.done.length m8]) h:=⟨_,_,_,_,l,rfl,eV (bp q1 y1 nofun s)<|by omega,eV (bp J y1 nofun s)<|by omega,eV (bp A y1 nofun s)<|by omega,(lA F y1 nofun s).less<|by omega,eV (bp H y1 nofun s)<|by omega,Q⟩
    clear s hbl q1 J A F H Q HF;generalize ((((wr.setCell (w.heap.size+1:Nat)<|.slice m l.length j).setCell (w.heap.size+1,1)<|.slice z h.roots.length E).setCell (w.heap.size+1,2)<|.slice a6 h.aA.length m6).setCell (w.heap.size+1,3)<|.slice a8 h.done.length m8)=a at hk hown hfin⊢;have⟨⟨x0,x1,x2,x3⟩,_⟩:=dx hk;exact ZE (v:=.agg #[.slice m l.length j,.slice z h.roots.length E,.slice a6 h.aA.length m6,.slice a8 h.done.length m8]) (by simp[ZH,results141,go_sem,x0,x1,x2,x3]) rfl ⟨⟨_,rfl,hown⟩,hfin⟩
end
section
variable{v:Value}{B:Nat}{l:List Bool}{w:θ}
def oD(w:θ)(B:Nat)(v:Value)(l:List Bool):Prop:=∃a m,v=.slice a l.length m/\l.length<=m/\m<=9223372036854775807/\
 (0<l.length->∃g,∃cur,a=U ⟨g,0,Z⟩/\B<=g/\g<w/\w.heap[g]?=U (.cells cur 4 (0,0))/\l.length<=cur.size/\∀(i:Nat) b,l[i]?=U b->cur[i]?=U (Value.bool b))
def oD.less{B'}(h:oD w B v l)(i:B'<=B):oD w B' v l:=by obtain⟨a,m,rfl,d,c,h3⟩:=h;refine⟨a,m,rfl,d,c,λh0=>?_⟩;have⟨g,b,e,f,h⟩:=h3 h0;exact⟨g,b,e,Nat.le_trans i f,h⟩
def oD.of_block{w':θ}(h:oD w B v l)(d:∀g,B<=g->g<w->w'.heap[g]?=w.heap[g]?)(hs:w.heap.size<=w'):oD w' B v l:=by obtain⟨a,m,rfl,i,f,h3⟩:=h;refine⟨a,m,rfl,i,f,λh0=>?_⟩;have⟨g,b,e,c,hw,hc,h⟩:=h3 h0;exact⟨g,b,e,c,Nat.lt_of_lt_of_le hw hs,(d g c hw).trans hc,h⟩
def oD.below{w'}(h:oD w B v l)(a:Y w w w'):oD w' B v l:=h.of_block (λg _ b=>a.block g b) a.size
def oD.at(h:oD w B v l){i b}(hi:l[i]?=U b):∃g m,v=ZP (U ⟨g,0,Z⟩) l.length m/\l.length<=m/\B<=g/\g<w/\w (g,i)=U (.bool b)/\w.frozen? ⟨g,i,Z⟩=ζ:=by obtain⟨a,m,rfl,d,j,h3⟩:=h;have f:=(Θ.1 hi).1;obtain⟨g,c,rfl,e,hw,hc,hs,h⟩:=h3 (by omega);refine⟨g,m,rfl,d,e,hw,?_,?_⟩;simp[φ,hc,h i b hi];simp[YZ,hc]
def oD.set{g n m}(h:oD w B (ZP (U ⟨g,0,Z⟩) l.length m) l)(o:n<l.length):oD (w.setCell (g,n)<|.bool R) B (ZP (U ⟨g,0,Z⟩) l.length m) (l.set n R):=by
 have⟨a,k,e,f,d,h3⟩:=h;cases e
 have⟨p,c,e,j,hw,hc,hs,h⟩:=h3 (by omega);cases e
 refine⟨_,m,by rw[Zw],by rw[Zw];exact f,d,λh0=>⟨g,c.setIfInBounds n<|.bool R,rfl,j,by simpa using hw,aB hc n _,by rw[Zw,Array.size_setIfInBounds];exact hs,λi b hi=>?_⟩⟩;rw[ZD]at hi;rw[Array.getElem?_setIfInBounds]
 grind
def wZ(c:HC)(k:Nat)(l:List Bool):Bool:=c.1==0||(c.1==2&&k==1&&((c.2.getD 0 (0,0)).1 !=1||l.getD (c.2.getD 0 (0,0)).2.toNat ζ))
def agq(w B k kd x z vs l)(t:eI w x vs)(hb:oD w B z l)(N:k<=1000)(s:kd=2->∃p q:Int,vs[0]?=U (p,q)/\(p=1->0<=q/\q<l.length)):
 ι prog 225 #[.agg #[Ξ Ψ kd,x],Ξ Ψ (k:Nat),z] w λe w'=>e=.returned (.bool<|wZ (kd,vs) k l)/\Y w w w':=by
 generalize j:wZ (kd,vs) k l=h
 go_enter (fU func225 rfl),ntmps225
 go_upto_region 1 with(fail)
 generalize G:w.alloc _=u;have⟨y,r,hz⟩:=alE G;have H:u w.heap.size=U (Ξ Ψ kd):=by simp[φ,y]
 have L:u (w.heap.size,1)=U x:=by simp[φ,y]
 replace t:=t.below r;replace hb:=hb.below r;have f:=I r;generalize w.heap.size=bx at H L⊢;by_cases h0:kd=0
 ·subst h0;have c:h=R:=by rw[<-j];simp[wZ]
  subst c
  go_wp2
  go_ret;exact⟨rfl,f.out⟩
 ·by_cases n:kd=2/\k=1
  ·obtain⟨rfl,rfl⟩:=n;have⟨p,q,e1,E⟩:=s rfl;obtain⟨a,m,rfl,S,J,d⟩:=t;have Q:=(Θ.1 e1).1;obtain⟨b,o,rfl,D,d⟩:=d (by omega);have⟨c0,c1⟩:=d 0 p q e1;simp only[Nat.zero_mul,Nat.add_zero]at c0 c1;by_cases v:p=1
   ·subst v;have⟨A,q1⟩:=E rfl;obtain⟨i,rfl⟩:=Z9 A;have hi:i<l.length:=by omega
    obtain⟨g,O,rfl,K,F,C,P,-⟩:=hb.at<|χ hi;have c:h=l[i]:=by rw[<-j];simp[wZ,ξ,e1,hi]
    subst c
    go_wp2
    go_ret;exact⟨rfl,f.out⟩
   ·have c:h=R:=by rw[<-j];simp[wZ,ξ,e1,v]
    subst c
    go_wp2
    go_ret;exact⟨rfl,f.out⟩
  ·have c:h=ζ:=by rw[<-j];simp only[wZ];simp[h0];intro h3 h4;exact absurd ⟨h3,h4⟩ n
   subst c;by_cases h3:kd=2
   ·subst h3;have h4:k≠1:=λe=>n ⟨rfl,e⟩;have h5:decide ((k:Int)=1)=ζ:=by simp;omega
    go_wp2
    go_ret;exact⟨rfl,f.out⟩
   ·go_wp2
    go_ret;exact⟨rfl,f.out⟩
end
section
def afP:(prog.info? 4).map (λi=>(i.zero,i.size,i.bytes))=U (U<|.bool ζ,1,1):=by kernel_rfl
def aaU:prog.underlying 168=U (.slice 4):=by kernel_rfl
def oD.Kk{w B v l}(h:w.ownsRow B 4 1 v l.length (l.map Value.bool)):oD w B v l:=by
 obtain⟨rfl,h0⟩|⟨g,c,a,rfl,k,f,j,d,h3,h4⟩:=h.2
 refine⟨Z,0,by rw[h0],by omega,by decide,λh=>by omega⟩;refine⟨_,c,rfl,j,by unfold Zq at d;exact d,λ_=>⟨g,a,rfl,k,(Ω.1 f).1,f,by omega,λi b hi=>?_⟩⟩;have e:(l.map Value.bool)[i]?=U (Value.bool b):=by rw[ZW,hi];rfl
 rw[<-h4,Ze]at e;split at e
 rw[<-Array.getElem?_toList];exact e;cases e
def oD.ats{w B a m l}(h:oD w B (.slice a l.length m) l)(h0:0<l.length):∃ad,a=U ad/\∀j u,(l.map Value.bool)[j]?=U u->w (ad.add j)=U u:=by
 have⟨k,p,e,n,i,h3⟩:=h;cases e
 obtain⟨g,d,rfl,o,hw,hc,hs,h⟩:=h3 h0;refine⟨_,rfl,λj u c=>?_⟩;rw[ZW]at c;obtain⟨b,hb,rfl⟩:=YV.1 c;have f:((⟨g,0,Z⟩:Addr)).add j=⟨g,j,Z⟩:=by unfold ZL;split<;>simp_all
 rw[f];simp[φ,hc,(h j b hb)]
section
variable{ops:Array Oper}{rest:List Oper}{o:Oper}{a:Act}{w:θ}{Q:Exit->Act->θ->Prop}
def O4(g:o.guard=Z)(s x)(q:o.op=.call {callee:=.builtin .append,args:=#[s,x],argTypes:=#[168,168]})(B B' v)(hs:a.eval s=v)(d:w.ownsRow B 4 1 v 0 [])(v2 l)(z:a.eval x=v2)(k:oD w B' v2 l)(C:l.length<=1000000000)(m:B<=w)(h:∀e w',oD w' B e l->Y B w w'->wpList prog ops Q rest (a.put o.dst e) w'):wpList prog ops Q (o::rest) a w:=by have⟨n,hi,i,j,f⟩:=Zp afP;obtain⟨A,c,rfl,_,_,_⟩:=id k;exact wpList_plain g λK t=>sg s x 168 q B 4 n _ 1 1 aaU hi i j f rfl (by decide) v 0 [] hs d A l.length c (l.map Value.bool) z (by simp) (λh0=>k.ats h0) (λu p=>by obtain⟨b,_,rfl⟩:=ο.1 p;rfl) (by unfold Zq;omega) (by omega) m λe w' y r=>t _ _<|h e w' (oD.Kk<|by simpa using y)<|cM d r m
end
def Rd(w:θ)(B:Nat)(a:B<=w):(w.alloc<|Δ #[] 4).ownsRow B 4 1 (.slice w.heap.size 0 0) 0 []:=⟨rfl,.inr ⟨w.heap.size,0,_,rfl,a,ψ w _,.refl,by unfold Zq;omega,rfl,by simp⟩⟩
def uu(c:HC)(on:Bool)(l:List Bool)(but:Int)(out:List Bool)(k:Nat):List Bool:=if on&&((c.2.getD k (0,0)).1==1)&&((c.2.getD k (0,0)).2 !=but)&&wZ c k l then out.set (c.2.getD k (0,0)).2.toNat R else out
def Ih(h:PH)(l:List Bool)(but:Int)(out:List Bool)(i:Nat):List Bool:=(κ (h.cells.getD i (0,[])).2.length).foldl (uu (h.cells.getD i (0,[])) (l.getD i ζ) l but) out
def Jt(h:PH)(l:List Bool)(but:Int):List Bool:=(κ h.cells.length).foldl (Ih h l but) l
def Kr{c a l but out k}:(uu c a l but out k).length=out.length:=by unfold uu;split<;>simp
theorem wq{f:List Bool->Nat->List Bool}(b:∀o k,(f o k).length=o.length):∀(a:List Nat) (o:List Bool),(a.foldl f o).length=o.length
 |[],o=>rfl
 |k::a,o=>by rw[Y2,wq b a,b]
def Kt{h l but out i}:(Ih h l but out i).length=out.length:=wq (λ_ _=>Kr) _ _
def fold_succ{f}{o:List Bool}(k):(κ<|k+1).foldl f o=f ((κ k).foldl f o) k:=by rw[Yy,Y'];rfl
end
structure P3(h:PH):Prop where
 wp:WP h
 many:h.cells.length<=1000
 wW:∀c∈h.cells,c.2.length<=1000
def oD.slice{w B v l}(h:oD w B v l):∃a m,v=.slice a l.length m/\l.length<=m:=by obtain⟨a,m,rfl,b,_⟩:=h;exact⟨a,m,rfl,b⟩
def KI{w:θ}{g n b o:Nat}{v}(h:b≠g):(w.setCell (g,n) v).cell? ⟨b,o,Z⟩=w.cell? ⟨b,o,Z⟩:=by simp only[φ,show(w.setCell (g,n) v).heap[b]?=w.heap[b]? from Below.heap_setCell _ _ _ _ h]
def aeE(w B v va h l but)(hv:tH w v h)(hb:oD w B va l)(hl:l.length=h.cells.length)(T:P3 h):
 ι prog 189 #[v,va,Ξ Ψ but] w λe w'=>(∃r,e=.returned r/\oD w' w r (Jt h l but))/\Y w w w':=by
 have HG:=I T;have ahM:=T.many;obtain⟨c,r,wi,d,rfl,h1,-⟩:=hv;obtain⟨ac,mc,rfl,hmc,am9,hac⟩:=h1;have HC:=I hac;clear hac T
 go_enter (fU func189 rfl),ntmps189
 go_upto_region 1 with(fail)
 generalize eg:w.alloc _=C;have⟨y,G0,hz⟩:=alE eg;clear eg;replace hl:=I hl;have n0:C w.heap.size=U (.slice ac h.cells.length mc):=by simp[φ,y]
 have HB:=I<|hb.below G0;have hl9:l.length<=1000000000:=by have:=hl.out;omega
 have hn0:w.heap.size<C:=by omega
 clear hz y;obtain⟨aa,ma,rfl,hma⟩:=hb.slice;have X:=af C<|Δ #[] 4
 go_upto_region 2 with(at_builtin;refine O4 rfl _ _ rfl C B _ rfl (Rd C _ .refl) _ l rfl (HB.out.below X) hl9 (by simp) ?_;intro vo w2 h1 h2)
 have HN:=I<|X.trans<|h2.mono .refl;have HO:=I h1;obtain⟨av,mv,rfl,hmv⟩:=h1.slice;clear hb h1 h2 X hmv;have H:=I G0;clear G0
 go_wp2_with fail
 go_loopw [8] (λi wr=>∃k:Nat,k<=h.cells.length/\i=Ξ Ψ k/\oD wr C (.slice av l.length mv) ((κ k).foldl (Ih h l but) l)/\Y C C wr) (λi _=>h.cells.length-(intOf i).toNat)
 case atStart=>exact⟨0,Nat.zero_le _,rfl,HO.out,HN.out⟩
 case round=>
  obtain⟨k,hk,rfl,m,f⟩:=hrel;have b:=I m;have o:=I f;have m1:=cG f n0 hn0;by_cases hlt:k<h.cells.length
  ·obtain⟨bb,ob,rfl,hbb,E⟩:=HC.out (by omega);have⟨t,a,e1⟩:=cQ hlt;have O:bb<C:=by have:=H.out.size;omega
   have⟨c0,x,c1,D⟩:=(E.below H.out hbb) k t a e1;replace c0:=cG f c0 O;replace c1:=cG f c1 O;have F:=ω e1;have hvl:=HG.out.wW _ F;have hsh:=HG.out.wp.shape _ F;have hcl:=HG.out.wp.cells _ F;obtain⟨G,eon⟩:∃G,l[k]?=U G:=⟨_,χ (by have:=hl.out;omega)⟩;have hcd:h.cells.getD k (0,[])=(t,a):=by simp[ξ,e1]
   have hst:(κ<|k+1).foldl (Ih h l but) l=(κ a.length).foldl (uu (t,a) G l but) ((κ k).foldl (Ih h l but) l):=by rw[fold_succ];unfold Ih;rw[hcd];simp[ξ,eon]
   have N:((κ k).foldl (Ih h l but) l).length=l.length:=wq (λ_ _=>Kt) _ _;clear E m f;generalize (κ k).foldl (Ih h l but) l=o1 at b hst N;obtain⟨ax,mx,rfl,hmx,N4,-⟩:=id D
   go_upto_region 6 with(fail)
   generalize eg:wr.alloc _=w3;have⟨y,G1,hz⟩:=alE eg;clear eg;have d0:w3 wr.heap.size=U (Ξ Ψ t):=by simp[φ,y]
   have K:w3 (wr.heap.size,1)=U (.slice ax a.length mx):=by simp[φ,y]
   have u:wr.heap.size<w3:=by omega
   have HR3:=I<|b.out.below G1;have HB3:=I<|o.out.trans<|G1.mono o.out.size;have hgx:∀g,av=U (⟨g,0,Z⟩:Addr) ->0<l.length->g≠wr.heap.size:=λg e h0=>by
    have⟨a',m',e',_,_,h3⟩:=b.out;have e3:av=a':=by injection e'
    subst e3;have⟨g',_,e2,_,h4,_⟩:=h3 (by omega);rw[e]at e2;cases e2
    omega
   have L:=I D;have hll:k<l.length:=by have:=hl.out;omega
   clear G1 hz y b o D c0 c1 m1 F e1 hcd;generalize wr.heap.size=bx at d0 K u hgx⊢
   go_wp2_with fail
   go_loopw [10] (λi wt=>∃j:Nat,j<=a.length/\i=Ξ Ψ j/\oD wt C (.slice av l.length mv) ((κ j).foldl (uu (t,a) G l but) o1)/\Y C C wt/\wt bx=U (Ξ Ψ t)/\wt (bx,1)=U (.slice ax a.length mx)/\bx<wt) (λi _=>a.length-(intOf i).toNat)
   case atStart=>exact⟨0,Nat.zero_le _,rfl,HR3.out,HB3.out,d0,K,u⟩
   case round=>
    clear d0 K u HR3 HB3;obtain⟨j,hj,rfl,m,f,d0,K,u⟩:=hrel;by_cases hlt2:j<a.length
    ·have⟨p,q,e1⟩:=ep hlt2;have s:((κ j).foldl (uu (t,a) G l but) o1).length=l.length:=(wq (λ_ _=>Kr) _ _).trans N;obtain⟨g,ma',e4,_,_,hgw,cg,-⟩:=(HB.out.of_block (λg _ T=>f.block g T) f.size).at eon;cases e4
     have D:=L.out.below f;have⟨a',m',e5,_,_,E⟩:=id D;cases e5
     obtain⟨bv,ov,rfl,hbv,E⟩:=E (by omega);have⟨f0,f1⟩:=E j p q e1;have hgd:(a.getD j (0,0))=(p,q):=by simp[ξ,e1]
     have A:(κ<|j+1).foldl (uu (t,a) G l but) o1=uu (t,a) G l but ((κ j).foldl (uu (t,a) G l but) o1) j:=fold_succ j;replace L:=I D;have b:=I m;have o:=I f;clear E m f D;generalize (κ j).foldl (uu (t,a) G l but) o1=W at b A s;by_cases hc:G=R/\p=1/\q≠but
     ·obtain⟨rfl,rfl,hq⟩:=hc;have hVA:=HB.out.of_block (λg _ T=>o.out.block g T) o.out.size;have hqr:0<=q/\q<l.length:=by have:=hcl (1,q) (ω e1) rfl;have h9:=hl.out;have⟨h8,h7⟩:=this;dsimp only at h7 h8;omega
      have hin:t=2->∃p q:Int,a[0]?=U (p,q)/\(p=1->0<=q/\q<l.length):=λe=>by
       have h0:0<a.length:=by omega
       refine⟨a[0].1,a[0].2,χ h0,λe=>?_⟩;have:=hcl a[0] (Y6 _) e;have h9:=hl.out;have⟨h8,h7⟩:=this;omega
      go_wp2_with fail
      refine(agq _ B j t _ _ a l L.out hVA (by omega) hin).mono ?_;rintro e w4 ⟨rfl,z⟩;obtain⟨n,rfl⟩:=Z9 hqr.1;have hnl:n<W.length:=by omega
      have P:=o.out.trans<|z.mono o.out.size;have hr4:=b.out.below z;replace d0:=cG z d0 u;replace K:=cG z K u;replace f0:=cG z f0 hbv;replace f1:=cG z f1 hbv;have Q:=Nat.lt_of_lt_of_le u z.size;clear b o L hVA hin cg z;have S:uu (t,a) R l but W j=if wZ (t,a) j l=R then W.set n R else W:=by unfold uu;rw[hgd];simp[hq]
      rw[S]at A;cases hh:wZ (t,a) j l with
      |true=>
       rw[hh,if_pos rfl]at A;have⟨g2,m2,e6,_,hg2,hg3,cg2,fg2⟩:=hr4.at<|χ hnl;rw[s]at e6;have e7:av=U ⟨g2,0,Z⟩:=by injection e6
       subst e7;have hne:=hgx g2 rfl (by omega);have hset:oD (w4.setCell (g2,n)<|.bool R) C (ZP (U ⟨g2,0,Z⟩) l.length mv) (W.set n R):=by rw[<-s];exact oD.set (by rw[s];exact hr4) hnl
       go_wp2_with fail
       exact⟨⟨j+1,by omega,by go_num,by rw[A];exact hset,P.setCell (p:=⟨g2,n,Z⟩) hg2 _,(KI<|Zg hne).trans d0,(KI<|Zg hne).trans K,by simpa using Q⟩,by simp[intOf];omega⟩
      |false=>
       rw[hh,if_neg nofun]at A
       go_wp2_with fail
       exact⟨⟨j+1,by omega,by go_num,by rw[A];exact hr4,P,d0,K,Q⟩,by simp[intOf];omega⟩
     ·have S:uu (t,a) G l but W j=W:=by unfold uu;rw[hgd];rw[if_neg];simp;intro h1 h2 h3;exact absurd ⟨h1,h2,h3⟩ hc
      rw[S]at A;have J:=(⟨⟨j+1,by omega,by go_num,by rw[A];exact b.out,o.out,d0,K,u⟩,by simp[intOf];omega⟩:(∃j':Nat,j'<=a.length/\Value.int Ψ ((j:Int)+1)=Ξ Ψ j'/\oD wr C (.slice av l.length mv) ((κ j').foldl (uu (t,a) G l but) o1)/\Y C C wr/\wr bx=U (Ξ Ψ t)/\wr (bx,1)=U (ZP (U ⟨bv,ov,Z⟩) a.length mx)/\bx<wr)/\a.length-(intOf<|Ξ Ψ<|(j:Int)+1).toNat<a.length-(intOf<|Ξ Ψ (j:Int)).toNat);cases G with
      |false=>
       go_wp2_with fail
       exact J
      |true=>
       by_cases hp:p=1
       ·subst hp;have hq:q=but:=Zu λh=>hc ⟨rfl,rfl,h⟩;subst hq
        go_wp2_with fail
        exact J
       ·go_wp2_with fail
        exact J
    ·have hjj:j=a.length:=by omega
     subst hjj
     go_wp2_with fail
     exact⟨⟨k+1,by omega,by go_num,by rw[hst];exact m,f⟩,by simp[intOf];omega⟩
  ·have hkk:k=h.cells.length:=by omega
   subst hkk
   go_wp2_with fail
   go_ret;exact⟨⟨_,rfl,m.less (by have:=H.out.size;omega)⟩,H.out.trans<|f.mono H.out.size⟩
section
variable{h:PH}{but:Int}{k:Nat}(w:θ){l:List Bool}
def Ck(on:Bool)(n:Int)(o:List Bool):List Bool:=if on then o.set n.toNat R else o
def yb(h:PH)(but:Int)(k:Nat):List Bool:=(h.roots.take k).foldl (λo v=>Ck (v.1==1&&v.2 !=but) v.2 o)<|ZS h.cells.length ζ
def oX(h:PH)(but:Int)(k:Nat):List Bool:=(h.done.take k).foldl (λo n=>Ck (n !=but) n o)<|yb h but h.roots.length
def pO(h:PH)(but:Int):Nat->List Bool
 |0=>oX h but h.done.length
 |k+1=>Jt h (pO h but k) but
def Ku{a n o}:(Ck a n o).length=o.length:=by unfold Ck;split<;>simp
theorem Jv{c:Type}{f:List Bool->c->List Bool}(b:∀o k,(f o k).length=o.length):∀(a:List c) (o:List Bool),(a.foldl f o).length=o.length
 |[],o=>rfl
 |k::a,o=>by rw[Y2,Jv b a,b]
def Db:(yb h but k).length=h.cells.length:=(Jv (λ_ _=>Ku) _ _).trans Zj
def Kv:(oX h but k).length=h.cells.length:=(Jv (λ_ _=>Ku) _ _).trans Db
def RE:(Jt h l but).length=l.length:=wq (λ_ _=>Kt) _ _
theorem kc{h:PH}{but:Int}:∀k,(pO h but k).length=h.cells.length
 |0=>Kv
 |k+1=>RE.trans<|kc k
def OG{a:Type}{l:List a}{x}(h:l[k]?=U x):l.take (k+1)=l.take k++[x]:=by rw[List.take_add_one,h];rfl
def Re{v}(e:h.roots[k]?=U v):yb h but (k+1)=Ck (v.1==1&&v.2 !=but) v.2 (yb h but k):=by unfold yb;rw[OG e,Y'];rfl
def RF{n}(e:h.done[k]?=U n):oX h but (k+1)=Ck (n !=but) n (oX h but k):=by unfold oX;rw[OG e,Y'];rfl
def WN{w B g n N m}(h:oD w B (ZP (U ⟨g,0,Z⟩) N m) l)(a:l.length=N)(b:n<N):oD (w.setCell (g,n)<|.bool R) B (ZP (U ⟨g,0,Z⟩) N m) (l.set n R):=by subst a;exact oD.set h b
def aaV{w B g n N m}(h:oD w B (ZP (U ⟨g,0,Z⟩) N m) l)(a:l.length=N)(f:n<N):∃b,w (g,n)=U (.bool b)/\w.frozen? ⟨g,n,Z⟩=ζ:=by
 subst a;obtain⟨j,i,e,_,_,_,d,c⟩:=h.at<|χ f;cases e
 exact⟨_,d,c⟩
def y9(h:PH)(but:Int):List Bool:=pO h but h.cells.length
def agr(n:Nat)(hc:n<=1000000000)(w):
 (Instr.makeSlice 168 (Ξ Ψ (n:Int))<|Ξ Ψ (n:Int)).run prog w=.ok (.slice w.heap.size n n) (w.alloc<|.cells (Zr #[.bool ζ] n) 4):=by
 obtain⟨c,hi,a,b,d⟩:=Zp afP;have:=mG 168 4 c _ aaU hi a Ψ Ψ n n .refl (by grind) (by omega) w;rw[b,Nat.mul_one]at this;exact this
def ags(n)(d:n<=1000000000):oD (w.alloc<|.cells (Zr #[.bool ζ] n) 4) w (.slice w.heap.size n n) (ZS n ζ):=by refine⟨_,n,by rw[Zj],by simp,by omega,λ_=>⟨w.heap.size,_,rfl,.refl,by simp,ψ w _,by simp[Zr],λi b hi=>?_⟩⟩;obtain⟨a,c⟩:=Θ.1 hi;rw[YT]at c;subst c;simp at a;simp[Zr,a,Nat.mod_one]
def KJ(v h but)(hv:tH w v h)(Q:P3 h)(hr:h.roots.length<=1000)(hd:h.done.length<=1000):
 ι prog 140 #[v,Ξ Ψ but] w λe w'=>(∃r,e=.returned r/\oD w' w r (y9 h but))/\Y w w w':=by
 have S:=I Q;have HV:=I hv;have ahM:=Q.many;obtain⟨c,r,wi,d,rfl,⟨ac,mc,rfl,hmc,am9,-⟩,⟨ar,mr,rfl,hmr,aeW,F⟩,-,⟨ad,md,rfl,hmd,aeY,E⟩⟩:=hv;have HR:=I F;have HD:=I E;clear F E Q
 go_enter (fU func140 rfl),ntmps140
 go_upto_region 1 with(fail)
 generalize eg:w.alloc _=f;obtain⟨y,G0,hz⟩:=alE eg;clear eg;have n0:f w.heap.size=U (.slice ac h.cells.length mc):=by simp[φ,y]
 have n1:f (w.heap.size,1)=U (.slice ar h.roots.length mr):=by simp[φ,y]
 have n2:f (w.heap.size,2)=U wi:=by simp[φ,y]
 have n3:f (w.heap.size,3)=U (.slice ad h.done.length md):=by simp[φ,y]
 have m:w.heap.size<f:=by omega
 clear y hz;have hmk:=agr h.cells.length (by omega)
 go_upto_region 2 with(fail)
 have C:=ags f h.cells.length (by omega);have g:=I<|af f<|.cells (Zr #[.bool ζ] h.cells.length) 4;generalize f.alloc _=w2 at C g⊢;have z:=I C;have j:=I G0;clear C hmk G0
 go_wp2_with fail
 go_loopw [6] (λi wr=>∃k:Nat,k<=h.roots.length/\i=Ξ Ψ k/\oD wr f (ZP (U ⟨f.heap.size,0,Z⟩) h.cells.length h.cells.length) (yb h but k)/\Y f f wr) (λi _=>h.roots.length-(intOf i).toNat)
 case atStart=>exact⟨0,Nat.zero_le _,rfl,z.out,g.out⟩
 case round=>
  clear z g;obtain⟨k,hk,rfl,b,a⟩:=hrel;have m1:=cG a n1 m;by_cases N:k<h.roots.length
  ·obtain⟨bb,ob,rfl,B,o⟩:=HR.out (by omega);obtain⟨p,q,e1⟩:=ep N;obtain⟨f0,f1⟩:=((o.below j.out B).below a (by have:=j.out.size;omega)) k p q e1;have G:=S.out.wp.roots _<|ω e1;have l:=Re (but:=but) e1;have hsz:=a.size;clear o e1;by_cases hc:p=1/\q≠but
   ·obtain⟨rfl,A⟩:=hc;obtain⟨L,h7⟩:=G rfl;dsimp only at h7 L;obtain⟨n,rfl⟩:=Z9 L;have H:n<h.cells.length:=by omega
    obtain⟨b0,X,fg2⟩:=aaV b Db H;have t:=I<|WN b Db H;have hs:yb h but (k+1)=(yb h but k).set n R:=by rw[l];simp[Ck,A]
    have D:=I a;clear b G l a
    go_wp2_with fail
    exact⟨⟨k+1,by omega,by go_num,by rw[hs];exact t.out,D.out.setCell (p:=⟨f.heap.size,n,Z⟩) .refl _⟩,by simp[intOf];omega⟩
   ·have hs:yb h but (k+1)=yb h but k:=by
     rw[l];unfold Ck;rw[if_neg];simp
     exactλh1=>Zu λh2=>hc ⟨h1,h2⟩
    by_cases hp:p=1
    ·subst hp;have A:q=but:=Zu λh=>hc ⟨rfl,h⟩;subst A
     go_wp2_with fail
     exact⟨⟨k+1,by omega,by go_num,by rw[hs];exact b,a⟩,by simp[intOf];omega⟩
    ·go_wp2_with fail
     exact⟨⟨k+1,by omega,by go_num,by rw[hs];exact b,a⟩,by simp[intOf];omega⟩
  ·have s:k=h.roots.length:=by omega
   subst s;have z:=I b;have g:=I a;clear b a
   go_wp2_with fail
   go_loopw [7] (λi wr=>∃k:Nat,k<=h.done.length/\i=Ξ Ψ k/\oD wr f (ZP (U ⟨f.heap.size,0,Z⟩) h.cells.length h.cells.length) (oX h but k)/\Y f f wr) (λi _=>h.done.length-(intOf i).toNat)
   case atStart=>exact⟨0,Nat.zero_le _,rfl,z.out,g.out⟩
   case round=>
    clear z g m1;obtain⟨u,hk2,rfl,b,a⟩:=hrel;have m3:=cG a n3 m;by_cases J:u<h.done.length
    ·obtain⟨bb,ob,rfl,B,o⟩:=HD.out (by omega);obtain⟨q,e1⟩:=ot J;have f0:=((o.below j.out B).below a (by have:=j.out.size;omega)) u q e1;obtain⟨L,h7⟩:=S.out.wp.done _<|ω e1;have l:=RF (but:=but) e1;clear o e1;obtain⟨n,rfl⟩:=Z9 L;have H:n<h.cells.length:=by omega
     by_cases A:(n:Int)=but
     ·have hs:oX h but (u+1)=oX h but u:=by rw[l];simp[Ck,A]
      subst A
      go_wp2_with fail
      exact⟨⟨u+1,by omega,by go_num,by rw[hs];exact b,a⟩,by simp[intOf];omega⟩
     ·have hs:oX h but (u+1)=(oX h but u).set n R:=by rw[l];simp[Ck,A]
      obtain⟨b0,X,fg2⟩:=aaV b Kv H;have t:=I<|WN b Kv H;have D:=I a;clear b l a
      go_wp2_with fail
      exact⟨⟨u+1,by omega,by go_num,by rw[hs];exact t.out,D.out.setCell (p:=⟨f.heap.size,n,Z⟩) .refl _⟩,by simp[intOf];omega⟩
    ·have s:u=h.done.length:=by omega
     subst s;have z:=I b;have g:=I a;clear b a
     go_wp2_with fail
     go_loopw [5,8] (λx i wr=>∃k:Nat,k<=h.cells.length/\i=Ξ Ψ k/\oD wr f x (pO h but k)/\Y f f wr) (λ_ i _=>h.cells.length-(intOf i).toNat)
     case atStart=>exact⟨0,Nat.zero_le _,rfl,z.out,g.out⟩
     case round=>
      clear z g m3;obtain⟨K,hk3,rfl,b,a⟩:=hrel;have m0:=cG a n0 m;have m1:=cG a n1 m;have m2:=cG a n2 m;have m3:=cG a n3 m;by_cases hlt3:K<h.cells.length
      ·have T:=(HV.out.below j.out).below a
       go_wp2_with fail
       refine(aeE _ _ _ _ h _ but T b (kc K) S.out).mono ?_;rintro e w4 ⟨⟨r4,rfl,O⟩,hb4⟩;have P:=O.less a.size;have W:=a.trans<|hb4.mono a.size
       go_wp2_with fail
       exact⟨⟨K+1,by omega,by go_num,P,W⟩,by simp[intOf];omega⟩
      ·have s:K=h.cells.length:=by omega
       subst s
       go_wp2_with fail
       go_ret;exact⟨⟨_,rfl,b.less (by have:=j.out.size;omega)⟩,j.out.trans<|a.mono j.out.size⟩
end
section
def On(l:List Bool)(n:Int):Prop:=0<=n/\l[n.toNat]?=U R
def aaW{l m n}(c:0<=m/\m<l.length):On (l.set m.toNat R) n↔On l n\/n=m:=by
 unfold On;rw[ZD];constructor;rintro⟨b,a⟩;split at a
 right;omega;exact .inl ⟨b,a⟩;rintro(⟨b,a⟩|rfl)
 ·refine⟨b,?_⟩;split
  rename_i d;rw[if_pos (by omega)];exact a
 refine⟨c.1,?_⟩;rw[if_pos rfl,if_pos<|by omega]
def agt{N n}:¬On (ZS N ζ) n:=by rintro⟨b,a⟩;have⟨h3,h4⟩:=Θ.1 a;rw[YT]at h4;cases h4
section
variable{h:PH}(hw:WP h)
include hw
def Led(h:PH)(l:List Bool)(n:Int):Prop:=∃(i k:Nat) (c:HC) (v:HV),h.cells[i]?=U c/\l[i]?=U R/\c.2[k]?=U v/\v.1=1/\v.2=n/\wZ c k l=R
def aaX{c l o f k v n}(g:c.2[k]?=U v)(hc:c∈h.cells)(m:o.length=h.cells.length):On (uu c f l (-1) o k) n↔On o n\/(f=R/\v.1=1/\v.2=n/\wZ c k l=R):=by
 unfold uu;have e:c.2.getD k (0,0)=v:=by simp[ξ,g]
 rw[e];by_cases b:v.1=1
 have i:=hw.cells c hc v (ω g) b;have j:=i.1;have p:=i.2;have d:(v.2 !=-1)=R:=by simp;omega
 by_cases a:f=R/\wZ c k l=R
 rw[if_pos (by simp[a,b,d]),aaW ⟨j,by omega⟩];constructor;rintro(h|rfl)
 ·exact .inl h
 exact .inr ⟨a.1,b,rfl,a.2⟩;rintro(h|⟨-,-,rfl,-⟩)
 ·exact .inl h
 exact .inr rfl;rw[if_neg (by simp[b,d];intro h3;simpa using λh4=>a ⟨h3,h4⟩)];exact⟨.inl,λh=>h.elim id λh=>absurd ⟨h.1,h.2.2.2⟩ a⟩;rw[if_neg (by simp[b])];exact⟨.inl,λh=>h.elim id λh=>absurd h.2.1 b⟩
def aaY{i c l o n}(hi:h.cells[i]?=U c)(f:o.length=h.cells.length)(K)(m:K<=c.2.length):
 On ((κ K).foldl (uu c (l.getD i ζ) l<|-1) o) n↔On o n\/(l.getD i ζ=R/\∃k v,k<K/\c.2[k]?=U v/\v.1=1/\v.2=n/\wZ c k l=R):=by
 induction K with
 |zero=>exact⟨.inl,λh=>h.elim id λ⟨_,k,v,e,_⟩=>absurd e<|Nat.not_lt_zero _⟩
 |succ K g=>
  have a:c.2[K]?=U c.2[K]:=χ (by omega);rw[fold_succ,aaX hw a (ω hi)<|(wq (λ_ _=>Kr) _ _).trans f,g<|by omega];constructor;rintro((h|⟨d,k,v,e,b⟩)|⟨d,b⟩)
  ·exact .inl h
  exact .inr ⟨d,k,v,by omega,b⟩;exact .inr ⟨d,K,_,Nat.lt_succ_self K,a,b⟩;rintro(h|⟨d,k,v,e,b,h3⟩)
  ·exact .inl<|.inl h
  by_cases j:k=K
  ·subst j;rw[a]at b;cases b
   exact .inr ⟨d,h3⟩
  exact .inl<|.inr ⟨d,k,v,by omega,b,h3⟩
def Kw{l n}(g:l.length=h.cells.length):On (Jt h l<|-1) n↔On l n\/Led h l n:=by
 have e:∀N,N<=h.cells.length->(On ((κ N).foldl (Ih h l<|-1) l) n↔On l n\/∃(i k:Nat) (c:HC) (v:HV),i<N/\h.cells[i]?=U c/\l[i]?=U R/\c.2[k]?=U v/\v.1=1/\v.2=n/\wZ c k l=R):=λN=>by
  induction N with
  |zero=>exactλ_=>⟨.inl,λh=>h.elim id λ⟨i,k,c,v,hi,_⟩=>absurd hi<|Nat.not_lt_zero _⟩
  |succ N j=>
   intro o;have hc:h.cells[N]?=U h.cells[N]:=χ (by omega);have hd:h.cells.getD N (0,[])=h.cells[N]:=by simp[ξ,hc]
   have d:l.getD N ζ=R↔l[N]?=U R:=by rw[ξ,χ<|by omega];simp
   rw[fold_succ];show On ((κ (h.cells.getD N (0,[])).2.length).foldl (uu (h.cells.getD N (0,[])) (l.getD N ζ) l<|-1)<|(κ N).foldl (Ih h l<|-1) l) n↔_;rw[hd,aaY hw hc ((wq (λ_ _=>Kt) _ _).trans g) _ .refl,j<|by omega,d];constructor;rintro((h|⟨i,k,c,v,hi,a⟩)|⟨a,k,v,m,b⟩)
   ·exact .inl h
   exact .inr ⟨i,k,c,v,by omega,a⟩;exact .inr ⟨N,k,_,v,Nat.lt_succ_self N,hc,a,b⟩;rintro(h|⟨i,k,c,v,hi,a,b,h3,h4⟩)
   ·exact .inl<|.inl h
   by_cases f:i=N
   ·subst f;rw[hc]at a;cases a
    exact .inr ⟨b,k,v,(Θ.1 h3).1,h3,h4⟩
   exact .inl<|.inr ⟨i,k,c,v,by omega,a,b,h3,h4⟩
 have:=e _ .refl;unfold Jt Led;rw[this];constructor;rintro(h|⟨i,k,c,v,_,a⟩)
 ·exact .inl h
 exact .inr ⟨i,k,c,v,a⟩;rintro(h|⟨i,k,c,v,a,b⟩)
 ·exact .inl h
 exact .inr ⟨i,k,c,v,(Θ.1 a).1,a,b⟩
end
end
end Kn
namespace Md
section
section
variable{h:PH}(hw:WP h)
include hw
def P4{n}(a:n∈alive (dI h)):cellP (lu h) n=cellP (dI h) n:=by
 have b:=(pl<|v7 hw).2.1 n a;have:=b.1;have c:=b.2;unfold cellP;rw[ta];dsimp only;rw[ξ,ZW,ξ,List.getElem?_zipIdx,χ<|by omega];have e:((n.toNat:Nat):Int)=n:=by omega
 simp[e,a]
def RI{n}(a:n∈(lu h).aA):n∈alive (dI h):=Fs hw<|ZF.1 (ε.1 a).2
def KK{v}(a:v∈VX (lu h)):v.2∈alive (dI h):=(pl<|v7 hw).1.VX v a
end
def sX{h v}:v∈VX h↔(v∈h.roots/\v.1=1)\/∃n∈h.done,v=(1,n):=by
 unfold VX;rw[Zv,ε,ο]
 grind
end
end Md
namespace Kn
open Go Go.RowKit Md
section
theorem OH{d:Type}{p:d->Bool}{q:d->Int}{n:Int}{N:Nat}:∀(l:List d) (o:List Bool),o.length=N->(∀x∈l,p x=R->0<=q x/\q x<N) ->(On (l.foldl (λo x=>Ck (p x) (q x) o) o) n↔On o n\/∃x∈l,p x=R/\q x=n)
 |[],o,_,_=>⟨.inl,λh=>h.elim id λ⟨x,f,_⟩=>absurd f<|by simp⟩
 |x::l,o,ho,h=>by
  rw[Y2,OH l _ (Ku.trans ho) λy a=>h y<|YP _ a];have f:On (Ck (p x) (q x) o) n↔On o n\/(p x=R/\q x=n):=by
   unfold Ck;split
   rename_i b;rw[aaW (by rw[ho];exact h x YM b)];exact or_congr_right ⟨λe=>⟨b,e.symm⟩,λe=>e.2.symm⟩;rename_i b;exact⟨.inl,λh=>h.elim id λh=>absurd h.1 b⟩
  rw[f];constructor;rintro((h|h)|⟨y,a,h⟩)
  ·exact .inl h
  exact .inr ⟨x,YM,h⟩;exact .inr ⟨y,YP _ a,h⟩;rintro(c|⟨y,a,c⟩)
  ·exact .inl<|.inl c
  obtain e|a:=YW.1 a
  ·exact .inl<|.inr<|e▸c
  exact .inr ⟨y,a,c⟩
theorem count_le:∀(l m:List Bool),l.length=m.length->(∀i:Nat,l[i]?=U R->m[i]?=U R) ->l=m\/l.count R<m.count R
 |[],[],_,_=>.inl rfl
 |[],b::m,h,_=>by simp at h
 |a::l,[],h,_=>by simp at h
 |a::l,b::m,h,hs=>by
  have h0:=hs 0;have c:=count_le l m (by simpa using h) λi hi=>by simpa using hs (i+1) (by simpa using hi)
  have d:l.count R<=m.count R:=by obtain rfl|h:=c;exact .refl;omega
  cases a<;>cases b<;>simp at h0⊢
  exact c;omega;exact c
section
variable{h:PH}(hw:WP h)
include hw
def Rf{n}:On (pO h (-1) 0) n↔(∃v∈h.roots,v.1=1/\v.2=n)\/n∈h.done:=by
 have e:On (yb h (-1) h.roots.length) n↔∃v∈h.roots,v.1=1/\v.2=n:=by
  unfold yb;rw[ZO,OH (N:=h.cells.length) h.roots _ Zj λv a c=>by simp at c;exact hw.roots v a c.1]
  constructor;rintro(h|⟨v,a,b,d⟩)
  ·exact absurd h agt
  simp at b;exact⟨v,a,b.1,d⟩;rintro⟨v,a,b,d⟩;have:=(hw.roots v a b).1;exact .inr ⟨v,a,by simp[b];omega,d⟩
 show On (oX h (-1) h.done.length) n↔_;unfold oX;rw[ZO,OH (N:=h.cells.length) (p:=λn=>n !=-1) (q:=λn=>n) h.done _ Db λv a c=>hw.done v a,e];constructor;rintro(h|⟨v,a,b,rfl⟩)
 ·exact .inl h
 exact .inr a
 ·rintro(h|h)
  ·exact .inl h
  ·have:=(hw.done n h).1;exact .inr ⟨n,h,by simp;omega,rfl⟩
def Rh{n k}(a:On (pO h (-1) k) n):On (pO h (-1)<|k+1) n:=(Kw hw<|kc k).2<|.inl a
theorem OJ{n:Int}:∀k,On (pO h (-1) 0) n->On (pO h (-1) k) n
 |0,hn=>hn
 |k+1,hn=>Rh hw<|OJ k hn
def Xy(k):pO h (-1) (k+1)=pO h (-1) k\/k<(pO h (-1)<|k+1).count R:=by
 have step:∀j,pO h (-1) j=pO h (-1) (j+1)\/(pO h (-1) j).count R<(pO h (-1)<|j+1).count R:=λj=>count_le _ _ ((kc j).trans (kc<|j+1).symm) λi hi=>by have:=Rh hw (n:=(i:Int)) (k:=j) ⟨by omega,by simpa using hi⟩;simpa using this.2
 induction k with
 |zero=>obtain h|h:=step 0;exact .inl h.symm;exact .inr (by omega)
 |succ k a=>
  obtain h|h:=step<|k+1
  exact .inl h.symm;obtain e|e:=a
  ·refine .inl ?_;show Jt _ (pO _ (-1)<|k+1) (-1)=_;rw[e];exact e
  exact .inr (by omega)
def RJ:Jt h (y9 h<|-1) (-1)=y9 h (-1):=by
 obtain e|e:=Xy hw h.cells.length
 exact e;have:=List.count_le_length (a:=R) (l:=pO h (-1)<|h.cells.length+1);rw[kc]at this;omega
def onL(h:PH)(l:List Bool):List Int:=((κ h.cells.length).map λ(n:Nat)=>(n:Int)).filter λn=>l[n.toNat]?==U R
omit hw in
def Ka{l n}(d:l.length=h.cells.length):n∈onL h l↔On l n:=by unfold onL On;rw[ε,ο];constructor;rintro⟨⟨m,c,rfl⟩,a⟩;exact⟨by omega,by simpa using a⟩;rintro⟨b,a⟩;have:=(Θ.1 a).1;exact⟨⟨n.toNat,by simp;omega,by omega⟩,by simpa using a⟩
def Xz{l n}(r:l.length=h.cells.length)(q:Led h l n){B}(p:∀m,On l m->m∈B):∃i,On l i/\∃v∈keeps (cellP h i) B,v.1=1/\v.2=n:=by
 have⟨i,k,c,v,hc,hi,a,o,j,h3⟩:=q;have d:cellP h (i:Int)=c:=by simp[cellP,ξ,hc]
 refine⟨i,⟨by omega,by simpa using hi⟩,v,?_,o,j⟩;rw[d];unfold Md.keeps;by_cases h0:c.1=0
 rw[if_pos h0];exact ω a;rw[if_neg h0];unfold wZ at h3;simp[h0]at h3;obtain⟨⟨h4,rfl⟩,h5⟩:=h3;rw[if_pos h4,if_pos];simp[ξ,a];unfold has;simp;by_cases e:(c.2.getD 0 (0,0)).1=1
 right;have g:c.2[0]?=U (c.2.getD 0 (0,0)):=by have:=(Θ.1 a).1;rw[ξ,χ<|by omega];rfl
 have f:=hw.cells c (ω hc) _ (ω g) e;have:=f.1;have:=f.2;refine p _ ⟨f.1,?_⟩;obtain h5|h5:=h5
 exact absurd e (by simpa[ξ]using h5);show l[(c.2[0]?.getD (0,0)).2.toNat]?=U R;cases hx:l[(c.2[0]?.getD (0,0)).2.toNat]? with
 |none=>simp[hx]at h5
 |some b=>simpa[hx]using h5
 left;simpa[ξ]using e
theorem yE{B:List Int}(a:n' h B B):∀(k:Nat) (n:Int),On (pO h (-1) k) n->n∈B
 |0,n,hn=>by
  obtain⟨v,c,b,rfl⟩|hd:=(Rf hw).1 hn
  exact a.VX v<|sX.2<|.inl ⟨c,b⟩;exact a.VX (1,n)<|sX.2<|.inr ⟨n,hd,rfl⟩
 |k+1,n,hn=>by
  obtain b|b:=(Kw hw<|kc k).1 hn
  exact yE a k n b;obtain⟨i,hi,v,c,d,rfl⟩:=Xz hw (kc k) b<|yE a k;exact a.keeps i (yE a k i hi) v c d
def XA:n' h (onL h<|y9 h<|-1) (onL h<|y9 h<|-1):=by
 have d:(y9 h<|-1).length=h.cells.length:=kc _;refine⟨λv a=>(Ka d).2<|OJ hw _<|(Rf hw).2 ?_,λn c v a e=>(Ka d).2 ?_⟩;obtain⟨j,g⟩|⟨n,c,rfl⟩:=sX.1 a
 ·exact .inl ⟨v,j,g,rfl⟩
 exact .inr c;have c:=(Ka d).1 c;have hb:=(Θ.1 c.2).1;rw[<-RJ hw,Kw hw d];right;have hc:h.cells[n.toNat]?=U (cellP h n):=by rw[χ (by omega)];simp only[cellP];rw[ξ,χ<|by omega];rfl
 unfold Md.keeps at a;split at a
 rename_i h0;have⟨k,f⟩:=η.1 a;exact⟨n.toNat,k,_,v,hc,c.2,f,e,rfl,by simp[wZ,h0]⟩;split at a
 ·rename_i h0 g;split at a
  rename_i b;simp only[List.mem_singleton]at a;subst a;have i:(cellP h n).2.length=2:=by
   obtain h3|h3|h3|h3:=hw.shape _<|ω hc
   omega;omega;exact h3.2;rw[h3]at e;exact absurd e nofun
  have e1:(cellP h n).2[1]?=U ((cellP h n).2.getD 1 (0,0)):=by rw[ξ,χ<|by omega];rfl
  refine⟨n.toNat,1,_,_,hc,c.2,e1,e,rfl,?_⟩;unfold wZ;unfold has at b;simp[g];simp at b;obtain b|b:=b
  left;simpa[ξ]using b;right;have:=(Ka d).1 b;simp[this.2];cases a
 cases a
def aaZ{n}:On (y9 h<|-1) n↔n∈alive h:=by have⟨a,c,h3,h4⟩:=pl hw;exact⟨yE hw a _ n,λb=>(Ka<|kc _).1<|h4 _ (XA hw) n b⟩
end
end
end Kn
namespace Md
section
def Ri(h:PH)(v:HV):Prop:=PU v\/(v.1=1/\BJ h v.2)
def Kx(c:HC):Prop:=(c.1=0/\c.2.length<=4)\/(c.1=1/\c.2.length=1)\/(c.1=2/\c.2.length=2)\/(c.1=3/\c.2=[])
structure GP(h:PH):Prop where
 shape:∀c∈h.cells,Kx c
 cells:∀c∈h.cells,∀v∈c.2,Ri h v
 roots:∀v∈h.roots,Ri h v
 aA:∀n∈h.aA,BJ h n
 done:∀n∈h.done,BJ h n
def Ri.ref{h v}(a:Ri h v)(b:v.1=1):BJ h v.2:=by
 obtain a|a:=a
 exact absurd b (Xt (o:=0) a).2.1;exact a.2
def GP.wp{h}(a:GP h):WP h:=⟨λc hc=>by have:=a.shape c hc;unfold Kx at this;grind,λc hc v b d=>(a.cells c hc v b).ref d,λv b d=>(a.roots v b).ref d,a.aA,a.done⟩
def Dl{h}(f:GP h):GP (lu h):=by
 have j:∀{v},Ri h v->Ri (lu h) v:=λj=>j.imp_right λ⟨m,l⟩=>⟨m,wX.2 l⟩;have hc:∀c∈(lu h).cells,(c=(3,[]))\/∃d∈h.cells,c=J4 (alive h) d:=λc hc=>by
  obtain⟨⟨d,i⟩,hd,rfl⟩:=ο.1 hc;dsimp only;split
  have⟨e,k,hd⟩:=ο.1 (show d∈(dI h).cells by have:=(Yx hd).2.2;rw[this];exact Y6 _);exact .inr ⟨e,k,hd.symm⟩;exact .inl rfl
 refine⟨λc g=>?_,λc g v a=>?_,λv g=>j<|f.roots v g,λn b=>wX.2<|f.aA n (ε.1 b).1,λn b=>?_⟩;obtain rfl|⟨d,hd,rfl⟩:=hc c g
 ·exact .inr<|.inr<|.inr ⟨rfl,rfl⟩
 have:=f.shape d hd;unfold Kx J4 at *;split<;>simp_all
 obtain rfl|⟨d,hd,rfl⟩:=hc c g
 ·cases a
 unfold J4 at a;split at a
 obtain⟨x,_,rfl⟩:=ο.1 a;exact .inl<|.inr ⟨rfl,rfl⟩;exact j<|f.cells d hd v a
 ·obtain b|b:=Zv.1 b
  ·exact wX.2<|f.done n b
  exact wX.2<|f.aA n (ε.1 b).1
section
variable{h:PH}{n:Nat}
end
section
variable{g:GH}(h:VG g)
include h
omit h in
def Fb{k}:(lu k).cells.length=k.cells.length:=by simp[ta,dI]
omit h in
end
end
end Md
namespace Kn
open Go Go.RowKit Md
section
section
variable{h:PH}(hp:GP h)(hf:∀c∈h.cells,c.1≠3)
include hp hf
def Ky{n}(b:n∈alive (dI h)):Ik (lu h) n=0:=by
 have hw:=hp.wp;have hi:=Jp.1<|(pl<|v7 hw).2.1 n b;have a:=wX.2 hi;have⟨d,hd,e⟩:=ο.1<|B2<|Jp.2 hi;have f:=a.1;have c:=a.2;unfold Ik;rw[if_neg (by omega),if_neg];intro h3;have h4:(cellP (lu h) n).1=3:=h3;rw[(P4 hw b),<-e]at h4;have h5:(J4 (alive h) d).1=d.1:=by unfold J4;split<;>rfl
 rw[h5]at h4;exact(hf d hd) h4
def Pt{v}(a:Ri (lu h) v)(b:v.1=1->v.2∈alive (dI h)):uI (lu h) v=0:=by
 unfold uI;obtain(⟨h1,h2,h3⟩|⟨h1,h2⟩)|⟨h1,_⟩:=a
 rw[if_pos h1,if_neg<|by omega];rw[if_neg (by omega),if_neg<|by omega,if_pos h1,if_pos h2];rw[if_neg (by omega),if_pos h1];exact Ky hp hf<|b h1
def XB(g:Ny h):Ny (lu h) where
 kinds:=λc hc=>by
  have:=(Dl hp).shape c hc;unfold Kx at this;obtain f|f|f|⟨f,o⟩:=this
  exact .inl f;exact .inr<|.inl f;exact .inr<|.inr<|.inl f;exact .inr<|.inr<|.inr ⟨f,by rw[o];rfl⟩
 eT:=λc hc v j=>Pt hp hf ((Dl hp).cells c hc v j) λk=>by
  rw[ta]at hc;obtain⟨⟨d,i⟩,hd,rfl⟩:=ο.1 hc;dsimp only at j;split at j
  rename_i hb;have⟨_,o,h3⟩:=Yx hd;have e:cellP (dI h) (i:Int)=d:=by simp only[cellP,Y8];rw[ξ,χ<|by omega];simp[h3]
  exact(Xw hp.wp (ZF.1 hb) (by rw[e];exact j) k).1;cases j
 many:=by rw[Fb];exact g.many
 four:=g.four
 roots:=λv j=>Pt hp hf ((Dl hp).roots v j) λk=>KK hp.wp<|sX.2<|.inl ⟨j,k⟩
 aA:=λn m=>Ky hp hf<|RI hp.wp m
 yZ:=g.yZ.filter _
 vY:=Nat.le_trans (ZT _ _) g.vY
 done:=λn m=>Ky hp hf<|KK hp.wp<|sX.2<|.inr ⟨n,m,rfl⟩
 G5:=by show(h.done++h.aA.filter _).Nodup;rw[Y9];refine⟨g.G5,g.yZ.filter _,λa l b hb e=>?_⟩;subst e;have f:=(ε.1 hb).2;simp[(((pl hp.wp).1.VX) (1,a)<|sX.2<|.inr ⟨a,l,rfl⟩)]at f
 oX:=by
  have hd:(lu h).done.Nodup:=by show(h.done++h.aA.filter _).Nodup;rw[Y9];refine⟨g.G5,g.yZ.filter _,λa l b hb e=>?_⟩;subst e;have f:=(ε.1 hb).2;simp[(((pl hp.wp).1.VX) (1,a)<|sX.2<|.inr ⟨a,l,rfl⟩)]at f
  have:=Rx hd (Dl hp).done;rw[Fb]at this;exact Nat.le_trans this g.many
end
end
section
variable{v:HV}{n:Int}{h:PH}
def isLive(c:HC):Bool:=c.1 !=3
def lX(h:PH)(n:Int):Int:=(((h.cells.take n.toNat).filter isLive).length:Nat)
def kp(h:PH)(v:HV):HV:=if v.1=1 then(4,lX h v.2)else v
def OZ(h:PH):GH:=⟨[],(h.cells.filter isLive).map λc=>(c.1,c.2.map<|kp h),h.roots.map<|kp h,(h.aA.map λn=>((1,n):HV)).map<|kp h,(h.done.map λn=>((1,n):HV)).map<|kp h,[]⟩
theorem Pu{b:Type}{p:b->Bool}:∀{l:List b} {n:Nat} {c:b},l[n]?=U c->p c=R->(l.filter p)[((l.take n).filter p).length]?=U c
 |[],n,c,h,_=>by simp at h
 |a::l,0,c,h,hp=>by simp at h;subst h;simp[hp]
 |a::l,n+1,c,h,hp=>by
  have d:=Pu (l:=l) (n:=n) (c:=c) (by simpa using h) hp;by_cases e:p a=R
  simp[e,d];simp[e,d]
def Kb(a:Ik h n=0):0<=n/\n<h.cells.length/\∃c,h.cells[n.toNat]?=U c/\isLive c=R:=by
 unfold Ik at a;split at a
 cases a
 rename_i d;split at a
 cases a
 rename_i b;refine⟨by omega,by omega,_,χ<|by omega,?_⟩;rw[ξ,χ<|by omega]at b;simpa[isLive]using b
def Pv(a:Ik h n=0):(h.cells.filter isLive)[(lX h n).toNat]?=U (cellP h n):=by
 have⟨b,d,c,h3,h4⟩:=Kb a;have:=Pu h3 h4;have e:cellP h n=c:=by simp[cellP,ξ,h3]
 rw[e];simpa[lX]using this
def Px{m}(a:Ik h m=0)(b:m<n):lX h m<lX h n:=by
 have⟨g,f,c,h3,h4⟩:=Kb a;have e:h.cells.take n.toNat=h.cells.take m.toNat++(h.cells.take n.toNat).drop m.toNat:=by have:=(YR m.toNat<|h.cells.take n.toNat).symm;rw[List.take_take,Nat.min_eq_left<|by omega]at this;exact this
 have hd:c∈((h.cells.take n.toNat).drop m.toNat):=by refine η.2 ⟨0,?_⟩;rw[List.getElem?_drop,Ze,if_pos<|by omega,Nat.add_zero];exact h3
 have d:=YS<|ε.2 ⟨hd,h4⟩;unfold lX;rw[e,Zd,Zc];omega
def Rj{m}(b:Ik h m=0)(c:Ik h n=0)(e:lX h m=lX h n):m=n:=by
 obtain a|a|a:=Int.lt_trichotomy m n
 have:=Px b a;omega;exact a;have:=Px c a;omega
def P5(a:Ik h n=0):0<=lX h n/\lX h n<(h.cells.filter isLive).length:=by
 have:=(Θ.1<|Pv a).1;have h0:0<=lX h n:=by unfold lX;omega
 omega
def Nz(a:uI h v=0)(b:v.1=1):Ik h v.2=0:=by unfold uI at a;rwa[if_neg (by omega),if_pos b]at a
def Kc(b:uI h v=0)(o):cp o (kp h v)=if v.1=1 then(1,lX h v.2)else v:=by
 unfold kp cp;by_cases a:v.1=1
 simp[a];rw[if_neg a,if_neg a];unfold uI at b;by_cases h0:v.1=0
 simp[h0];by_cases c:v.1=2
 ·simp[c]
 simp[h0,a,c]at b
def aa0(d:Ny h):plain (OZ h)=⟨(h.cells.filter isLive).map λc=>(c.1,c.2.map λv=>if v.1=1 then(1,lX h v.2)else v),h.roots.map λv=>if v.1=1 then(1,lX h v.2)else v,h.aA.map<|lX h,h.done.map<|lX h⟩:=by
 unfold plain OZ;dsimp only;rw[PH.mk.injEq];have b:∀l:List Int,((((l.map λn=>((1,n):HV)).map<|kp h).map<|cp ((((h.cells.filter isLive).map λc=>(c.1,c.2.map<|kp h)):List HC).length:Int)).map (·.2))=l.map (lX h):=λl=>by simp[kp,cp]
 refine⟨?_,?_,b _,b _⟩;rw[Yw,ZC];refine Z2 λc hc=>?_;simp only[Function.comp_apply,Bz,ZC]
 congr 1
 exact Z2 λv a=>Kc (d.eT c ((ε.1 hc).1) v a) _;rw[ZC];exact Z2 λv a=>Kc (d.roots v a) _
def agu(b:Ny h):Ren h (plain<|OZ h) (lX h) (λn=>Ik h n=0):=by rw[aa0 b];refine⟨λn a=>?_,λn m a i e=>Rj a i e,λn a=>?_,λn a v d c=>?_,rfl,λv d c=>Nz (b.roots v d) c,rfl,λn a=>b.aA n a,rfl,λn a=>b.done n a⟩;have⟨g,f,_⟩:=Kb a;have:=P5 a;exact⟨g,f,this.1,by simpa using this.2⟩;have:=Pv a;simp[cellP,ξ,this];have⟨g,f,_⟩:=Kb a;exact Nz (b.eT _ (B2 ⟨g,f⟩) v d) c
def XC(a:Ny h):normal (plain<|OZ h)=normal h:=(agu a).normal
def WQ(a:uI h v=0):G6 (OZ h) (kp h v):=by
 unfold kp;by_cases b:v.1=1
 rw[if_pos b];have:=P5<|Nz a b;exact .inr<|.inr ⟨rfl,this.1,by simpa[OZ]using this.2⟩;rw[if_neg b];unfold uI at a;by_cases h0:v.1=0
 rw[if_pos h0]at a;split at a
 cases a
 exact .inl<|.inl ⟨h0,by omega,by omega⟩;rw[if_neg h0,if_neg b]at a;by_cases c:v.1=2
 rw[if_pos c]at a;split at a
 exact .inl<|.inr ⟨c,by assumption⟩;cases a
 rw[if_neg c]at a;cases a
def WT{l:List Int}(c:∀n∈l,Ik h n=0)(j:l.Nodup)(g:l.length<=40):Qq (OZ h) ((l.map λn=>((1,n):HV)).map<|kp h):=by refine⟨?_,λv d=>?_,by simpa using g⟩;rw[ZC];refine PW j λa i b hb e=>Rj (c a i) (c b hb) ?_;simpa[kp]using e;rw[ZC]at d;obtain⟨n,f,rfl⟩:=ο.1 d;have:=P5<|c n f;exact .inr ⟨by simp[kp],by simpa[kp]using this.1,by simpa[kp,OZ]using this.2⟩
def acl(a:Ny h)(m:h.cells.length<=32):VG (OZ h) where
 cells:=λc hc=>by
  have hc:c∈(OZ h).old:=by simpa[OZ]using hc
  obtain⟨d,hd,rfl⟩:=ο.1 hc;have⟨hd,j⟩:=ε.1 hd;have:=a.kinds d hd;refine⟨?_,λv b=>?_⟩;simp[isLive]at j;simp only[ZQ];omega;obtain⟨u,e,rfl⟩:=ο.1 b;exact WQ<|a.eT d hd u e
 news:=by simp[OZ]
 bw:=by have:=ZT isLive h.cells;simp only[OZ,ZQ];omega
 four:=by simpa[OZ]using a.four
 roots:=λv b=>by obtain⟨u,e,rfl⟩:=ο.1 b;exact WQ<|a.roots u e
 aA:=WT a.aA a.yZ a.vY
 done:=WT a.done a.G5 a.oX
 marks:=λn l=>by cases l
 order:=List.Pairwise.nil
 ju:=λi c hi k=>by
  exfalso;obtain⟨d,hd,rfl⟩:=ο.1<|ω hi;have⟨v,b,h3⟩:=YE.1 k;obtain⟨u,e,rfl⟩:=ο.1 b;have g:=a.eT d ((ε.1 hd).1) u e;unfold dy kp at h3;unfold uI at g;by_cases f:u.1=1
  simp[f]at h3;rw[if_neg f]at h3;simp at h3;simp[h3]at g
end
section
def acm(w):ι prog 142 #[] w λe w'=>e=.returned (eB (2,0))/\Y w.heap.size w w':=by
 go_enter (fU func142 rfl),ntmps142
 go_wp2
 exact ZE (v:=eB (2,0)) (by simp[ZH,results142,go_sem,eB]) rfl ⟨rfl,((υ _ _).alloc .refl _)⟩
section
variable{n:Nat}{h:PH}(ho:aav n h)
include ho
def Xb:∀c∈h.cells,c.1≠3:=λc hc=>by have:=ho.cells c hc;unfold aau at this;omega
def RK{v}(c:NH n v.1 v.2):Ri h v:=by
 have d:=ho.len;obtain⟨a,b,h3⟩|⟨a,b⟩|⟨a,b,h3⟩:=c
 exact .inr ⟨a,b,by omega⟩;exact .inl<|.inr ⟨a,b⟩;exact .inl<|.inl ⟨a,b,h3⟩
def Xc:GP h where
 shape:=λc hc=>by
  have:=(ho.cells c hc).1;unfold Kx;obtain a|a|a:=this
  exact .inl a;exact .inr<|.inl a;exact .inr<|.inr<|.inl a
 cells:=λc hc v b=>RK ho<|(ho.cells c hc).2 v b
 roots:=λv b=>RK ho<|ho.roots v b
 aA:=λm d=>by have:=ho.aA.1.2 m d;exact⟨this.1,by have:=ho.len;omega⟩
 done:=λm d=>by have:=ho.done.1.2 m d;exact⟨this.1,by have:=ho.len;omega⟩
def RN{m}(a:Md.BJ h m):Ik h m=0:=by have b:=a.1;have c:=a.2;unfold Ik;rw[if_neg (by omega)];exact if_neg<|Xb ho (cellP h m)<|B2 a
def Xd{v}(a:NH n v.1 v.2):uI h v=0:=by
 unfold uI;obtain(⟨h1,h2,h3⟩|⟨h1,h2⟩)|⟨h1,h2⟩:=RK ho a
 rw[if_pos h1,if_neg<|by omega];rw[if_neg (by omega),if_neg<|by omega,if_pos h1,if_pos h2];rw[if_neg (by omega),if_pos h1];exact RN ho h2
def RP(e:n<=40):Ny h where
 kinds:=λc hc=>by
  have:=(ho.cells c hc).1;obtain a|a|a:=this
  exact .inl a;exact .inr<|.inl a;exact .inr<|.inr<|.inl a
 eT:=λc hc v d=>Xd ho<|(ho.cells c hc).2 v d
 many:=by rw[ho.len];exact e
 four:=ho.four
 roots:=λv d=>Xd ho<|ho.roots v d
 aA:=λm b=>RN ho<|(Xc ho).aA m b
 yZ:=ho.aA.1.1
 vY:=by have:=ho.aA.2;omega
 done:=λm b=>RN ho<|(Xc ho).done m b
 G5:=ho.done.1.1
 oX:=by have:=ho.done.2;omega
end
end
section
section
variable{t:YY}{w w':θ}{B b:Nat}{c vw vd:Value}{cs:List HC}{roots:List HV}{wi d:List Int}
def gN.XD(h:gN t w B b c vw vd cs roots wi d){o u}(a:w.grownBy w' vw.ownBlock)(Q:∀g,vd.ownBlock=U g->vw.ownBlock≠U g)(O:OI w' B o u):gN t (w'.setCell (b,2) o) B b c o vd cs roots u d:=by
 have⟨r,l,S,hb,L,E,h3,h4,h5,m⟩:=h;have v:∀(k:Nat) (x:Array Value) (t:YY) (fr:Nat×Nat),w.heap[k]?=U (.cells x t fr) ->t≠3->w'.heap[k]?=w.heap[k]?:=λk x t fr F K=>a.block k (Ω.1 F).1 λe=>by
  have⟨_,_,q,hc⟩:=L.G' e.symm;rw[F]at hc;cases hc
  exact K rfl
 have A:=(v b _ _ _ hb m.2.1).trans hb;have f:∀{e:YY} {z n:Nat} {y:Value} {xs:List Value},e≠3->e≠t->w.ownsRow B e z y n xs->(w'.setCell (b,2) o).ownsRow B e z y n xs:=λP D J=>aS J λg a=>by
  obtain⟨C,_⟩|⟨T,N,q,C,_,j,_⟩:=J.2
  rw[C]at a;cases a;rw[C]at a;cases a;rw[aq λe=>by subst e;rw[hb]at j;cases j;exact D rfl];exact v _ _ _ _ j P
 have zQ:∀{s:Value} {ls:List Int},OI w' B s ls->OI (w'.setCell (b,2) o) B s ls:=λhs=>PY hs λg a=>aq λe=>by
  have⟨_,_,q,hc⟩:=hs.G' a;subst e;rw[A]at hc;cases hc
  exact m.2.1 rfl
 refine⟨r,l,S,?_,zQ O,zQ<|PY E λg p=>a.block g (E.lt g p).2 λe=>Q g p e.symm,f nofun m.2.2.2.symm h3,⟨h4.1,λi k x H G e1 e2=>⟨(h4.2.1 i k x H G e1 e2).1,f nofun m.2.2.1.symm (h4.2.1 i k x H G e1 e2).2⟩,h4.2.2⟩,f nofun m.2.2.1.symm h5,m⟩;rw[aB A];rfl
end
structure KL(w2 wr:θ)(B b:Nat)(c vw vd:Value)(h:PH)(L D:List Int)(k:Nat):Prop where
 own:gN 56 wr B b c vw vd h.cells h.roots L D
 ap:∀g,vd.ownBlock=U g->vw.ownBlock≠U g
 below:Y B w2 wr
 isL:L=(h.aA.take k).filter ((alive h).contains ·)
 isD:D=h.done++(h.aA.take k).filter (λn=>!(alive h).contains n)
section
variable{w2 wr w w3:θ}{B b k:Nat}{c vw vd v':Value}{h:PH}{L D:List Int}{n:Int}
def gN.blk{t cs roots wi d}(h:gN t w B b c vw vd cs roots wi d):∃r,B<=b/\b<w/\w.heap[b]?=U (Δ #[c,r,vw,vd] t (0,0))/\OI w B vw wi/\OI w B vd d:=by have⟨r,l,e,hb,a,f,h3,h4,h5,g⟩:=h;exact⟨r,e,(Ω.1 hb).1,hb,a,f⟩
def KL.took(a:KL w2 wr B b c vw vd h L D k)(j:B<=wr)(hb:Y wr wr w)(m:h.aA[k]?=U n)(hc:(alive h).contains n=R)(l:w.grownBy w3 vw.ownBlock)(q:OI w3 B v' (L++[n]))(d:v'.ownBlock=vw.ownBlock\/v'.ownBlock=U w.heap.size):KL w2 (w3.setCell (b,2) v') B b c v' vd h (L++[n]) D (k+1):=by
 have hw:=a.own.below hb;have⟨r,i,o,u,t,s⟩:=hw.blk;refine⟨hw.XD l a.ap q,λg f e=>?_,((a.below.trans<|hb.mono j).trans<|cM (B:=B) t l<|Nat.le_trans j hb.size).setCell (p:=⟨b,2,Z⟩) i _,by rw[zT _ m,hc,<-a.isL];rfl,by rw[zT _ m,a.isD,hc];simp⟩;obtain d|d:=d
 exact a.ap g f<|d▸e;rw[d]at e;cases e
 have:=(s.lt _ f).2;omega
def KL.put(d:KL w2 wr B b c vw vd h L D k)(j:B<=wr)(hb:Y wr wr w)(m:h.aA[k]?=U n)(hc:(alive h).contains n=ζ)(l:w.grownBy w3 vd.ownBlock)(q:OI w3 B v' (D++[n]))(f:v'.ownBlock=vd.ownBlock\/v'.ownBlock=U w.heap.size):KL w2 (w3.setCell (b,3) v') B b c vw v' h L (D++[n]) (k+1):=by
 have hw:=d.own.below hb;have⟨r,i,o,u,t,s⟩:=hw.blk;refine⟨hw.aex l d.ap q,λg a e=>?_,((d.below.trans<|hb.mono j).trans<|cM (B:=B) s l<|Nat.le_trans j hb.size).setCell (p:=⟨b,3,Z⟩) i _,by rw[zT _ m,hc,<-d.isL];simp,by rw[zT _ m,hc,d.isD,List.append_assoc];rfl⟩;obtain f|f:=f
 exact d.ap g (f▸a) e;rw[f]at a;cases a
 have:=(t.lt _ e).2;omega
end
def wK(cs:List HC)(a:List Int)(k:Nat):List HC:=cs.zipIdx.map λx=>if x.2<k&&!a.contains (x.2:Int)then(3,[])else x.1
def Jw(cs a k):(wK cs a k).length=cs.length:=by simp[wK]
def wL(cs a)(k i:Nat):(wK cs a k)[i]?=(cs[i]?).map λc=>if i<k&&!a.contains (i:Int)then(3,[])else c:=by
 unfold wK
 grind
def P6(cs a):wK cs a 0=cs:=ZR λi=>by rw[wL];simp
def Rk{cs a k}(h:a.contains (k:Int)=R):wK cs a (k+1)=wK cs a k:=ZR λi=>by
 rw[wL,wL];obtain b|b|b:=Nat.lt_trichotomy i k
 simp[b,Nat.lt_succ_of_lt b];subst b;simp[(by simpa using h)];have:¬i<k+1:=by omega
 have:¬i<k:=by omega
 simp[*]
def Rl{cs a k}(b:k<cs.length)(h:a.contains (k:Int)=ζ):wK cs a (k+1)=(wK cs a k).set k (3,[]):=ZR λi=>by
 by_cases hi:i=k
 subst hi;rw[ZV (by rw[Jw];exact b),wL,χ b];simp[(by simpa using h)];rw[Zh (Zg hi),wL,wL];have:(i<k+1)=(i<k):=by simp;omega
 simp[this]
def RR(cs a):wK cs a cs.length=cs.zipIdx.map λx=>if a.contains (x.2:Int)then x.1 else(3,[]):=ZR λi=>by
 rw[wL];obtain hi|hi:=Nat.lt_or_ge i cs.length
 simp[hi];simp[hi]
def OK{h}(hw:WP h){n}(c:n<h.cells.length):(y9 h<|-1)[n]?=U ((alive h).contains (n:Int)):=by
 have b:(y9 h<|-1).length=h.cells.length:=kc _;have a:=aaZ hw (n:=(n:Int));unfold On at a;rw[χ (by omega)];simp only[Y8]at a;rw[χ (by omega)]at a
 congr 1
 rw[Bool.eq_iff_iff,ZF,<-a];simp
def gN.ahN{t w}{B b s m g m2 n i N:Nat}{u C cs roots wi d}(h:gN t w B b (.slice (s:Nat) N m) u C cs roots wi d){k vs}(hi:cs[i]?=U (k,vs))(h0:0<vs.length)(A:w ((s:Nat),i*2+1)=U (.slice (g:Nat) n m2)):∃a,w.heap[g]?=U (.cells a 50 (0,0)):=by
 have⟨r,l,H,hb,E,D,h3,h4,h5,G⟩:=h;have o:i<l.length:=by rw[h4.1];exact(Θ.1 hi).1
 obtain⟨⟨z,y⟩,e⟩:∃p,l[i]?=U p:=⟨_,χ o⟩;obtain⟨rfl,j⟩:=h4.2.1 i z y k vs e hi;have⟨_,_,v,_⟩:=aF h3;cases v
 have⟨_,c,_⟩:=OC.at_ h3 e;rw[A]at c;cases c
 obtain⟨f,_⟩|⟨F,x,a,f,_,q,_⟩:=j.2
 cases f
 cases f
 exact⟨a,q⟩
def gN.ph{t w B b c a e cs roots wi d}(h:gN t w B b c a e cs roots wi d):∃r,w.heap[b]?=U (Δ #[c,r,a,e] t (0,0))/\pV w B (.agg #[c,r,a,e]) ⟨cs,roots,wi,d⟩:=by have⟨r,l,j,hb,g,f,h3,h4,h5,i⟩:=h;exact⟨r,hb,c,r,a,e,rfl,⟨l,h3,h4.1,h4.2.1⟩,h5,g,f⟩
end
def SP.ahO(B:Nat)(n:Int):Rg.SP:=⟨λv w=>∃g,v=.slice (g:Nat) 1 1/\w.heap[g]?=U (Δ #[Ξ Ψ n] 3 (0,0))/\B<=g,λ_ _ _ hb ⟨g,h1,h2,h3⟩=>⟨g,h1,(hb.block g (Ω.1 h2).1).trans h2,h3⟩⟩
def agv{a wr}{B d:Nat}{r h c0}(i:pV wr B r h)(j:wr.heap[d]?=U (.cells c0 56 (0,0)))(b:∀k,k≠d->a.heap[k]?=wr.heap[k]?):pV a B r h:=i.blocks λg c t fr f l=>b g λe=>by
 subst e;rw[j]at f;cases f
 exact l rfl
structure ahP(h:PH):Prop where
 gp:GP h
 many:h.cells.length<=1000
 wW:∀c∈h.cells,c.2.length<=1000
 roots:h.roots.length<=1000
 aA:h.aA.length<=1000
 done:h.done.length<=1000
 both:(h.done++h.aA).length<=1000
def XE(w v h)(hv:tH w v h)(hk:ahP h):
 ι prog 73 #[v] w λe w'=>(∃r,e=.returned r/\pV w' w r (lu h))/\Y w w w':=by
 obtain⟨a0,a1,a2,a3,rfl,h0,h1,h2,h3⟩:=hv;obtain⟨ac,mc,rfl,-⟩:=id h0;obtain⟨ar,mr,rfl,-⟩:=id h1;obtain⟨aw,mw,rfl,-⟩:=id h2;obtain⟨ad,md,rfl,-⟩:=id h3;have⟨z0,z1,C,hs0⟩:=JZ w (Δ #[.slice ac h.cells.length mc,.slice ar h.roots.length mr,.slice aw h.aA.length mw,.slice ad h.done.length md] 56)<|Δ #[(),(),(),()] 56;have K:=I hk;have hG:Zf (P3 h):=I ⟨hk.gp.wp,hk.many,hk.wW⟩;have hr1:=hk.roots;have hd1:=hk.done;have hwl:=hk.aA;have hcl:=hk.many
 go_enter (fU func73 rfl),ntmps73
 go_wp2
 generalize (w.alloc _).alloc _=w1 at z0 z1 C hs0⊢;have⟨c0,c1,c2,c3⟩:=(dx z0).1;have t:w.heap.size<w1:=by omega
 have HV:Zf (tH w1 (.agg #[.slice ac h.cells.length mc,.slice ar h.roots.length mr,.slice aw h.aA.length mw,.slice ad h.done.length md]) h):=I ⟨_,_,_,_,rfl,h0.below C,h1.below C,h2.below C,h3.below C⟩;refine(KJ w1 _ h (-1) HV.out hG.out hr1 hd1).mono ?_;rintro e z ⟨⟨rb,rfl,hrow⟩,P⟩;have hrl:(y9 h<|-1).length=h.cells.length:=kc _;obtain⟨ab,mb,rfl,hmb⟩:=hrow.slice;rw[hrl]at hmb⊢;have d0:=cG P c0 t;have d1:=cG P c1 t;have d2:=cG P c2 t;have d3:=cG P c3 t;have HV2:=I<|HV.out.below P;have hlt2:w.heap.size<z:=Nat.lt_of_lt_of_le t P.size
 go_wp2
 refine(agp z _ h HV2.out (by omega) (λc hc=>by have:=K.out.wW c hc;omega) (by omega) (by omega)<|by omega).mono ?_;rintro e w3 ⟨⟨rc,rfl,y⟩,hb3⟩;obtain⟨c,r,vw,vd,l,rfl,q1,q2,q3,q4,q5,q6⟩:=y;have e0:=cG hb3 d0 hlt2;have e2:=cG hb3 d2 hlt2;obtain⟨N,J,rfl,-⟩:=aF q3;obtain⟨am2,mm2,rfl,-⟩:=aF q5;obtain⟨am3,mm3,rfl,-⟩:=aF q1;obtain⟨am4,mm4,rfl,-⟩:=aF q2;have hll:l.length=h.cells.length:=q4.1;have q3:OC w3 z (.slice N h.cells.length J) l:=hll▸q3;have u:=af w3<|Δ #[.slice N h.cells.length J,.slice am2 h.roots.length mm2,(),.slice am4 h.done.length mm4] 56;have hP5:gN 56 (w3.alloc<|Δ #[.slice N h.cells.length J,.slice am2 h.roots.length mm2,(),.slice am4 h.done.length mm4] 56) z w3 (.slice N h.cells.length J) () (.slice am4 h.done.length mm4) h.cells h.roots [] h.done:=⟨_,l,hb3.size,ψ w3 _,OI.nil _ _,q2.below u,OC.below q3 u,q4.below u,q5.below u,q6,by decide⟩;have Oz:=hb3.trans<|u.mono hb3.size;have HP5:=I hP5;have anL:=I hrow;have Y1:=I<|Γ z1<|Γ C P;have x0:=d0;have x2:=d2
 go_upto_region 5 with(fail)
 generalize w3.alloc _=w5 at HP5 Oz⊢;generalize w3.heap.size=b at HP5⊢;have HS:Zf (KL z w5 z b (.slice N h.cells.length J) () (.slice am4 h.done.length mm4) h [] h.done 0):=I ⟨HP5.out,(λg _ e=>by cases e),Oz,by simp,by simp⟩;have X2:=I<|Γ hlt2 (⟨x0,x2⟩:z w.heap.size=U _/\z (w.heap.size,2)=U _)
 go_loopw [5] (λi wr=>∃(k:Nat) (vw vd:Value) (L D:List Int),k<=h.aA.length/\i=Ξ Ψ k/\Zf (KL z wr z b (.slice N h.cells.length J) vw vd h L D k)) (λi _=>h.aA.length-(intOf i).toNat)
 case atStart=>exact⟨0,_,_,_,_,Nat.zero_le _,rfl,HS⟩
 case round=>
  obtain⟨k,vw,vd,L,D,hk,rfl,HL⟩:=hrel;have Q:=HL.out.below;have hsz:=Q.size;have c2:=cG Q X2.out.2.2 X2.out.1;have ahQ:w.heap.size<wr:=by have:=X2.out.1;omega
  by_cases t:k<h.aA.length
  ·obtain⟨_,_,_,_,T,-,-,g2,-⟩:=HV2.out.below Q;cases T
   have⟨_,_,T,_,_,W⟩:=g2;cases T
   obtain⟨g,o,rfl,hgl,W⟩:=W (by omega);have⟨n,en⟩:=ot t;have d1:=W k n en;have hin:=K.out.gp.aA n<|ω en;obtain⟨n,rfl⟩:=Z9 hin.1;have hn:n<h.cells.length:=by have:=hin.2;omega
   have⟨gb,mb',e9,ajT,_,hgb,cb,fb⟩:=(anL.out.of_block (λg _ hg=>Q.block g hg) hsz).at<|OK K.out.gp.wp hn;rw[hrl]at e9;cases e9
   have⟨r9,hBb,E,F,h1,h2⟩:=HL.out.own.blk;obtain⟨⟨-,-,b2,b3⟩,-⟩:=dx F;obtain⟨a5,m5,rfl,_⟩:=aF h1;obtain⟨a6,m6,rfl,_⟩:=aF h2;have hlL:L.length<=1000:=by rw[HL.out.isL];exact Nat.le_trans (ZT _ _) (by simp;omega)
   have hlD:D.length<=10000:=by rw[HL.out.isD];have:=ZT (λn=>!(alive h).contains n)<|h.aA.take k;simp at this⊢;omega
   have HK:=I<|Γ F<|Γ h1 h2;have EN:=I en;cases hc:(alive h).contains (n:Int)
   ·rw[hc]at cb;have HC:=I hc
    go_wp2
    refine Rg.kl [.eq (.pointer (b,3)),.eq<|.slice a6 D.length m6,.eq<|.pointer (w.heap.size,2),.eq<|ZP (U ⟨g,o,Z⟩) h.aA.length mw,.eq<|Ξ Ψ k,.eq<|.pointer (g,o+k),.eq<|Ξ Ψ n,SP.ahO wr n] (by kernel_rfl) (by kernel_rfl) (by rfl) ?_ ?_
    ·refine⟨?_,?_,?_,?_,?_,?_,?_,?_,trivial⟩
     all_goals intro x2 w4 u q m
     all_goals have s:=(υ _ wr).drew.trans u
     all_goals first|(have g1:=cG s b3 E;have g2:=cG s c2 ahQ;have g3:=cG s d1 hgl;have k0:=q 1 rfl;have k1:=q 4 rfl;have k2:=q 5 rfl;simp at k0 k1 k2;(try have q0:=Rg.ir (m 0 _ rfl rfl) rfl);(try have q1:=Rg.ir (m 2 _ rfl rfl) rfl);(try have q2:=Rg.ir (m 3 _ rfl rfl) rfl);(try have q3:=Rg.ir (m 4 _ rfl rfl) rfl);(try have q4:=Rg.ir (m 5 _ rfl rfl) rfl);clear q m;go_simp;exact⟨_,rfl,.refl _ _,rfl⟩)|skip
     ·have d0:=Rg.ir (m 6 _ rfl rfl) rfl;go_simp;exact⟨_,rfl,af _ _,_,rfl,ψ _ _,s.size⟩
    ·rintro G w4 u ⟨s0,s1,s2,s3,s4,s5,s6,⟨g9,s7,hg9,hl9⟩,_⟩;have s1:G 1=.slice a6 D.length m6:=s1;have s7:G 7=_:=s7;simp[go_sem,s1,s7];have s:=(υ wr wr).drew.trans u;have hz9:=s.size;have H:=(s.block b E).trans HK.out.1;have h24:=HK.out.2.2.below s;have u9:w4 (g9:Nat)=U (Ξ Ψ n):=d7 hg9
     go_wp2_with (at_builtin;refine If rfl _ _ rfl z.heap.size _ _ rfl h24 g9 _ n rfl (by simpa[ZL]using u9) (by omega) (by omega) ?_;intro v' w6 y hb6 Qn hv6;obtain⟨a7,m7,rfl,_⟩:=aF y;have t1:=(Qn.block b (by omega) λe=>cF h24 H nofun e.symm).trans H;have⟨⟨_,_,t2,t3⟩,tf⟩:=dx t1;have tf3:=tf 3)
     have r1:=HL.out.put (by omega) s EN.out HC.out Qn y hv6;rw[show(D++[(n:Int)]).length=D.length+1 by simp]at r1;exact⟨⟨k+1,_,_,_,_,by omega,by go_num,I r1⟩,by simp[intOf];omega⟩
   ·rw[hc]at cb;have HC:=I hc
    go_wp2
    refine Rg.kl [.eq (.pointer (b,2)),.eq<|.slice a5 L.length m5,.eq<|.pointer (w.heap.size,2),.eq<|ZP (U ⟨g,o,Z⟩) h.aA.length mw,.eq<|Ξ Ψ k,.eq<|.pointer (g,o+k),.eq<|Ξ Ψ n,SP.ahO wr n] (by kernel_rfl) (by kernel_rfl) (by rfl) ?_ ?_
    ·refine⟨?_,?_,?_,?_,?_,?_,?_,?_,trivial⟩
     all_goals intro x2 w4 u q m
     all_goals have s:=(υ _ wr).drew.trans u
     all_goals first|(have g1:=cG s b2 E;have g2:=cG s c2 ahQ;have g3:=cG s d1 hgl;have k0:=q 1 rfl;have k1:=q 4 rfl;have k2:=q 5 rfl;simp at k0 k1 k2;(try have q0:=Rg.ir (m 0 _ rfl rfl) rfl);(try have q1:=Rg.ir (m 2 _ rfl rfl) rfl);(try have q2:=Rg.ir (m 3 _ rfl rfl) rfl);(try have q3:=Rg.ir (m 4 _ rfl rfl) rfl);(try have q4:=Rg.ir (m 5 _ rfl rfl) rfl);clear q m;go_simp;exact⟨_,rfl,.refl _ _,rfl⟩)|skip
     ·have d0:=Rg.ir (m 6 _ rfl rfl) rfl;go_simp;exact⟨_,rfl,af _ _,_,rfl,ψ _ _,s.size⟩
    ·rintro G w4 u ⟨s0,s1,s2,s3,s4,s5,s6,⟨g9,s7,hg9,hl9⟩,_⟩;have s1:G 1=.slice a5 L.length m5:=s1;have s7:G 7=_:=s7;simp[go_sem,s1,s7];have s:=(υ wr wr).drew.trans u;have hz9:=s.size;have H:=(s.block b E).trans HK.out.1;have h14:=HK.out.2.1.below s;have u9:w4 (g9:Nat)=U (Ξ Ψ n):=d7 hg9
     go_wp2_with (at_builtin;refine If rfl _ _ rfl z.heap.size _ _ rfl h14 g9 _ n rfl (by simpa[ZL]using u9) (by omega) (by omega) ?_;intro v' w6 y hb6 Qn hv6;obtain⟨a7,m7,rfl,_⟩:=aF y;have t1:=(Qn.block b (by omega) λe=>cF h14 H nofun e.symm).trans H;have⟨⟨_,_,t2,t3⟩,tf⟩:=dx t1;have tf2:=tf 2)
     have r1:=HL.out.took (by omega) s EN.out HC.out Qn y hv6;rw[show(L++[(n:Int)]).length=L.length+1 by simp]at r1;exact⟨⟨k+1,_,_,_,_,by omega,by go_num,I r1⟩,by simp[intOf];omega⟩
  ·have hke:k=h.aA.length:=by omega
   subst hke;have hL:=HL.out.isL;have hD:=HL.out.isD;rw[ZO]at hL hD;have HLD:=I<|Γ hL hD;have H0:=I<|Γ HL.out.own Q
   go_wp2
   go_loopw [6] (λi wr=>∃k:Nat,k<=h.cells.length/\i=Ξ Ψ k/\Zf (gN 56 wr z b (.slice N h.cells.length J) vw vd (DE (alive h) h.cells k) h.roots L D/\Y z z wr)) (λi _=>h.cells.length-(intOf i).toNat)
   case atStart=>exact⟨0,Nat.zero_le _,rfl,by simpa[DE]using H0⟩
   case round=>
    obtain⟨k,hk,rfl,HR⟩:=hrel;have Q:=HR.out.2;have c0:=cG Q X2.out.2.1 X2.out.1;by_cases t:k<h.cells.length
    ·have⟨_,_,_,_,T,h0,_⟩:=HV2.out.below Q;cases T
     have⟨_,_,T,_,_,W⟩:=h0;cases T
     obtain⟨g,o,rfl,hgl,W⟩:=W (by omega);have⟨p,B,ec⟩:=cQ t;have⟨f0,x,f1,hxv⟩:=W k p B ec;obtain⟨ax,mx,rfl,-⟩:=id hxv;have C:=af wr<|Δ #[Ξ Ψ p,.slice ax B.length mx] 76;have n0:(wr.alloc<|Δ #[Ξ Ψ p,.slice ax B.length mx] 76).heap[wr.heap.size]?=U (Δ #[Ξ Ψ p,.slice ax B.length mx] 76 (0,0)):=ψ wr _;have acC:=hxv.below C;have O:=I<|Γ (HR.out.1.below C)<|Q.trans<|C.mono Q.size;have hmem:=ω ec;have hsh:=K.out.gp.shape _ hmem;unfold Kx at hsh;dsimp only at hsh;have hvl:=K.out.wW _ hmem;dsimp only at hvl;have EC:=I ec
     go_upto_region 14 with(fail)
     generalize wr.alloc _=u1 at n0 acC O⊢;generalize wr.heap.size=bc at n0⊢;have hbc:bc<u1:=(Ω.1 n0).1;have⟨n1,n2,_,_⟩:=fl n0;have ahR:tS (alive h) (p,B)=(p,B) ->(∃k':Nat,k'<=h.cells.length/\Value.int Ψ ((k:Int)+1)=Ξ Ψ k'/\Zf (gN 56 u1 z b (.slice N h.cells.length J) vw vd (DE (alive h) h.cells k') h.roots L D/\Y z z u1))/\h.cells.length-(intOf<|Ξ Ψ<|(k:Int)+1).toNat<h.cells.length-(intOf<|Ξ Ψ (k:Int)).toNat:=λhb=>⟨⟨k+1,by omega,by go_num,I ⟨by rw[Aa EC.out hb];exact O.out.1,O.out.2⟩⟩,by simp[intOf];omega⟩;have HST:=I ahR;by_cases hp:p=0\/p=3
     ·have hbr:tS (alive h) (p,B)=(p,B):=by obtain rfl|rfl:=hp<;>simp[tS,zm]
      have X:=I hbr;obtain rfl|rfl:=hp
      all_goals
       go_wp2
       exact HST.out X.out
     ·have A:(p=1\/p=2)/\0<B.length:=by omega
      have⟨q1,q2,ev⟩:=ep A.2;have⟨_,_,T,_,_,hh⟩:=acC;cases T
      obtain⟨gx,ox,rfl,hgx,ajW⟩:=hh A.2;have⟨v0,v1⟩:=ajW 0 q1 q2 ev;simp only[Nat.zero_mul,Nat.add_zero]at v0 v1;have hv0:=A.2;have hgd:B.getD 0 (0,0)=(q1,q2):=by simp[ξ,ev]
      have hlo:zm (p,B) (alive h)=!has (alive h) (q1,q2):=by unfold zm;rw[hgd];obtain rfl|rfl:=A.1<;>simp
      have HLO:=I hlo;have hq:=K.out.gp.wp.cells _ hmem (q1,q2)<|ω ev;have A:=A.1;by_cases hq1:q1=1
      ·subst hq1;have hin:=hq rfl;dsimp only at hin;obtain⟨n,rfl⟩:=Z9 hin.1;have hn:n<h.cells.length:=by have:=hin.2;omega
       have⟨gb,mb',e9,ajT,_,hgb,cb,fb⟩:=(anL.out.of_block (λg _ hg=>O.out.2.block g hg) O.out.2.size).at<|OK K.out.gp.wp hn;rw[hrl]at e9;cases e9
       have hlo2:zm (p,B) (alive h)=!(alive h).contains (n:Int):=by rw[HLO.out];simp[has]
       cases hc:(alive h).contains (n:Int)
       ·rw[hc]at cb hlo2;have hst:=zZ (a:=alive h) EC.out;rw[show tS (alive h) (p,B)=(p,B.map λ_=>(2,0)) by unfold tS;rw[hlo2];rfl]at hst;have hset:(DE (alive h) h.cells k).set k (p,qv B 0)=DE (alive h) h.cells k:=by
         refine ZR λi=>?_;by_cases hi:i=k
         subst hi;rw[ZV (by rw[wI];exact t),Jm t,EC.out];simp[qv];rw[Zh (Zg hi)]
        have ajX:=I hst;have H4:Zf (gN 56 u1 z b (.slice N h.cells.length J) vw vd ((DE (alive h) h.cells k).set k (p,qv B 0)) h.roots L D/\Y z z u1/\u1.heap[bc]?=U (Δ #[Ξ Ψ p,ZP (U ⟨gx,ox,Z⟩) B.length mx] 76 (0,0))):=I ⟨by rw[hset];exact O.out.1,O.out.2,n0⟩;have hk1:(k:Int)<(h.cells.length:Int):=by omega
        obtain rfl|rfl:=A
        all_goals
         go_wp2
         go_loopw [8] (λi wr'=>∃j:Nat,j<=B.length/\i=Ξ Ψ j/\Zf (gN 56 wr' z b (.slice N h.cells.length J) vw vd ((DE (alive h) h.cells k).set k (_,qv B j)) h.roots L D/\Y z z wr'/\wr'.heap[bc]?=U (Δ #[Ξ Ψ _,ZP (U ⟨gx,ox,Z⟩) B.length mx] 76 (0,0)))) (λi _=>B.length-(intOf i).toNat)
         case atStart=>exact⟨0,Nat.zero_le _,rfl,H4⟩
         case round=>
          obtain⟨j,hj,rfl,HJ⟩:=hrel;obtain⟨-,n2,-,-⟩:=fl HJ.out.2.2;by_cases hlj:j<B.length
          ·obtain⟨gc,m9,g9,m2,e1,s1,hm2,-,-,-,-,-⟩:=HJ.out.1.BB (j:=j) (ZV (by rw[wI];exact t)) (by rw[sT];exact hlj) (2,0);rw[Zw,wI]at e1;cases e1
           rw[sT]at s1 hm2;obtain⟨r9,hBb,E,F,-,-⟩:=HJ.out.1.blk;obtain⟨⟨b0,-,-,-⟩,-⟩:=dx F;have hgc:=az s1
           go_wp2
           refine Rg.kl [.eq (.pointer b),.eq<|.slice (gc:Nat) h.cells.length J,.eq<|Ξ Ψ k,.eq<|.pointer (gc,k*2),.eq<|.pointer (gc,k*2+1),.eq<|.slice (g9:Nat) B.length m2,.eq<|Ξ Ψ j,.eq<|eB (2,0),.eq<|.pointer (g9,j*2)] (by kernel_rfl) (by kernel_rfl) (by rfl) ?_ ?_
           ·refine⟨?_,?_,?_,?_,?_,?_,?_,?_,?_,trivial⟩
            all_goals intro x2 w4 u q m
            all_goals have s:=(υ _ wr).drew.trans u
            all_goals first|(have g1:=cG s b0 E;have g2:=cG s s1 hgc;have k0:=q 4 rfl;have k1:=q 6 rfl;have k2:=q 8 rfl;simp at k0 k1 k2;(try have q0:=Rg.ir (m 0 _ rfl rfl) rfl);(try have q1:=Rg.ir (m 1 _ rfl rfl) rfl);(try have q2:=Rg.ir (m 2 _ rfl rfl) rfl);(try have q3:=Rg.ir (m 3 _ rfl rfl) rfl);(try have q4:=Rg.ir (m 4 _ rfl rfl) rfl);(try have q5:=Rg.ir (m 5 _ rfl rfl) rfl);(try have q6:=Rg.ir (m 6 _ rfl rfl) rfl);clear q m;go_simp;exact⟨_,rfl,.refl _ _,rfl⟩)|skip
            ·clear q m;go_simp;refine(acm w4).mono ?_;rintro e w5 ⟨rfl,hb5⟩;exact⟨_,rfl,hb5,rfl⟩
           ·rintro G w4 u ⟨s0',s1',s2',s3',s4',s5',s6',s7',s8',_⟩;have s7':G 7=eB (2,0):=s7';have s8':G 8=_:=s8';simp[go_sem,s7',s8',eB];have s:=(υ wr wr).drew.trans u;have s19:=cG s s1 hgc;obtain⟨gc',m9',g',m2',e1,s1',-,⟨u1',t2⟩,⟨u2',t3⟩,t4,hP5,Oz⟩:=(HJ.out.1.below s).BB (j:=j) (ZV (by rw[wI];exact t)) (by rw[sT];exact hlj) (2,0);rw[Zw,wI]at e1;cases e1
            rw[sT,s19]at s1';cases s1'
            have⟨cur,h50⟩:=(HJ.out.1.below s).ahN (ZV (by rw[wI];exact t)) (by rw[sT];omega) s19;have ahU:=(s.block bc (Ω.1 HJ.out.2.2).1).trans HJ.out.2.2;have ajY:((w4.setCell ((g9:Nat),j*2)<|Ξ Ψ 2).setCell ((g9:Nat),j*2+1)<|Ξ Ψ 0).heap[bc]?=_:=(eX (λe=>by subst e;rw[ahU]at h50;cases h50)).trans ahU;rw[List.set_set,KG hlj]at hP5;have t4a:=t4<|j*2;have t4b:=t4<|j*2+1;have HP5:=I<|Γ hP5<|Γ ((HJ.out.2.1.trans<|s.mono HJ.out.2.1.size).trans Oz) ajY
            go_wp2
            exact⟨⟨j+1,by omega,by go_num,HP5⟩,by simp[intOf];omega⟩
          ·have hje:j=B.length:=by omega
           subst hje
           go_wp2
           exact⟨⟨k+1,by omega,by go_num,I ⟨by rw[ajX.out,<-Oi];exact HJ.out.1,HJ.out.2.1⟩⟩,by simp[intOf];omega⟩
       ·rw[hc]at cb hlo2;have X:Zf (tS (alive h) (p,B)=(p,B)):=I (by unfold tS;rw[hlo2];rfl);obtain rfl|rfl:=A
        all_goals
         go_wp2
         exact HST.out X.out
      ·have X:Zf (tS (alive h) (p,B)=(p,B)):=I (by unfold tS;rw[HLO.out];simp[has,hq1]);obtain rfl|rfl:=A
       all_goals
        go_wp2
        exact HST.out X.out
    ·have hke:k=h.cells.length:=by omega
     subst hke;have hP:=HR.out.1;rw[Oy]at hP;obtain⟨cs1,hcs1⟩:∃x,x=h.cells.map (tS<|alive h):=⟨_,rfl⟩;rw[<-hcs1]at hP;have hbr:(⟨cs1,h.roots,L,D⟩:PH)=dI h:=by rw[hcs1,HLD.out.1,HLD.out.2];rfl
     have hl1:cs1.length=h.cells.length:=by rw[hcs1];simp
     have⟨r9,F,hph⟩:=hP.ph;rw[hbr]at hph;have hrd:=hph.reads;have⟨_,_,a9,n9,a10,n10,a11,n11,T⟩:=hrd.form;simp only[Value.agg.injEq,Zo,Zy,and_true]at T;obtain⟨-,rfl,rfl,rfl⟩:=T;obtain⟨⟨b0,b1,b2,b3⟩,-⟩:=dx F;have HG2:Zf (P3 (dI h)):=I ⟨v7 K.out.gp.wp,by simp[dI];exact K.out.many,λc hc=>by
      obtain⟨d,hd,rfl⟩:=ο.1 hc;have:=K.out.wW d hd;unfold J4;split
      simpa using this;exact this⟩
     have hd2:(dI h).done.length<=1000:=by have:=K.out.both;have:=ZT (λn=>!(alive h).contains n) h.aA;simp[dI]at this⊢;simp at *;omega
     have hgc:∀g,(Value.slice N h.cells.length J).ownBlock=U g->g<wr.heap.size:=λg hg=>by have⟨_,l9,_,_,_,_,h3,_⟩:=hP;exact(h3.lt g hg).2
     have HGC:=I hgc;have X:=I hbr;have WA:=I hl1;have HRD:=I hrd;have HP:=I hP
     go_wp2
     refine(KJ wr _ (dI h) (-1) HRD.out HG2.out hr1 hd2).mono ?_;rintro e w6 ⟨⟨r6,rfl,hrow2⟩,hb6⟩;have hrl2:(y9 (dI h)<|-1).length=h.cells.length:=(kc _).trans (by simp[dI]);obtain⟨an,mn,rfl,hmn⟩:=hrow2.slice;have afQ:=I hrow2;have ajZ:=I hrl2;rw[hrl2]at hmn⊢;obtain⟨S,hS⟩:∃S,S=wr.heap.size:=⟨_,rfl⟩;have H6:Zf (gN 56 w6 z b (.slice N h.cells.length J) (.slice a10 (dI h).aA.length n10) (.slice a11 (dI h).done.length n11) (wK cs1 (alive<|dI h) 0) h.roots L D/\Y z z w6/\kE S w6 w6/\w6.heap.size<=w6):=I ⟨by rw[P6];exact HP.out.below hb6,Q.trans<|hb6.mono Q.size,λj _ _=>rfl,.refl⟩;rw[<-hS]at HGC afQ
     go_wp2
     go_loopw [10] (λi wr=>∃k:Nat,k<=h.cells.length/\i=Ξ Ψ k/\Zf (gN 56 wr z b (.slice N h.cells.length J) (.slice a10 (dI h).aA.length n10) (.slice a11 (dI h).done.length n11) (wK cs1 (alive<|dI h) k) h.roots L D/\Y z z wr/\kE S w6 wr/\w6.heap.size<=wr)) (λi _=>h.cells.length-(intOf i).toNat)
     case atStart=>exact⟨0,Nat.zero_le _,rfl,H6⟩
     case round=>
      obtain⟨k,hk,rfl,HQ⟩:=hrel;obtain⟨r9,hBb,E,F,-,-⟩:=HQ.out.1.blk;obtain⟨⟨b0,b1,b2,b3⟩,-⟩:=dx F;by_cases t:k<h.cells.length
      ·obtain⟨gn,mn',e9,-,_,hgn,cb,fb⟩:=(afQ.out.of_block (λg hg hl=>HQ.out.2.2.1 g hg hl) HQ.out.2.2.2).at (OK (v7 K.out.gp.wp) (n:=k)<|by simpa[dI]using t);rw[ajZ.out]at e9;cases e9
       have hk1:(k:Int)<(h.cells.length:Int):=by omega
       cases hc:(alive<|dI h).contains (k:Int)
       ·rw[hc]at cb;have⟨gc,m9,e1,hm9,⟨u1,t1⟩,⟨u2,t2⟩,t3,hP9,s⟩:=HQ.out.1.free (i:=k) (by rw[Jw,WA.out];exact t);rw[Jw,WA.out]at e1;cases e1
        have t3a:=t3<|k*2;have t3b:=t3<|k*2+1;have hgS:=HGC.out gc rfl;rw[<-Rl (by rw[WA.out];exact t) hc]at hP9;have hK9:kE S w6 ((wr.setCell ((gc:Nat),k*2)<|Ξ Ψ 3).setCell ((gc:Nat),k*2+1)<|ZP Z 0 0):=λj hj hl=>(eX (by omega:j≠gc)).trans<|HQ.out.2.2.1 j hj hl;have hz9:w6.heap.size<=((wr.setCell ((gc:Nat),k*2)<|Ξ Ψ 3).setCell ((gc:Nat),k*2+1)<|ZP Z 0 0).heap.size:=Nat.le_trans HQ.out.2.2.2 (by simp);have H9:=I<|Γ hP9<|Γ (HQ.out.2.1.trans s)<|Γ hK9 hz9
        go_wp2
        exact⟨⟨k+1,by omega,by go_num,H9⟩,by simp[intOf];omega⟩
       ·rw[hc]at cb;have HE:=I<|Rk (cs:=cs1) hc
        go_wp2
        exact⟨⟨k+1,by omega,by go_num,by rw[HE.out];exact HQ⟩,by simp[intOf];omega⟩
      ·have hke:k=h.cells.length:=by omega
       subst hke;have⟨r9',hbk',hph⟩:=HQ.out.1.ph;rw[F]at hbk';cases hbk'
       have⟨_,_,a12,n12,_,_,_,_,T⟩:=hph.reads.form;simp only[Value.agg.injEq,Zo,Zy,and_true]at T;obtain⟨-,rfl,-⟩:=T;have Q:=HQ.out.2.1;have y1:=(Q.block (w.heap.size+1) (by have:=X2.out.1;have:=Y1.out.2.2.size;omega)).trans<|(Y1.out.2.2.block (w.heap.size+1)<|by omega).trans Y1.out.1;have lE:(⟨wK cs1 (alive<|dI h) h.cells.length,h.roots,L,D⟩:PH)=lu h:=by rw[<-WA.out,RR,ta,<-X.out]
       rw[lE]at hph;have⟨e0,e1,e2,e3,g0,g1,g2,g3⟩:=km y1;have HPH:=I hph;have HB:Zf (Y w w wr):=I<|(Y1.out.2.1.trans<|Y1.out.2.2.mono Y1.out.2.1.size).trans<|Q.mono<|Nat.le_trans Y1.out.2.1.size Y1.out.2.2.size;have hw2:w.heap.size<=z.heap.size:=Nat.le_trans Y1.out.2.1.size Y1.out.2.2.size
       go_wp2
       have⟨hk,hne,E,_⟩:=wR (.slice N h.cells.length J) (.slice a12 h.roots.length n12) (.slice a10 (dI h).aA.length n10) (.slice a11 (dI h).done.length n11) y1;have hfin:=HB.out.trans<|E w<|by omega
       have y:=(agv HPH.out y1 hne).less hw2;generalize ((((wr.setCell (w.heap.size+1:Nat)<|.slice N h.cells.length J).setCell (w.heap.size+1,1)<|.slice a12 h.roots.length n12).setCell (w.heap.size+1,2)<|.slice a10 (dI h).aA.length n10).setCell (w.heap.size+1,3)<|.slice a11 (dI h).done.length n11)=f at hk y hfin⊢;have⟨⟨x0,x1,x2,x3⟩,_⟩:=dx hk;exact ZE (v:=.agg #[.slice N h.cells.length J,.slice a12 h.roots.length n12,.slice a10 (dI h).aA.length n10,.slice a11 (dI h).done.length n11]) (by simp[ZH,results73,go_sem,x0,x1,x2,x3]) rfl ⟨⟨_,rfl,y⟩,hfin⟩
section
def KM(x:Int×Int):Value×Value:=(Ξ Ψ x.1,Ξ Ψ x.2)
def mp(w:θ)(b:Nat)(f:Int->Option Int):Prop:=∃es clk,∃l:List (Int×Int),w.heap[b]?=U (.map es clk)/\es.toList.map (λe=>(e.key,e.val))=l.map KM/\(l.map (·.1)).Nodup/\∀n v,f n=U v↔(n,v)∈l
def zY:List (Int×Int) ->Int->Nat->Option (Nat×Value)
 |[],_,_=>Z
 |x::l,n,i=>if n=x.1 then U (i,Ξ Ψ x.2)else zY l n (i+1)
theorem Py(n:Int):∀(es:List MapEntry) (l:List (Int×Int)) (i:Nat),es.map (λe=>(e.key,e.val))=l.map KM->YX (.int Ψ) n es i=U (zY l n i)
 |[],l,i,h=>by
  obtain _|⟨a,l⟩:=l
  simp[YX,zY];simp at h
 |e::es,l,i,h=>by
  obtain _|⟨a,l⟩:=l
  simp at h;simp only[Zs,Zy,KM,Prod.mk.injEq]at h;have⟨⟨c,d⟩,h3⟩:=h;unfold YX zY;rw[c];simp only[Instr.sameNow,if_true];by_cases b:n=a.1
  subst b;simp[d];have hb:(n==a.1)=ζ:=by simp[b]
  rw[hb,if_neg b];exact Py n es l (i+1) h3
theorem y'{n:Int}:∀{l:List (Int×Int)} {i:Nat},zY l n i=Z->∀x∈l,x.1≠n
 |[],i,h,x,a=>by cases a
 |y::l,i,h,x,a=>by
  unfold zY at h;split at h
  cases h
  rename_i b;obtain rfl|a:=YW.1 a
  exactλe=>b e.symm
  exact y' h x a
theorem zh{n:Int}{j:Nat}{u:Value}:∀{l:List (Int×Int)} {i:Nat},zY l n i=U (j,u) ->∃k v,j=i+k/\u=Ξ Ψ v/\l[k]?=U (n,v)
 |[],i,h=>by cases h
 |y::l,i,h=>by
  unfold zY at h;split at h
  rename_i b;cases h
  exact⟨0,y.2,rfl,rfl,by rw[b];rfl⟩;have⟨k,v,c,a,h3⟩:=zh h;exact⟨k+1,v,by omega,a,by simpa using h3⟩
section
variable{w w':θ}{b:Nat}{f:Int->Option Int}
def mp.of_block(h:mp w b f)(hb:w'.heap[b]?=w.heap[b]?):mp w' b f:=by have⟨c,a,l,e,r⟩:=h;exact⟨c,a,l,hb.trans e,r⟩
def mp.lt(h:mp w b f):b<w:=by have⟨c,a,l,e,r⟩:=h;exact(Ω.1 e).1
def mp.below(h:mp w b f)(a:Y w w w'):mp w' b f:=h.of_block<|a.block b h.lt
def mp.made(w:θ):mp (w.alloc<|.map #[] 0) w.heap.size (λ_=>Z):=⟨#[],0,[],ψ w _,rfl,Yv,λn v=>by simp⟩
def yF(n:Int)(w){es l}(a:es.map (λe=>(e.key,e.val))=l.map KM):(Yu 3 n es).run prog w=.ok (zY l n 0) w:=by unfold Yu;rw[Zt,ZK ae8,ZG,Py n es l 0 a];simp
def Pz{l n}(a:∀n v,f n=U v↔(n,v)∈l)(h:zY l n 0=Z):f n=Z:=by
 cases hf:f n with
 |none=>rfl
 |some v=>exact absurd rfl<|y' h _<|(a n v).1 hf
def P7(n:Int)(h:mp w b f):(Za 164 (.map<|U b) n R).run prog w=.ok (.tuple #[Ξ Ψ ((f n).getD 0),.bool (f n).isSome]) w:=by
 have⟨e,d,l,hb,c,g,a⟩:=h;unfold Za;simp only[Zt,ZK E9,ZG,run_get hb,Zl,sE,yF n w c];cases hx:zY l n 0 with
 |none=>simp[Pz a hx,aeZ]
 |some x=>have⟨j,u⟩:=x;obtain⟨k,v,-,rfl,h3⟩:=zh hx;simp[(a n v).2 (ω h3)]
def P8(n:Int)(h:mp w b f):(Za 164 (.map<|U b) n ζ).run prog w=.ok (Ξ Ψ<|(f n).getD 0) w:=by
 have⟨e,d,l,hb,c,g,a⟩:=h;unfold Za;simp only[Zt,ZK E9,ZG,run_get hb,Zl,sE,yF n w c];cases hx:zY l n 0 with
 |none=>simp[Pz a hx,aeZ]
 |some x=>have⟨j,u⟩:=x;obtain⟨k,v,-,rfl,h3⟩:=zh hx;simp[(a n v).2 (ω h3)]
def agw{es:Array MapEntry}{l:List (Int×Int)}{k:Nat}{x}(b:es.toList.map (λe=>(e.key,e.val))=l.map KM)(d:l[k]?=U x):∃e,es[k]?=U e/\e.key=Ξ Ψ x.1/\e.val=Ξ Ψ x.2:=by have a:=congrArg (λz=>z[k]?) b;simp only[ZW,d,Option.map_some]at a;have⟨e,c,h3⟩:=YV.1 a;refine⟨e,by simpa using c,?_⟩;simp[KM]at h3;exact h3
def Xe{l:List (Int×Int)}(c:(l.map (·.1)).Nodup){i j:Nat}{n u v}(hi:l[i]?=U (n,u))(d:l[j]?=U (n,v)):i=j:=by
 have f:(l.map (·.1))[i]?=U n:=by simp[hi]
 have e:(l.map (·.1))[j]?=U n:=by simp[d]
 have⟨b,e1⟩:=Θ.1 f;have⟨a,e2⟩:=Θ.1 e;obtain h|h|h:=Nat.lt_trichotomy i j
 exact absurd (e1.trans e2.symm)<|ZU.1 c i j b a h;exact h;exact absurd (e2.trans e1.symm)<|ZU.1 c j i a b h
def Kd(n v:Int)(h:mp w b f):
 ∃w',(Y4 164 (.map<|U b) n<|Ξ Ψ v).run prog w=.ok () w'/\mp w' b (λm=>if m=n then U v else f m)/\w.grownBy w' (U b)/\w'.heap.size=w.heap.size:=by
 have⟨t,p,l,hb,s,D,E⟩:=h;have q:=(Ω.1 hb).1;cases hx:zY l n 0 with
 |none=>
  refine⟨{w with heap:=w.heap.setIfInBounds b<|.map (t.push {key:=Ξ Ψ n,val:=Ξ Ψ v,born:=p})<|p+1},?_,?_,sG w b _,by simp⟩;unfold Y4;simp only[Zt,ZK E9,ZG,run_get hb,Zl,sE,yF n w s,hx];simp[setObj,YD,hb];refine⟨_,p+1,l++[(n,v)],by simp[q];rfl,?_,?_,λm u=>?_⟩
  ·rw[Array.toList_push,Z8,s,Z8];simp[KM]
  rw[Z8,Y9];refine⟨D,by simp,λa J c hc e=>?_⟩;simp at hc;subst hc;subst e;have⟨x,B,y⟩:=ο.1 J;exact y' hx x B y;have:=E m u;by_cases g:m=n
  subst g;simp;constructor;rintro rfl;exact .inr rfl;rintro(o|o)
  ·exact absurd rfl<|(y' hx) _ o
  exact o.symm;simp[g,this]
 |some x=>
  have⟨j,u⟩:=x;obtain⟨k,v0,K,rfl,h3⟩:=zh hx;obtain rfl:j=k:=by omega
  have A:=(Θ.1 h3).1;have⟨F,r,C,H⟩:=agw s h3;refine⟨{w with heap:=w.heap.setIfInBounds b<|.map (t.modify j λe=>{e with key:=Ξ Ψ n,val:=Ξ Ψ v}) p},?_,?_,sG w b _,by simp⟩;unfold Y4;simp only[Zt,ZK E9,ZG,run_get hb,Zl,sE,yF n w s,hx];have G:(((t[j]?).map (·.key)).getD<|Ξ Ψ n)=Ξ Ψ n:=by rw[r];exact C
  rw[G];simp[Instr.keyThatStays,Instr.sameBits,setObj,YD,hb];refine⟨_,p,l.set j (n,v),by simp[q];rfl,?_,?_,λm u=>?_⟩
  ·rw[Array.toList_modify];refine ZR λi=>?_;have o:=congrArg (λz=>z[i]?) s;simp only[ZW]at o;rw[ZW,ZW,List.getElem?_modify,ZD];by_cases d:j=i
   subst d;have:t.toList[j]?=U F:=by simpa using r
   simp[this,A,KM];simp[d];simpa using o
  have:(l.set j (n,v)).map (·.1)=l.map (·.1):=by
   refine ZR λi=>?_;rw[ZW,ZW,ZD];by_cases d:j=i
   subst d;rw[if_pos rfl,if_pos A,h3];rfl;simp[d]
  rw[this];exact D
  ·have:=E m u;by_cases g:m=n
   subst g;simp;constructor;rintro rfl;exact η.2 ⟨j,by rw[ZV A]⟩;intro o;have⟨i,hi⟩:=η.1 o;rw[ZD]at hi;split at hi
   simpa using hi;rename_i d;exact absurd (Xe D h3 hi) d;simp only[g,if_false,this];constructor;intro o;have⟨i,hi⟩:=η.1 o;refine η.2 ⟨i,?_⟩;rw[Zh λe=>by subst e;rw[h3]at hi;cases hi;exact g rfl];exact hi;intro o;have⟨i,hi⟩:=η.1 o;rw[ZD]at hi;split at hi
   cases hi
   exact absurd rfl g;exact ω hi
def P9(ty n)(h:mp w b f):
 ∃w',(Y7 #[164,3] ty #[.map (U b),Ξ Ψ n]).run prog w=.ok (.tuple #[]) w'/\mp w' b (λm=>if m=n then Z else f m)/\w.grownBy w' (U b)/\w'.heap.size=w:=by
 have⟨g,c,l,hb,p,t,v⟩:=h;have o:=(Ω.1 hb).1;cases hx:zY l n 0 with
 |none=>
  refine⟨{w with heap:=w.heap.setIfInBounds b<|.map g c},?_,?_,sG w b _,by simp⟩;simp[Y7,ZK E9,run_get hb,sE,yF n w p,hx,setObj,YD,hb];refine⟨g,c,l,by simp[o],p,t,λm u=>?_⟩;by_cases a:m=n
  subst a;simp
  exactλd=>y' hx _ d rfl
  simp[a,v]
 |some x=>
  have⟨j,u⟩:=x;obtain⟨k,v0,A,rfl,h3⟩:=zh hx;obtain rfl:j=k:=by omega
  have z:=(Θ.1 h3).1;have y:g.size=l.length:=by simpa using congrArg List.length p
  refine⟨{w with heap:=w.heap.setIfInBounds b<|.map (g.eraseIdxIfInBounds j) c},?_,?_,sG w b _,by simp⟩;simp[Y7,ZK E9,run_get hb,sE,yF n w p,hx,setObj,YD,hb];have q:(g.eraseIdxIfInBounds j).toList=g.toList.eraseIdx j:=by unfold Array.eraseIdxIfInBounds;rw[dif_pos (by omega)];simp
  refine⟨_,c,l.eraseIdx j,by simp[o];rfl,?_,?_,λm u=>?_⟩;rw[q,gL,p,<-gL];rw[gL];exact t.sublist<|YQ _ _;by_cases a:m=n
  ·subst a;simp;intro d;have⟨i,r,s⟩:=Y5.1 d;exact r<|Xe t s h3
  simp only[a,if_false,v];constructor;intro d;have⟨i,hi⟩:=η.1 d;refine Y5.2 ⟨i,λe=>?_,hi⟩;subst e;rw[h3]at hi;cases hi
  exact a rfl
  exactλd=>(YQ _ _).subset d
end
end
section
variable(w:θ)
def aeL(p x w)(c:w p=U x)(d:w.frozen? p=ζ):
 CallsD prog 183 #[Zb (U p)] .returning w λe g w'=>e=.returned (.tuple #[])/\g=.returning/\∃w1,Y w w w1/\w'=w1.setCell p (Ξ Ψ 0):=by
 have b:=Y0 c;refine YN (fU func183 rfl) rfl λa cs f=>?_;apply Ys;simp[wpOpsS,go_sem,recoverD,f,ntmps183,Exit.thenS];refine(Ad w).mono ?_;rintro e w1 ⟨rfl,hb⟩;have i:=(hb.cell b).trans c;have h:=(hb.frozen b).trans d;cases a
 simp_all [go_sem,bodyPostS,ZH,results183]
 exact⟨w1,hb,rfl⟩
def aeM(p x w)(c:w p=U x)(d:w.frozen? p=ζ):
 CallsD prog 129 #[Zb (U p)] .returning w λe g w'=>e=.returned (.tuple #[])/\g=.returning/\∃w1,Y w w w1/\w'=w1.setCell p (Ξ Ψ 0):=by
 have b:=Y0 c;refine YN (fU func129 rfl) rfl λa cs f=>?_;apply Ys;simp[wpOpsS,go_sem,recoverD,f,ntmps129,Exit.thenS];refine(eE w).mono ?_;rintro e w1 ⟨rfl,hb⟩;have i:=(hb.cell b).trans c;have h:=(hb.frozen b).trans d;cases a
 simp_all [go_sem,bodyPostS,ZH,results129]
 exact⟨w1,hb,rfl⟩
def Rm(v h)(p:tH w v h)(x:Ny h):
 ι prog 130 #[v] w λe w'=>e=.returned (Ξ Ψ 0)/\Y w w w':=by
 have u:∀(fn:Fn) (first cap:Array Value) (w:θ),(ZA fn first cap).run prog w=.ok (.func fn first cap) w:=λ_ _ _ _=>rfl;have HV:=I p;have D:=I x;obtain⟨c,r,b,d,rfl,-⟩:=p
 go_enter_defers (fU func130 rfl),ntmps130
 go_wp2
 have⟨G,t,a,F⟩:=al3 w (Δ #[c,r,b,d] 56) (Δ #[Ξ Ψ 0] 34)<|Δ #[c,r,b,d] 159;have B:qw (((w.alloc<|Δ #[c,r,b,d] 56).alloc<|Δ #[Ξ Ψ 0] 34).alloc<|Δ #[c,r,b,d] 159) (w.heap.size+1+1) h:=by
  have⟨N,L,C,Q,e,A,s,h3,h4⟩:=HV.out.below a;cases e
  obtain⟨⟨z,q,H,y⟩,-⟩:=dx t;exact⟨c,r,b,d,z,q,H,y,A,s,h3,h4⟩
 refine(Qp _ _ h B D.out).mono ?_;rintro e T ⟨rfl,g⟩;have m:=(g.block (w.heap.size+1)<|by omega).trans G;have S:=d7 m;have O:=cD (i:=0) m;have k:=a.trans<|g.mono a.size;have j:=I<|Γ m k
 go_wp2
 have⟨t1,t2,o⟩:=jF j.out.1;refine Zn (f:=183) (args:=#[.pointer (w.heap.size+1:Nat)]) (by simp) (by simp[go_sem]) ?_;refine(aeL (w.heap.size+1:Nat) (Ξ Ψ 0) _ (d7 t1)<|cD t1).mono ?_;rintro e P E ⟨rfl,rfl,w9,l,rfl⟩;have⟨q1,K⟩:=fz t1 l;have n:=(j.out.2.trans<|o.mono j.out.2.size).trans<|K.mono<|Nat.le_trans j.out.2.size o.size;generalize w9.setCell (w.heap.size+1:Nat) (Ξ Ψ 0)=J at *;simp[YK,YJ,ZH,results130,go_sem,d7 q1];exact n
def hQ(f:Int->Option Int)(v:HV):HV:=if v.1=1 then(4,(f v.2).getD 0)else v
def Ke(v l)(bx m:Nat)(f)(H:eI w v l)(hb:w bx=U (.map<|U m))(G:mp w m f)(L:l.length<=100000):
 ι prog 131 #[v,.pointer bx] w λe w'=>(∃r,e=.returned r/\OV w' w r (l.map<|hQ f))/\Y w w w':=by
 obtain⟨a,mc,rfl,F,y,x⟩:=H;have n:=az hb
 go_enter (fU func131 rfl),ntmps131
 go_wp2
 go_loopw [4,9] (λv i wr=>∃k:Nat,k<=l.length/\i=Ξ Ψ k/\OV wr w v ((l.take k).map<|hQ f)/\Y w w wr) (λ_ i _=>l.length-(intOf i).toNat)
 case atStart=>exact⟨0,Nat.zero_le _,rfl,OV.nil _ _,υ _ _⟩
 case round=>
  obtain⟨k,J,rfl,d,b⟩:=hrel;by_cases s:k<l.length
  ·obtain⟨K,N,rfl,t,x⟩:=x (by omega);have⟨p,q,e1⟩:=ep s;have⟨c1,c2⟩:=(x.below b t) k p q e1;have E:=b.size;have j:((l.take k).map<|hQ f).length<=1000000000:=by simp;omega
   have B:=I e1;by_cases z:p=1
   ·subst z;have o:=P8 q<|(G.below b).below<|af wr<|Δ #[Ξ Ψ 1,Ξ Ψ q] 50;have h:=cG (af wr<|Δ #[Ξ Ψ 1,Ξ Ψ q] 50) (cG b hb n)<|Nat.lt_of_lt_of_le n b.size;have g:hQ f (1,q)=(4,(f q).getD 0):=rfl;generalize (f q).getD 0=A at o g
    go_wp2_with (at_builtin;refine fO rfl _ _ rfl w _ _ rfl (((d.alloc<|Δ #[Ξ Ψ 4,Ξ Ψ A] 50)).alloc _) _ _ (4,A) rfl (by simp[go_sem,ZL]) j (by simp;omega) ?_;intro D C c h u)
    go_wp2
    go_roundw
    case rel=>exact⟨k+1,by omega,by go_num,by rw[bW B.out,Z8,Zs,g];exact c,b.trans<|(((υ _ _).alloc (by omega) _).alloc (by simp;omega) _).trans h⟩
    case measure=>simp[intOf];omega
   ·have g:hQ f (p,q)=(p,q):=by simp[hQ,z]
    go_wp2_with (at_builtin;refine fO rfl _ _ rfl w _ _ rfl (((d.alloc<|Δ #[Ξ Ψ p,Ξ Ψ q] 50)).alloc _) _ _ (p,q) rfl (by simp[go_sem,ZL]) j (by simp;omega) ?_;intro D C c h u)
    go_wp2
    go_roundw
    case rel=>exact⟨k+1,by omega,by go_num,by rw[bW B.out,Z8,Zs,g];exact c,b.trans<|(((υ _ _).alloc (by omega) _).alloc (by simp;omega) _).trans h⟩
    case measure=>simp[intOf];omega
  ·go_wp2
   go_ret;refine⟨⟨_,rfl,?_⟩,b⟩;rw[ZI (by omega)]at d;exact d
end
section
structure aj0(tl:List HV)(N M:Nat):Prop where
 nodup:tl.Nodup
 at_:∀v∈tl,(v.1=3/\0<=v.2/\v.2<N)\/(v.1=4/\0<=v.2/\v.2<M)
 news:tl.countP (λv=>v.1==3)=N
 bw:tl.countP (λv=>v.1==4)=M
end
abbrev acR:Array Value:=#[(),(),(),(),(),()]
def SP.ahV(B:Nat)(a b c:List HV):Rg.SP:=⟨λv w=>∃x y z,v=.agg #[(),(),x,y,z,()]/\OV w B x a/\OV w B y b/\OV w B z c,λ_ _ _ hb ⟨x,y,z,e,h1,h2,h3⟩=>⟨x,y,z,e,OV.below h1 hb,OV.below h2 hb,OV.below h3 hb⟩⟩
section
def xl(h:PH)(n:Int):Bool:=isLive<|cellP h n
def fA(k:Nat)(n:Int):Option Int:=if 0<=n/\n<k then U 0 else Z
def fB(h:PH)(k:Nat)(n:Int):Option Int:=if 0<=n/\n<h.cells.length/\(n<k->xl h n=R)then U 0 else Z
def fC(h:PH)(k:Nat)(n:Int):Option Int:=if 0<=n/\n<h.cells.length/\xl h n=R then U (if n<k then lX h n else 0)else Z
section
variable{h:PH}{k:Nat}
def aeO:(λm=>if m=(k:Int)then U 0 else fA k m)=fA (k+1):=funext λm=>by
 unfold fA;by_cases a:m=k
 subst a;rw[if_pos rfl,if_pos<|by omega];rw[if_neg a];simp only[show(0<=m/\m<((k+1:Nat):Int))=(0<=m/\m<(k:Int))from propext<|by omega]
def agx:fA h.cells.length=fB h 0:=funext λm=>by unfold fA fB;simp only[show(0<=m/\m<(h.cells.length:Int)/\(m<((0:Nat):Int) ->xl h m=R))=(0<=m/\m<(h.cells.length:Int))from propext ⟨λh=>⟨h.1,h.2.1⟩,λh=>⟨h.1,h.2,λa=>by omega⟩⟩]
def ae3(b:xl h k=ζ):(λm=>if m=(k:Int)then Z else fB h k m)=fB h (k+1):=funext λm=>by
 unfold fB;by_cases a:m=k
 subst a;rw[if_pos rfl,if_neg λc=>by rw[c.2.2 (by omega)]at b;cases b];rw[if_neg a];simp only[show(m<((k+1:Nat):Int))=(m<(k:Int))from propext<|by omega]
def ae6(b:xl h k=R):fB h k=fB h (k+1):=funext λm=>by
 unfold fB;by_cases a:m=k
 subst a;simp[b];simp only[show(m<((k+1:Nat):Int))=(m<(k:Int))from propext<|by omega]
def agy:fB h h.cells.length=fC h 0:=funext λm=>by
 unfold fB fC;by_cases b:0<=m/\m<(h.cells.length:Int)
 simp[b.1,b.2,show¬m<0 by omega];rw[if_neg λa=>b ⟨a.1,a.2.1⟩,if_neg λa=>b ⟨a.1,a.2.1⟩]
def ahW(a:k<h.cells.length):fC h k k=if xl h k=R then U 0 else Z:=by unfold fC;simp[a]
def ae9(c:k<h.cells.length)(b:xl h k=R):(λm=>if m=(k:Int)then U (lX h k)else fC h k m)=fC h (k+1):=funext λm=>by
 unfold fC;by_cases a:m=k
 subst a;rw[if_pos rfl,if_pos ⟨by omega,by omega,b⟩,if_pos<|by omega];rw[if_neg a];simp only[show(m<((k+1:Nat):Int))=(m<(k:Int))from propext<|by omega]
def afh(b:xl h k=ζ):fC h k=fC h (k+1):=funext λm=>by
 unfold fC;by_cases a:m=k
 subst a;simp[b];simp only[show(m<((k+1:Nat):Int))=(m<(k:Int))from propext<|by omega]
def Xh(a):xl h k=isLive (h.cells[k]):=by simp[xl,cellP,ξ,a]
def XF(a:k<h.cells.length):lX h (k+1:Nat)=lX h k+if xl h k=R then 1 else 0:=by
 unfold lX;have e:h.cells.take (k+1)=h.cells.take k++[h.cells[k]]:=by rw[List.take_add_one,χ a];rfl
 simp only[Y8,e,Zd,Zc,Xh a];by_cases b:isLive h.cells[k]=R<;>simp[b]
def afi:0<=lX h k/\lX h k<=h.cells.length:=by
 unfold lX;have:=ZT isLive<|h.cells.take (k:Int).toNat
 simp at this⊢;omega
def OL{v}(b:uI h v=0):hQ (fC h h.cells.length) v=kp h v:=by
 unfold hQ kp;by_cases a:v.1=1
 rw[if_pos a,if_pos a];have⟨e,h3,c,h4,h5⟩:=Kb<|Nz b a;have d:xl h v.2=R:=by simp[xl,cellP,ξ,h4,h5]
 simp[fC,e,h3,d];rw[if_neg a,if_neg a]
end
def val_one{h n}(a:Ik h n=0):uI h (1,n)=0:=by unfold uI;rw[if_neg (by decide:¬(1:Int)=0),if_pos rfl];exact a
def of_eq{h}(b:Ny h):(⟨[],(h.cells.filter isLive).map λc=>(c.1,c.2.map<|hQ<|fC h h.cells.length),h.roots.map<|hQ<|fC h h.cells.length,(h.aA.map λn=>((1,n):HV)).map<|hQ<|fC h h.cells.length,(h.done.map λn=>((1,n):HV)).map<|hQ<|fC h h.cells.length,[]⟩:GH)=OZ h:=by
 unfold OZ;have d:∀l:List Int,(∀n∈l,Ik h n=0) ->(l.map λn=>((1,n):HV)).map (hQ<|fC h h.cells.length)=(l.map λn=>((1,n):HV)).map (kp h):=λl d=>Z2 λv a=>by obtain⟨n,e,rfl⟩:=ο.1 a;exact OL<|val_one<|d n e
 rw[d _ b.aA,d _ b.done,Z2 λv a=>OL<|b.roots v a]
 congr 1
 exact Z2 λc hc=>by rw[Z2 λv a=>OL<|b.eT c (ε.1 hc).1 v a]
structure Pc(w w':θ)(m:Nat)(a0 a1 a2 a3:Value)(f:Int->Option Int):Prop where
 below:Y w w w'
 heap:w'.heap[w.heap.size]?=U (Δ #[a0,a1,a2,a3] 56 (0,0))
 out:w'.heap[w.heap.size+1]?=U (.cells acR 26 (0,0))
 code:w'.heap[w.heap.size+1+1]?=U (Δ #[Ξ Ψ 0] 34 (0,0))
 box:w'.heap[m+1]?=U (Δ #[.map (U m)] 164 (0,0))
 low:w.heap.size+3<=m
 Fc:mp w' m f
section
variable{w w' w2:θ}{m:Nat}{a0 a1 a2 a3:Value}{f f':Int->Option Int}
def Pc.to(h:Pc w w' m a0 a1 a2 a3 f)(a:Y w' w' w2):Pc w w2 m a0 a1 a2 a3 f:=by have k:∀{g o},w'.heap[g]?=U o->w2.heap[g]?=U o:=λe=>(a.block _ (Ω.1 e).1).trans e;exact⟨h.below.trans<|a.mono h.below.size,k h.heap,k h.out,k h.code,k h.box,h.low,h.Fc.below a⟩
def Pc.map(h:Pc w w' m a0 a1 a2 a3 f)(a:w'.grownBy w2 (U m))(hd:mp w2 m f'):Pc w w2 m a0 a1 a2 a3 f':=by
 have k:∀{g:Nat} {c t fr},w'.heap[g]?=U (Δ c t fr) ->w2.heap[g]?=U (Δ c t fr):=λ{g c t fr} e=>(a.block _ (Ω.1 e).1 λd=>by
  cases d
  have⟨i,b,l,hb,_⟩:=h.Fc;rw[hb]at e;cases e).trans e
 refine⟨h.below.grown a h.below.size λk e=>?_,k h.heap,k h.out,k h.code,k h.box,h.low,hd⟩;cases e
 have:=h.low;omega
end
structure OfR(w wr:θ)(m:Nat)(a0 a1 a2 a3 so ro wi d:Value)(f:Int->Option Int)(cs:List HC)(lr lw ld:List HV):Prop where
 below:Y w w wr
 heap:wr.heap[w.heap.size]?=U (Δ #[a0,a1,a2,a3] 56 (0,0))
 out:wr.heap[w.heap.size+1]?=U (Δ #[(),so,ro,wi,d,()] 26 (0,0))
 code:wr.heap[w.heap.size+1+1]?=U (Δ #[Ξ Ψ 0] 34 (0,0))
 box:wr.heap[m+1]?=U (Δ #[.map (U m)] 164 (0,0))
 low:w.heap.size+3<=m
 Fc:mp wr m f
 rows:OX wr (w.heap.size+3) so cs
 r1:OV wr (w.heap.size+3) ro lr
 r2:OV wr (w.heap.size+3) wi lw
 r3:OV wr (w.heap.size+3) d ld
section
variable{w wr w2:θ}{m:Nat}{a0 a1 a2 a3 so ro wi d s' x:Value}{f:Int->Option Int}{cs:List HC}{lr lw ld vs:List HV}{l:List (Int×Value)}{k:Int}
def OfR.to(h:OfR w wr m a0 a1 a2 a3 so ro wi d f cs lr lw ld)(a:Y wr wr w2):OfR w w2 m a0 a1 a2 a3 so ro wi d f cs lr lw ld:=by have k:∀{g o},wr.heap[g]?=U o->w2.heap[g]?=U o:=λe=>(a.block _ (Ω.1 e).1).trans e;exact⟨h.below.trans<|a.mono h.below.size,k h.heap,k h.out,k h.code,k h.box,h.low,h.Fc.below a,h.rows.keep<|kE.below a,h.r1.below a,h.r2.below a,h.r3.below a⟩
def OfR.app(h:OfR w wr m a0 a1 a2 a3 so ro wi d f cs lr lw ld)(j:OC wr (w.heap.size+3) so l)(D:HO wr (w.heap.size+3) l cs)(b:wr.grownBy w2 so.ownBlock)(A:OC w2 (w.heap.size+3) s' (l++[(k,x)]))(B:OV wr (w.heap.size+3) x vs):
 OfR w (w2.setCell (w.heap.size+1,1) s') m a0 a1 a2 a3 s' ro wi d f (cs++[(k,vs)]) lr lw ld:=by
 have q:∀{g:Nat} {c t fr},wr.heap[g]?=U (Δ c t fr) ->t≠76->w2.heap[g]?=U (Δ c t fr):=λ{g c t fr} e s=>(b.block _ (Ω.1 e).1 λu=>cF j e s u.symm).trans e;have o:∀g:Nat,g≠w.heap.size+1->(w2.setCell (w.heap.size+1,1) s').heap[g]?=w2.heap[g]?:=λg b=>aq b;have C:=h.low;have a:kE (w.heap.size+3) w2 (w2.setCell (w.heap.size+1,1) s'):=kE.set (by omega);refine⟨?_,(o _<|by omega).trans<|q h.heap nofun,heap_setCell_same (i:=1)<|q h.out nofun,(o _<|by omega).trans<|q h.code nofun,(o _<|by omega).trans<|q h.box nofun,C,?_,?_,fd (fy h.r1 j nofun b) a,fd (fy h.r2 j nofun b) a,fd (fy h.r3 j nofun b) a⟩;refine(h.below.grown b h.below.size λk e=>?_).setCell (p:=⟨w.heap.size+1,1,Z⟩) (by show w.heap.size<=w.heap.size+1;omega) _;have:=(j.lt k e).1;omega;refine h.Fc.of_block<|(o _<|by omega).trans<|b.block m h.Fc.lt λe=>?_;have⟨F,v,G,hb,_⟩:=h.Fc;obtain⟨r,_⟩|⟨E,y,z,r,_,n,_⟩:=j.2
 rw[r]at e;cases e;rw[r]at e;cases e;rw[hb]at n;cases n
 exact OX.keep ⟨_,A,(D.types j b).snoc<|fy B j nofun b⟩ a
end
end
def afm(w:θ)(v:Value)(h:PH)(hv:tH w v h)(hk:Ny h)(hm:h.cells.length<=32)(hs:∀c∈h.cells,c.2.length<=1000):
 ι prog 69 #[v] w λe w'=>(∃r,e=.returned (.tuple #[r,Ξ Ψ 0])/\Ot w' w r (OZ h))/\Y w w w':=by
 have hmf:∀(fn:Fn) (first cap:Array Value) (w:θ),(ZA fn first cap).run prog w=.ok (.func fn first cap) w:=λ_ _ _ _=>rfl;have hmm:=@run_makeMap prog;have HQ:=I hv;have HK:=I hk;obtain⟨a0,a1,a2,a3,rfl,h0,h1,h2,h3⟩:=hv;have hrl:h.roots.length<=1000:=by have:=hk.four;omega
 have hwl:h.aA.length<=1000:=by have:=hk.vY;omega
 have hdl:h.done.length<=1000:=by have:=hk.oX;omega
 clear hk
 go_enter_defers (fU func69 rfl),ntmps69
 go_wp2_with fail
 have⟨y1,y2,s,hz3⟩:=al3 w (Δ #[a0,a1,a2,a3] 56) (.cells acR 26)<|Δ #[Ξ Ψ 0] 34;have y0:(((w.alloc<|Δ #[a0,a1,a2,a3] 56).alloc<|.cells acR 26).alloc<|Δ #[Ξ Ψ 0] 34).heap[w.heap.size]?=U (Δ #[a0,a1,a2,a3] 56 (0,0)):=(Z4 _ _ _ (by simp;omega)).trans<|(Z4 _ _ _<|by simp).trans<|ψ w _;refine(Rm _ _ h (HQ.out.below s) HK.out).mono ?_;rintro e w2 ⟨rfl,C⟩;have z0:=(C.block w.heap.size<|by omega).trans y0;have z1:=(C.block (w.heap.size+1)<|by omega).trans y1;have z2:=(C.block (w.heap.size+1+1)<|by omega).trans y2;have hbw:=s.trans<|C.mono s.size;have hs2:=C.size;clear y0 y1 y2 s C
 go_wp2_with fail
 refine(cd w2 0).mono ?_;rintro e B ⟨rfl,rfl⟩
 go_upto_region 5 with(fail)
 have hO:Pc w ((B.alloc<|.map #[] 0).alloc<|Δ #[.map (U B.heap.size)] 164) B.heap.size a0 a1 a2 a3 (fA 0):=by
  have hbm:=af B<|.map #[] 0;have hbx:=af (B.alloc<|.map #[] 0)<|Δ #[.map (U B.heap.size)] 164;have u:=hbm.trans<|hbx.mono hbm.size;have hd:mp (B.alloc<|.map #[] 0) B.heap.size (fA 0):=by
   have:fA 0=λ_=>Z:=funext λn=>by unfold fA;rw[if_neg (by omega)]
   rw[this];exact mp.made B
  refine⟨hbw.trans<|u.mono hbw.size,(u.block _<|by omega).trans z0,(u.block _<|by omega).trans z1,(u.block _<|by omega).trans z2,?_,by omega,hd.below hbx⟩;have:=ψ (B.alloc<|.map #[] 0)<|Δ #[.map (U B.heap.size)] 164;simpa using this
 generalize ((B.alloc<|.map #[] 0).alloc<|Δ #[.map (U B.heap.size)] 164)=w4 at hO⊢;generalize B.heap.size=m at hO⊢;have HO:=I hO;obtain⟨ac,mc,rfl,hmc,am9,_⟩:=h0;obtain⟨ar,mr,rfl,hmr,aeW,_⟩:=h1;obtain⟨aw,mw,rfl,hmw,aeX,_⟩:=h2;obtain⟨ad,md,rfl,hmd,aeY,_⟩:=h3;clear z0 z1 z2 hbw hs2 hz3 hmm;have c0:=(dx hO.heap).1.1;clear hO
 go_wp2_with fail
 clear c0
 go_loopw [27] (λi wr=>∃k:Nat,k<=h.cells.length/\i=Ξ Ψ k/\Zf (Pc w wr m (.slice ac h.cells.length mc) (.slice ar h.roots.length mr) (.slice aw h.aA.length mw) (.slice ad h.done.length md)<|fA k)) (λi _=>h.cells.length-(intOf i).toNat)
 case atStart=>exact⟨0,Nat.zero_le _,rfl,HO⟩
 case round=>
  clear HO;obtain⟨k,hk,rfl,HR⟩:=hrel;by_cases E:k<h.cells.length
  ·have cb:=d7 HR.out.box;have⟨w5,hup,A,K,hs5⟩:=Kd (k:Int) 0 HR.out.Fc;rw[aeO]at A;have HR5:=I<|HR.out.map K A;clear A K hs5
   go_wp2_with fail
   exact⟨⟨k+1,by omega,by go_num,HR5⟩,by simp[intOf];omega⟩
  ·have O:k=h.cells.length:=by omega
   subst O;rw[agx]at HR;have c0:=(dx HR.out.heap).1.1
   go_wp2_with fail
   clear c0
   go_loopw [36] (λi wr=>∃k:Nat,k<=h.cells.length/\i=Ξ Ψ k/\Zf (Pc w wr m (.slice ac h.cells.length mc) (.slice ar h.roots.length mr) (.slice aw h.aA.length mw) (.slice ad h.done.length md)<|fB h k)) (λi _=>h.cells.length-(intOf i).toNat)
   case atStart=>exact⟨0,Nat.zero_le _,rfl,HR⟩
   case round=>
    clear HR;obtain⟨k,hk,rfl,HR⟩:=hrel;by_cases E:k<h.cells.length
    ·have⟨_,_,_,_,L,h0,_⟩:=HQ.out.below HR.out.below;cases L
     have⟨_,_,L,_,_,G⟩:=h0;cases L
     obtain⟨bb,o,rfl,hbb,G⟩:=G (by omega);have⟨p,vs,e1⟩:=cQ E;have⟨f0,x,f1,hxv⟩:=G k p vs e1;obtain⟨ax,mx,rfl,_⟩:=id hxv;have X:=af wr<|Δ #[Ξ Ψ p,.slice ax vs.length mx] 76;have t:=I<|HR.out.to X;have cb:=d7 t.out.box;have z:xl h k=(p !=3):=by rw[Xh E,(Θ.1 e1).2];rfl
     have HLV:=I z;have hd1:=t.out.Fc;clear G e1 hxv z HR X;by_cases hp:p=3
     ·subst hp;have z:xl h k=ζ:=HLV.out;have⟨w5,hdel,A,K,hs5⟩:=P9 0 (k:Int) hd1;rw[ae3 z]at A;have HR5:=I<|t.out.map K A;clear A K hs5 hd1 z
      go_wp2_with fail
      exact⟨⟨k+1,by omega,by go_num,HR5⟩,by simp[intOf];omega⟩
     ·have z:xl h k=R:=by rw[HLV.out];simpa using hp
      rw[ae6 z]at t;clear hd1 cb
      go_wp2_with fail
      exact⟨⟨k+1,by omega,by go_num,t⟩,by simp[intOf];omega⟩
    ·have O:k=h.cells.length:=by omega
     subst O;rw[agy]at HR;have c0:=(dx HR.out.heap).1.1
     go_wp2_with fail
     clear c0
     go_loopw [9,50] (λnx i wr=>∃k:Nat,k<=h.cells.length/\i=Ξ Ψ k/\nx=Ξ Ψ (lX h k)/\Zf (Pc w wr m (.slice ac h.cells.length mc) (.slice ar h.roots.length mr) (.slice aw h.aA.length mw) (.slice ad h.done.length md)<|fC h k)) (λ_ i _=>h.cells.length-(intOf i).toNat)
     case atStart=>exact⟨0,Nat.zero_le _,rfl,rfl,HR⟩
     case round=>
      clear HR;obtain⟨k,hk,rfl,rfl,HR⟩:=hrel;have cb:=d7 HR.out.box;have⟨hr0,hr1⟩:=afi (h:=h) (k:=k);by_cases E:k<h.cells.length
      ·have hrn:=I (XF E);have J:=P7 (k:Int) HR.out.Fc;rw[ahW E]at J;cases z:xl h k
       ·rw[z]at J hrn;simp only[Bool.false_eq_true,if_false,Option.getD_none,Option.isSome_none]at J;rw[afh z]at HR;have HLV:=I z;clear z
        go_wp2_with fail
        exact⟨⟨k+1,by omega,by go_num,by rw[hrn.out];simp,HR⟩,by simp[intOf];omega⟩
       ·rw[z]at J hrn;simp only[if_true,Option.getD_some,Option.isSome_some]at J;have⟨w5,hup,A,K,hs5⟩:=Kd (k:Int) (lX h k) HR.out.Fc;rw[ae9 E z]at A;have HR5:=I<|HR.out.map K A;clear A K hs5 z;generalize hRK:lX h k=rk at hr0 hr1 hup⊢;have HRK:=I hRK;clear hRK
        go_wp2_with fail
        exact⟨⟨k+1,by omega,by go_num,by rw[hrn.out,HRK.out];simp,HR5⟩,by simp[intOf];omega⟩
      ·have O:k=h.cells.length:=by omega
       subst O;have hno:¬(32<lX h h.cells.length):=by omega
       generalize hRK:lX h h.cells.length=rk at hr0 hr1 hno⊢;clear hRK
       go_wp2_with fail
       refine(cd wr 8).mono ?_;rintro e w5 ⟨rfl,rfl⟩
       go_upto_region 27 with(fail)
       clear hr0 hr1 hno;have H27:=I HR;have hwr:=HR.out.below.size;have hl0:w.heap.size<w5:=by have:=HR.out.low;have:=HR.out.Fc.lt;omega
       have T:m+1<w5:=(Ω.1 HR.out.box).1;obtain⟨⟨-,c1,c2,c3⟩,-⟩:=dx HR.out.heap;have cb:=d7 HR.out.box;obtain⟨_,_,_,_,L,-,g1,g2,g3⟩:=HQ.out.below HR.out.below;cases L
       generalize hF:fC h h.cells.length=F at HR;have HF:=I hF;have hd:=HR.out.Fc;clear hF H27;refine Rg.kl [.eq (.func (.func 131) #[] #[.pointer (m+1:Nat)]),.eq<|.pointer (w.heap.size,1),.eq<|.slice ar h.roots.length mr,SP.ov w5<|h.roots.map<|hQ F,.eq<|.func (.func 131) #[] #[.pointer (m+1:Nat)],.eq<|.pointer (w.heap.size,2),.eq<|.slice aw h.aA.length mw,SP.ov w5<|h.aA.map λn=>((1,n):HV),SP.ov w5<|(h.aA.map λn=>((1,n):HV)).map<|hQ F,.eq<|.func (.func 131) #[] #[.pointer (m+1:Nat)],.eq<|.pointer (w.heap.size,3),.eq<|.slice ad h.done.length md,SP.ov w5<|h.done.map λn=>((1,n):HV),SP.ov w5<|(h.done.map λn=>((1,n):HV)).map<|hQ F,SP.ahV w5 (h.roots.map<|hQ F) ((h.aA.map λn=>((1,n):HV)).map<|hQ F)<|(h.done.map λn=>((1,n):HV)).map<|hQ F] (by kernel_rfl) (by kernel_rfl) (by rfl) ?_ ?_
       ·refine⟨?_,?_,?_,?_,?_,?_,?_,?_,?_,?_,?_,?_,?_,?_,?_,trivial⟩
        all_goals intro x2 w2 C q b
        all_goals have u:=(υ _ w5).drew.trans C
        all_goals first|(have f1:=cG u c1 hl0;have f2:=cG u c2 hl0;have f3:=cG u c3 hl0;have k0:=q 1 rfl;have k1:=q 13 rfl;simp at k0 k1;(try have q0:=Rg.ir (b 1 _ rfl rfl) rfl);(try have q1:=Rg.ir (b 5 _ rfl rfl) rfl);(try have q2:=Rg.ir (b 10 _ rfl rfl) rfl);clear q b;go_simp;exact⟨_,rfl,.refl _ _,rfl⟩)|skip
        ·have d0:=Rg.ir (b 0 _ rfl rfl) rfl;have N:=Rg.ir (b 2 _ rfl rfl) rfl;clear q b;go_simp;refine(Ke _ _ h.roots (m+1) m F (g1.below u) (cG u cb T) (hd.below u)<|by omega).mono ?_;rintro e B ⟨⟨r,rfl,P⟩,s⟩;exact⟨_,rfl,s,OV.less P u.size⟩
        ·have N:=Rg.ir (b 6 _ rfl rfl) rfl;clear q b;go_simp;refine(Ip _ _ h.aA (g2.below u)<|by omega).mono ?_;rintro e B ⟨⟨r,rfl,P⟩,s⟩;exact⟨_,rfl,s,OV.less P u.size⟩
        ·have d0:=Rg.ir (b 4 _ rfl rfl) rfl;obtain⟨v,N,hv⟩:∃v,(x2.tmps[77]?).getD undef=v/\OV w2 w5 v _:=⟨_,rfl,b 7 _ rfl rfl⟩;clear q b;go_simp;refine(Ke _ _ _ (m+1) m F hv.reads (cG u cb T) (hd.below u) (by simp;omega)).mono ?_;rintro e B ⟨⟨r,rfl,P⟩,s⟩;exact⟨_,rfl,s,by rw[ZC]at P;exact OV.less P u.size⟩
        ·have N:=Rg.ir (b 11 _ rfl rfl) rfl;clear q b;go_simp;refine(Ip _ _ h.done (g3.below u)<|by omega).mono ?_;rintro e B ⟨⟨r,rfl,P⟩,s⟩;exact⟨_,rfl,s,OV.less P u.size⟩
        ·have d0:=Rg.ir (b 9 _ rfl rfl) rfl;obtain⟨v,N,hv⟩:∃v,(x2.tmps[82]?).getD undef=v/\OV w2 w5 v _:=⟨_,rfl,b 12 _ rfl rfl⟩;clear q b;go_simp;refine(Ke _ _ _ (m+1) m F hv.reads (cG u cb T) (hd.below u) (by simp;omega)).mono ?_;rintro e B ⟨⟨r,rfl,P⟩,s⟩;exact⟨_,rfl,s,by rw[ZC]at P;exact OV.less P u.size⟩
        ·obtain⟨v1,N,hv1⟩:∃v,(x2.tmps[73]?).getD undef=v/\OV w2 w5 v _:=⟨_,rfl,b 3 _ rfl rfl⟩;obtain⟨v2,d2,hv2⟩:∃v,(x2.tmps[78]?).getD undef=v/\OV w2 w5 v _:=⟨_,rfl,b 8 _ rfl rfl⟩;obtain⟨v3,d3,hv3⟩:∃v,(x2.tmps[83]?).getD undef=v/\OV w2 w5 v _:=⟨_,rfl,b 13 _ rfl rfl⟩;obtain⟨_,_,rfl,_⟩:=aF hv1;obtain⟨_,_,rfl,_⟩:=aF hv2;obtain⟨_,_,rfl,_⟩:=aF hv3;simp only[ZQ]at hv1 hv2 hv3;clear q b;go_simp;exact⟨_,rfl,.refl _ _,_,_,_,rfl,by simpa using hv1,by simpa using hv2,by simpa using hv3⟩
       ·rintro vs0 w8 hb8 ⟨s0,s1,s2,s3,s4,s5,s6,s7,s8,s9,s10,s11,s12,s13,⟨x4,x6,x8,s14,S4,S6,S8⟩,-⟩;have s14:vs0 14=_:=s14;have BP:=(υ _ w5).drew.trans hb8;have H:=I<|HR.out.to BP;obtain⟨b4,W,rfl,_⟩:=aF S4;obtain⟨b6,Q,rfl,_⟩:=aF S6;obtain⟨b8,m8,rfl,_⟩:=aF S8;simp only[ZQ]at S4 S6 S8 s14;have hS:w.heap.size+3<=w5.heap.size:=by have:=HR.out.low;have:=HR.out.Fc.lt;omega
        have HS:=I<|Γ (eV S4 hS)<|Γ (eV S6 hS)<|eV S8 hS;simp[go_sem,s14];have⟨d,f⟩:=JJ H.out.out;have d0:=d 0 (by omega);have N:=d 1 (by omega);have d2:=d 2 (by omega);have d3:=d 3 (by omega);have d4:=d 4 (by omega);have d5:=d 5 (by omega);have f0:=f 0;have f1:=f 1;have f2:=f 2;have f3:=f 3;have f4:=f 4;have f5:=f 5;clear d f s0 s1 s2 s3 s4 s5 s6 s7 s8 s9 s10 s11 s12 s13 s14 S4 S6 S8 hb8 BP HR g1 g2 g3 c1 c2 c3 cb hd hwr hl0 T hS
        go_upto_region 28 with(fail)
        have⟨q1,q2,q3,q4⟩:=kn (v0:=()) (v1:=()) (v2:=.slice b4 h.roots.length W) (v3:=.slice b6 h.aA.length Q) (v4:=.slice b8 h.done.length m8) (v5:=()) H.out.out;have hlo:=H.out.low;have D:kE (w.heap.size+3) w8 (io w8 (w.heap.size+1) () () (.slice b4 h.roots.length W) (.slice b6 h.aA.length Q) (.slice b8 h.done.length m8) ()):=λj hj _=>q2 j (by omega);have HL:Zf (OfR w (io w8 (w.heap.size+1) () () (.slice b4 h.roots.length W) (.slice b6 h.aA.length Q) (.slice b8 h.done.length m8) ()) m (.slice ac h.cells.length mc) (.slice ar h.roots.length mr) (.slice aw h.aA.length mw) (.slice ad h.done.length md) () (.slice b4 h.roots.length W) (.slice b6 h.aA.length Q) (.slice b8 h.done.length m8) F [] (h.roots.map<|hQ F) ((h.aA.map λn=>((1,n):HV)).map<|hQ F)<|(h.done.map λn=>((1,n):HV)).map<|hQ F):=I ⟨H.out.below.trans<|q4 _<|by omega,(q2 _<|by omega).trans H.out.heap,q1,(q2 _<|by omega).trans H.out.code,(q2 _<|by omega).trans H.out.box,hlo,H.out.Fc.of_block<|q2 _<|by omega,OX.nil _ _,fd (by simpa using HS.out.1) D,fd (by simpa using HS.out.2.1) D,fd (by simpa using HS.out.2.2) D⟩
        have hwd:io w8 (w.heap.size+1) () () (.slice b4 h.roots.length W) (.slice b6 h.aA.length Q) (.slice b8 h.done.length m8) ()=((((((w8.setCell (w.heap.size+1:Nat) ()).setCell (w.heap.size+1,1) ()).setCell (w.heap.size+1,2)<|.slice b4 h.roots.length W).setCell (w.heap.size+1,3)<|.slice b6 h.aA.length Q).setCell (w.heap.size+1,4)<|.slice b8 h.done.length m8).setCell (w.heap.size+1,5) ()):=rfl;rw[hwd]at HL;clear hwd D q1 q2 q3 q4 HS H d0 N d2 d3 d4 d5 f0 f1 f2 f3 f4 f5;generalize ((((((w8.setCell (w.heap.size+1:Nat) ()).setCell (w.heap.size+1,1) ()).setCell (w.heap.size+1,2)<|.slice b4 h.roots.length W).setCell (w.heap.size+1,3)<|.slice b6 h.aA.length Q).setCell (w.heap.size+1,4)<|.slice b8 h.done.length m8).setCell (w.heap.size+1,5) ())=w9 at HL⊢;have c0:=(dx HL.out.heap).1.1
        go_wp2_with fail
        clear c0;generalize hLW:(h.aA.map λn=>((1,n):HV)).map (hQ F)=LW at HL;generalize hLD:(h.done.map λn=>((1,n):HV)).map (hQ F)=LD at HL;have HLW:=I<|Γ hLW hLD;clear hLW hLD
        go_loopw [88] (λi wr=>∃(k:Nat) (so:Value),k<=h.cells.length/\i=Ξ Ψ k/\Zf (OfR w wr m (.slice ac h.cells.length mc) (.slice ar h.roots.length mr) (.slice aw h.aA.length mw) (.slice ad h.done.length md) so (.slice b4 h.roots.length W) (.slice b6 h.aA.length Q) (.slice b8 h.done.length m8) F (((h.cells.take k).filter isLive).map λc=>(c.1,c.2.map<|hQ F)) (h.roots.map<|hQ F) LW LD)) (λi _=>h.cells.length-(intOf i).toNat)
        case atStart=>exact⟨0,(),Nat.zero_le _,rfl,by simpa using HL⟩
        case round=>
         clear HL;obtain⟨k,so,hk,rfl,HR⟩:=hrel;by_cases E:k<h.cells.length
         ·have⟨_,_,_,_,L,h0,_⟩:=HQ.out.below HR.out.below;cases L
          have⟨_,_,L,_,_,G⟩:=h0;cases L
          obtain⟨bb,o,rfl,hbb,G⟩:=G (by omega);have⟨p,vs,e1⟩:=cQ E;have⟨f0,x,f1,hxv⟩:=G k p vs e1;obtain⟨ax,mx,rfl,_⟩:=id hxv;have hvl:=hs _<|ω e1;dsimp only at hvl;have X:=af wr<|Δ #[Ξ Ψ p,.slice ax vs.length mx] 76;have t:=I<|HR.out.to X;have acC:=hxv.below X;have n0:(wr.alloc<|Δ #[Ξ Ψ p,.slice ax vs.length mx] 76).heap[wr.heap.size]?=U (Δ #[Ξ Ψ p,.slice ax vs.length mx] 76 (0,0)):=ψ wr _;have htk:(h.cells.take<|k+1).filter isLive=(h.cells.take k).filter isLive++if p=3 then []else [(p,vs)]:=by
           rw[bW e1,Zd]
           congr 1
           by_cases hp:p=3<;>simp[isLive,hp]
          have HTK:=I htk;clear G e1 hxv HR X htk;by_cases hp:p=3
          ·subst hp
           go_wp2_with fail
           exact⟨⟨k+1,so,by omega,by go_num,by rw[HTK.out];simpa using t⟩,by simp[intOf];omega⟩
          ·go_upto_region 32 with(fail)
           generalize wr.alloc _=u1 at t acC n0⊢;generalize wr.heap.size=bc at n0⊢;have hbc:bc<u1:=(Ω.1 n0).1;have⟨n1,n2,_,_⟩:=fl n0;have⟨l,hl,L⟩:=t.out.rows;have hll:l.length<=1000:=by have:=ZT isLive<|h.cells.take k;rw[L.1];simp at this⊢;omega
           obtain⟨an,mn,rfl,_⟩:=aF hl;have c1:=(sS t.out.out).2.1;have hol:w.heap.size+1<u1:=(Ω.1 t.out.out).1;have hS:w.heap.size+3<=u1.heap.size:=by have:=t.out.low;have:=t.out.Fc.lt;omega
           have HLE:=I<|Γ hl L;have hd:=t.out.Fc;have cb:=d7 t.out.box;have T:m+1<u1:=(Ω.1 t.out.box).1;clear hl L n0;obtain⟨S,hvs⟩:∃x,Zf (x=vs.map (hQ F)):=⟨_,I rfl⟩;refine Rg.kl [.eq (.pointer (w.heap.size+1,1)),.eq<|.slice an l.length mn,.eq<|.pointer bc,.eq p,.eq<|.func (.func 131) #[] #[.pointer (m+1:Nat)],.eq<|.pointer (bc,1),.eq<|.slice ax vs.length mx,SP.ov u1<|S,SP.cell u1 p<|S,SP.adG u1 p<|S] (by kernel_rfl) (by kernel_rfl) (by rfl) ?_ ?_
           ·refine⟨?_,?_,?_,?_,?_,?_,?_,?_,?_,?_,trivial⟩
            all_goals intro x2 w2 C q b
            all_goals have u:=(υ _ u1).drew.trans C
            all_goals first|(have g1:=cG u c1 hol;have g2:=cG u n1 hbc;have g3:=cG u n2 hbc;have k0:=q 2 rfl;have k1:=q 13 rfl;have k2:=q 15 rfl;simp at k0 k1 k2;(try have q0:=Rg.ir (b 0 _ rfl rfl) rfl);(try have q1:=Rg.ir (b 2 _ rfl rfl) rfl);(try have q2:=Rg.ir (b 5 _ rfl rfl) rfl);clear q b;go_simp;exact⟨_,rfl,.refl _ _,rfl⟩)|skip
            ·have d0:=Rg.ir (b 4 _ rfl rfl) rfl;have N:=Rg.ir (b 6 _ rfl rfl) rfl;clear q b;go_simp;refine(Ke _ _ vs (m+1) m F (acC.below u) (cG u cb T) (hd.below u)<|by omega).mono ?_;rintro e B ⟨⟨r,rfl,P⟩,s⟩;rw[<-hvs.out]at P;exact⟨_,rfl,s,OV.less P u.size⟩
            ·have d0:=Rg.ir (b 3 _ rfl rfl) rfl;have N:OV w2 u1 ((x2.tmps[102]?).getD undef) (S):=b 7 _ rfl rfl;have⟨ay,my,d2,_⟩:=aF N;rw[d2]at N;clear q b;go_simp;exact⟨_,rfl,.refl _ _,_,rfl,N⟩
            ·obtain⟨y,d0,N⟩:∃y,(x2.tmps[103]?).getD undef=.agg #[Ξ Ψ p,y]/\OV w2 u1 y (S):=b 8 _ rfl rfl;clear q b;obtain⟨ay,my,rfl,_⟩:=aF N;go_simp;exact⟨_,rfl,af _ _,_,_,rfl,ψ _ _,N.alloc _⟩
           ·rintro vs0 B s ⟨s0,s1,s2,s3,s4,s5,s6,s7,s8,⟨g,y,s9,hg,hy⟩,_⟩;obtain⟨ay,my,rfl,_⟩:=aF hy;have s1:vs0 1=.slice an l.length mn:=s1;have s9:vs0 9=_:=s9;simp[go_sem,s1,s9];clear s0 s1 s2 s3 s4 s5 s6 s7 s8 s9 c1 n1 n2 hd cb;have u:=(υ u1 u1).drew.trans s;have⟨h1,h2,_,_⟩:=fl hg;have HR3:=I<|t.out.to u;have hl3:=HLE.out.1.below u;have he3:=HLE.out.2.keep<|kE.below u;have hz3:=u.size
            go_wp2_with (at_builtin;refine wh rfl _ _ rfl (w.heap.size+3) _ _ rfl hl3 g _ (p,.slice ay S.length my) rfl rfl ⟨h1,h2⟩ (by omega) (by omega) ?_;intro v' w6 hown6 ahL Qn;obtain⟨a6,Q,rfl,_⟩:=aF hown6;have t1:=(Qn.block (w.heap.size+1) (by omega) λe=>cF hl3 HR3.out.out (by decide) e.symm).trans HR3.out.out;have t2:=(sS t1).2.1;have t3:=cD (i:=1) t1)
            have r1:=HR3.out.app hl3 he3 Qn hown6<|hy.less hS;exact⟨⟨k+1,_,by omega,by go_num,I (by rw[HTK.out,if_neg hp,Z8,Zs,<-hvs.out];simpa using r1)⟩,by simp[intOf];omega⟩
         ·have O:k=h.cells.length:=by omega
          subst O;rw[ZO]at HR;have hF:=HF.out;subst hF;have⟨hL1,hL2⟩:=HLW.out;subst hL1;subst hL2;have⟨l,hl,L⟩:=HR.out.rows;obtain⟨an,mn,rfl,_⟩:=aF hl;have⟨c0,c1,c2,c3,c4,c5⟩:=sS HR.out.out;have f0:=cD (i:=0) HR.out.out;have f1:=cD (i:=1) HR.out.out;have f2:=cD (i:=2) HR.out.out;have f3:=cD (i:=3) HR.out.out;have f4:=cD (i:=4) HR.out.out;have f5:=cD (i:=5) HR.out.out;have ce:=d7 HR.out.code;have fe:=cD (i:=0) HR.out.code;have HU:=I<|Γ hl L;clear hl L
          go_wp2_with fail
          clear c0 c1 c2 c3 c4 c5 f0 f1 f2 f3 f4 f5 ce fe;have hlo:=HR.out.low;have⟨k1,k2,k3,k4⟩:=kn (v0:=()) (v1:=.slice an l.length mn) (v2:=.slice b4 h.roots.length W) (v3:=.slice b6 h.aA.length Q) (v4:=.slice b8 h.done.length m8) (v5:=()) HR.out.out;rw[show((((((wr.setCell (w.heap.size+1:Nat) ()).setCell (w.heap.size+1,1)<|.slice an l.length mn).setCell (w.heap.size+1,2)<|.slice b4 h.roots.length W).setCell (w.heap.size+1,3)<|.slice b6 h.aA.length Q).setCell (w.heap.size+1,4)<|.slice b8 h.done.length m8).setCell (w.heap.size+1,5) ())=io wr (w.heap.size+1) () (.slice an l.length mn) (.slice b4 h.roots.length W) (.slice b6 h.aA.length Q) (.slice b8 h.done.length m8) ()from rfl];have e5:=(k2 (w.heap.size+1+1)<|by omega).trans HR.out.code;have Oz:=HR.out.below.trans<|k4 w.heap.size<|by omega
          generalize io wr (w.heap.size+1) () (.slice an l.length mn) (.slice b4 h.roots.length W) (.slice b6 h.aA.length Q) (.slice b8 h.done.length m8) ()=a at k1 k2 k3 e5 Oz⊢;have⟨t1,t2,t3⟩:=jF e5;have m1:=(t2 _).trans k1;refine Zn (f:=129) (args:=#[.pointer (w.heap.size+1+1:Nat)]) (by simp) (by simp[go_sem]) ?_;refine(aeM (w.heap.size+1+1:Nat) (Ξ Ψ 0) _ (d7 t1)<|cD t1).mono ?_;rintro e u' w'' ⟨rfl,rfl,w9,BP,rfl⟩;have⟨q1,q2⟩:=fz t1 BP;have n1':=(q2.block _ (Ω.1 m1).1).trans m1;have D:kE (w.heap.size+3) wr (w9.setCell (w.heap.size+1+1:Nat)<|Ξ Ψ 0):=λj hj hl=>(q2.block j (by have:=t3.size;omega)).trans<|(t2 j).trans<|k2 j<|by omega
          have Dv:=(Oz.trans<|t3.mono Oz.size).trans<|q2.mono<|Nat.le_trans Oz.size t3.size;have hfin:Ot (w9.setCell (w.heap.size+1+1:Nat)<|Ξ Ψ 0) w (.agg #[(),.slice an l.length mn,.slice b4 h.roots.length W,.slice b6 h.aA.length Q,.slice b8 h.done.length m8,()]) (OZ h):=by rw[<-of_eq HK.out];exact⟨_,_,_,_,_,_,rfl,OX.nil _ _,(OX.keep ⟨l,HU.out.1,HU.out.2⟩ D).less<|by omega,eV (fd HR.out.r1 D)<|by omega,eV (fd HR.out.r2 D)<|by omega,eV (fd HR.out.r3 D)<|by omega,OI.nil _ _⟩
          generalize w9.setCell (w.heap.size+1+1:Nat) (Ξ Ψ 0)=w10 at *;have⟨r0,r1,r2,r3,r4,r5⟩:=sS n1';simp[YK,YJ,ZH,results69,go_sem,r0,r1,r2,r3,r4,r5,d7 q1];exact⟨hfin,Dv⟩
section
section
variable{g:GH}(h:VG g)
include h
def RW{n:Nat}{c}(hc:(plain g).cells[n]?=U c):c.1≠3:=by
 obtain⟨d,hd,rfl⟩:=ο.1<|ω hc;have a:d∈g.new++g.old:=by simp at hd⊢;exact hd.symm
 have:=(h.cells d a).1;show d.1≠3;omega
def Kz{v}(d:zH g v):Ik (plain g) (cp g.old.length v).2=0:=by
 have f:=Pk g;have b:0<=(cp g.old.length v).2/\(cp g.old.length v).2<((plain g).cells.length:Int):=by
  unfold cp;obtain⟨c,e,h3⟩|⟨c,e,h3⟩:=d
  rw[if_pos c];dsimp only;omega
  grind
 generalize (cp g.old.length v).2=n at b;obtain⟨k,rfl⟩:=Z9 b.1;have a:k<(plain g).cells.length:=by omega
 unfold Ik;rw[if_neg (by omega),if_neg<|by simpa[ξ,a]using (RW h<|χ a)]
def PA{v}(a:G6 g v):uI (plain g) (cp g.old.length v)=0:=by
 obtain a|a:=a
 have e:cp g.old.length v=v:=by unfold cp;rw[if_neg (by obtain h|h:=a<;>omega),if_neg (by obtain h|h:=a<;>omega)]
 rw[e];unfold uI;obtain⟨b,c,h3⟩|⟨b,c⟩:=a
 rw[if_pos b,if_neg<|by omega];omega;have e1:(cp g.old.length v).1=1:=by unfold cp;obtain a|a:=a<;>simp[a.1]
 unfold uI;rw[if_neg (by omega),if_pos e1];exact Kz h a
omit h in
def M'{l:List HV}(d:∀v∈l,zH g v)(h:l.Nodup):((l.map<|cp g.old.length).map (·.2)).Nodup:=by rw[ZC,List.Nodup,List.pairwise_map];exact h.imp_of_mem λ{a b} f hb c e=>c<|Rw (d a f) (d b hb) e
def XG(f:g.old.length+g.new.length<=40):Ny (plain g) where
 kinds:=λc hc=>by obtain⟨d,hd,rfl⟩:=ο.1 hc;have:=(h.cells d (by simp at hd⊢;exact hd.symm)).1;simp[Bz];omega
 eT:=λc hc v a=>by obtain⟨d,hd,rfl⟩:=ο.1 hc;obtain⟨u,b,rfl⟩:=ο.1 a;exact PA h<|(h.cells d (by simp at hd⊢;exact hd.symm)).2 u b
 many:=by rw[Pk];exact f
 four:=by simpa[plain]using h.four
 roots:=λv a=>by obtain⟨u,b,rfl⟩:=ο.1 a;exact PA h<|h.roots u b
 aA:=λn e=>by obtain⟨v,a,rfl⟩:=ο.1 e;obtain⟨u,b,rfl⟩:=ο.1 a;exact Kz h<|h.aA.cells u b
 yZ:=M' h.aA.cells h.aA.nodup
 vY:=by have:=h.aA.wW;simpa[plain]using this
 done:=λn e=>by obtain⟨v,a,rfl⟩:=ο.1 e;obtain⟨u,b,rfl⟩:=ο.1 a;exact Kz h<|h.done.cells u b
 G5:=M' h.done.cells h.done.nodup
 oX:=by have:=h.done.wW;simpa[plain]using this
end
end
section
section
variable{g:GH}(h:VG g)
include h
omit h in
omit h in
def VG.small:Small g:=by
 have e:=h.news;have d:=h.bw;have a:∀v,G6 g v->Sm v.2:=λv a=>by unfold Sm;obtain(a|a)|(a|a):=a<;>omega
 exact⟨λc hc=>by have:=h.cells c<|Zv.2 (Zv.1 hc).symm;exact⟨by have:=this.1;omega,λv b=>a v (this.2 v b)⟩,⟨by have:=h.four;omega,λv b=>a v (h.roots v b)⟩,⟨by have:=h.aA.wW;omega,λv b=>a v (.inr (h.aA.cells v b))⟩,⟨by have:=h.done.wW;omega,λv b=>a v (.inr (h.done.cells v b))⟩,by omega,by omega⟩
end
end
section
variable{g:GH}
def OO{v}(h:zH g v):eO g v=0:=by
 unfold eO;obtain⟨a,b,h3⟩|⟨a,b,h3⟩:=h
 omega;omega
def Rn{v}(h:G6 g v):mh g v=0:=by
 unfold mh;obtain(⟨a,h2,h3⟩|⟨a,h2⟩)|h:=h
 omega;omega;have b:=OO h;obtain⟨a,_⟩|⟨a,_⟩:=h
 omega;omega
def Na{l}(h:∀e∈l,e=0):cU l=0:=by have:=jZ (r:=[]) h;rwa[Yw]at this
def XH{c}(h:aaN g c):zj g c=0:=by
 obtain⟨i,b⟩:=h;unfold zj;have f:¬c.2.length<(if c.1=0 then 0 else if c.1=1 then 1 else 2):=by grind
 have h3:¬(if c.1=0 then 4 else if c.1=1 then 1 else 2)<c.2.length:=by
  split
  omega;split<;>omega
 rw[if_neg (by omega),if_neg f,if_neg h3];refine Na λe d=>?_;obtain⟨v,a,rfl⟩:=ο.1 d;exact Rn<|b v a
def PB{l}(h:Qq g l):BF g l:=by
 refine⟨h.wW,λi v e=>⟨(h.cells v<|ω e).cell,OO<|h.cells v<|ω e,?_⟩⟩;obtain⟨hi,rfl⟩:=Θ.1 e;rw[Bool.eq_false_iff];intro hc;obtain⟨j,b⟩:=η.1<|ZF.1 hc;rw[Ze]at b;split at b
 rename_i c;obtain⟨a,e2⟩:=Θ.1 b;exact absurd e2<|ZU.1 h.nodup j i a hi c
 grind
def VG.look(h:VG g):eC g:=⟨λc hc=>XH<|h.cells c hc,h.news,h.bw,h.four,λv a=>Rn<|h.roots v a,PB h.aA,PB h.done⟩
theorem VG.cN{g:GH}(h:VG g):cN g=0:=by
 unfold Kn.cN;refine Na λe a=>?_;obtain a|a:=Zv.1 a
 obtain⟨i,hi,rfl⟩:=ο.1 a;have hi:=Yt.1 hi;unfold jt;have d:=h.marks _<|Y6 hi;dsimp only;rw[(by simp[ξ,χ hi]:g.marked.getD i 0=g.marked[i]),if_neg<|by omega,if_neg];split
 omega;have:=ZU.1 h.order (i-1) i (by omega) hi (by omega);rw[(by simp[ξ,χ (by omega:i-1<g.marked.length)]:g.marked.getD (i-1) 0=g.marked[i-1])];omega;obtain⟨n,b,rfl⟩:=ο.1 a;unfold ju at b;obtain⟨i,hi,rfl⟩:=ο.1 b;obtain⟨hi,c⟩:=ε.1 hi;have:=h.ju i _ (by simp[ξ,χ<|Yt.1 hi]) c;rw[if_pos (ZF.2 this)]
end
end Kn
namespace Kn
end Kn
namespace Kn
open Go Go.RowKit Md
def JK(w v g)(hv:GV w v g)(T:eC g)(hm:g.marked.length<=1000000)(hz:cN g=0)(hs:Small g):
 ι prog 53 #[v] w λe w'=>(∃r,e=.returned (.tuple #[r,Ξ Ψ 0])/\tH w' r (plain g))/\Y w w w':=by
 have hmf:∀(fn:Fn) (first cap:Array Value) (w:θ),(ZA fn first cap).run prog w=.ok (.func fn first cap) w:=λ_ _ _ _=>rfl;have HV:=I hv;have HK:=I T;have HS:=I hs;obtain⟨n,o,r,wi,d,m,rfl,h1,h2,h3,h4,h5,h6⟩:=hv;clear T hs h1 h2 h3 h4 h5 h6
 go_enter_defers (fU func53 rfl),ntmps53
 go_wp2_with fail
 obtain⟨c,z,s,hz3⟩:=al3 w (Δ #[n,o,r,wi,d,m] 26) (Δ #[ZP Z 0 0,ZP Z 0 0,ZP Z 0 0,ZP Z 0 0] 56)<|Δ #[Ξ Ψ 0] 34;refine(sw _ _ g (HV.out.below s) HK.out hz hm).mono ?_;rintro e w2 ⟨⟨b,rfl,H⟩,q⟩;have A:=s.trans<|q.mono s.size;have P:=I H;have hs2:=q.size;have HY:=I<|Γ ((q.block (w.heap.size+1)<|by omega).trans c)<|(q.block (w.heap.size+1+1)<|by omega).trans z;clear q s H c z
 go_wp2_with fail
 refine(DB _ b g P.out.reads HS.out).mono ?_;rintro e j ⟨⟨r3,rfl,C⟩,a⟩;have HR:=I C;have c:=(a.block (w.heap.size+1)<|by omega).trans HY.out.1;have z:=(a.block (w.heap.size+1+1)<|by omega).trans HY.out.2;have W:=I<|A.trans<|a.mono A.size;obtain⟨E,mc,ar,G,aw,F,ad,D,rfl⟩:=C.form;clear A a C;have B:=I<|Γ c z;have d0:j (w.heap.size+1:Nat)=U (ZP Z 0 0):=by simp[φ,c]
 have d1:j (w.heap.size+1,1)=U (ZP Z 0 0):=by simp[φ,c]
 have d2:j (w.heap.size+1,2)=U (ZP Z 0 0):=by simp[φ,c]
 have d3:j (w.heap.size+1,3)=U (ZP Z 0 0):=by simp[φ,c]
 have de:=d7 z;have f0:=cD (i:=0) c;have f1:=cD (i:=1) c;have f2:=cD (i:=2) c;have f3:=cD (i:=3) c;have fe:=cD (i:=0) z;clear c z
 go_wp2_with fail
 have p1:=aB (aB (aB (aB B.out.1 0<|.slice E (plain g).cells.length mc) 1<|.slice ar (plain g).roots.length G) 2<|.slice aw (plain g).aA.length F) 3<|.slice ad (plain g).done.length D;have N:∀k,k≠w.heap.size+1->((((j.setCell (w.heap.size+1:Nat)<|.slice E (plain g).cells.length mc).setCell (w.heap.size+1,1)<|.slice ar (plain g).roots.length G).setCell (w.heap.size+1,2)<|.slice aw (plain g).aA.length F).setCell (w.heap.size+1,3)<|.slice ad (plain g).done.length D).heap[k]?=j.heap[k]?:=λk h=>by rw[aq h,aq h,aq h,aq h]
 have Q:Y w j ((((j.setCell (w.heap.size+1:Nat)<|.slice E (plain g).cells.length mc).setCell (w.heap.size+1,1)<|.slice ar (plain g).roots.length G).setCell (w.heap.size+1,2)<|.slice aw (plain g).aA.length F).setCell (w.heap.size+1,3)<|.slice ad (plain g).done.length D):=((((υ _ _).setCell (p:=⟨w.heap.size+1,0,Z⟩) (by simp) _).setCell (p:=⟨w.heap.size+1,1,Z⟩) (by simp) _).setCell (p:=⟨w.heap.size+1,2,Z⟩) (by simp) _).setCell (p:=⟨w.heap.size+1,3,Z⟩) (by simp) _;have S:((((j.setCell (w.heap.size+1:Nat)<|.slice E (plain g).cells.length mc).setCell (w.heap.size+1,1)<|.slice ar (plain g).roots.length G).setCell (w.heap.size+1,2)<|.slice aw (plain g).aA.length F).setCell (w.heap.size+1,3)<|.slice ad (plain g).done.length D).heap.size=j:=by simp
 generalize ((((j.setCell (w.heap.size+1:Nat)<|.slice E (plain g).cells.length mc).setCell (w.heap.size+1,1)<|.slice ar (plain g).roots.length G).setCell (w.heap.size+1,2)<|.slice aw (plain g).aA.length F).setCell (w.heap.size+1,3)<|.slice ad (plain g).done.length D)=w4 at p1 N Q S⊢;have K:JI j w4 (w.heap.size+1):=⟨λo k e=>by
  simp only[φ,B.out.1]at e
  match o,e with
  |0,e=>cases e
  |1,e=>cases e
  |2,e=>cases e
  |3,e=>cases e
  |n+4,e=>simp at e,N,Nat.le_of_eq S.symm⟩
 obtain⟨q1,q2,X⟩:=jF<|(N (w.heap.size+1+1)<|by omega).trans B.out.2;have x:=(HR.out.off K).below X;have y:=(W.out.trans Q).trans<|X.mono (by have:=W.out.size;omega);have L:=(q2<|w.heap.size+1).trans p1;generalize w4.setCell (w.heap.size+1+1:Nat) (Ξ Ψ 0)=w5 at q1 x y L⊢;refine Zn (f:=118) (args:=#[.pointer (w.heap.size+1+1:Nat)]) (by simp) (by simp[go_sem]) ?_;refine(OP (w.heap.size+1+1:Nat) (Ξ Ψ 0) _ (d7 q1)<|cD q1).mono ?_;rintro e u' w'' ⟨rfl,rfl,w9,O,rfl⟩;obtain⟨r1,r2⟩:=fz q1 O;have J:=(r2.block _ (Ω.1 L).1).trans L;have l:=x.below r2;have u:=y.trans<|r2.mono y.size;generalize w9.setCell (w.heap.size+1+1:Nat) (Ξ Ψ 0)=t at r1 J l u⊢;have r4:=d7 r1;have z0:t (w.heap.size+1:Nat)=U (.slice E (plain g).cells.length mc):=by simp[φ,J]
 have z1:t (w.heap.size+1,1)=U (.slice ar (plain g).roots.length G):=by simp[φ,J]
 have z2:t (w.heap.size+1,2)=U (.slice aw (plain g).aA.length F):=by simp[φ,J]
 have z3:t (w.heap.size+1,3)=U (.slice ad (plain g).done.length D):=by simp[φ,J]
 simp[YK,YJ,ZH,results53,go_sem,z0,z1,z2,z3,r4];exact⟨l,u⟩
section
variable(w:θ)
def OS(v h)(A:tH w v h)(H:h.cells.length<=45)(C:h.roots.length<=45)(h3:h.aA.length<=45)(h4:h.done.length<=45)(h5:∀c∈h.cells,c.2.length<=8):
 ι prog 65 #[v] w λe w'=>e=.returned (.bool ζ)/\Y w w w':=by
 obtain⟨c,r,B,d,rfl,p0,⟨ar,j,rfl,_⟩,⟨aw,g,rfl,_⟩,⟨ad,b,rfl,_⟩⟩:=A;have HC:=I p0;obtain⟨f,mc,rfl,_,n,_⟩:=p0;have hb:=af w<|Δ #[.slice f h.cells.length mc,.slice ar h.roots.length j,.slice aw h.aA.length g,.slice ad h.done.length b] 56;have q:=ψ w<|Δ #[.slice f h.cells.length mc,.slice ar h.roots.length j,.slice aw h.aA.length g,.slice ad h.done.length b] 56
 go_enter (fU func65 rfl),ntmps65
 go_upto_region 1 with(fail)
 go_cut [19]from 4 to 19 λv u=>v=.bool ζ/\u=w.alloc (Δ #[.slice f h.cells.length mc,.slice ar h.roots.length j,.slice aw h.aA.length g,.slice ad h.done.length b] 56)
 case first=>
  go_wp2_with fail
  all_goals go_meet
  all_goals exact⟨by first|rfl|(simp;omega),rfl⟩
 case rest=>
  obtain⟨rfl,rfl⟩:=hcut
  go_wp2_with fail
  obtain⟨⟨c0,_⟩,_⟩:=dx q;clear q
  go_loopw [3] (λi wr=>∃k:Nat,k<=h.cells.length/\i=Ξ Ψ k/\wr=w.alloc (Δ #[.slice f h.cells.length mc,.slice ar h.roots.length j,.slice aw h.aA.length g,.slice ad h.done.length b] 56)) (λi _=>h.cells.length-(intOf i).toNat)
  case atStart=>exact⟨0,Nat.zero_le _,rfl,rfl⟩
  case round=>
   obtain⟨k,E,rfl,rfl⟩:=hrel;by_cases l:k<h.cells.length
   ·obtain⟨F,s,z,_,_,a⟩:=HC.out.below hb;cases z
    obtain⟨D,o,rfl,y,a⟩:=a (by omega);obtain⟨p,t,e1⟩:=cQ l;obtain⟨d0,x,G,K,J,rfl,_⟩:=a k p t e1;have m:=h5 _<|ω e1;dsimp only at m;clear a
    go_wp2_with fail
    exact⟨⟨k+1,by omega,by go_num,trivial⟩,by simp[intOf];omega⟩
   ·go_wp2_with fail
    go_ret;exact⟨rfl,hb⟩
def adn(a0 a1 b d a c t):∀w1,w1=w.alloc (Δ #[a0,a1,b,d,a,c] t) ->(w1 w.heap.size=U a0/\w1 (w.heap.size,1)=U a1/\w1 (w.heap.size,2)=U b/\w1 (w.heap.size,3)=U d/\w1 (w.heap.size,4)=U a/\w1 (w.heap.size,5)=U c)/\w1.heap.size=w.heap.size+1/\Y w w w1:=by rintro w1 rfl;exact⟨sS<|ψ w<|Δ #[a0,a1,b,d,a,c] t,by simp,af _ _⟩
def ado(v g)(A:GV w v g)(b:VG g):
 ι prog 17 #[v] w λe w'=>e=.returned (.bool ζ)/\Y w w w':=by
 obtain⟨a0,a1,O,J,L,K,rfl,h0,l,k,h3,h4,h5⟩:=A;have m:∀c∈g.new++g.old,c.2.length<=8:=λc hc=>by have:=(b.cells c hc).1;omega
 have N:=b.Fh;have p:=I h0;have t:=I l;have z:=I k;have r:=I h3;obtain⟨s,u,rfl,_⟩:=h0;obtain⟨o,m1,rfl,_⟩:=l;obtain⟨x,m2,rfl,_⟩:=k;obtain⟨b3,q,rfl,_⟩:=h3;obtain⟨b4,B,rfl,_⟩:=h4;obtain⟨b5,y,rfl,_⟩:=h5;have P:=b.news;have H:=b.bw;have F:=Nat.le_of_eq b.four;have G:=b.aA.wW;have D:=b.done.wW
 go_enter (fU func17 rfl),ntmps17
 go_wp2_with fail
 obtain⟨⟨c0,c1,c2,c3,f,n⟩,hs,hb⟩:=adn w (.slice s g.new.length u) (.slice o g.old.length m1) (.slice x g.roots.length m2) (.slice b3 g.aA.length q) (.slice b4 g.done.length B) (.slice b5 g.marked.length y) 26 _ rfl;generalize w.alloc _=i at c0 c1 c2 c3 f n hs hb⊢;refine(OS _ _ ⟨g.new,g.aA,[],[]⟩ ⟨_,_,_,_,rfl,p.out.below hb,r.out.below hb,qP<|by omega,qP<|by omega⟩ (by show g.new.length<=45;omega) (by show g.aA.length<=45;omega) (Nat.zero_le _) (Nat.zero_le _) λc hc=>m c<|YO _ hc).mono ?_;rintro e C ⟨rfl,a⟩;have h:=hb.trans<|a.mono hb.size;have c1:=cG a c1 (by omega:w.heap.size<i.heap.size);have c2:=cG a c2 (by omega:w.heap.size<i.heap.size);have f:=cG a f (by omega:w.heap.size<i.heap.size);clear c0 c3 n
 go_wp2_with fail
 refine(OS _ _ ⟨g.old,g.roots,[],[]⟩ ⟨_,_,_,_,rfl,t.out.below h,z.out.below h,qP<|by omega,qP<|by omega⟩ (by show g.old.length<=45;omega) (by show g.roots.length<=45;omega) (Nat.zero_le _) (Nat.zero_le _) λc hc=>m c<|Zi _ hc).mono ?_;rintro e E ⟨rfl,d⟩;have j:=h.trans<|d.mono h.size;have f:=cG d f (show w.heap.size<C.heap.size by have:=a.size;omega)
 go_wp2_with fail
 go_ret;exact⟨by simp;omega,j⟩
end
section
variable(w:θ)(v u:Value)(g:GH)
def afn(n lo hi)(a:lo<=n)(b:n<=hi):ι prog 115 #[Ξ Ψ n,Ξ Ψ lo,Ξ Ψ hi] w λe w'=>e=.returned (.bool R)/\w'=w:=by
 go_enter (fU func115 rfl),ntmps115
 go_wp2_with fail
 go_ret;exact⟨rfl,rfl⟩
def OT(x)(f:GV w v g)(m:G6 g x)(t:g.new.length<=1000000)(p:g.old.length<=1000000):
 ι prog 172 #[v,.agg #[Ξ Ψ x.1,Ξ Ψ x.2]] w λe w'=>e=.returned (Ξ Ψ 0)/\Y w w w':=by
 obtain⟨a0,a1,q,r,o,s,rfl,⟨c,d,rfl,_⟩,⟨b,m1,rfl,_⟩,⟨j,m2,rfl,_⟩,⟨b3,h,rfl,_⟩,⟨b4,i,rfl,_⟩,⟨b5,l,rfl,_⟩⟩:=f;obtain⟨k,n⟩:=x;have hb:Y w w ((w.alloc<|Δ #[.slice c g.new.length d,.slice b g.old.length m1,.slice j g.roots.length m2,.slice b3 g.aA.length h,.slice b4 g.done.length i,.slice b5 g.marked.length l] 26).alloc<|Δ #[Ξ Ψ k,Ξ Ψ n] 50):=(af w _).alloc (by simp) _;obtain(⟨h1,h2,h3⟩|⟨h1,h2⟩)|⟨h1,h2,h3⟩|⟨h1,h2,h3⟩:=m<;>dsimp only at h1 h2<;>subst h1
 ·dsimp only at h3
  go_enter (fU func172 rfl),ntmps172
  go_wp2_with fail
  refine(afn _ n (-99) 99 h2 h3).mono ?_;rintro e a ⟨rfl,rfl⟩
  go_wp2_with fail
  go_ret;exact⟨rfl,hb⟩
 ·subst h2
  go_enter (fU func172 rfl),ntmps172
  go_wp2_with fail
  go_ret;exact⟨rfl,hb⟩
 ·dsimp only at h3
  go_enter (fU func172 rfl),ntmps172
  go_wp2_with fail
  refine(afn _ n 0 (g.new.length-1) h2<|by omega).mono ?_;rintro e a ⟨rfl,rfl⟩
  go_wp2_with fail
  go_ret;exact⟨rfl,hb⟩
 ·dsimp only at h3
  go_enter (fU func172 rfl),ntmps172
  go_wp2_with fail
  refine(afn _ n 0 (g.old.length-1) h2<|by omega).mono ?_;rintro e a ⟨rfl,rfl⟩
  go_wp2_with fail
  go_ret;exact⟨rfl,hb⟩
def Nv(l)(H:GV w v g)(t:eI w u l)(O:∀x∈l,G6 g x)(P:g.new.length<=1000000)(L:g.old.length<=1000000)(hl:l.length<=1000000):
 ι prog 113 #[v,u] w λe w'=>e=.returned (Ξ Ψ 0)/\Y w w w':=by
 have HV:=I H;have N:=I t;obtain⟨a0,a1,G,D,F,E,rfl,_⟩:=H;obtain⟨b,m,rfl,hm,J,_⟩:=t
 go_enter (fU func113 rfl),ntmps113
 go_wp2_with fail
 obtain⟨⟨c0,c1,c2,c3,s,r⟩,hs,hb⟩:=adn w a0 a1 G D F E 26 _ rfl;generalize w.alloc _=n at c0 c1 c2 c3 s r hs hb⊢
 go_loopw [5] (λi wr=>∃k:Nat,k<=l.length/\i=Ξ Ψ k/\Y n n wr) (λi _=>l.length-(intOf i).toNat)
 case atStart=>exact⟨0,Nat.zero_le _,rfl,.refl _ _⟩
 case round=>
  obtain⟨k,hk,rfl,f⟩:=hrel;have y:=hb.trans<|f.mono hb.size;by_cases z:k<l.length
  ·obtain⟨W,m',Q,_,_,j⟩:=N.out.below y;cases Q
   obtain⟨B,o,rfl,K,j⟩:=j (by omega);obtain⟨p,q,e1⟩:=ep z;obtain⟨d0,C⟩:=j k p q e1;clear j
   go_wp2_with fail
   have c0:=cG f c0 (by omega:w.heap.size<n.heap.size);have c1:=cG f c1 (by omega:w.heap.size<n.heap.size);have c2:=cG f c2 (by omega:w.heap.size<n.heap.size);have c3:=cG f c3 (by omega:w.heap.size<n.heap.size);have s:=cG f s (by omega:w.heap.size<n.heap.size);have r:=cG f r (by omega:w.heap.size<n.heap.size);have hd:=(υ wr wr).drew;refine Rg.aaH 5 0 (λu=>(u w.heap.size=U a0/\u ⟨w.heap.size,1,Z⟩=U a1/\u.cell? ⟨w.heap.size,2,Z⟩=U G/\u.cell? ⟨w.heap.size,3,Z⟩=U D/\u.cell? ⟨w.heap.size,4,Z⟩=U F/\u.cell? ⟨w.heap.size,5,Z⟩=U E)/\u.cell? ⟨B,o+k*2,Z⟩=U (Ξ Ψ p)/\u.cell? ⟨B,o+k*2+1,Z⟩=U (Ξ Ψ q)) (by kernel_rfl) (by kernel_rfl) (λc a d v w h=>by cases d<;>exact h) ⟨⟨c0,c1,c2,c3,s,r⟩,d0,C⟩ ?_;simp only[Nat.reduceAdd,Z1,ZN,Z0,ZM]
   iterate 5
    (refine Rg.fp.step (v:=?_) (by rfl) (λu t=>?_) ?_
     rotate_left
     (obtain⟨⟨t0,t1,t2,S,X,t5⟩,t6,t7⟩:=t
      go_simp
      try rfl))
   refine Rg.fp.nil<|Rg.pA.zero ?_;simp only[Zm,μ,ZY,ZX];clear c0 c1 c2 c3 s r d0 C
   go_wp2_with fail
   refine(OT _ _ g (p,q) (HV.out.below<|y.trans<|hd.mono y.size) (O _<|ω e1) P L).mono ?_;rintro e T ⟨rfl,A⟩
   go_wp2_with fail
   exact⟨⟨k+1,by omega,by go_num,f.trans<|(hd.trans A).mono f.size⟩,by simp[intOf];omega⟩
  ·go_wp2_with fail
   go_ret;exact⟨rfl,y⟩
def PD(n m)(h:n=m):ι prog 112 #[Ξ Ψ n,Ξ Ψ m] w λe w'=>e=.returned (Ξ Ψ 0)/\w'=w:=by
 subst h
 go_enter (fU func112 rfl),ntmps112
 go_wp2_with fail
 go_ret;exact⟨rfl,rfl⟩
def XI(x)(h:zH g x):ι prog 161 #[.agg #[Ξ Ψ x.1,Ξ Ψ x.2]] w λe w'=>e=.returned (.bool R)/\Y w w w':=by
 obtain⟨k,n⟩:=x;obtain⟨h,_⟩|⟨h,_⟩:=h<;>dsimp only at h<;>subst h
 all_goals
  go_enter (fU func161 rfl),ntmps161
  go_wp2_with fail
  go_ret;exact⟨rfl,af _ _⟩
def Kf(cs tG)(J:GV w v g)(y:sa w u cs)(hx:∀c∈cs,aaN g c)(hn:g.new.length<=1000000)(W:g.old.length<=1000000)(hl:cs.length<=tG)(hm:tG<=1000000):
 ι prog 111 #[v,u,Ξ Ψ tG] w λe w'=>e=.returned (Ξ Ψ 0)/\Y w w w':=by
 have HV:=I J;have HU:=I y;obtain⟨a0,a1,H,D,F,E,rfl,_⟩:=J;obtain⟨b,m,rfl,Q,S,_⟩:=y;have G:decide (tG<cs.length)=ζ:=by simp;omega
 go_enter (fU func111 rfl),ntmps111
 go_wp2_with fail
 obtain⟨⟨c0,c1,c2,c3,A,t⟩,hs,hb⟩:=adn w a0 a1 H D F E 26 _ rfl;generalize w.alloc _=l at c0 c1 c2 c3 A t hs hb⊢
 go_loopw [7] (λi wr=>∃k:Nat,k<=cs.length/\i=Ξ Ψ k/\Y l l wr) (λi _=>cs.length-(intOf i).toNat)
 case atStart=>exact⟨0,Nat.zero_le _,rfl,.refl _ _⟩
 case round=>
  obtain⟨k,hk,rfl,f⟩:=hrel;have z:=hb.trans<|f.mono hb.size;by_cases B:k<cs.length
  ·obtain⟨b',m',he,_,_,j⟩:=HU.out.below z;cases he
   obtain⟨K,o,rfl,T,j⟩:=j (by omega);obtain⟨p,q,e1⟩:=cQ B;obtain⟨d0,x,N,r⟩:=j k p q e1;obtain⟨n,s⟩:=hx _<|ω e1;dsimp only at n s;have HX:=I r;obtain⟨X,P,rfl,_⟩:=r;clear j;have c0:=cG f c0 (by omega:w.heap.size<l.heap.size);have c1:=cG f c1 (by omega:w.heap.size<l.heap.size);have c2:=cG f c2 (by omega:w.heap.size<l.heap.size);have c3:=cG f c3 (by omega:w.heap.size<l.heap.size);have A:=cG f A (by omega:w.heap.size<l.heap.size);have t:=cG f t (by omega:w.heap.size<l.heap.size);have hd:=(υ wr wr).drew;have L:q.length<=4:=by omega
   go_upto_block 2 with fail
   go_cut [8]from 15 to 60 λv O=>v=Ξ Ψ q.length/\O=wr
   case first=>
    obtain⟨rfl,h0⟩|⟨rfl,h0⟩|⟨rfl,h0⟩:=n
    all_goals
     go_wp2_with fail
     all_goals go_meet
     all_goals exact⟨by first|rfl|(rw[h0];rfl)|simp_all,rfl⟩
   case rest=>
    obtain⟨rfl,rfl⟩:=hcut;clear n
    go_wp2_with fail
    refine(PD _ _ _ rfl).mono ?_;rintro e w2 ⟨rfl,rfl⟩
    go_wp2_with fail
    refine Rg.aaH 6 0 (λu=>(u w.heap.size=U a0/\u ⟨w.heap.size,1,Z⟩=U a1/\u.cell? ⟨w.heap.size,2,Z⟩=U H/\u.cell? ⟨w.heap.size,3,Z⟩=U D/\u.cell? ⟨w.heap.size,4,Z⟩=U F/\u.cell? ⟨w.heap.size,5,Z⟩=U E)/\u.cell? ⟨K,o+k*2+1,Z⟩=U (.slice X q.length P)) (by kernel_rfl) (by kernel_rfl) (λc a d v w h=>by cases d<;>exact h) ⟨⟨c0,c1,c2,c3,A,t⟩,N⟩ ?_;simp only[Nat.reduceAdd,Z1,ZN,Z0,ZM]
    iterate 6
     (refine Rg.fp.step (v:=?_) (by rfl) (λu y=>?_) ?_
      rotate_left
      (obtain⟨⟨t0,t1,t2,t3,t4,t5⟩,t6⟩:=y
       go_simp
       try rfl))
    refine Rg.fp.nil<|Rg.pA.zero ?_;simp only[Zm,μ,ZY,ZX]
    go_wp2_with fail
    refine(Nv _ _ _ g q (HV.out.below<|z.trans<|hd.mono z.size) (HX.out.below hd) s hn W<|by omega).mono ?_;rintro e w3 ⟨rfl,C⟩
    go_wp2_with fail
    go_roundw
    case rel=>exact⟨k+1,by omega,by go_num,f.trans<|(hd.trans C).mono f.size⟩
    case measure=>simp[intOf];omega
  ·go_wp2_with fail
   go_ret;exact⟨rfl,z⟩
def Nw(l)(hv:GV w v g)(F:eI w u l)(S:Qq g l)(hn:g.new.length<=1000000)(ho:g.old.length<=1000000):
 ι prog 114 #[v,u] w λe w'=>e=.returned (Ξ Ψ 0)/\Y w w w':=by
 have HV:=I hv;have HU:=I F;have hl:=S.wW;obtain⟨a0,a1,a2,a3,a4,a5,rfl,_⟩:=hv;obtain⟨b,m,rfl,hm,hm2,_⟩:=F;have hdec:decide (40<l.length)=ζ:=by simp;omega
 go_enter (fU func114 rfl),ntmps114
 go_wp2_with fail
 obtain⟨⟨c0,c1,c2,c3,y,x⟩,hs,hb⟩:=adn w a0 a1 a2 a3 a4 a5 26 _ rfl;generalize w.alloc _=t at c0 c1 c2 c3 y x hs hb⊢
 go_loopw [5] (λi wr=>∃k:Nat,k<=l.length/\i=Ξ Ψ k/\Y t t wr) (λi _=>l.length-(intOf i).toNat)
 case atStart=>exact⟨0,Nat.zero_le _,rfl,.refl _ _⟩
 case round=>
  obtain⟨k,hk,rfl,f⟩:=hrel;have G:=hb.trans<|f.mono hb.size;by_cases H:k<l.length
  ·obtain⟨b',m',D,_,_,r⟩:=HU.out.below G;cases D
   obtain⟨X,o,rfl,A,r⟩:=r (by omega);obtain⟨p,q,e1⟩:=ep H;obtain⟨d0,z⟩:=r k p q e1;have B:=S.cells _<|ω e1;have c0:=cG f c0 (by omega:w.heap.size<t.heap.size);have c1:=cG f c1 (by omega:w.heap.size<t.heap.size);have c2:=cG f c2 (by omega:w.heap.size<t.heap.size);have c3:=cG f c3 (by omega:w.heap.size<t.heap.size);have y:=cG f y (by omega:w.heap.size<t.heap.size);have x:=cG f x (by omega:w.heap.size<t.heap.size)
   go_wp2_with fail
   refine(XI wr g (p,q) B).mono ?_;rintro e w2 ⟨rfl,n⟩;have s:w.heap.size<wr:=by have:=f.size;omega
   replace c0:=cG n c0 s;replace c1:=cG n c1 s;replace c2:=cG n c2 s;replace c3:=cG n c3 s;replace y:=cG n y s;replace x:=cG n x s;replace d0:=cG n d0 A;replace z:=cG n z A;have hd:=(υ w2 w2).drew;have C:=G.trans<|n.mono G.size
   go_wp2_with fail
   refine Rg.aaH 5 0 (λu=>(u w.heap.size=U a0/\u ⟨w.heap.size,1,Z⟩=U a1/\u.cell? ⟨w.heap.size,2,Z⟩=U a2/\u.cell? ⟨w.heap.size,3,Z⟩=U a3/\u.cell? ⟨w.heap.size,4,Z⟩=U a4/\u.cell? ⟨w.heap.size,5,Z⟩=U a5)/\u.cell? ⟨X,o+k*2,Z⟩=U (Ξ Ψ p)/\u.cell? ⟨X,o+k*2+1,Z⟩=U (Ξ Ψ q)) (by kernel_rfl) (by kernel_rfl) (λc a d v w h=>by cases d<;>exact h) ⟨⟨c0,c1,c2,c3,y,x⟩,d0,z⟩ ?_;simp only[Nat.reduceAdd,Z1,ZN,Z0,ZM]
   iterate 5
    (refine Rg.fp.step (v:=?_) (by rfl) (λu F=>?_) ?_
     rotate_left
     (obtain⟨⟨t0,t1,t2,t3,t4,t5⟩,t6,t7⟩:=F
      go_simp
      try rfl))
   refine Rg.fp.nil<|Rg.pA.zero ?_;simp only[Zm,μ,ZY,ZX];clear c0 c1 c2 c3 y x d0 z
   go_wp2_with fail
   refine(OT _ _ g (p,q) (HV.out.below<|C.trans<|hd.mono C.size) (.inr B) hn ho).mono ?_;rintro e w3 ⟨rfl,T⟩;have E:Y t t w3:=f.trans<|(n.trans<|(hd.trans T).mono n.size).mono f.size;have hB4:=hb.trans<|E.mono hb.size
   go_wp2_with fail
   go_loopw [7] (λi wr=>∃j:Nat,j<=k/\i=Ξ Ψ j/\Y t t wr) (λi _=>k-(intOf i).toNat)
   case atStart=>exact⟨0,Nat.zero_le _,rfl,E⟩
   case round=>
    obtain⟨j,hj,rfl,f⟩:=hrel;by_cases L:j<k
    ·obtain⟨b',m',D,_,_,r⟩:=HU.out.below (hb.trans<|f.mono hb.size);cases D
     obtain⟨bb',o',D,apM,r⟩:=r (by omega);cases D
     obtain⟨p0,K,W⟩:=ep (by omega:j<l.length);obtain⟨d0,z⟩:=r k p q e1;obtain⟨d2,d3⟩:=r j p0 K W;have hne:∀w:θ,(binOp .eql 50 (.agg #[Ξ Ψ p0,Ξ Ψ K])<|.agg #[Ξ Ψ p,Ξ Ψ q]).run prog w=.ok (.bool ζ) w:=λw=>by
      rw[Q3];have P:(p0,K)≠(p,q):=λe=>by have N:=(Θ.1 W);have J:=(Θ.1 e1);obtain⟨N,Q⟩:=N;obtain⟨J,O⟩:=J;have:=(ZU.1 S.nodup) j k N J L;rw[Q,O]at this;exact this e
      congr 2
      rw[Bool.and_eq_false_iff];by_cases hp:p0=p
      exact .inr (by simp;exactλhq=>P<|by rw[hp,hq]);exact .inl (by simpa using hp)
     clear r
     go_wp2_with fail
     go_quiet (fail)
     go_wp2_with fail
     exact⟨⟨j+1,by omega,by go_num,bl f _⟩,by simp[intOf];omega⟩
    ·go_wp2_with fail
     exact⟨⟨k+1,by omega,by go_num,f⟩,by simp[intOf];omega⟩
  ·go_wp2_with fail
   go_ret;exact⟨rfl,G⟩
end
section
variable(w:θ)
def adr(k x vs)(f:eI w x vs)(u:vs.length<=1000000):
 ι prog 116 #[.agg #[Ξ Ψ k,x]] w λe w'=>e=.returned (.bool<|jW (k,vs))/\Y w w w':=by
 have r:=I f;obtain⟨a,m,rfl,s,n,_⟩:=f;have hb:=af w<|Δ #[Ξ Ψ k,.slice a vs.length m] 76
 go_enter (fU func116 rfl),ntmps116
 go_wp2_with fail
 go_loopw [3] (λi wr=>∃j:Nat,j<=vs.length/\i=Ξ Ψ j/\(vs.take j).any dy=ζ/\wr=w.alloc (Δ #[Ξ Ψ k,.slice a vs.length m] 76)) (λi _=>vs.length-(intOf i).toNat)
 case atStart=>exact⟨0,Nat.zero_le _,rfl,rfl,rfl⟩
 case round=>
  obtain⟨j,t,rfl,d,rfl⟩:=hrel;by_cases c:j<vs.length
  ·obtain⟨v,A,h,_,_,b⟩:=r.out.below hb;cases h
   obtain⟨z,o,rfl,g,b⟩:=b (by omega);obtain⟨p,q,e1⟩:=ep c;obtain⟨d0,y⟩:=b j p q e1;clear b;by_cases h3:p=3
   ·subst h3
    go_wp2_with fail
    go_ret;refine⟨?_,hb⟩;have:jW (k,vs)=R:=YE.2 ⟨_,ω e1,rfl⟩;rw[this];rfl
   ·have l:(p==3)=ζ:=by simp[h3]
    go_wp2_with fail
    exact⟨⟨j+1,by omega,by go_num,by rw[bW e1,List.any_append,d];simp[dy,h3],trivial⟩,by simp[intOf];omega⟩
  ·go_wp2_with fail
   go_ret;refine⟨?_,hb⟩;rw[ZI (by omega)]at d;have:jW (k,vs)=ζ:=d;rw[this];rfl
def agz(v l n)(x:By w v l)(h:n∈l)(z:l.length<=1000000):
 ι prog 117 #[v,Ξ Ψ n] w λe w'=>e=.returned (.bool R)/\w'=w:=by
 obtain⟨a,m,rfl,A,s,c⟩:=x;have h0:0<l.length:=YS h;obtain⟨b,o,rfl,hb,c⟩:=c h0;obtain⟨t,d⟩:=η.1 h;have p:=(Θ.1 d).1;have r:=I c;clear c
 go_enter (fU func117 rfl),ntmps117
 go_wp2_with fail
 go_loopw [5] (λi wr=>∃j:Nat,j<=t/\i=Ξ Ψ j/\wr=w) (λi _=>l.length-(intOf i).toNat)
 case atStart=>exact⟨0,Nat.zero_le _,rfl,rfl⟩
 case round=>
  obtain⟨j,B,rfl,rfl⟩:=hrel;obtain⟨y,g⟩:=ot (by omega:j<l.length);have c0:=r.out j y g;by_cases f:y=n
  ·subst f;have q:(y==y)=R:=by simp
   go_wp2_with fail
   all_goals first|(go_ret;exact⟨rfl,rfl⟩)|(exfalso;omega)
  ·have u:(y==n)=ζ:=by simp[f]
   have k:j≠t:=λe=>by subst e;rw[g]at d;exact f<|Option.some.inj d
   go_wp2_with fail
   all_goals first|exact⟨⟨j+1,by omega,by go_num,rfl⟩,by simp[intOf];omega⟩|exact⟨⟨j+1,by omega,by go_num,trivial⟩,by simp[intOf];omega⟩|(exfalso;omega)
def adz(v g)(hv:GV w v g)(q:VG g):
 ι prog 50 #[v] w λe w'=>e=.returned (Ξ Ψ 0)/\Y w w w':=by
 have HV:=I hv;obtain⟨a0,a1,a2,a3,a4,a5,rfl,h0,J,H,h3,h4,h5⟩:=hv;have H0:=I h0;have H1:=I J;have H2:=I H;have H3:=I h3;have H4:=I h4;have H5:=I h5;obtain⟨K,T,rfl,_⟩:=h0;obtain⟨G,m1,rfl,_⟩:=J;obtain⟨b2,m2,rfl,_⟩:=H;obtain⟨b3,X,rfl,_⟩:=h3;obtain⟨b4,O,rfl,_⟩:=h4;obtain⟨b5,B,rfl,_⟩:=h5;have n1:=q.news;have n2:=q.bw;have n3:g.roots.length<=4:=Nat.le_of_eq q.four;have n4:=q.aA.wW;have n5:=q.done.wW;have n6:=q.Fh;have b:=ψ w<|Δ #[.slice K g.new.length T,.slice G g.old.length m1,.slice b2 g.roots.length m2,.slice b3 g.aA.length X,.slice b4 g.done.length O,.slice b5 g.marked.length B] 26;have hb:=af w<|Δ #[.slice K g.new.length T,.slice G g.old.length m1,.slice b2 g.roots.length m2,.slice b3 g.aA.length X,.slice b4 g.done.length O,.slice b5 g.marked.length B] 26;have hs:w.heap.size<(w.alloc<|Δ #[.slice K g.new.length T,.slice G g.old.length m1,.slice b2 g.roots.length m2,.slice b3 g.aA.length X,.slice b4 g.done.length O,.slice b5 g.marked.length B] 26).heap.size:=by simp
 go_enter (fU func50 rfl),ntmps50
 go_wp2_with fail
 generalize w.alloc _=w1 at b hb hs⊢;refine(Kf _ _ _ g g.new 8 (HV.out.below hb) (H0.out.below hb) (λc hc=>q.cells c<|YO _ hc) (by omega) (by omega) n1<|by omega).mono ?_;rintro e w2 ⟨rfl,N⟩;replace b:=(N.block _ hs).trans b;replace hb:=hb.trans<|N.mono hb.size;replace hs:=Nat.lt_of_lt_of_le hs N.size;obtain⟨c0,c1,c2,c3,r,m⟩:=sS b
 go_wp2_with fail
 clear c0 c1 c2 c3 r m;refine(Kf _ _ _ g g.old 32 (HV.out.below hb) (H1.out.below hb) (λc hc=>q.cells c<|Zi _ hc) (by omega) (by omega) n2<|by omega).mono ?_;rintro e w3 ⟨rfl,k3⟩;replace b:=(k3.block _ hs).trans b;replace hb:=hb.trans<|k3.mono hb.size;replace hs:=Nat.lt_of_lt_of_le hs k3.size;obtain⟨c0,c1,c2,c3,r,m⟩:=sS b
 go_wp2_with fail
 refine(PD _ g.roots.length 4 (by have:=q.four;omega)).mono ?_;rintro e w4 ⟨rfl,rfl⟩
 go_wp2_with fail
 clear c0 c1 c2 c3 r m;refine(Nv _ _ _ g g.roots (HV.out.below hb) (H2.out.below hb) q.roots (by omega) (by omega)<|by omega).mono ?_;rintro e w5 ⟨rfl,k5⟩;replace b:=(k5.block _ hs).trans b;replace hb:=hb.trans<|k5.mono hb.size;replace hs:=Nat.lt_of_lt_of_le hs k5.size;obtain⟨c0,c1,c2,c3,r,m⟩:=sS b
 go_wp2_with fail
 clear c0 c1 c2 c3 r m;refine(Nw _ _ _ g g.aA (HV.out.below hb) (H3.out.below hb) q.aA (by omega)<|by omega).mono ?_;rintro e w6 ⟨rfl,k6⟩;replace b:=(k6.block _ hs).trans b;replace hb:=hb.trans<|k6.mono hb.size;replace hs:=Nat.lt_of_lt_of_le hs k6.size;obtain⟨c0,c1,c2,c3,r,m⟩:=sS b
 go_wp2_with fail
 clear c0 c1 c2 c3 r m;refine(Nw _ _ _ g g.done (HV.out.below hb) (H4.out.below hb) q.done (by omega)<|by omega).mono ?_;rintro e w7 ⟨rfl,Q⟩;replace b:=(Q.block _ hs).trans b;replace hb:=hb.trans<|Q.mono hb.size;replace hs:=Nat.lt_of_lt_of_le hs Q.size;obtain⟨c0,c1,c2,c3,r,m⟩:=sS b
 go_wp2_with fail
 generalize w7=w8 at b hb hs c0 c1 c2 c3 r m⊢;clear c0 c1 c2 c3 r m
 go_loopw [9] (λi wr=>∃k:Nat,k<=g.marked.length/\i=Ξ Ψ k/\Y w8 w8 wr) (λi _=>g.marked.length-(intOf i).toNat)
 case atStart=>exact⟨0,Nat.zero_le _,rfl,.refl _ _⟩
 case round=>
  obtain⟨k,hk,rfl,f⟩:=hrel;obtain⟨c0,c1,c2,c3,r,m⟩:=sS<|(f.block _ hs).trans b;have y:=hb.trans<|f.mono hb.size;by_cases t:k<g.marked.length
  ·obtain⟨b',m',he,_,_,l⟩:=H5.out.below y;cases he
   obtain⟨z,o,rfl,L,l⟩:=l (by omega);obtain⟨n,e1⟩:=ot t;have d0:=l k n e1;have hn:=q.marks n<|ω e1;have hd:=(υ wr wr).drew
   go_wp2_with fail
   refine Rg.aaH 9 0 (λu=>u ⟨w.heap.size,5,Z⟩=U (ZP (U ⟨z,o,Z⟩) g.marked.length B)/\u.cell? ⟨w.heap.size,1,Z⟩=U (.slice G g.old.length m1)/\u.cell? ⟨z,o+k,Z⟩=U (Ξ Ψ n)) (by kernel_rfl) (by kernel_rfl) (λc a d v w h=>by cases d<;>exact h) ⟨m,c1,d0⟩ ?_;simp only[Nat.reduceAdd,Z1,ZN,Z0,ZM]
   iterate 9
    (refine Rg.fp.step (v:=?_) (by rfl) (λu hu=>?_) ?_
     rotate_left
     (obtain⟨t0,t1,t2⟩:=hu
      go_simp
      try rfl))
   refine Rg.fp.nil<|Rg.pA.zero ?_;simp only[Zm,μ,ZY,ZX]
   go_wp2_with fail
   refine(afn _ n 0 (g.old.length-1) hn.1<|by omega).mono ?_;rintro e w9 ⟨rfl,rfl⟩
   go_wp2_with fail
   have s:Y w8 w8 wr.drew:=f.trans<|hd.mono f.size;have d0:wr.drew.cell? (z,o+k)=U (Ξ Ψ n):=d0;have m:wr.drew.cell? (w.heap.size,5)=U (.slice (z,o) g.marked.length B):=m;by_cases S:k=0
   ·subst S;have hz:decide ((0:Int)<((0:Nat):Int))=ζ:=rfl
    go_quiet (fail)
    go_wp2_with fail
    exact⟨⟨0+1,by omega,by go_num,bl f _⟩,by simp[intOf];omega⟩
   ·obtain⟨j,P⟩:∃j,k=j+1:=⟨k-1,by omega⟩;obtain⟨F,e0⟩:=ot (by omega:j<g.marked.length);have d1:=l j F e0;have d2:wr.drew.cell? (z,o+j)=U (Ξ Ψ F):=d1;have hlt0:F<n:=by obtain⟨J,h1'⟩:=Θ.1 e0;obtain⟨H,h2'⟩:=Θ.1 e1;have:=(ZU.1 q.order) j k J H (by omega);rwa[h1',h2']at this
    have hs1:(k:Int) -1=(j:Int):=by omega
    have hz1:(0:Int)<(k:Int):=by omega
    have hz2:decide (n<=F)=ζ:=by simp;omega
    have hi2:(j:Int)<(g.marked.length:Int):=by omega
    have hi3:j<g.marked.length:=by omega
    have hi4:0<k:=by omega
    have hw1:IntKind.i64.wrap (j:Int)=(j:Int):=wrap_small _ (by omega) (by omega);clear l P
    go_quiet (fail)
    go_wp2_with fail
    exact⟨⟨k+1,by omega,by go_num,bl f _⟩,by simp[intOf];omega⟩
  ·go_wp2_with fail
   clear c0 c1 c2 c3 r m;generalize wr=wA at f y⊢;replace b:=(f.block _ hs).trans b;replace hs:=Nat.lt_of_lt_of_le hs f.size
   go_loopw [10] (λi wr=>∃k:Nat,k<=g.old.length/\i=Ξ Ψ k/\Y wA wA wr) (λi _=>g.old.length-(intOf i).toNat)
   case atStart=>exact⟨0,Nat.zero_le _,rfl,.refl _ _⟩
   case round=>
    clear f;obtain⟨k,hk,rfl,f⟩:=hrel;obtain⟨c0,c1,c2,c3,r,m⟩:=sS<|(f.block _ hs).trans b;have C:=y.trans<|f.mono y.size;by_cases t:k<g.old.length
    ·obtain⟨b',m',he,_,_,l⟩:=H1.out.below C;cases he
     obtain⟨z,o,rfl,L,l⟩:=l (by omega);obtain⟨p,A,e1⟩:=cQ t;obtain⟨d0,x,d1,E⟩:=l k p A e1;have hvl:=(q.cells _<|Zi _<|ω e1).1;dsimp only at hvl;have HX:=I E;obtain⟨ax,mx,rfl,_⟩:=E;clear l
     go_wp2_with fail
     refine(adr wr p _ A HX.out<|by omega).mono ?_;rintro e w9 ⟨rfl,k9⟩;have c5':=cG k9 m (show w.heap.size<wr.heap.size by have:=f.size;omega);have s:=f.trans<|k9.mono f.size;have Dv:=y.trans<|s.mono y.size;by_cases W:jW (p,A)=R
     ·rw[W];have D:=q.ju k (p,A) e1 W
      go_wp2_with fail
      refine(agz w9 _ g.marked k (H5.out.below Dv) D<|by omega).mono ?_;rintro e w10 ⟨rfl,rfl⟩
      go_wp2_with fail
      exact⟨⟨k+1,by omega,by go_num,s⟩,by simp[intOf];omega⟩
     ·rw[show jW (p,A)=ζ by simpa using W]
      go_wp2_with fail
      exact⟨⟨k+1,by omega,by go_num,s⟩,by simp[intOf];omega⟩
    ·go_wp2_with fail
     go_ret;exact⟨rfl,C⟩
end
def γ(w a mc l)(d:By w (.slice a l.length mc) l):
 ι prog 19 #[.slice a l.length mc] w λe w'=>e=.returned (.pointer w.heap.size)/\ml w' w 0/\Y w w w':=by
 have hb:=af w<|Δ #[.slice a l.length mc,Ξ Ψ 0,Ξ .u64 2611923443488327891] 95
 go_enter (fU func19 rfl),ntmps19
 go_wp2_with fail
 go_ret;exact⟨rfl,⟨0,⟨a,l,mc,_,ψ _ _,d.below hb,λp h0 e=>by obtain⟨_,_,f,_,_,h3⟩:=d;cases f;obtain⟨b,o,e2,c,_⟩:=h3 h0;rw[e]at e2;cases e2;exact c⟩,by omega,by omega⟩,hb⟩
def afo(w v g)(i:GV w v g)(j:VG g):
 ι prog 32 #[v] w λe w'=>e=.returned (.bool R)/\Y w w w':=by
 have HV:=I i;obtain⟨a0,a1,l,m,k,n,rfl,-⟩:=i;obtain⟨⟨c0,c1,c2,c3,h,c⟩,hs,hb⟩:=adn w a0 a1 l m k n 26 _ rfl
 go_enter (fU func32 rfl),ntmps32
 go_wp2_with fail
 generalize w.alloc _=b at c0 c1 c2 c3 h c hs hb⊢;refine(ado _ _ g (HV.out.below hb) j).mono ?_;rintro e p ⟨rfl,a⟩;have d:=hb.trans<|a.mono hb.size;replace c0:=cG a c0 (by omega:w.heap.size<b.heap.size);replace c1:=cG a c1 (by omega:w.heap.size<b.heap.size);replace c2:=cG a c2 (by omega:w.heap.size<b.heap.size);replace c3:=cG a c3 (by omega:w.heap.size<b.heap.size);replace h:=cG a h (by omega:w.heap.size<b.heap.size);replace c:=cG a c (by omega:w.heap.size<b.heap.size)
 go_wp2_with fail
 refine(adz _ _ g (HV.out.below d) j).mono ?_;rintro e o ⟨rfl,f⟩
 go_wp2_with fail
 go_ret;exact⟨rfl,d.trans<|f.mono d.size⟩
section
section
variable{ops:Array Oper}{rest:List Oper}{o:Oper}{a:Act}{w:θ}{Q:Exit->Act->θ->Prop}{K:Act->θ->Prop}
end
end
def afp(w v g)(b:GV w v g)(a:VG g):
 ι prog 21 #[v] w λe w'=>(∃r,e=.returned r/\Ot w' w.heap.size r g)/\Y w.heap.size w w':=
 aaP w v g b (by have:=a.news;omega) (by have:=a.bw;omega) (λc hc=>by have:=(a.cells c hc).1;omega) (by have:=a.four;omega) (by have:=a.aA.wW;omega) (by have:=a.done.wW;omega) (by have:=a.Fh;omega)
section
variable{fr:Nat×Nat}{J:Nat->Prop}{r:Md.RS}{t:YY}{x:Value}{b br:Nat}{w:θ}{B:Nat}{k:Int}
def tV{ty}{m bx:Nat}{a l}(h:RC w B (.slice a l.length m) l)(D:w.heap[bx]?=U (Δ #[Ξ Ψ k,x] t fr))(E:x.oneCell'=R)(L:l.length<=1000000):
 ∃b w',(ZJ #[22,22] ty #[.slice a l.length l.length,.slice bx 1 1]).run prog w=.ok b w'/\(OC w' w b (l++[(k,x)])/\Y w w w'/\∃g r,b=.slice (g:Nat) (l.length+1) r):=by
 obtain⟨A,hi,i,o,p⟩:=Zp ni;have c:∀j u,(dW (k,x))[j]?=U u->w ((bx:Addr).add j)=U u:=by
  intro j u f
  match j,f with
  |0,f=>cases f;simp[φ,D,ZL]
  |1,f=>cases f;simp[φ,D,ZL]
  |j+2,f=>simp[dW]at f
 have y:∀u∈dW (k,x),u.oneCell'=R:=by
  intro u C;simp[dW]at C;obtain rfl|rfl:=C
  rfl;exact E
 have fin:∀b w',w'.ownsRow w 76 2 b (l.length+1) (l.flatMap dW++dW (k,x)) ->OC w' w b (l++[(k,x)])/\∃g r,b=.slice (g:Nat) (l.length+1) r:=by
  intro b w' r1;have s:OC w' w b (l++[(k,x)]):=by unfold OC;rw[List.flatMap_append,Zc];simpa using r1
  refine⟨s,?_⟩;obtain⟨g,v,e,_⟩:=r1.form (by omega);exact⟨g,v,e⟩
 obtain⟨H,r,e,K,G,F,J⟩:=id h;cases e
 obtain _|ad:=a
 have q:l=[]:=Zx (by have:=F rfl;omega);subst q;obtain⟨b,w',d,r1,r2,_⟩:=run_append_own (P:=prog) w w 22 ty 76 A _ 2 32 mF hi i o p rfl (by decide) (ZP Z 0 0) 0 [] (YL w _ 76 2) bx 1 1 (dW (k,x)) rfl c y (by unfold Zq;omega) (by omega) .refl;obtain⟨q1,z⟩:=fin b w' (by simpa using r1);exact⟨b,w',d,q1,(υ _ w).grown r2 .refl (λk e=>by cases e),z⟩;obtain⟨b,w',d,r1,r2⟩:=Yz (P:=prog) w 22 ty 76 A _ 2 32 mF hi i o p rfl (by decide) ad l.length l.length (l.flatMap dW) (iu l) (λj u f=>by
  have n:0<l.length:=by
   obtain h0|h0:=Nat.eq_zero_or_pos l.length
   have:=Zx h0;subst this;simp at f;exact h0
  obtain⟨g,m2,e,_,_,_,_,hc⟩:=h.cells n;cases e
  have:=hc j u f;unfold ZL;split
  rename_i h0;subst h0;exact this;simpa using this) bx 1 1 (dW (k,x)) rfl c (by omega) (by unfold Zq;omega) (by omega)
 obtain⟨q1,z⟩:=fin b w' r1;exact⟨b,w',d,q1,(υ _ w).grown r2 .refl (λk e=>by cases e),z⟩
def mJ{ty}{m bx n:Nat}{a l}(f:l.length=n)(h:RC w B (.slice a l.length m) l)(i:w.heap[bx]?=U (Δ #[Ξ Ψ k,x] t fr))(d:x.oneCell'=R)(c:l.length<=1000000):
 ∃b w',(ZJ #[22,22] ty #[.slice a n n,.slice bx 1 1]).run prog w=.ok b w'/\(OC w' w b (l++[(k,x)])/\Y w w w'/\∃g e,b=.slice (g:Nat) (n+1) e):=by
 subst f;exact tV h i d c
def wQ{row a kind cs c}(h:∀i,i<cs.length->a (kind,(i:Int))=row (kind,(i:Int))):cellsOf a kind (cs++[c])=cellsOf row kind cs++[(c.1,a (kind,(cs.length:Int)))]:=by
 apply ZR;intro i;obtain hi|hi|hi:=Nat.lt_trichotomy i cs.length
 obtain⟨p,q,e⟩:=cQ hi;rw[bH (row:=a) (kind:=kind) (c:=(p,q)) (by rw[ZB hi];exact e),ZB (by rw[aT];exact hi),bH e,h i hi];subst hi;rw[bH (row:=a) (kind:=kind) (c:=c) (by simp)];simp[aT];rw[Zk (by rw[aT];simp;omega),Zk (by simp[aT];omega)]
def cR.RX{w2 g n o m s row vs}(P:∀j,J j->j<w)(h5:∀j,J j->j≠b/\∀k,IsKey g k->(row k).ownBlock≠U j)(K:B<=b)(hb:w.heap[b]?=U (Δ #[n,o,row (0,0),row (0,1),row (0,2),m] 114 (0,0)))(L:RC w B o (cellsOf row 4 g.old))(h3:OI w B m g.marked)(h4:kD w B row g)(v:B<=w)(u:Y w w w2)(E:OC w2 B s (cellsOf row 3 g.new++[(k,x)]))(G:OV w2 w x vs):
 cR (w2.setCell b s) B b {g with new:=g.new++[(k,vs)]} J/\Y B w (w2.setCell b s):=by
 have f:=(u.block b (Ω.1 hb).1).trans hb;have l:∀k,k≠b->(w2.setCell b s).heap[k]?=w2.heap[k]?:=λk h=>aq h;have keep:∀i:Nat,i<g.new.length->(if((3,(i:Int)):HV)=(3,(g.new.length:Int))then x else row (3,(i:Int)))=row (3,(i:Int)):=λi hi=>if_neg λe=>by have:=congrArg Prod.snd e;dsimp only at this;omega
 have hold:∀d,IsKey {g with new:=g.new++[(k,vs)]} d->d≠(3,(g.new.length:Int)) ->IsKey g d/\bd {g with new:=g.new++[(k,vs)]} d=bd g d:=by
  rintro⟨a,c⟩ h z;obtain⟨e1,e2,e3⟩|⟨e1,e2,e3⟩|⟨e1,e2,e3⟩:=h
  dsimp only at e1 e2 e3;subst e1;exact⟨.inl ⟨rfl,e2,e3⟩,by simp[bd]⟩;dsimp only at e1 e2 e3;subst e1;have F:c<g.new.length:=by have:c≠g.new.length:=λe=>z (by rw[e]);simp at e3;omega
  refine⟨.inr<|.inl ⟨rfl,e2,F⟩,?_⟩;simp only[bd,cellAt];have:c.toNat<g.new.length:=by omega
  simp[ξ,ZB this];dsimp only at e1 e2 e3;subst e1;exact⟨.inr<|.inr ⟨rfl,e2,e3⟩,by simp[bd,cellAt]⟩
 refine⟨⟨s,o,m,λd=>if d=(3,(g.new.length:Int))then x else row d,K,?_,?_,?_,?_,⟨?_,?_⟩,?_⟩,?_⟩;rw[aB f];simp;dsimp only;rw[wQ (row:=row) (λi hi=>keep i hi),if_pos rfl];exact OC.rc (B:=B)<|bp E f (by decide) l;have:cellsOf (λd=>if d=(3,(g.new.length:Int))then x else row d) 4 g.old=cellsOf row 4 g.old:=by
  unfold cellsOf;refine Z2 λy _=>?_;have O:¬((4,(y.2:Int)):HV)=(3,(g.new.length:Int)):=λe=>by have:=congrArg Prod.fst e;simp at this
  simp only[if_neg O]
 dsimp only;rw[this];exact(L.low u).below λC N t=>l C λe=>by subst e;rw[f]at t;cases t
 ·exact bp (h3.below u) f (by decide) l
 intro d q;dsimp only;by_cases e:d=(3,(g.new.length:Int))
 subst e;rw[if_pos rfl];have:bd {g with new:=g.new++[(k,vs)]} (3,(g.new.length:Int))=vs:=by simp[bd,cellAt,ξ]
 rw[this];exact eV (bp G f (by decide) l) v;rw[if_neg e];obtain⟨e1,e2⟩:=hold d q e;rw[e2];exact bp ((h4.1 d e1).below u) f (by decide) l;intro A D e1 e2 r;dsimp only;have wl:∀d,IsKey g d->Apart x (row d):=λd q C a1 Q=>by have:=(G.lt C a1).1;have:=((h4.1 d q).lt C Q).2;omega
 by_cases c1:A=(3,(g.new.length:Int))<;>by_cases c2:D=(3,(g.new.length:Int))
 exact absurd (c1.trans c2.symm) r;rw[if_pos c1,if_neg c2];exact wl _ (hold D e2 c2).1;rw[if_neg c1,if_pos c2];exact Apart.symm<|wl _ (hold A e1 c1).1;rw[if_neg c1,if_neg c2];exact h4.2 A D (hold A e1 c1).1 (hold D e2 c2).1 r;intro j H;refine⟨(h5 j H).1,λd q e=>?_⟩;dsimp only at e;by_cases c1:d=(3,(g.new.length:Int))
 rw[if_pos c1]at e;have:=(G.lt j e).1;have:=P j H;omega;rw[if_neg c1]at e;exact(h5 j H).2 d (hold d q c1).1 e;exact(u.mono v).setCell (p:=⟨b,0,Z⟩) K _
def Aj(k:Nat):Prop:=∀W:θ,OV (W.alloc<|.cells (Zr #[Ξ Ψ 0,Ξ Ψ 0]<|k*2) 50) W (.slice W.heap.size k k) (ZS k (0,0))
def Jy:Aj 1:=λW=>⟨rfl,.inr ⟨W.heap.size,1,_,rfl,.refl,ψ _ _,.refl,by unfold Zq;omega,by kernel_rfl,by kernel_rfl⟩⟩
def bD.more(h:bD w B br b r J):bD w B br b r (λj=>J j\/w.heap.size<=j):=by
 obtain⟨l,i,⟨n,o,m,row,p,hb,g,f,q,c,g5⟩,h3⟩:=h;refine⟨l,i,⟨n,o,m,row,p,hb,g,f,q,c,λj a=>?_⟩,λj a=>?_⟩;obtain a|a:=a
 ·exact g5 j a
 refine⟨λe=>?_,λk d e=>?_⟩
 ·grind
 have:=((c.1 k d).lt j e).2;omega
 grind
def bD.sub{J'}(h:bD w B br b r J)(hs:∀j,J' j->J j):bD w B br b r J':=by obtain⟨g,f,⟨n,o,m,row,i,hb,e,d,k,c,g5⟩,h3⟩:=h;exact⟨g,f,⟨n,o,m,row,i,hb,e,d,k,c,λj a=>g5 j<|hs j a⟩,λj a=>h3 j<|hs j a⟩
def bD.ne(h:bD w B br b r J):¬br=b:=λe=>by
 obtain⟨_,a,h3,_⟩:=h;obtain⟨_,_,c,hc⟩:=h3.own.obj
 grind
def bD.free{w' j c}(h:bD w B br b r J)(s:J j)(hc:w.heap[j]?=U (.cells c t fr))(p:t≠76/\t≠3)(d:∀k,k≠j->w'.heap[k]?=w.heap[k]?):bD w' B br b r J:=by
 obtain⟨A,y,⟨n,o,m,row,D,hb,C,z,E,x,g5⟩,h3⟩:=h;have v:∀{k:Nat} {u:Array Value} {l:YY} {f:Nat×Nat},w.heap[k]?=U (.cells u l f) ->t≠l->w'.heap[k]?=w.heap[k]?:=λ{k u l f} a F=>d k λe=>by grind
 exact⟨A,(d br<|Zg<|h3 j s).trans y,⟨n,o,m,row,D,(d b<|Zg (g5 j s).1).trans hb,C.below λg q i=>v i p.1,z.below λg q i=>v i p.1,bp E hc p.2 d,⟨λk a=>aS (x.1 k a) λg i=>d g λe=>(g5 j s).2 k a<|by grind,x.2⟩,g5⟩,h3⟩
def bD.RX{w w2 B q b r J x k vs}(h:bD w B q b r J)(E:∀j,J j->j<w)(s:B<=w)(u:Y w w w2)(F:OV w2 w x vs):
 ∃a m row,w b=U (.slice a r.g.new.length m)/\r.g.new.length<=m/\RC w B (.slice a (cellsOf row 3 r.g.new).length m) (cellsOf row 3 r.g.new)/\(cellsOf row 3 r.g.new).length=r.g.new.length/\
  ∀d f,Y w2 w2 d->OC d B f (cellsOf row 3 r.g.new++[(k,x)]) ->bD (d.setCell b f) B q b {r with g:={r.g with new:=r.g.new++[(k,vs)]}} J/\Y B w (d.setCell b f)/\tc J w (d.setCell b f):=by
 have p:=h.ne;obtain⟨A,t,⟨n,o,m,row,K,hb,y,z,N,C,g5⟩,h3⟩:=h;obtain⟨a,G,e,v,O,Q,P⟩:=id y;refine⟨a,G,row,?_,?_,e▸y,aT _ _ _,λd f i l=>?_⟩;rw[aT]at e;rw[<-e];simp[φ,hb];rw[aT]at v;exact v;have c:=u.trans<|i.mono u.size;obtain⟨q1,L⟩:=cR.RX E g5 K hb z N C s c l<|F.below i;refine⟨⟨A,?_,q1,h3⟩,L,λj H D=>?_⟩;rw[aq p,c.block q (Ω.1 t).1];exact t;rw[aq (g5 j H).1,c.block j D]
def WL(w B N b k r r')(hr:bD w B N b r J)(hB:B<=w)(hJ:∀j,J j->j<w)(hm:Roomy r r')(hz:Aj k)(hk:k<=1000)(hl:r'.g.new.length<=1000):
 ι prog 202 #[.pointer N,Ξ Ψ 0,Ξ Ψ (k:Int),ZP Z 0 0] w λe w'=>e=.returned (.agg #[Ξ Ψ 3,Ξ Ψ (r'.g.new.length:Int)])/\bD w' B N b {r' with g:={r'.g with new:=r'.g.new++[(0,ZS k (0,0))]}} J/\Y B w w'/\tc J w w':=by
 have HM:=I hm;have hb1:=af w<|Δ #[Ξ Ψ 0,Ξ Ψ 0] 50;have HR:=I<|(hr.more.below hb1).sub (J':=λj=>J j\/j=w) λj z=>z.imp id λe=>by omega
 have HZ:=I hz;have O:=I hb1;clear hr hm hz;have hmk:=λW=>BC k k .refl (by omega) W
 go_enter (fU func202 rfl),ntmps202
 go_wp2_with fail
 refine wp_loop_rounds 1 ?_;rw[rounds_succ]
 go_wp2_with fail
 refine(WD _ B N b r r' HR.out (by simp;omega) HM.out).mono ?_;rintro e F ⟨rfl,X,hb2,q⟩;have s:=I X;have y2:=(q w (.inr rfl)<|by simp).trans<|ψ w _;have HB2:=I<|Γ hb2 q;have HY2:=I y2;clear X hb2 q y2
 go_wp2_with fail
 refine wp_loop_rounds 1 ?_;rw[rounds_succ];have f:=af F<|.cells (Zr #[Ξ Ψ 0,Ξ Ψ 0]<|k*2) 50;have hsz:w.heap.size<F:=by have:=(Ω.1 HY2.out).1;exact this
 have hJ2:∀j,(J j\/j=w) ->j<F:=by
  intro j z;obtain h|h:=z
  have:=hJ j h;omega;omega
 obtain⟨a,m,row,L,hlm,hrc,P,C⟩:=s.out.RX (x:=.slice F.heap.size k k) (k:=0) (vs:=ZS k (0,0)) hJ2 (by omega) f<|HZ.out F;obtain⟨c0,_,hbr⟩:=s.out.ptr;have H:=az L;have S:=cG f c0 hbr;have e1:=cG f L H;have ef:=f.frozen (p:=⟨b,0,Z⟩) H;have ef0:F.frozen? b=ζ:=by obtain⟨_,_,c,hc⟩:=s.out.2.2.1.own.obj;exact cD hc
 rw[ef0]at ef;have y:=hrc.low f;have E:=Nat.lt_of_lt_of_le hbr f.size;have t:=Nat.lt_of_lt_of_le H f.size;have HA:=I C;have HC3:=I y;have hll:(cellsOf row 3 r'.g.new).length<=1000000:=by omega
 have HL:=I P;have hne:=s.out.ne;rw[P]at y;generalize hw3:(F.alloc<|.cells (Zr #[Ξ Ψ 0,Ξ Ψ 0]<|k*2) 50)=A at f HA S e1 ef HC3 E t⊢;clear hw3 C L c0 hrc y ef0 P;have hl0:(0:Int)<=(r'.g.new.length:Int):=by omega
 have hl1:(r'.g.new.length:Int)<=(m:Int):=by omega
 clear hmk
 go_wp2_with fail
 have hnr:¬b=N:=λe=>hne e.symm;refine Rg.wp_cut (n:=34) (λx=>x N=U (.pointer b)/\x b=U (.slice a r'.g.new.length m)) (by kernel_rfl) (by kernel_rfl) (λc a d v w h=>by cases d<;>exact h) ⟨S,e1⟩ ?_;simp only[Z1,ZN,Z0,ZM]
 iterate 34
  (refine Rg.fp.step (v:=?_) (by rfl) (λu hu=>?_) ?_
   rotate_left
   (obtain⟨hu0,hu1⟩:=hu
    go_simp;rfl))
 refine Rg.fp.nil ?_;simp only[Zm,μ,ZY,ZX];refine Zz rfl λK hK=>?_;go_simp;refine hK _ _ ⟨⟨dB<|dO S,dB<|dO e1⟩,?_⟩;clear hK K;refine Zz rfl λK hK=>?_;refine aX rfl _ _ 22 (by rfl) (.slice a r'.g.new.length r'.g.new.length) (.slice A.heap.size 1 1) (by rfl) (by rfl) _ (mJ (k:=0) (x:=.slice F.heap.size k k) HL.out (HC3.out.low<|by first|exact(af A _).drew|exact(af A _)|exact((υ _ A).drew.alloc .refl _)|exact((υ _ A).drew.alloc .refl _).drew) (ψ A _) (by rfl) hll) ?_;intro v' w4 h2;obtain⟨hoc,o,gg,mg,rfl⟩:=h2;have l:=Below.trans (by first|exact(af A _).drew|exact(af A _)|exact((υ _ A).drew.alloc .refl _)|exact((υ _ A).drew.alloc .refl _).drew)<|o.mono<|by simp
 have gc:=cG l e1 t;have gr:=cG l S E;have gf:=(l.frozen (p:=⟨b,0,Z⟩) t).trans ef;refine hK _ _ ⟨⟨gr,gc⟩,?_⟩;clear hK K;obtain⟨p1,T,Q⟩:=HA.out w4 _ l<|hoc.less (by have:=f.size;simp;omega);have HP:=I<|Γ p1<|Γ T Q;have o:¬b=w:=λe=>(s.out.2.2.1.ne<|.inr rfl) e.symm;have y4:=(l.block w (by have:=f.size;omega)).trans<|(f.block w hsz).trans HY2.out;have HY4:=I y4;have z0:(w4.setCell b<|.slice gg (r'.g.new.length+1) mg) w.heap.size=U (Ξ Ψ 0):=da o (by simp[φ,y4]);have z1:(w4.setCell b<|.slice gg (r'.g.new.length+1) mg) (w.heap.size,1)=U (Ξ Ψ 0):=da o (by simp[φ,y4]);have y5:=(aq (w:=w4) (i:=0) (v:=.slice gg (r'.g.new.length+1) mg)<|Zg o).trans y4;have zf0:=cD (i:=0) y5;have zf1:=cD (i:=1) y5;have zr:(w4.setCell b<|.slice gg (r'.g.new.length+1) mg) N=U (.pointer b):=da hnr gr;have hw1:IntKind.i64.wrap ((r'.g.new.length:Int)+1-1)=(r'.g.new.length:Int):=by rw[show((r'.g.new.length:Int)+1-1)=(r'.g.new.length:Int) by omega];exact wrap_small _ (by omega) (by omega)
 have HY5:=I y5;clear p1 T Q hoc o S e1 ef y4 y5
 go_wp2_with fail
 obtain⟨p1,T,Q⟩:=HP.out;have G:=HY5.out;clear z0 z1 zf0 zf1 zr;generalize (w4.setCell b<|.slice gg (r'.g.new.length+1) mg)=w5 at p1 T Q G⊢;have y6:=aB (aB G 0<|Ξ Ψ 3) 1<|Ξ Ψ (r'.g.new.length:Int);have D:=(p1.free (w':=(w5.setCell w.heap.size<|Ξ Ψ 3).setCell (w.heap.size,1)<|Ξ Ψ (r'.g.new.length:Int)) (.inr rfl) G (by decide) λk hk=>cr hk).sub (J':=J) λj z=>.inl z;have hbf:Y B w ((w5.setCell w.heap.size<|Ξ Ψ 3).setCell (w.heap.size,1)<|Ξ Ψ (r'.g.new.length:Int)):=((((O.out.mono hB).trans HB2.out.1).trans T).setCell (p:=⟨w.heap.size,0,Z⟩) hB _).setCell (p:=⟨w.heap.size,1,Z⟩) hB _;have hfj:tc J w ((w5.setCell w.heap.size<|Ξ Ψ 3).setCell (w.heap.size,1)<|Ξ Ψ (r'.g.new.length:Int)):=λj z hl=>(cr (by have:=hJ j z;omega)).trans<|(Q j (.inl z) (by have:=hJ j z;omega)).trans<|(HB2.out.2 j (.inl z)<|Nat.lt_of_lt_of_le hl O.out.size).trans<|O.out.block j hl;generalize (w5.setCell w.heap.size<|Ξ Ψ 3).setCell (w.heap.size,1) (Ξ Ψ (r'.g.new.length:Int))=w6 at y6 D hbf hfj⊢;refine ZE (v:=.agg #[Ξ Ψ 3,Ξ Ψ (r'.g.new.length:Int)]) (by simp[ZH,results202,go_sem,φ,y6]) rfl ⟨rfl,D,hbf,hfj⟩
end
section
variable{J:Nat->Prop}
def fZ{w:θ}{b:Nat}{t v0 v1 v2 v3}(h:w.heap[b]?=U (Δ #[v0,v1,v2,v3] t (0,0))):w b=U v0/\w (b,1)=U v1/\w (b,2)=U v2/\w (b,3)=U v3:=by refine⟨?_,?_,?_,?_⟩<;>simp[φ,h]
def Jz(r:Md.RS)(k:Nat):Md.RS:={r with g:={r.g with new:=r.g.new++[(0,ZS k (0,0))]}}
def bD.one{w B a b r}(h:bD w B a b r J)(o):bD (w.alloc o) B a b r (λj=>J j\/j=w):=(h.more.below<|af w o).sub (λj c=>c.imp id λe=>by omega)
def JA(w)(B u b c k:Nat)(r r' p q)(hr:bD w B u b r J)(hB:B<=w)(hJ:∀j,J j->j<w)(ht:r.g.roots[c]?=U (p,q))(hrl:r.g.roots.length<=1000)(hm:Roomy r r')(hz:Aj k)(hk:k<=4)(W:r'.g.new.length<=1000)(S:c<r'.g.roots.length):
 ι prog 153 #[.pointer u,.agg #[Ξ Ψ 0,c,k,Ξ Ψ 0]] w λe w'=>e=.returned (.tuple #[])/\bD w' B u b (Md.el (Jz r' k) c (3,(r'.g.new.length:Int))) J/\Y B w w'/\tc J w w':=by
 have HM:=I hm;have HZ:=I hz;have f:=af w<|Δ #[Ξ Ψ 0,c,k,Ξ Ψ 0] 44;have HR:=I<|hr.one<|Δ #[Ξ Ψ 0,c,k,Ξ Ψ 0] 44;have F:=I f;clear hr hm hz;have hk0:¬((k:Int)<0):=by omega
 have hk4:¬(4<(k:Int)):=by omega
 go_enter (fU func153 rfl),ntmps153
 go_wp2_with fail
 ((with_reducible refine(cd _ _).mono ?_))
 rintro e w1 ⟨rfl,l⟩;have N:w1.heap[w.heap.size]?=U (Δ #[Ξ Ψ 0,c,k,Ξ Ψ 0] 44 (0,0)):=by rw[l];exact ψ w _
 rw[<-l]at HR F f;have E:w1.heap.size=w.heap.size+1:=by rw[l];simp
 clear l;obtain⟨c0,c1,c2,c3⟩:=fZ N
 go_wp2_with fail
 refine(sQ _ B u b r c p q HR.out ht<|by omega).mono ?_;rintro e w2 ⟨rfl,a⟩;have H:=(a.block w<|by omega).trans N;have C:=I<|HR.out.below a;have m:=I<|f.trans<|a.mono f.size;have d:w.heap.size<w2:=by have:=a.size;omega
 clear N HR c0 c1 c2 c3 f a F E;obtain⟨c0,c1,c2,c3⟩:=fZ H
 go_wp2_with fail
 rw[show(decide ((k:Int)<0)||decide (4<(k:Int)))=ζ by simp;omega]
 ((with_reducible refine(cd _ _).mono ?_))
 rintro e w3 ⟨rfl,z⟩;rw[<-z]at C m H c0 c1 c2 c3 d;clear z
 go_wp2_with fail
 have o:∀j,(J j\/j=w) ->j<w3:=by
  intro j i;obtain h|h:=i
  have:=hJ j h;omega;omega
 have hne1:((0:Int)==0)=R:=rfl
 go_region_held3 (λx=>x (w.heap.size,1)=U (Ξ Ψ (c:Int))/\x (w.heap.size,2)=U (Ξ Ψ (k:Int))) ((refine⟨?_,?_⟩<;>(repeat (first|with_reducible assumption|with_reducible refine dO ?_))))
  (first
    |(go_at_call 202;(with_reducible refine(WL _ B u b k r r' (C.out.below (υ _ _).drew) (by simp;omega) (λj i=>by have:=o j i;simpa using this) HM.out HZ.out (by omega) W).mono ?_);rintro e w4 ⟨rfl,v,G,s⟩;have y4:=(s w (.inr rfl) d).trans H;have HR4:=I v;have t:=I G;have A:=I s;obtain⟨d0,d1,d2,d3⟩:=fZ y4;clear v G s y4)
    |(go_at_call 201;(with_reducible refine(afB _ B u b _ c 3 (r'.g.new.length:Int) HR4.out S (by have:=t.out.size;simp at this;omega)).mono ?_);rintro e w5 ⟨rfl,y,D,n⟩;have y5:=(n w (.inr rfl) (az d0)).trans ((A.out w (.inr rfl) d).trans H:_=U (Δ #[Ξ Ψ 0,c,k,Ξ Ψ 0] 44 (0,0)));have P:=I y;have O:=I D;have X:=I n;obtain⟨g0,g1,g2,g3⟩:=fZ y5;clear y D n y5))
 have Q:=t.out.size;have hs2:=m.out.size;have K:=P.out.sub λj i=>.inl i;have L:=(((m.out.mono hB).trans<|(υ B w3).drew).trans t.out).trans O.out;have T:tc J w w5:=λj i W=>(X.out j (.inl i) (by have:=o j<|.inl i;simp at Q;omega)).trans<|(A.out j (.inl i) (by have:=o j<|.inl i;simpa using this)).trans<|m.out.block j W;go_end0;exact⟨rfl,K,L,T⟩
def E'(w B m b n r g' p q)(v:Nat)(N:bD w B m b r J)(W:B<=w)(Q:∀j,J j->j<w)(O:r.g.roots[v]?=U (p,q))(P:r.g.roots.length<=1000)(x:Jn r.g)(K:im (Md.iF r.g))(h:Md.collect .major r.g=U (n,g'))(T:0<=r.fk/\r.fk<=1000)(D:0<=r.dA/\r.dA<=100000)(S:n<=1000):
 ι prog 153 #[.pointer m,.agg #[Ξ Ψ 10,v,Ξ Ψ 0,Ξ Ψ 0]] w λe w'=>e=.returned (.tuple #[])/\bD w' B m b (Md.counted r .major n g') J/\Y B w w'/\tc J w w':=by
 have a:=af w<|Δ #[Ξ Ψ 10,v,Ξ Ψ 0,Ξ Ψ 0] 44;have HR:=I<|N.below a;have u:=I a;have F:=I<|Γ x<|Γ K h;clear N x K h
 go_enter (fU func153 rfl),ntmps153
 go_wp2_with fail
 ((with_reducible refine(cd _ _).mono ?_))
 rintro e H ⟨rfl,d⟩;have A:H.heap[w.heap.size]?=U (Δ #[Ξ Ψ 10,v,Ξ Ψ 0,Ξ Ψ 0] 44 (0,0)):=by rw[d];exact ψ w _
 rw[<-d]at HR u a;have t:H.heap.size=w.heap.size+1:=by rw[d];simp
 clear d;obtain⟨c0,c1,c2,c3⟩:=fZ A
 go_wp2_with fail
 refine(sQ _ B m b r v p q HR.out O<|by omega).mono ?_;rintro e w2 ⟨rfl,f⟩;have X:=(f.block w<|by omega).trans A;have C:=I<|HR.out.below f;have c:=I<|a.trans<|f.mono a.size;clear A HR c0 c1 c2 c3 a f u t;obtain⟨c0,c1,c2,c3⟩:=fZ X
 go_wp2_with fail
 refine(wN _ B m b n r g' (λj G=>by have:=Q j G;have:=c.out.size;omega) F.out.1 F.out.2.1 C.out (by have:=c.out.size;omega) F.out.2.2 T D S).mono ?_;rintro e w3 ⟨rfl,y,z,k⟩;have o:=I y;have l:=I z;have s:=I k;clear y z k
 go_wp2_with fail
 ((with_reducible refine(cd _ _).mono ?_))
 rintro e w4 ⟨rfl,i⟩;rw[<-i]at o l s;clear i
 go_wp2_with fail
 have E:tc J w w4:=λj G L=>(s.out j G<|Nat.lt_of_lt_of_le L c.out.size).trans<|c.out.block j L;go_end0;exact⟨rfl,o.out,(c.out.mono W).trans l.out,E⟩
end
section
variable{B i:Nat}(w:θ){vs:List HV}{k:Int}{J:Nat->Prop}
def RC.at_{w v row kind cs}(h:RC w B v (cellsOf row kind cs))(f:OV w B (row (kind,(i:Int))) vs)(e:cs[i]?=U (k,vs)):
 ∃d m a b,v=.slice (d:Nat) cs.length m/\w ((d:Nat),i*2)=U (Ξ Ψ k)/\row (kind,(i:Int))=.slice a vs.length b/\w ((d:Nat),i*2+1)=U (.slice a vs.length b):=by
 have hi:=(Θ.1 e).1;obtain⟨g,m,rfl,_,l,_,_,j⟩:=h.cells (by rw[aT];omega);obtain⟨e1,e2⟩:=jx dW (λv=>Ξ Ψ v.1) (λv=>v.2) (λ_=>rfl) _ i _<|bH (kind:=kind) e;obtain⟨a,b,c,_⟩:=aF f;refine⟨g,m,a,b,by rw[aT],j _ _ e1,c,?_⟩
 grind
def dm.WM{w b g}(h:dm w B b g)(e:g.new[i]?=U (k,vs)):
 ∃c m a d,w b=U (.slice (c:Nat) g.new.length m)/\w ((c:Nat),i*2)=U (Ξ Ψ k)/\w ((c:Nat),i*2+1)=U (.slice a vs.length d):=by
 obtain⟨n,o,m,row,r,hb,l,q,h3,h4⟩:=h;obtain⟨f,j⟩:=JX e;have:=h4.1 _ f;rw[j]at this;obtain⟨c,p,a,d,rfl,r1,_,r2⟩:=l.at_ this e;exact⟨c,p,a,d,by simp[φ,hb],r1,r2⟩
def dm.JB{w b g}(h:dm w B b g)(e:g.old[i]?=U (k,vs)):
 ∃c m a d,w (b,1)=U (.slice (c:Nat) g.old.length m)/\w ((c:Nat),i*2)=U (Ξ Ψ k)/\w ((c:Nat),i*2+1)=U (.slice a vs.length d):=by
 obtain⟨n,o,m,row,r,hb,q,l,h3,h4⟩:=h;obtain⟨f,j⟩:=j6 e;have:=h4.1 _ f;rw[j]at this;obtain⟨c,p,a,d,rfl,r1,_,r2⟩:=l.at_ this e;exact⟨c,p,a,d,by simp[φ,hb],r1,r2⟩
def adF{K:Int}{s}(h:K=3/\s=0\/K=4/\s=1)(w)(b a len m k:Nat)(hc:w (b,s)=U (.slice a len m))(d:k<len)(c:len<=1000000):
 ι prog 199 #[.pointer b,.agg #[K,k]] w λe w'=>e=.returned (.pointer (a,k*2))/\Y w w w':=by
 obtain⟨rfl,rfl⟩|⟨rfl,rfl⟩:=h
 exact zD w b a len m k hc d c;exact ol w b a len m k hc d c
def adH(B A b i r k)(vs:List HV)(hr:bD w B A b r J)(K:Int)(s)(cs:List HC)(S:K=3/\s=0\/K=4/\s=1)(e:∃f m a L,w (b,s)=U (.slice (f:Nat) cs.length m)/\w ((f:Nat),i*2)=U (Ξ Ψ k)/\w ((f:Nat),i*2+1)=U (.slice a vs.length L))(H:i<cs.length)(hk:0<=k/\k<=1000)(hv:vs.length<=1000)(hl:cs.length<=1000):
 ι prog 154 #[.pointer A,.agg #[K,i]] w λe w'=>e=.returned (.agg #[Ξ Ψ 1,Ξ Ψ<|10*k+vs.length])/\Y w w w':=by
 obtain⟨f,m,a,L,c0,c1,c2⟩:=e;obtain⟨p0,_,E⟩:=hr.ptr;have G:=az c0;have n:=az c1;have hw1:IntKind.i64.wrap (10*k)=10*k:=wrap_small _ (by omega) (by omega);have hw2:IntKind.i64.wrap (10*k+(vs.length:Int))=10*k+(vs.length:Int):=wrap_small _ (by omega) (by omega);obtain⟨Q,h,F⟩:=Ju w (Δ #[K,i] 50)<|Δ #[Ξ Ψ 0,Ξ Ψ 0] 50;have X:((w.alloc<|Δ #[K,i] 50).alloc<|Δ #[Ξ Ψ 0,Ξ Ψ 0] 50).heap[w.heap.size]?=U (Δ #[K,i] 50 (0,0)):=((af _ _).block _<|by simp).trans<|ψ w _
 go_enter (fU func154 rfl),ntmps154
 go_wp2_with fail
 refine(jX _ K (i:Int) (by obtain⟨rfl,rfl⟩|⟨rfl,rfl⟩:=S<;>rfl)).mono ?_;rintro e o ⟨rfl,d⟩;have z:=d.size;have c:=I<|h.trans<|d.mono h.size;have t:=(d.block w<|by omega).trans X;have x1:=(d.block (w.heap.size+1)<|by omega).trans Q;have u:=cG c.out p0 E;have q1:=cG c.out c0 G;have q:=cG c.out c1 n;have T:=cG c.out c2 n;have C:o w.heap.size=U (Ξ Ψ K):=by simp[φ,t]
 have O:o (w.heap.size,1)=U (Ξ Ψ (i:Int)):=by simp[φ,t]
 have D:w.heap.size+1<o:=by omega
 have HX:=I x1;clear X Q h F c0 c1 c2 p0 d t x1 z
 go_wp2_with fail
 go_region_held3 (λx=>x A=U (.pointer b)/\x w.heap.size=U (Ξ Ψ K)/\x (w.heap.size,1)=U (Ξ Ψ (i:Int))) ((refine⟨?_,?_,?_⟩<;>(repeat (first|with_reducible assumption|with_reducible refine dO ?_))))
  ((go_at_call 199;(with_reducible refine(adF S _ b f cs.length m i (((υ _ _).drew.cell (p:=⟨b,s,Z⟩)<|az q1).trans q1) H<|by omega).mono ?_);rintro e w4 ⟨rfl,l⟩;have g:Y o o w4:=(υ _ _).drew.trans l;have k0:=cG g u<|az u;have k1:=cG g C<|az C;have k2:=cG g O<|az O))
 have k3:=cG g q<|az q;have k4:=cG g T<|az q;have x4:=(g.block (w.heap.size+1) D).trans HX.out;have m0:w4 (w.heap.size+1:Nat)=U (Ξ Ψ 0):=by simp[φ,x4]
 have m1:w4 (w.heap.size+1,1)=U (Ξ Ψ 0):=by simp[φ,x4]
 have f0:=cD (i:=0) x4;have f1:=cD (i:=1) x4;have y:¬w.heap.size+1=f:=by omega
 have P:=I x4;have N:=I<|c.out.trans<|g.mono c.out.size;clear x4 g u q1 q T C O k0 k1 k2 l
 go_wp2_with fail
 go_region_held3 (λx=>x ((f:Nat),i*2)=U (Ξ Ψ k)/\x ((f:Nat),i*2+1)=U (.slice a vs.length L)) ((refine⟨?_,?_⟩<;>(repeat (first|with_reducible assumption|with_reducible refine dO ?_|with_reducible refine da y ?_)))) (fail)
 go_wp2_with fail
 have W:((w4.setCell (w.heap.size+1:Nat)<|Ξ Ψ 1).setCell (w.heap.size+1,1)<|Ξ Ψ<|10*k+(vs.length:Int)).drew.heap[w.heap.size+1]?=_:=aB (aB P.out 0<|Ξ Ψ 1) 1<|Ξ Ψ<|10*k+(vs.length:Int);have j:Y w w ((w4.setCell (w.heap.size+1:Nat)<|Ξ Ψ 1).setCell (w.heap.size+1,1)<|Ξ Ψ<|10*k+(vs.length:Int)).drew:=((N.out.setCell (p:=⟨w.heap.size+1,0,Z⟩) (by simp)<|Ξ Ψ 1).setCell (p:=⟨w.heap.size+1,1,Z⟩) (by simp)<|Ξ Ψ<|10*k+(vs.length:Int)).drew;generalize ((w4.setCell (w.heap.size+1:Nat)<|Ξ Ψ 1).setCell (w.heap.size+1,1)<|Ξ Ψ<|10*k+(vs.length:Int)).drew=w5 at W j⊢;refine ZE (v:=.agg #[Ξ Ψ 1,Ξ Ψ<|10*k+vs.length]) (by simp[ZH,results154,go_sem,φ,W]) rfl ⟨rfl,j⟩
def Fa(B a b i:Nat)(r k vs)(c:bD w B a b r J)(e:r.g.new[i]?=U (k,vs))(d:0<=k/\k<=1000)(f:vs.length<=1000)(h:r.g.new.length<=1000):
 ι prog 154 #[.pointer a,.agg #[Ξ Ψ 3,i]] w λe w'=>e=.returned (.agg #[Ξ Ψ 1,Ξ Ψ<|10*k+vs.length])/\Y w w w':=
 adH w B a b i r k vs c 3 0 r.g.new (.inl ⟨rfl,rfl⟩) (c.2.2.1.own.WM e) (Θ.1 e).1 d f h
def ve(B a b i:Nat)(r k vs)(c:bD w B a b r J)(e:r.g.old[i]?=U (k,vs))(d:0<=k/\k<=1000)(f:vs.length<=1000)(h:r.g.old.length<=1000):
 ι prog 154 #[.pointer a,.agg #[Ξ Ψ 4,i]] w λe w'=>e=.returned (.agg #[Ξ Ψ 1,Ξ Ψ<|10*k+vs.length])/\Y w w w':=
 adH w B a b i r k vs c 4 1 r.g.old (.inr ⟨rfl,rfl⟩) (c.2.2.1.own.JB e) (Θ.1 e).1 d f h
end
def nr{w ty}{B bx:Nat}{v l}{p q:Int}{t fr}(h:OV w B v l)(k:w.heap[bx]?=U (Δ #[p,q] t fr))(x:l.length<=1000000)(o:B<=w):
 ∃c w',(ZJ #[23,23] ty #[v,.slice bx 1 1]).run prog w=.ok c w'/\(OV w' B c (l++[(p,q)])/\w.grownBy w' v.ownBlock/\∃g r,c=.slice (g:Nat) (l.length+1) r/\(v.ownBlock=U g\/g=w)):=by
 obtain⟨m,hi,d,e,b⟩:=Zp nh;obtain⟨g,n,w',f,y,s,h3,h4⟩:=run_append_lies (P:=prog) w 23 ty B 50 m _ 2 16 lx hi d e b rfl (by decide) v l.length _ h bx 1 1 (lU (p,q)) rfl (λj u a=>by
  match j,a with
  |0,a=>cases a;simp[φ,k,ZL]
  |1,a=>cases a;simp[φ,k,ZL]
  |j+2,a=>simp[lU]at a) (λu i=>by
  simp[lU]at i;obtain rfl|rfl:=i<;>rfl) (by omega) (by unfold Zq;omega) (by omega) o _ rfl
 unfold OV
 grind
def bD.grown{w w' B x b r J row}(h:bD w B x b r J)(f:w.grownBy w' row)(y:∀j,row=U j->J j/\∃d,w.heap[j]?=U (.cells d 50 (0,0))):bD w' B x b r J:=by
 obtain⟨A,u,⟨n,o,m,q,D,hb,C,z,t,s,g5⟩,h3⟩:=h;have l:∀{k:Nat} {v:Array Value} {p:YY} {i:Nat×Nat},w.heap[k]?=U (.cells v p i) ->p≠50->w'.heap[k]?=w.heap[k]?:=λ{k v p i} a E=>f.block k (Ω.1 a).1 λe=>by grind
 refine⟨A,(l u<|by decide).trans u,⟨n,o,m,q,D,(l hb<|by decide).trans hb,C.below λg d f=>l f<|by decide,z.below λg d f=>l f<|by decide,aS t λg c=>?_,⟨λk a=>aS (s.1 k a) λg c=>f.block g ((s.1 k a).lt g c).2 λe=>(g5 g (y g e.symm).1).2 k a c,s.2⟩,g5⟩,h3⟩;exact f.block g (t.lt g c).2 λe=>by obtain⟨_,d,hc⟩:=y g e.symm;exact cF t hc (by decide) c
def bD.JC{w}{B k b n:Nat}{r J p q}(h:bD w B k b r J)(f:r.g.roots[n]?=U (p,q)):
 ∃gr m,w (b,2)=U (.slice (gr:Nat) r.g.roots.length m)/\w ((gr:Nat),n*2)=U (Ξ Ψ p)/\w ((gr:Nat),n*2+1)=U (Ξ Ψ q)/\∀j,J j->j≠gr:=by
 obtain⟨_,_,⟨y,o,m,row,D,hb,C,A,h3,h4,h5⟩,_⟩:=h;have z:=(Θ.1 f).1;have h0:=h4.roots.1;obtain⟨a,u,d,v,t,x⟩:=aF h0;obtain⟨gr,rfl,_,_,c,_⟩:=x (by omega);rw[d]at h0;obtain⟨l,i,_⟩:=h0.at_ f;exact⟨gr,u,by simp[φ,hb,d],l,i,λj s e=>(h5 j s).2 (0,0) (.inl ⟨rfl,by decide,by decide⟩) (by rw[d,e];rw[d]at c;exact c)⟩
abbrev C4:=Int×Nat×Int×Int
def c4V(c:C4):Value:=.agg #[Ξ Ψ c.1,(c.2.1:Int),Ξ Ψ c.2.2.1,Ξ Ψ c.2.2.2]
def JD(w:θ)(P:Nat->Prop)(v:Value)(l:List C4):Prop:=∃a m,v=.slice a l.length m/\(0<l.length->∃b o,a=U ⟨b,o,Z⟩/\P b/\∀i c,l[i]?=U c->w ((b:Nat),o+i*4)=U (Ξ Ψ c.1)/\w ((b:Nat),o+i*4+1)=U (Ξ Ψ (c.2.1:Int))/\w ((b:Nat),o+i*4+2)=U (Ξ Ψ c.2.2.1)/\w ((b:Nat),o+i*4+3)=U (Ξ Ψ c.2.2.2))
def afs(w:θ)(J:Nat->Prop):Prop:=∀j,J j->∀c t fr,w.heap[j]?=U (.cells c t fr) ->t≠3
structure Step(B br b:Nat)(r r':Md.RS)(c:C4)(s:HV):Prop where
 OU:∀w J,bD w B br b r J->B<=w->(∀j,J j->j<w) ->afs w J->ι prog 153 #[.pointer br,c4V c] w λe w'=>e=.returned (.tuple #[])/\bD w' B br b r' J/\Y B w w'/\tc J w w'
 root:∃p q,r'.g.roots[c.2.1]?=U (p,q)/\∀w J,bD w B br b r' J->ι prog 154 #[.pointer br,.agg #[Ξ Ψ p,Ξ Ψ q]] w λe w'=>e=.returned (.agg #[Ξ Ψ s.1,Ξ Ψ s.2])/\Y w w w'
 wW:r'.g.roots.length<=1000
def afF{l:List C4}{k}(h:k<l.length):∃c,l[k]?=U c:=by simp_all
def JE(w B r b v cs)(G:Nat->Md.RS)(sv){J}(hv:JD w (λj=>j<B\/J j) v cs)(hr:bD w B r b (G 0) J)(hB:B<=w)(hJ:∀j,J j->j<w)(hJ3:afs w J)(hl:cs.length<=1000)(hsl:sv.length=cs.length)(hst:∀i c s,cs[i]?=U c->sv[i]?=U s->Step B r b (G i) (G<|i+1) c s):
 ι prog 94 #[.pointer r,v] w λe w'=>(∃rv,e=.returned rv/\OV w' B rv sv)/\bD w' B r b (G cs.length) J/\Y B w w'/\tc J w w':=by
 obtain⟨la,lm,rfl,P⟩:=hv;have anL:=I P;have HST:=I hst;have HR:=I hr;clear P hst hr
 go_enter (fU func94 rfl),ntmps94
 go_wp2_with fail
 go_loopw [5,10] (λo i wr=>∃(k:Nat),k<=cs.length/\i=Ξ Ψ k/\Zf (OV wr w o (sv.take k)/\bD wr B r b (G k) (λj=>J j\/o.ownBlock=U j)/\Y B w wr/\tc J w wr)) (λ_ i _=>cs.length-(intOf i).toNat)
 case atStart=>exact⟨0,by omega,rfl,I ⟨OV.nil _ _,HR.out.sub (λj f=>f.elim id λe=>by cases e),υ _ _,λ_ _ _=>rfl⟩⟩
 case round=>
  obtain⟨k,hk,rfl,a⟩:=hrel;by_cases hlt:k<cs.length
  ·obtain⟨lb,lo,rfl,hlb,hat⟩:=anL.out (by omega);obtain⟨⟨c0,c1,c2,c3⟩,hc⟩:=afF hlt;obtain⟨s0,s1,hs⟩:=ep (l:=sv) (k:=k) (by omega);have D:=I<|HST.out k _ _ hc hs;obtain⟨q0,q1,q2,q3⟩:=hat k _ hc;have hbw:=a.out.2.2.1;have N:wr.heap[lb]?=w.heap[lb]?:=by
    obtain h|h:=hlb
    exact hbw.block lb h;exact a.out.2.2.2 lb h<|az q0
   have d:∀o,wr.cell? ⟨lb,o,Z⟩=w.cell? ⟨lb,o,Z⟩:=λo=>by simp only[φ,N]
   replace q0:=(d _).trans q0;replace q1:=(d _).trans q1;replace q2:=(d _).trans q2;replace q3:=(d _).trans q3;clear N d;dsimp only at q0 q1 q2 q3;have hsw:=hbw.size;have hp5:=(a.out.2.1.ptr).2.1;have hk0:(0:Int)<=(k:Int):=by omega
   have hk1:(k:Int)<(cs.length:Int):=by omega
   have HC:=I hc;clear hat hbw hc
   go_wp2_with fail
   have HDO:=I (show∀(W:θ) (J':Nat->Prop),bD W B r b (G k) J'->B<=W->(∀j,J' j->j<W) ->afs W J'->ι prog 153 #[.pointer r,.agg #[c0,c1,c2,c3]] W λe w'=>e=.returned (.tuple #[])/\bD w' B r b (G<|k+1) J'/\Y B W w'/\tc J' W w' from D.out.OU);have z:=af wr<|Δ #[c0,c1,c2,c3] 44;have F:=a.out.2.1.one<|Δ #[c0,c1,c2,c3] 44;have y1:=ψ wr<|Δ #[c0,c1,c2,c3] 44;have hz1:(wr.alloc<|Δ #[c0,c1,c2,c3] 44).heap.size=wr.heap.size+1:=by simp
   have p5:=cG z hp5<|az hp5;clear q0 q1 q2 q3 hp5;generalize wr.alloc _=w1 at z F y1 hz1 p5⊢;have E:=I<|Γ z<|Γ F y1;obtain⟨x0,x1,x2,x3⟩:=fZ y1;have u:=a.out.1;have hJ1:∀j,((J j\/u5.ownBlock=U j)\/j=wr) ->j<w1:=by
    intro j f;obtain(h|h)|h:=f
    have:=hJ j h;omega;have:=(u.lt j h).2;omega;omega
   have HJ1:=I hJ1;have H3:=I (show afs w1.drew (λj=>(J j\/u5.ownBlock=U j)\/j=wr)fromλj f c t fr hc=>by
    obtain(h|h)|h:=f
    have:=hJ j h;exact hJ3 j h c t fr<|(a.out.2.2.2 j h this).symm.trans<|(z.block j<|by omega).symm.trans hc;obtain⟨cur,anM⟩:=u.block h;have H:=(z.block j (u.lt j h).2).trans anM;have h2:=H.symm.trans hc;cases h2
    decide
    subst h;have h2:=y1.symm.trans hc;cases h2
    decide)
   clear z F y1 u hJ1
   go_region_held3 (λx=>x (r,5)=U (.func (.func 153) #[.pointer r] #[])/\x wr.heap.size=U (Ξ Ψ c0)/\x (wr.heap.size,1)=U (Ξ Ψ (c1:Int))/\x (wr.heap.size,2)=U (Ξ Ψ c2)/\x (wr.heap.size,3)=U (Ξ Ψ c3)) ((refine⟨?_,?_,?_,?_,?_⟩<;>(repeat (first|with_reducible assumption|with_reducible refine dO ?_))))
    ((go_at_call 153;(with_reducible refine(HDO.out _ _ (E.out.2.1.below (υ _ _).drew) (by simp;omega) (λj f=>by have:=HJ1.out j f;simpa using this) H3.out).mono ?_);rintro e w2 ⟨rfl,Q,hb2,X⟩;have y2:=(X wr (.inr rfl) (by simp;omega)).trans (E.out.2.2:_=U (Δ #[c0,c1,c2,c3] 44 (0,0)));have hp2:=Q.ptr.2.1;obtain⟨x0,x1,x2,x3⟩:=fZ y2;have y:=I Q;have HB2:=I hb2;have HF2:=I X;clear Q hb2 X y2))
   go_wp2_with fail
   obtain⟨p,q,m,K⟩:=D.out.root;dsimp only at m;have hfew:=D.out.wW;have ar7:=(Θ.1 m).1;have anN:=I K;obtain⟨gr,gm,z2,z3,A,hjg⟩:=y.out.JC m;have z1:=y.out.ptr.1;have aj3:=az z1;have anO:=az z2;have L:=az z3;have hbx2:=az x1;have S:=HB2.out.size;have C:OV w2 w u5 (sv.take k):=aS (a.out.1.below E.out.1) λg hg=>HF2.out g (.inl<|.inr hg) (by have:=HJ1.out g<|.inl<|.inr hg;simpa using this);have HO2:=I C;have n1:U r≠u5.ownBlock:=λe=>by have:=y.out.2.2.2 r<|.inl<|.inr e.symm;exact this rfl
   have n2:U b≠u5.ownBlock:=λe=>by have:=y.out.2.2.1.ne (j:=b)<|.inl<|.inr e.symm;exact this rfl
   have n3:U gr≠u5.ownBlock:=λe=>hjg gr (.inl<|.inr e.symm) rfl;have n4:U wr.heap.size≠u5.ownBlock:=λe=>by have:=(a.out.1.lt _ e.symm).2;omega
   have HN:=I<|Γ n1<|Γ n2<|Γ n3 n4;have hr0:(0:Int)<=(c1:Int):=by omega
   have F:(c1:Int)<((G<|k+1).g.roots.length:Int):=by omega
   clear K m hjg C n1 n2 n3 n4 x0 x2 x3;have HZ:=I<|Γ z1<|Γ z2<|Γ z3<|Γ A x1
   go_region_held_law (λx=>x r=U (.pointer b)/\x (b,2)=U (.slice gr (G<|k+1).g.roots.length gm)/\x (gr,c1*2)=U (Ξ Ψ p)/\x (gr,c1*2+1)=U (Ξ Ψ q)/\x (wr.heap.size,1)=U (Ξ Ψ (c1:Int)))
    ((refine⟨?_,?_,?_,?_,?_⟩<;>(repeat (first|with_reducible assumption|with_reducible refine dO ?_|with_reducible refine dB ?_))))
    (first
      |(refine aX rfl _ _ 23 (by rfl) u5 (.slice w4.heap.size 1 1) (by rfl) (by rfl) _ (nr (B:=w) (p:=s0) (q:=s1) (l:=sv.take k) (T.out.below<|af w4 _) (ψ w4 _) (by simp;omega) (by simp;omega)) ?_;intro v' w5 h5;obtain⟨Ro,n,gg,mg,rfl,O⟩:=h5;have g1:=(n.cell_far r (by simp;omega) HN.out.1).trans<|dB k1;have g2:=(n.cell_far (b,2) (by simp;omega) HN.out.2.1).trans<|dB k2;have g3:=(n.cell_far (gr,c1*2) (by simp;omega) HN.out.2.2.1).trans<|dB k3;have g4:=(n.cell_far (gr,c1*2+1) (by simp;omega) HN.out.2.2.1).trans<|dB k4;have g5:=(n.cell_far (wr.heap.size,1) (by simp;omega) HN.out.2.2.2).trans<|dB k5)
      |(go_at_call 154;(with_reducible refine(anN.out _ _ (y.out.below (υ _ _).drew)).mono ?_);rintro e w4 ⟨rfl,hb4⟩;have A:Y w2 w2 w4:=(υ _ _).drew.trans hb4;have hs4:=A.size;have k1:=cG A HZ.out.1 aj3;have k2:=cG A HZ.out.2.1 anO;have k3:=cG A HZ.out.2.2.1 L;have k4:=cG A HZ.out.2.2.2.1 L;have k5:=cG A HZ.out.2.2.2.2 hbx2;have T:=I (HO2.out.below A)))
   have HF:=I<|Γ Ro<|Γ n O;have hz4:=I A;clear g1 g2 g3 g4 g5 k1 k2 k3 k4 k5 z1 z2 z3 A x1 Ro n O
   go_wp2_with fail
   go_roundw
   case rel=>
    refine⟨k+1,by omega,by go_num,I ⟨?_,?_,?_,?_⟩⟩;rw[bW hs];have H:=HF.out.1;rw[show(List.take k sv).length=k by simp;omega]at H;exact H;refine(((y.out.below hz4.out).more.below<|af w4 _).grown HF.out.2.1 λj f=>⟨.inl<|.inl<|.inr f,(T.out.below<|af w4 _).block f⟩).sub λj f=>?_;obtain f|f:=f
    exact .inl<|.inl<|.inl f;have hgj:gg=j:=by have hj':U gg=U j:=f;exact Option.some.inj hj'
    subst hgj;obtain e|e:=HF.out.2.2
    exact .inl<|.inl<|.inr e;exact .inr (by rw[e];simp);exact((((a.out.2.2.1.trans<|E.out.1.mono<|by omega).trans<|(υ B w1).drew).trans HB2.out).trans<|hz4.out.mono (by simp at S;omega)).trans<|((af w4 _).mono (by simp at S;omega)).trans<|cM (T.out.below<|af w4 _) HF.out.2.1 (by simp;omega)|>.mono hB
    intro j f hl;have H:U j≠u5.ownBlock:=λe=>by have:=(a.out.1.lt _ e.symm).1;omega
    have h2:=HJ1.out j<|.inl<|.inl f;simp at S;exact(HF.out.2.1.block j (by simp;omega) H).trans<|((af w4 _).block j<|by omega).trans<|(hz4.out.block j<|by omega).trans<|(HF2.out j (.inl<|.inl f)<|by simpa using h2).trans<|(E.out.1.block j<|by omega).trans<|a.out.2.2.2 j f hl
   case measure=>simp[intOf];omega
  ·have hke:k=cs.length:=by omega
   subst hke
   go_wp2_with fail
   obtain⟨H,h2,h3,h4⟩:=a.out;rw[<-hsl,ZO]at H;go_ret;exact⟨⟨_,rfl,H.less hB⟩,h2.sub λj f=>.inl f,h3,h4⟩
def JD.below{w w' P f v l}(h:JD w P v l)(g:∀j,P j->f j/\w'.heap[j]?=w.heap[j]?):JD w' f v l:=by obtain⟨a,m,rfl,h⟩:=h;refine⟨a,m,rfl,λh0=>?_⟩;obtain⟨b,o,rfl,hb,d⟩:=h h0;obtain⟨n,k⟩:=g b hb;exact⟨b,o,rfl,n,λi c e=>by simpa only[φ,k]using d i c e⟩
def WR(w v lv g cs)(k:Nat->Md.RS)(sv:List HV)(hv:GV w v g)(hk:eC g)(hm:g.marked.length<=1000000)(hz:cN g=0)(O:JD w (λj=>j<w) lv cs)(hl:cs.length<=60)(T:sv.length=cs.length)(h0:k 0=⟨g,0,0,0,0⟩)(H:∀B n b (i:Nat) c s,cs[i]?=U c->sv[i]?=U s->Step B n b (k i) (k<|i+1) c s):
 ι prog 45 #[v,lv] w λe w'=>e=.returned (.tuple #[Ξ Ψ (k cs.length).minors,Ξ Ψ (k cs.length).uJ,Ξ Ψ (k cs.length).fk,Ξ Ψ (k cs.length).dA,Ξ Ψ 0])/\Y w w w':=by
 have hmf:∀(fn:Fn) (first cap:Array Value) (w:θ),(ZA fn first cap).run prog w=.ok (.func fn first cap) w:=λ_ _ _ _=>rfl;have HV:=I hv;have HK:=I hk;have HS:=I H;have HL:=I O;obtain⟨vn,o,r,wi,d,m,rfl,h1,h2,h3,h4,h5,h6⟩:=hv;obtain⟨la,lm,rfl,_⟩:=O;clear hk h1 h2 h3 h4 h5 h6 H
 go_enter_defers (fU func45 rfl),ntmps45
 go_wp2_with fail
 obtain⟨S,l,hz1⟩:=Ju w (Δ #[vn,o,r,wi,d,m] 26)<|Δ #[Ξ Ψ 0] 34;have p:=HV.out.below l;generalize (w.alloc _).alloc _=w1 at S l hz1 p⊢;have y:=I<|Γ l S;refine(Qx w1 _ g p HK.out hm hz (J:=λ_=>False) λ_ h=>h.elim).mono ?_;rintro e w2 ⟨⟨n,b,rfl,F⟩,A⟩;have hs2:=A.size;have z:=I A;have K:=I F;clear S l p A F
 go_wp2_with fail
 rw[show decide ((60:Int)<(cs.length:Int))=ζ by simp;omega]
 ((with_reducible refine(cd _ _).mono ?_))
 rintro e w3 ⟨rfl,G⟩;rw[<-G]at K z hs2;clear G
 go_wp2_with fail
 refine(JE w3 w1 n b _ cs k sv (J:=λ_=>False) (HL.out.below λj L=>⟨.inl<|by omega,(z.out.block j<|by omega).trans<|y.out.1.block j L⟩) (by rw[h0];exact K.out) (by omega) (λj L=>L.elim) (λj L=>L.elim) (by omega) T λi c s e1 e2=>HS.out _ _ _ i c s e1 e2).mono ?_;rintro e w4 ⟨⟨rv,rfl,E⟩,D,N,_⟩;have u:=z.out.trans N;have P:=(u.block _<|by omega).trans y.out.2;obtain⟨p0,p1,p2,p3,p4,_,hbr⟩:=D.all;obtain⟨ra,rm,rfl,_⟩:=aF E;have e0:=d7 P;have ef:=cD (i:=0) P;have hnb:¬w.heap.size+1=n:=by omega
 have HE:=I<|Γ u P;obtain⟨q,W⟩:∃q,q=k cs.length:=⟨_,rfl⟩;rw[<-W]at p1 p2 p3 p4;have C:=W.symm;clear D u P N E W;replace C:=I C
 go_wp2_with fail
 go_region_held3 (λx=>x ((n:Nat),1)=U (Ξ Ψ q.minors)/\x ((n:Nat),2)=U (Ξ Ψ q.uJ)/\x ((n:Nat),3)=U (Ξ Ψ q.fk)/\x ((n:Nat),4)=U (Ξ Ψ q.dA)) ((refine⟨?_,?_,?_,?_⟩<;>(repeat (first|with_reducible assumption|with_reducible refine dO ?_|with_reducible refine da hnb ?_)))) (fail)
 go_wp2_with fail
 obtain⟨s0,_,s2⟩:=jF HE.out.2;have t:=s2.drew;have a:(w4.setCell (w.heap.size+1:Nat)<|Ξ Ψ 0).drew.heap[w.heap.size+1]?=U (Δ #[Ξ Ψ 0] 34 (0,0)):=s0;clear s0 s2;generalize (w4.setCell (w.heap.size+1:Nat)<|Ξ Ψ 0).drew=w5 at a t⊢;refine Zn (f:=105) (args:=#[.pointer (w.heap.size+1:Nat)]) (by simp) (by simp[go_sem]) ?_;refine(ON (w.heap.size+1:Nat) (Ξ Ψ 0) _ (d7 a)<|cD a).mono ?_;rintro e u' w'' ⟨rfl,rfl,w9,X,rfl⟩;obtain⟨t1,t2⟩:=fz a X;have l4:=d7 t1;have Q:Y w w (w9.setCell (w.heap.size+1:Nat)<|Ξ Ψ 0):=(y.out.1.trans<|HE.out.1.mono<|by omega).trans<|(t.trans<|t2.mono t.size).mono (by have:=HE.out.1.size;omega);simp[YK,YJ,ZH,results45,go_sem,l4,C.out];exact Q
def ko(order:List HV)(stay n:Nat):HV:=if order.contains ((3,(n:Int)):HV)then(4,(stay:Int)+(order.idxOf ((3,(n:Int)):HV):Nat))else(2,0)
def sU{f:Nat->HV}(k):(κ<|k+1).map f=(κ k).map f++[f k]:=by rw[Yy,Z8];rfl
def O0(w v g order)(hv:GV w v g)(hk:eC g)(hm:g.marked.length<=1000000)(hz:cN g=0)(hp:im g)(ho:order=bV g dy (l1 g))(hl:¬32<g.old.length+order.length):
 ι prog 24 #[v] w λe w'=>(∃r,e=.returned (.tuple #[r,Ξ Ψ 0])/\eI w' r ((κ g.new.length).map<|ko order g.old.length))/\Y w w w':=by
 have hmf:∀(fn:Fn) (first cap:Array Value) (w:θ),(ZA fn first cap).run prog w=.ok (.func fn first cap) w:=λ_ _ _ _=>rfl;have HVV:=I hv;have HK:=I hk;have HP:=I hp;obtain⟨vn,o,r,wi,d,m,rfl,D,h2,h3,h4,h5,h6⟩:=hv;clear hk D h2 h3 h4 h5 h6 hp
 go_enter_defers (fU func24 rfl),ntmps24
 go_wp2_with fail
 obtain⟨y1,s,hz1⟩:=Ju w (Δ #[vn,o,r,wi,d,m] 26)<|Δ #[Ξ Ψ 0] 34;refine(sw _ _ g (HVV.out.below s) HK.out hz hm).mono ?_;rintro e w2 ⟨⟨b,rfl,S⟩,C⟩;have y2:=(C.block (w.heap.size+1)<|by omega).trans y1;have J:=s.trans<|C.mono s.size;have L:=I S;have j:=I<|Γ J y2;clear s C S y1 y2 J
 go_wp2_with fail
 refine(qe _ _ b g L.out HP.out).mono ?_;rintro e w3 ⟨⟨bs,bm,so,rfl,hs⟩,l⟩;rw[<-ho]at hs;have HS:=I hs;have h:=I<|Γ (j.out.1.trans<|l.mono j.out.1.size)<|(l.block _ (Ω.1 j.out.2).1).trans j.out.2;have T:=I<|L.out.below l;obtain⟨as0,ms0,N,_,_,_⟩:=aF hs.2.2.2.1;have c0:w3 bs=U (.slice as0 order.length ms0):=by simp[φ,hs.2.2.1,N]
 have hgd:¬(32:Int)<(g.old.length:Int)+(order.length:Int):=by omega
 have hol:=HK.out.bw;have hnl:=HK.out.news;have hw1:IntKind.i64.wrap ((g.old.length:Int)+(order.length:Int))=(g.old.length:Int)+(order.length:Int):=wrap_small _ (by omega) (by omega);clear hs l ho N
 go_wp2_with fail
 rw[show decide ((32:Int)<(g.old.length:Int)+(order.length:Int))=ζ by simp;omega]
 ((with_reducible refine(cd _ _).mono ?_))
 rintro e w4 ⟨rfl,G⟩;rw[<-G]at HS h T c0;clear G;obtain⟨n,oo,mm,row,hBb,O,⟨ao,mo,eo,_⟩,_⟩:=T.out;rw[aT]at eo;have d0:w4 b=U (.slice ao g.new.length mo):=by rw[<-eo];simp[φ,O]
 clear eo hBb O
 go_wp2_with fail
 go_loopw [2,34] (λo i wr=>∃(k:Nat),k<=g.new.length/\i=Ξ Ψ k/\Zf (OV wr w4 o ((κ k).map<|ko order g.old.length)/\Y w4 w4 wr)) (λ_ i _=>g.new.length-(intOf i).toNat)
 case atStart=>exact⟨0,by omega,rfl,I ⟨OV.nil _ _,υ _ _⟩⟩
 case round=>
  obtain⟨k,hk,rfl,a⟩:=hrel;by_cases hlt:k<g.new.length
  ·have hsr:=a.out.2.size;have H:=HS.out.Q4;have hbs:wr (bs,1)=U (.map<|U bm):=by have:=(a.out.2.block bs H.1).trans HS.out.2.2.1;simp[φ,this]
   have c:=fP (3,(k:Int))<|HS.out.2.2.2.2.of_block<|a.out.2.block bm H.2;unfold eB at c;dsimp only at c;by_cases y:((3,(k:Int)):HV)∈order
   ·simp only[y,if_true,decide_true]at c;have hid:=List.idxOf_lt_length_of_mem y;have P:ko order g.old.length k=(4,(g.old.length:Int)+(order.idxOf ((3,(k:Int)):HV):Nat)):=by simp[ko,y]
    have W:=I P;clear P y;generalize order.idxOf ((3,(k:Int)):HV)=ix at c hid W;have hw2:IntKind.i64.wrap ((g.old.length:Int)+(ix:Int))=(g.old.length:Int)+(ix:Int):=wrap_small _ (by omega) (by omega)
    go_wp2_with (refine YU λK Q=>aX rfl (.tmp 53) (.tmp 58) 23 (by rfl) u2 (.slice wr.heap.size 1 1) (by rfl) (by rfl) _ (nr (B:=w4) (p:=4) (q:=(g.old.length:Int)+(ix:Int)) (a.out.1.below<|af wr _) (ψ wr _) (by simp;omega) (by simp;omega)) ?_;intro v' w5 h5;obtain⟨x,E,gg,mg,rfl,_⟩:=h5;refine Q _ _ ?_;clear Q K)
    have u:Y w4 w4 w5:=(a.out.2.trans<|(af wr _).mono a.out.2.size).trans<|(cM (a.out.1.below<|af wr _) E (by have:=a.out.2.size;simp;omega))
    go_roundw
    case rel=>refine⟨k+1,by omega,by go_num,I ⟨?_,u⟩⟩;rw[sU,show ko order g.old.length k=(4,(g.old.length:Int)+(ix:Int))from W.out];have D:=x;simp only[ZQ,YI]at D;exact D
    case measure=>simp[intOf];omega
   ·simp only[y,if_false,decide_false]at c;have W:=I (show ko order g.old.length k=(2,0) by simp[ko,y]);clear y
    go_wp2_with (refine YU λK Q=>aX rfl (.tmp 49) (.tmp 51) 23 (by rfl) u2 (.slice wr.heap.size 1 1) (by rfl) (by rfl) _ (nr (B:=w4) (p:=2) (q:=0) (a.out.1.below<|af wr _) (ψ wr _) (by simp;omega) (by simp;omega)) ?_;intro v' w5 h5;obtain⟨x,E,gg,mg,rfl,_⟩:=h5;refine Q _ _ ?_;clear Q K)
    have u:Y w4 w4 w5:=(a.out.2.trans<|(af wr _).mono a.out.2.size).trans<|(cM (a.out.1.below<|af wr _) E (by have:=a.out.2.size;simp;omega))
    go_roundw
    case rel=>refine⟨k+1,by omega,by go_num,I ⟨?_,u⟩⟩;rw[sU,show ko order g.old.length k=(2,0)from W.out];have D:=x;simp only[ZQ,YI]at D;exact D
    case measure=>simp[intOf];omega
  ·have hke:k=g.new.length:=by omega
   subst hke;clear hlt;have y5:=(a.out.2.block (w.heap.size+1) (Ω.1 h.out.2).1).trans h.out.2;have e0:=d7 y5;have ef:=cD (i:=0) y5;have HY:=I y5;have hsl:w.heap.size<=w4:=h.out.1.size;clear y5
   go_wp2_with fail
   obtain⟨X,_,s2⟩:=jF HY.out;have t:=a.out.1.reads.below s2;have z:=((h.out.1.trans<|a.out.2.mono hsl)).trans<|s2.mono (by have:=a.out.2.size;omega);generalize wr.setCell (w.heap.size+1:Nat) (Ξ Ψ 0)=w5 at X s2 t z⊢;refine Zn (f:=80) (args:=#[.pointer (w.heap.size+1:Nat)]) (by simp) (by simp[go_sem]) ?_;refine(WI (w.heap.size+1:Nat) (Ξ Ψ 0) _ (d7 X)<|cD X).mono ?_;rintro e u' w'' ⟨rfl,rfl,w9,BP,rfl⟩;obtain⟨t1,t2⟩:=fz X BP;have l4:=d7 t1;have A:=t.below t2;have F:=z.trans<|t2.mono z.size;simp[YK,YJ,ZH,results24,go_sem,l4];exact⟨A,F⟩
def sV(m:List Int):GH:=⟨[(0,[(3,2)]),(0,[(0,5)]),(0,[(4,1)]),(1,[(3,1)])],[(0,[(3,3)]),(0,[]),(0,[(3,1)])],[(3,0),(4,1),(0,7),(2,0)],[],[],m⟩
def ee:GH:=sV [0,2]
def cB:eC ee where
 cells:=by decide
 news:=by decide
 bw:=by decide
 four:=by decide
 roots:=by decide
 aA:=⟨by decide,λi v h=>by cases h⟩
 done:=⟨by decide,λi v h=>by cases h⟩
def KA:cN ee=0/\cN (sV [2])=11/\cN (sV [2,0])=14/\cN (sV [0,3])=9:=by decide
def JM(g:GH):Bool:=(g.new++g.old).all (λc=>c.2.all λv=>mh g v==0)&&(cJ g).all λv=>mh g v==0
def wS{g:GH}(h:JM g=R)(i:g.new.length<=8)(e:g.old.length<=32)(f:g.roots.length<=4)(hw:g.aA.length<=40)(hd:g.done.length<=40)(a:∀c∈g.new++g.old,c.2.length<=4)(b:∀n∈g.marked,0<=n/\n<g.old.length)(d:g.marked.length<=32):im g where
 cells:=λc hc v a=>by unfold JM at h;simp only[YB,YA,beq_iff_eq]at h;exact pY<|h.1 c hc v a
 cJ:=λv a=>by unfold JM at h;simp only[YB,YA,beq_iff_eq]at h;exact pY<|h.2 v a
 news:=by omega
 bw:=by omega
 roots:=by omega
 aA:=by omega
 done:=by omega
 eT:=λc hc=>by have:=a c hc;omega
 marks:=b
 marked:=by omega
def sW:im ee:=wS rfl (by decide) (by decide) (by decide) (by decide) (by decide) (by decide) (by decide) (by decide)
def Al:GH:=⟨[],[(0,[(4,2)]),(0,[]),(0,[(4,1)])],[(4,0),(4,1),(0,7),(2,0)],[],[],[]⟩
def B9:List HV:=[(3,0),(3,3),(3,1),(3,2)]
def JN:Md.collect .full ee=U (3,Al):=by kernel_rfl
def Fg:B9=bV ee dy (l1 ee):=by kernel_rfl
def mS(r:Md.RS):Md.RS:=Md.el (Jz r 1) 2 (3,(r.g.new.length:Int))
def r0:Md.RS:=⟨ee,0,0,0,0⟩
def r4:Md.RS:=mS<|mS<|mS<|mS r0
def Ca:GH:=⟨[],[(0,[(4,5)]),(0,[]),(0,[(4,6)]),(0,[(4,7)]),(0,[(0,0)]),(1,[(4,6)]),(0,[(0,5)]),(0,[(4,1)])],[(4,3),(4,1),(4,4),(2,0)],[],[],[]⟩
def JP:Md.collect .minor r4.g=U (5,Ca):=by kernel_rfl
def r4':Md.RS:=⟨Ca,1,0,0,5⟩
def r5:Md.RS:=mS r4'
def g5:GH:=⟨[(0,[(0,0)])],[(0,[(4,5)]),(0,[]),(0,[(4,6)]),(0,[(4,7)]),(0,[(0,0)]),(1,[(4,6)]),(0,[(0,5)]),(0,[(4,1)])],[(4,3),(4,1),(3,0),(2,0)],[],[],[]⟩
def Q':r5=⟨g5,1,0,0,5⟩:=by kernel_rfl
def JQ:GH:=⟨[(0,[(0,0)])],[(3,[]),(0,[]),(3,[]),(0,[(4,7)]),(3,[]),(3,[]),(3,[]),(0,[(4,1)])],[(4,3),(4,1),(3,0),(2,0)],[],[],[]⟩
def JR:Md.iF g5=JQ:=by kernel_rfl
def Cb:GH:=⟨[],[(0,[(4,3)]),(0,[]),(0,[(0,0)]),(0,[(4,1)])],[(4,0),(4,1),(4,2),(2,0)],[],[],[]⟩
def JS:Md.collect .major g5=U (4,Cb):=by kernel_rfl
def ns:PH:=⟨[(0,[(1,5)]),(0,[]),(0,[(1,6)]),(0,[(1,7)]),(0,[(0,0)]),(1,[(1,6)]),(0,[(0,5)]),(0,[(1,1)]),(0,[(0,0)])],[(1,3),(1,1),(1,8),(2,0)],[],[]⟩
def Am:plain g5=ns:=by kernel_rfl
def O1:im r4.g:=wS rfl (by decide) (by decide) (by decide) (by decide) (by decide) (by decide) (by decide) (by decide)
def O2:im JQ:=wS rfl (by decide) (by decide) (by decide) (by decide) (by decide) (by decide) (by decide) (by decide)
def ahY:Fit ns where
 ok:=⟨12,1,{
  fin:=by decide+kernel
  refs:=by decide+kernel
  short:=by decide+kernel
  grow:=by decide+kernel
  stop:=by decide+kernel
  sM:=by decide+kernel
  pos:=by decide+kernel
  agd:=by decide+kernel
  Wu:=by decide+kernel
  kinds:=by decide+kernel
  wW:=by decide+kernel},by kernel_rfl⟩
 nodup:=by decide+kernel
 cells:=by decide
def ahZ:Fit (dI ns) where
 ok:=⟨12,1,{
  fin:=by decide+kernel
  refs:=by decide+kernel
  short:=by decide+kernel
  grow:=by decide+kernel
  stop:=by decide+kernel
  sM:=by decide+kernel
  pos:=by decide+kernel
  agd:=by decide+kernel
  Wu:=by decide+kernel
  kinds:=by decide+kernel
  wW:=by decide+kernel},by kernel_rfl⟩
 nodup:=by decide+kernel
 cells:=by decide
def sw5:Jn g5 where
 small:=⟨by unfold Sm;decide,by unfold Sm;decide,by unfold Sm;decide,by unfold Sm;decide,by decide,by decide⟩
 how:=by rw[Am];exact⟨by decide+kernel,by decide+kernel,by decide,by decide,by decide+kernel,by decide,by decide,by decide,by decide,by decide,by decide⟩
 afA:=by rw[Am];exact⟨ahY,ahZ,by decide,rfl⟩
 res:=by rw[Am];exact⟨by unfold Sm;decide+kernel,by decide+kernel,by unfold Sm;decide+kernel,by unfold Sm;decide+kernel,by unfold Sm;decide+kernel⟩
section
variable{br:Nat}{r:Md.RS}{b B:Nat}
def py{r':Md.RS}{k:Nat}{p q:Int}(m:r.g.roots[2]?=U (p,q))(e:r.g.roots.length<=1000)(f:Roomy r r')(hz:Aj k)(i:k<=4)(n:r'.g.new.length<=900)(a:2<r'.g.roots.length)(c:r'.g.roots.length<=1000):
 Step B br b r (Md.el (Jz r' k) 2 (3,(r'.g.new.length:Int))) (0,2,(k:Int),0) (1,(k:Int)) where
 OU:=λw J d j l _=>JA w B br b 2 k r r' p q d j l m e f hz i (by omega) a
 root:=by
  refine⟨3,(r'.g.new.length:Int),?_,λw J d=>?_⟩;show(r'.g.roots.set 2 (3,(r'.g.new.length:Int)))[2]?=_;rw[ZV a];have h:=Fa w B br b r'.g.new.length _ 0 (ZS k (0,0)) d (by
   show(r'.g.new++[(0,ZS k (0,0))])[r'.g.new.length]?=_;simp) (by omega) (by simp;omega) (by
   show(r'.g.new++[(0,ZS k (0,0))]).length<=_;simp;omega)
  simpa using h
 wW:=by show(r'.g.roots.set 2 (3,(r'.g.new.length:Int))).length<=_;simpa using c
def An(h:r.g.new.length<8):Roomy r r:=.inl ⟨h,rfl⟩
def JT:Roomy r4 r4':=.inr ⟨by decide,by decide,O1,5,Ca,JP,rfl,by decide,by decide,by decide⟩
def qQ{p q}(h:r.g.new.length<8)(d:r.g.roots[2]?=U (p,q))(a:r.g.roots.length<=1000)(c:2<r.g.roots.length):Step B br b r (mS r) (0,2,1,0) (1,1):=py d a (An h) Jy (by omega) (by omega) c a
def WS:Step B br b r4 r5 (0,2,1,0) (1,1):=py (r':=r4') rfl (by decide) JT Jy (by omega) (by decide) (by decide) (by decide)
def r6:Md.RS:=⟨Cb,1,0,1,9⟩
def Cc:Step B br b r5 r6 (10,0,0,0) (1,1) where
 OU:=λw J a c d _=>by rw[Q']at a;exact E' w B br b 4 _ Cb 4 3 0 a c d rfl (by decide) sw5 (by rw[JR];exact O2) JS (by decide) (by decide) (by decide)
 root:=⟨4,0,by decide,λw J a=>by simpa using (ve w B br b 0 _ 0 [(4,3)] a rfl (by decide) (by decide) (by decide))⟩
 wW:=by decide
def rsM:Nat->Md.RS
 |0=>r0|1=>mS r0|2=>mS (mS r0)|3=>mS (mS<|mS r0)|4=>r4|_=>r5
def WU:List C4:=[(0,2,1,0),(0,2,1,0),(0,2,1,0),(0,2,1,0),(0,2,1,0)]
def Fi:List HV:=[(1,1),(1,1),(1,1),(1,1),(1,1),(1,1)]
def adI{c}(h:∀B e b,Step B e b r5 r c (1,1))(B e b i f s)(d:(WU++[c])[i]?=U f)(a:Fi[i]?=U s):Step B e b (if i<6 then rsM i else r) (if i+1<6 then rsM (i+1)else r) f s:=by
 match i,d,a with
 |0,d,a=>cases d;cases a;exact qQ (r:=r0) (p:=0) (q:=7) (by decide) rfl (by decide) (by decide)
 |1,d,a=>cases d;cases a;exact qQ (r:=mS r0) (p:=3) (q:=4) (by decide) (by decide) (by decide) (by decide)
 |2,d,a=>cases d;cases a;exact qQ (r:=mS<|mS r0) (p:=3) (q:=5) (by decide) (by decide) (by decide) (by decide)
 |3,d,a=>cases d;cases a;exact qQ (r:=mS<|mS<|mS r0) (p:=3) (q:=6) (by decide) (by decide) (by decide) (by decide)
 |4,d,a=>cases d;cases a;exact WS
 |5,d,a=>cases d;cases a;exact h B e b
 |n+6,d,a=>simp[Fi]at a
end
section
variable{v:Value}(w:θ)
def wT{w:θ}{e size n xs a}(c:a.toList=xs)(b:xs.length=n*size)(d:n<=1000000):(w.alloc<|.cells a e).ownsRow w e size (.slice w.heap.size n n) n xs:=by
 have hs:a.size=n*size:=by rw[<-b,<-c];simp
 exact⟨b,.inr ⟨w.heap.size,n,a,rfl,.refl,ψ _ _,.refl,by unfold Zq;omega,hs,by rw[c,<-b,ZO]⟩⟩
def Cd(l a n)(b:l.length=n)(c:a.toList=l.flatMap lU)(d:n<=1000):OV (w.alloc<|.cells a 50) w (.slice w.heap.size n n) l:=by subst b;exact wT c (fx l) (by omega)
def JV(l b n)(e:l.length=n)(c:b.toList=l.flatMap eP)(f:n<=1000):OI (w.alloc<|.cells b 3) w (.slice w.heap.size n n) l:=by
 subst e;exact wT c (by rw[<-c];rw[c];clear c;induction l with
  |nil=>rfl
  |cons a l d=>simp at d⊢;rw[d (by grind)];simp[eP];omega) (by omega)
def WV(l a n)(b:l.length=n)(c:a.toList=l.flatMap dW)(d:n<=1000):OC (w.alloc<|.cells a 76) w (.slice w.heap.size n n) l:=by subst b;exact wT c (iu l) (by omega)
def aY.nil:aY w [] []:=⟨rfl,λi k v a b e=>by simp at e⟩
def aY.cons{w k vs l cs}(h:eI w v vs)(b:aY w l cs):aY w ((k,v)::l) ((k,vs)::cs):=by
 refine⟨by simp[b.1],λi c v1 d a e1 e2=>?_⟩;cases i with
 |zero=>grind
 |succ i=>exact b.2 i c v1 d a (by grind) (by grind)
def isn:By w () []:=(OI.nil w 0).reads
def csn:sa w () []:=⟨Z,0,rfl,.refl,by omega,λh=>absurd h<|Nat.lt_irrefl 0⟩
def mK(n:Int):ι prog 56 #[n] w λe w'=>e=.returned (.agg #[Ξ Ψ 0,n])/\Y w w w':=aeR w n
def Kg(n:Int):ι prog 61 #[n] w λe w'=>e=.returned (.agg #[Ξ Ψ 3,n])/\Y w w w':=NV w n
def eF(n:Int):ι prog 59 #[n] w λe w'=>e=.returned (.agg #[Ξ Ψ 4,n])/\Y w w w':=aeS w n
def sY:ι prog 58 #[] w λe w'=>e=.returned (.agg #[Ξ Ψ 2,Ξ Ψ 0])/\Y w w w':=V0 w
def dd(a n m):ι prog 55 #[.slice a n m] w λe w'=>e=.returned (.agg #[Ξ Ψ 0,.slice a n m])/\Y w w w':=aeT w _ a n m rfl
def DH(p q:Int):ι prog 57 #[.agg #[p,q]] w λe w'=>(∃b,e=.returned (.agg #[Ξ Ψ 1,.slice (b:Nat) 1 1])/\eI w' (.slice (b:Nat) 1 1) [(p,q)])/\Y w w w':=by
 go_enter (fU func57 rfl),ntmps57
 go_wp2_with fail
 have h:=Cd ((w.alloc<|Δ #[p,q] 50).alloc<|Δ #[Ξ Ψ 1,.slice (w.heap.size+1+1:Nat) 1 1] 76) [(p,q)] #[p,q] 1 rfl rfl (by omega);obtain⟨a,_,hb,hz⟩:=al3 w (Δ #[p,q] 50) (Δ #[Ξ Ψ 1,.slice (w.heap.size+1+1:Nat) 1 1] 76)<|Δ #[p,q] 50;rw[show((w.alloc<|Δ #[p,q] 50).alloc<|Δ #[Ξ Ψ 1,.slice (w.heap.size+1+1:Nat) 1 1] 76).heap.size=w.heap.size+1+1 by simp]at h;generalize ((w.alloc _).alloc _).alloc _=c at h a hb hz⊢;refine ZE (v:=.agg #[Ξ Ψ 1,.slice (w.heap.size+1+1:Nat) 1 1]) (by simp[ZH,results57,go_sem,φ,a]) rfl ⟨⟨_,rfl,h.reads⟩,hb⟩
def KW(c:C4):List Value:=[Ξ Ψ c.1,(c.2.1:Int),Ξ Ψ c.2.2.1,Ξ Ψ c.2.2.2]
def OM(w:θ)(B:Nat)(v:Value)(l:List C4):Prop:=w.ownsRow B 44 4 v l.length<|l.flatMap KW
def WW:(prog.info? 44).map (λi=>(i.zero,i.size,i.bytes))=U (U<|.agg #[Ξ Ψ 0,Ξ Ψ 0,Ξ Ψ 0,Ξ Ψ 0],4,32):=by kernel_rfl
def afJ:prog.underlying 48=U (.slice 44):=by kernel_rfl
def sZ{w ty}{B bx:Nat}{l c t fr}(h:OM w B v l)(b:w.heap[bx]?=U (Δ #[Ξ Ψ c.1,(c.2.1:Int),Ξ Ψ c.2.2.1,Ξ Ψ c.2.2.2] t fr))(s:l.length<=1000000)(p:B<=w):
 ∃e w',(ZJ #[48,48] ty #[v,.slice bx 1 1]).run prog w=.ok e w'/\(OM w' B e (l++[c])/\w.grownBy w' v.ownBlock/\∃g q,e=.slice (g:Nat) (l.length+1) q/\(v.ownBlock=U g\/g=w)):=by
 obtain⟨n,hi,f,i,d⟩:=Zp WW;obtain⟨g,o,w',k,x,r,h3,h4⟩:=run_append_lies (P:=prog) w 48 ty B 44 n _ 4 32 afJ hi f i d rfl (by decide) v l.length _ h bx 1 1 (KW c) rfl (λj u a=>by
  match j,a with
  |0,a=>cases a;simp[φ,b,ZL]
  |1,a=>cases a;simp[φ,b,ZL]
  |2,a=>cases a;simp[φ,b,ZL]
  |3,a=>cases a;simp[φ,b,ZL]
  |j+4,a=>simp[KW]at a) (λu m=>by
  simp[KW]at m;obtain rfl|rfl|rfl|rfl:=m<;>rfl) (by omega) (by unfold Zq;omega) (by omega) p _ rfl
 unfold OM
 grind
theorem Ra:∀(l:List C4) (i:Nat) (c:C4),l[i]?=U c->(l.flatMap KW)[i*4]?=U (Ξ Ψ c.1)/\(l.flatMap KW)[i*4+1]?=U (Ξ Ψ (c.2.1:Int))/\(l.flatMap KW)[i*4+2]?=U (Ξ Ψ c.2.2.1)/\(l.flatMap KW)[i*4+3]?=U (Ξ Ψ c.2.2.2)
 |[],i,c,h=>by simp at h
 |b::l,0,c,h=>by simp at h;subst h;simp[KW]
 |b::l,i+1,c,h=>by obtain⟨a,d,h3,h4⟩:=Ra l i c (by simpa using h);rw[List.flatMap_cons,show(i+1)*4=i*4+1+1+1+1 by omega];exact⟨a,d,h3,h4⟩
def OM.reads{w B l}(h:OM w B v l):JD w (λj=>j<w) v l:=by obtain⟨a,m,rfl,_,_,k⟩:=aF h;refine⟨a,m,rfl,λh0=>?_⟩;obtain⟨g,rfl,_,f,_,hc⟩:=k h0;refine⟨g,0,rfl,f,λi c e=>?_⟩;obtain⟨d,b,h3,h4⟩:=Ra l i c e;simp only[Nat.zero_add];exact⟨hc _ _ d,hc _ _ b,hc _ _ h3,hc _ _ h4⟩
def O5(bx:Nat)(c){t fr}(n:w.heap[bx]?=U (Δ #[Ξ Ψ c.1,(c.2.1:Int),Ξ Ψ c.2.2.1,Ξ Ψ c.2.2.2] t fr)):
 ι prog 62 #[Ξ Ψ 5,.slice bx 1 1] w λe w'=>(∃r,e=.returned r/\OM w' w r (WU++[c]))/\Y w w w':=by
 have z:=I n;have j:=(Ω.1 n).1;clear n
 go_enter (fU func62 rfl),ntmps62
 go_wp2_with fail
 go_loopw [5,6] (λo i wr=>∃(k:Nat),k<=5/\i=Ξ Ψ k/\Zf (OM wr w o (WU.take k)/\Y w w wr)) (λ_ i _=>5-(intOf i).toNat)
 case atStart=>exact⟨0,by omega,rfl,I ⟨YL _ _ _ _,υ _ _⟩⟩
 case round=>
  obtain⟨k,A,rfl,a⟩:=hrel;have f:=a.out.2.size;by_cases m:k<5
  ·have q:(k:Int)<5:=by omega
   go_wp2_with (refine YU λK g=>aX rfl (.tmp 12) (.tmp 14) 48 (by rfl) u5 (.slice wr.heap.size 1 1) (by rfl) (by rfl) _ (sZ (B:=w) (c:=(0,2,1,0)) (jy a.out.1<|af wr _) (ψ wr _) (by simp;omega) (by simp;omega)) ?_;intro y w5 h5;obtain⟨b,d,u,v,rfl,_⟩:=h5;refine g _ _ ?_;clear g K)
   have h:=(a.out.2.trans<|(af wr _).mono a.out.2.size).trans<|(cM (jy a.out.1<|af wr _) d (by have:=a.out.2.size;simp;omega))
   go_roundw
   case rel=>
    refine⟨k+1,by omega,by go_num,I ⟨?_,h⟩⟩;rw[bW (l:=WU) (k:=k) (x:=(0,2,1,0)) (by match k,m with
     |0,_=>rfl
     |1,_=>rfl
     |2,_=>rfl
     |3,_=>rfl
     |4,_=>rfl)]
    have s:=b;simp only[YG]at s;exact s
   case measure=>simp[intOf];omega
  ·have p:k=5:=by omega
   subst p
   go_wp2_with (refine YU λK g=>aX rfl (.tmp 16) (.tmp 17) 48 (by rfl) u5 (.slice bx 1 1) (by rfl) (by rfl) _ (sZ (B:=w) (c:=c) a.out.1 ((a.out.2.block bx j).trans z.out) (by decide) f) ?_;intro y w5 h5;obtain⟨b,d,u,v,rfl,_⟩:=h5;refine g _ _ ?_;clear g K)
   go_ret;exact⟨⟨_,rfl,b⟩,a.out.2.trans<|cM a.out.1 d f⟩
def m1{P}{f n:Nat}{a w x Q}(h:ι P f a w λe w'=>e=x/\Y n w w')(k:∀w',Zf (Y n w w') ->Q x w'):ι P f a w Q:=h.mono λe w' b=>by obtain⟨rfl,hb⟩:=b;exact k _ hb
def m2{c:Type}{P}{f n:Nat}{a w}{x:c->Ending}{b:c->θ->Prop}{Q}(h:ι P f a w λe w'=>(∃v,e=x v/\b v w')/\Y n w w')(k:∀v w',Zf (b v w') ->Zf (Y n w w') ->Q (x v) w'):ι P f a w Q:=h.mono λe w' d=>by obtain⟨⟨v,rfl,g⟩,hb⟩:=d;exact k _ _ g hb
def DI(o):Zf ((w.alloc o).heap[w.heap.size]?=U o)/\Zf (Y w w<|w.alloc o)/\(w.alloc o).heap.size=w.heap.size+1:=⟨ψ w o,af w o,by simp⟩
def nt(l a n)(c:l.length=n)(d:a.toList=l.flatMap lU)(b:n<=1000):Zf (OV (w.alloc<|.cells a 50) w (.slice w.heap.size n n) l)/\Zf (Y w w<|w.alloc<|.cells a 50)/\(w.alloc<|.cells a 50).heap.size=w.heap.size+1:=⟨Cd w l a n c d b,af _ _,by simp⟩
def WX(l a n)(c:l.length=n)(d:a.toList=l.flatMap dW)(b:n<=1000):Zf (OC (w.alloc<|.cells a 76) w (.slice w.heap.size n n) l)/\Zf (Y w w<|w.alloc<|.cells a 76)/\(w.alloc<|.cells a 76).heap.size=w.heap.size+1:=⟨WV w l a n c d b,af _ _,by simp⟩
def bx{a b l:θ}(h:Zf (Y a a b))(c:Y b b l):Y a a l:=h.out.trans<|c.mono h.out.size
end
def wU(w:θ)(e:Ending)(w':θ):Prop:=∃bn bo br bm ln wa,e=.returned (.agg #[.slice (bn:Nat) 4 4,.slice (bo:Nat) 3 3,.slice (br:Nat) 4 4,(),(),.slice (bm:Nat) 2 2])/\
 OC wa w (.slice (bn:Nat) 4 4) ln/\aY wa ln ee.new/\sa wa (.slice (bo:Nat) 3 3) ee.old/\OV w' wa (.slice (br:Nat) 4 4) ee.roots/\OI w' wa (.slice (bm:Nat) 2 2) [0,2]/\Y w w wa/\Y wa wa w'
def JW(w):ι prog 52 #[] w λe w'=>wU w e w':=by
 go_enter (fU func52 rfl),ntmps52
 go_wp2_with fail
 have N:=af w<|Δ #[(),(),(),(),(),()] 26;have y0:=ψ w<|Δ #[(),(),(),(),(),()] 26;have hz0:(w.alloc<|Δ #[(),(),(),(),(),()] 26).heap.size=w.heap.size+1:=by simp
 generalize w.alloc _=p0 at N y0 hz0⊢;have HY:=I<|Γ N y0;clear N y0;refine m1 (Kg _ 2) λp1 hp1=>?_
 go_wp2_with fail
 have⟨fp2,H,zp2⟩:=nt p1 [(3,2)] #[Ξ Ψ 3,Ξ Ψ 2] 1 rfl rfl (by omega);generalize p1.alloc _=p2 at fp2 H zp2⊢;refine m1 (dd _ p1.heap.size 1 1) λp3 X=>?_
 go_wp2_with fail
 refine m1 (mK _ 5) λp4 hp4=>?_
 go_wp2_with fail
 have⟨fp5,L,zp5⟩:=nt p4 [(0,5)] #[Ξ Ψ 0,Ξ Ψ 5] 1 rfl rfl (by omega);generalize p4.alloc _=p5 at fp5 L zp5⊢;refine m1 (dd _ p4.heap.size 1 1) λp6 KY=>?_
 go_wp2_with fail
 refine m1 (eF _ 1) λp7 Rb=>?_
 go_wp2_with fail
 have⟨fp8,K,zp8⟩:=nt p7 [(4,1)] #[Ξ Ψ 4,Ξ Ψ 1] 1 rfl rfl (by omega);generalize p7.alloc _=p8 at fp8 K zp8⊢;refine m1 (dd _ p7.heap.size 1 1) λp9 KZ=>?_
 go_wp2_with fail
 refine m1 (Kg _ 1) λp10 z=>?_
 go_wp2_with fail
 refine m2 (DH _ 3 1) λbb b W B=>?_
 go_wp2_with fail
 have⟨h,A,anX⟩:=WX b [(0,.slice p1.heap.size 1 1),(0,.slice p4.heap.size 1 1),(0,.slice p7.heap.size 1 1),(1,.slice (bb:Nat) 1 1)] #[Ξ Ψ 0,.slice p1.heap.size 1 1,Ξ Ψ 0,.slice p4.heap.size 1 1,Ξ Ψ 0,.slice p7.heap.size 1 1,Ξ Ψ 1,.slice (bb:Nat) 1 1] 4 rfl rfl (by omega);generalize b.alloc _=p12 at h A anX⊢;refine m1 (Kg _ 3) λj PE=>?_
 go_wp2_with fail
 have⟨y,q,O6⟩:=nt j [(3,3)] #[Ξ Ψ 3,Ξ Ψ 3] 1 rfl rfl (by omega);generalize j.alloc _=p14 at y q O6⊢;refine m1 (dd _ j.heap.size 1 1) λp15 T=>?_
 go_wp2_with fail
 refine m1 (dd _ Z 0 0) λp16 Fj=>?_
 go_wp2_with fail
 refine m1 (Kg _ 1) λm J7=>?_
 go_wp2_with fail
 have⟨p,x,anY⟩:=nt m [(3,1)] #[Ξ Ψ 3,Ξ Ψ 1] 1 rfl rfl (by omega);generalize m.alloc _=p18 at p x anY⊢;refine m1 (dd _ m.heap.size 1 1) λc Fk=>?_
 go_wp2_with fail
 have⟨D,E,O7⟩:=WX c [(0,.slice j.heap.size 1 1),(0,()),(0,.slice m.heap.size 1 1)] #[Ξ Ψ 0,.slice j.heap.size 1 1,Ξ Ψ 0,(),Ξ Ψ 0,.slice m.heap.size 1 1] 3 rfl rfl (by omega);generalize c.alloc _=p20 at D E O7⊢;refine m1 (Kg _ 0) λp21 Fl=>?_
 go_wp2_with fail
 refine m1 (eF _ 1) λp22 Fm=>?_
 go_wp2_with fail
 refine m1 (mK _ 7) λp23 Fo=>?_
 go_wp2_with fail
 refine m1 (sY _) λa P=>?_;have Ce:=υ a a;have Ch:=bx P Ce;have Fp:=bx Fo Ch;have Q:=bx Fm Fp;have F:=bx Fl Q;have O8:=bx E F;have s:=bx Fk O8;have Ci:=bx x s;have ahb:=bx J7 Ci;have Fq:=bx Fj ahb;have u:=bx T Fq;have O9:=bx q u;have o:=bx PE O9;have t:=bx A o;have cp10:=bx B t;have cp9:=bx z cp10;have cp8:=bx KZ cp9;have Rc:=bx K cp8;have cp6:=bx Rb Rc;have cp5:=bx KY cp6;have cp4:=bx L cp5;have cp3:=bx hp4 cp4;have cp2:=bx X cp3;have cp1:=bx H cp2;have G:=bx hp1 cp1;have hlt:=(Ω.1 HY.out.2).1;have O:=(G.block w hlt).trans HY.out.2;have hlt2:=Nat.lt_of_lt_of_le hlt G.size;obtain⟨d,f⟩:=JJ O;have d0:=d 0 (by omega);have t0:=f 0;have d1:=d 1 (by omega);have t1:=f 1;have d2:=d 2 (by omega);have t2:=f 2;have d3:=d 3 (by omega);have t3:=f 3;have d4:=d 4 (by omega);have t4:=f 4;have d5:=d 5 (by omega);have t5:=f 5;have HH:=I O;clear d f O
 go_wp2_with fail
 clear d0 d1 d2 d3 d4 d5 t0 t1 t2 t3 t4 t5;rw[show((((((a.setCell w.heap.size<|.slice b.heap.size 4 4).setCell (w.heap.size,1)<|.slice c.heap.size 3 3).setCell (w.heap.size,2)<|.slice a.heap.size 4 4).setCell (w.heap.size,3) ()).setCell (w.heap.size,4) ()).setCell (w.heap.size,5)<|.slice (a.heap.size+1:Nat) 2 2)=io a w (.slice b.heap.size 4 4) (.slice c.heap.size 3 3) (.slice a.heap.size 4 4) () () (.slice (a.heap.size+1:Nat) 2 2)from rfl];have O:=HH.out;obtain⟨a1,a2,a3,a4⟩:=kn (v0:=.slice b.heap.size 4 4) (v1:=.slice c.heap.size 3 3) (v2:=.slice a.heap.size 4 4) (v3:=()) (v4:=()) (v5:=.slice (a.heap.size+1:Nat) 2 2) O;have r:=ahA (v0:=.slice b.heap.size 4 4) (v1:=.slice c.heap.size 3 3) (v2:=.slice a.heap.size 4 4) (v3:=()) (v4:=()) (v5:=.slice (a.heap.size+1:Nat) 2 2) O;have n:aY a _ _:=(aY.cons (k:=0) (OV.reads<|OV.below fp2.out cp2)<|aY.cons (k:=0) (OV.reads<|OV.below fp5.out cp5)<|aY.cons (k:=0) (OV.reads<|OV.below fp8.out cp8)<|aY.cons (k:=1) (W.out.below t)<|aY.nil _);have J:aY a _ _:=(aY.cons (k:=0) (OV.reads<|OV.below y.out u)<|aY.cons (k:=0) dv<|aY.cons (k:=0) (OV.reads<|OV.below p.out s)<|aY.nil _);have hcs:=(OC.reads (OC.below D.out F) J).off r;have l:aY (io a w (.slice b.heap.size 4 4) (.slice c.heap.size 3 3) (.slice a.heap.size 4 4) () ()<|.slice (a.heap.size+1:Nat) 2 2) _ _:=⟨n.1,λi k v k' vs e1 e2=>⟨(n.2 i k v k' vs e1 e2).1,(n.2 i k v k' vs e1 e2).2.off r⟩⟩;have hoc:=OC.below h.out o;have S:=υ b b;have anZ:=bx B S;have kp9:=bx z anZ;have kp8:=bx KZ kp9;have kp7:=bx K kp8;have kp6:=bx Rb kp7;have kp5:=bx KY kp6;have kp4:=bx L kp5;have kp3:=bx hp4 kp4;have kp2:=bx X kp3;have kp1:=bx H kp2;have kp0:=bx hp1 kp1;have C:OC (io a w (.slice b.heap.size 4 4) (.slice c.heap.size 3 3) (.slice a.heap.size 4 4) () () (.slice (a.heap.size+1:Nat) 2 2)) w _ _:=eV (aS hoc λg hg=>a2 g λe=>by have:=(h.out.lt g hg).1;have h0:=kp0.size;omega) (by have:=kp0.size;omega)
 have hbw:=(HY.out.1.trans<|G.mono HY.out.1.size).trans<|a4 _ .refl;generalize io a w (.slice b.heap.size 4 4) (.slice c.heap.size 3 3) (.slice a.heap.size 4 4) () () (.slice (a.heap.size+1:Nat) 2 2)=wa at a1 a3 hcs l C hbw⊢;rw[<-a3];have g1:=Cd wa [(3,0),(4,1),(0,7),(2,0)] #[Ξ Ψ 3,Ξ Ψ 0,Ξ Ψ 4,Ξ Ψ 1,Ξ Ψ 0,Ξ Ψ 7,Ξ Ψ 2,Ξ Ψ 0] 4 rfl rfl (by omega);have g2:=JV (wa.alloc<|Δ #[Ξ Ψ 3,Ξ Ψ 0,Ξ Ψ 4,Ξ Ψ 1,Ξ Ψ 0,Ξ Ψ 7,Ξ Ψ 2,Ξ Ψ 0] 50) [0,2] #[Ξ Ψ 0,Ξ Ψ 2] 2 rfl rfl (by omega);have hz1:(wa.alloc<|Δ #[Ξ Ψ 3,Ξ Ψ 0,Ξ Ψ 4,Ξ Ψ 1,Ξ Ψ 0,Ξ Ψ 7,Ξ Ψ 2,Ξ Ψ 0] 50).heap.size=wa.heap.size+1:=by simp
 rw[hz1]at g2;obtain⟨_,hb2,_⟩:=Ju wa (Δ #[Ξ Ψ 3,Ξ Ψ 0,Ξ Ψ 4,Ξ Ψ 1,Ξ Ψ 0,Ξ Ψ 7,Ξ Ψ 2,Ξ Ψ 0] 50)<|Δ #[Ξ Ψ 0,Ξ Ψ 2] 3;have y1:=(hb2.block w<|by omega).trans a1;have g1':=OV.below g1<|af (wa.alloc<|Δ #[Ξ Ψ 3,Ξ Ψ 0,Ξ Ψ 4,Ξ Ψ 1,Ξ Ψ 0,Ξ Ψ 7,Ξ Ψ 2,Ξ Ψ 0] 50)<|Δ #[Ξ Ψ 0,Ξ Ψ 2] 3;rw[<-a3]at y1;obtain⟨z0,z1,z2,z3,z4,z5⟩:=sS y1;refine ZE (v:=.agg #[.slice b.heap.size 4 4,.slice c.heap.size 3 3,.slice wa.heap.size 4 4,(),(),.slice (wa.heap.size+1:Nat) 2 2]) (by simp[ZH,results52,go_sem,z0,z1,z2,z3,z4,z5]) rfl ?_;exact⟨_,_,_,_,_,wa,rfl,C,l,hcs,g1',g2.less<|by omega,hbw,hb2⟩
def wU.gv{w w' e}(h:wU w e w'):∃v,e=.returned v/\GV w' v ee/\Y w w w':=by obtain⟨j,k,g,f,i,wa,rfl,d,c,h3,h4,h5,b,a⟩:=h;exact⟨_,rfl,⟨_,_,_,_,_,_,rfl,(OC.reads d c).below a,h3.below a,h4.reads,dv,dv,h5.reads⟩,b.trans<|a.mono b.size⟩
section
variable(w:θ)(v:Value)
def oB:ι prog 52 #[] w λe w'=>(∃v,e=.returned v/\GV w' v ee)/\Y w w w':=(JW w).mono λe w' h=>by obtain⟨v,a,b,h3⟩:=h.gv;exact⟨⟨v,a,b⟩,h3⟩
def GV.six{w v g}(h:GV w v g):∃a0 f k a1 n m1 m p m2 e c b j d o i a l,v=.agg #[.slice a0 f k,.slice a1 n m1,.slice m p m2,.slice e c b,.slice j d o,.slice i a l]:=by obtain⟨_,_,_,_,_,_,rfl,⟨s,l0,rfl,_⟩,⟨q,y,rfl,_⟩,⟨x,z,rfl,_⟩,⟨b3,t,rfl,_⟩,⟨b4,u,rfl,_⟩,⟨b5,r,rfl,_⟩⟩:=h;exact⟨_,_,_,_,_,_,_,_,_,_,_,_,_,_,_,_,_,_,rfl⟩
def Pa(a:GV w v ee):ι prog 24 #[v] w λe w'=>(∃r,e=.returned (.tuple #[r,Ξ Ψ 0])/\eI w' r [(4,3),(4,5),(4,6),(4,4)])/\Y w w w':=by have h:=O0 w v ee B9 a cB (by decide) KA.1 sW Fg (by decide);exact h
def WY(a:GV w v ee):ι prog 28 #[v] w λe w'=>(∃r,e=.returned (.tuple #[r,Ξ Ψ 0])/\GV w' r Al)/\Y w w w':=WO w v ee Al 3 a cB (by decide) KA.1 sW JN
def WZ(lv)(a:GV w v ee)(c:JD w (λj=>j<w) lv (WU++[(10,0,0,0)])):ι prog 45 #[v,lv] w λe w'=>e=.returned (.tuple #[Ξ Ψ 1,Ξ Ψ 0,Ξ Ψ 1,Ξ Ψ 9,Ξ Ψ 0])/\Y w w w':=WR w v lv ee _ (λi=>if i<6 then rsM i else r6) Fi a cB (by decide) KA.1 c (by decide) rfl rfl (adI λB d b=>Cc)
def Aq(d a l)(b:eI w d l)(c:eI w a l):ι prog 27 #[d,a] w λe w'=>e=.returned (.bool R)/\Y w w w':=(nd w d a l b c).mono λe w' h=>by obtain⟨rfl,n,rfl⟩:=h;exact⟨rfl,hU _ _ _⟩
def DJ(bx:Nat)(c0:Int)(c1:Nat)(c2 c3:Int)(c:w.heap[bx]?=U (Δ #[c0,c1,c2,c3] 44 (0,0))):ι prog 62 #[Ξ Ψ 5,.slice bx 1 1] w λe w'=>(∃r,e=.returned r/\JD w' (λj=>j<w') r (WU++[(c0,c1,c2,c3)]))/\Y w w w':=(O5 w bx (c0,c1,c2,c3) c).mono λe w' h=>by obtain⟨⟨r,rfl,a⟩,b⟩:=h;exact⟨⟨r,rfl,OM.reads a⟩,b⟩
def lG{w:θ}{b:Nat}{t v0 v1 v2 v3 v4 v5}(h:w.heap[b]?=U (Δ #[v0,v1,v2,v3,v4,v5] t (0,0))):w b=U v0/\w (b,1)=U v1/\w (b,2)=U v2/\w (b,3)=U v3/\w (b,4)=U v4/\w (b,5)=U v5:=sS h
def Fr:ι prog 18 #[] w λe w'=>e=.returned (.bool R)/\Y w w w':=by
 go_enter (fU func18 rfl),ntmps18
 go_wp2_with fail
 refine m2 (oB _) λv1 p1 qp1 hp1=>?_
 go_wp2_with fail
 refine m2 (Pa _ v1 qp1.out) λr1 p2 qp2 hp2=>?_
 go_wp2_with fail
 refine m2 (oB _) λv2 p3 qp3 P=>?_
 go_wp2_with fail
 refine m2 (WY _ v2 qp3.out) λr2 p4 qp4 W=>?_;obtain⟨xa0,xn0,xm0,xa1,xn1,xm1,xa2,xn2,xm2,xa3,xn3,xm3,xa4,xn4,xm4,xa5,xn5,xm5,rfl⟩:=qp4.out.six
 go_wp2_with fail
 have⟨y3,N,zp5⟩:=DI p4<|Δ #[.slice xa0 xn0 xm0,.slice xa1 xn1 xm1,.slice xa2 xn2 xm2,.slice xa3 xn3 xm3,.slice xa4 xn4 xm4,.slice xa5 xn5 xm5] 26;generalize p4.alloc _=p5 at y3 N zp5⊢;refine m1 (eF _ 2) λp6 KY=>?_
 go_wp2_with fail
 have⟨fp7,H,zp7⟩:=nt p6 [(4,2)] #[Ξ Ψ 4,Ξ Ψ 2] 1 rfl rfl (by omega);generalize p6.alloc _=p7 at fp7 H zp7⊢;refine m1 (dd _ p6.heap.size 1 1) λp8 Xa=>?_
 go_wp2_with fail
 refine m1 (dd _ Z 0 0) λp9 KZ=>?_
 go_wp2_with fail
 refine m1 (eF _ 1) λc y=>?_
 go_wp2_with fail
 have⟨F,f,Pb⟩:=nt c [(4,1)] #[Ξ Ψ 4,Ξ Ψ 1] 1 rfl rfl (by omega);generalize c.alloc _=p11 at F f Pb⊢;refine m1 (dd _ c.heap.size 1 1) λL z=>?_
 go_wp2_with fail
 have⟨x,b,aoi⟩:=WX L [(0,.slice p6.heap.size 1 1),(0,()),(0,.slice c.heap.size 1 1)] #[Ξ Ψ 0,.slice p6.heap.size 1 1,Ξ Ψ 0,(),Ξ Ψ 0,.slice c.heap.size 1 1] 3 rfl rfl (by omega);generalize L.alloc _=p13 at x b aoi⊢;refine m1 (eF _ 0) λp14 o=>?_
 go_wp2_with fail
 refine m1 (eF _ 1) λp15 l=>?_
 go_wp2_with fail
 refine m1 (mK _ 7) λp16 q=>?_
 go_wp2_with fail
 refine m1 (sY _) λK p=>?_
 go_wp2_with fail
 have⟨n,d,E⟩:=nt K [(4,0),(4,1),(0,7),(2,0)] #[Ξ Ψ 4,Ξ Ψ 0,Ξ Ψ 4,Ξ Ψ 1,Ξ Ψ 0,Ξ Ψ 7,Ξ Ψ 2,Ξ Ψ 0] 4 rfl rfl (by omega);generalize K.alloc _=p18 at n d E⊢;have⟨y5,g,O⟩:=DI p18<|Δ #[(),.slice L.heap.size 3 3,.slice K.heap.size 4 4,(),(),()] 26;generalize p18.alloc _=p19 at y5 g O⊢;refine m2 (oB _) λv3 J aoj B=>?_
 go_wp2_with fail
 have⟨A,a,S⟩:=DI J<|Δ #[Ξ Ψ 10,Ξ Ψ 0,Ξ Ψ 0,Ξ Ψ 0] 44;generalize J.alloc _=p21 at A a S⊢;refine m2 (DJ _ J 10 0 0 0 A.out) λr3 p22 aok h=>?_
 go_wp2_with fail
 refine m1 (WZ _ v3 r3 (GV.below h.out<|GV.below a.out aoj.out) aok.out) λp23 D=>?_
 go_wp2_with fail
 refine m1 (eF _ 3) λp24 j=>?_
 go_wp2_with fail
 refine m1 (eF _ 5) λp25 C=>?_
 go_wp2_with fail
 refine m1 (eF _ 6) λp26 t=>?_
 go_wp2_with fail
 refine m1 (eF _ 4) λp27 m=>?_
 go_wp2_with fail
 have⟨v,i,aol⟩:=nt p27 [(4,3),(4,5),(4,6),(4,4)] #[Ξ Ψ 4,Ξ Ψ 3,Ξ Ψ 4,Ξ Ψ 5,Ξ Ψ 4,Ξ Ψ 6,Ξ Ψ 4,Ξ Ψ 4] 4 rfl rfl (by omega);generalize p27.alloc _=T at v i aol⊢;have Q:=bx P<|bx W<|bx N<|bx KY<|bx H<|bx Xa<|bx KZ<|bx y<|bx f<|bx z<|bx b<|bx o<|bx l<|bx q<|bx p<|bx d<|bx g<|bx B<|bx a<|bx h<|bx D<|bx j<|bx C<|bx t<|bx m<|bx i<|υ T T;have dw:=bx hp1<|bx hp2 Q;refine m1 (Aq _ _ _ [(4,3),(4,5),(4,6),(4,4)] (eI.below Q qp2.out)<|OV.reads v.out) λp29 Cj=>?_;have u:=bx B<|bx a<|bx h<|bx D<|bx j<|bx C<|bx t<|bx m<|bx i<|bx Cj<|υ p29 p29;have s:=bx g u;have G:=bx o<|bx l<|bx q<|bx p<|bx d s;have r:=bx z<|bx b G;have X:=bx Xa<|bx KZ<|bx y<|bx f r;have cp5:=bx KY<|bx H X;have cp4:=bx N cp5;have cw:=bx hp1<|bx hp2<|bx P<|bx W cp4;obtain⟨k0,k1,k2,k3,k4,k5⟩:=lG<|(cp5.block _ (Ω.1 y3.out).1).trans y3.out;obtain⟨j0,j1,j2,j3,j4,j5⟩:=lG<|(u.block _ (Ω.1 y5.out).1).trans y5.out;rw[E]at j0 j1 j2 j3 j4 j5
 go_wp2_with fail
 refine(NU _ _ _ Al (GV.below cp4 qp4.out) ⟨_,_,_,_,_,_,rfl,csn _,OC.reads (OC.below x.out G)<|aY.cons (k:=0) (OV.reads<|OV.below fp7.out X)<|aY.cons (k:=0) dv<|aY.cons (k:=0) (OV.reads<|OV.below F.out r)<|aY.nil _,OV.reads<|OV.below n.out s,dv,dv,isn _⟩).mono ?_;rintro e wz ⟨rfl,hz⟩;replace hz:=I hz
 go_wp2_with fail
 go_ret;exact⟨rfl,cw.trans<|hz.out.mono cw.size⟩
end
section
def Bx(w:θ)(b:Nat)(c:Array Value)(g:GH):Prop:=w.heap[b]?=U (.cells c 26)/\GV w (.agg c) g/\b<w
def Bx.below{w w' b c g}(h:Bx w b c g)(hb:Y w w w'):Bx w' b c g:=⟨(hb.block b h.2.2).trans h.1,h.2.1.below hb,Nat.lt_of_lt_of_le h.2.2 hb.size⟩
def GV.G'{w v g}(h:GV w v g):∃a0 b a1 m1 c m2 i d a e j f,v=.agg #[.slice a0 g.new.length b,.slice a1 g.old.length m1,.slice c g.roots.length m2,.slice i g.aA.length d,.slice a g.done.length e,.slice j g.marked.length f]:=by obtain⟨_,_,_,_,_,_,rfl,⟨a0,b,rfl,-⟩,⟨a1,m1,rfl,-⟩,⟨c,m2,rfl,-⟩,⟨i,d,rfl,-⟩,⟨a,e,rfl,-⟩,⟨j,f,rfl,-⟩⟩:=h;exact⟨_,_,_,_,_,_,_,_,_,_,_,_,rfl⟩
section
variable{g:GH}(h:VG g)
include h
def ν(w v)(a:GV w v g):
 ι prog 53 #[v] w λe w'=>(∃r,e=.returned (.tuple #[r,Ξ Ψ 0])/\tH w' r (plain g))/\Y w w w':=
 JK w v g a (VG.look h) (by have:=h.Fh;omega) (VG.cN h) (VG.small h)
end
end
end Kn
