/- A part of the proof of GcWhole; no conditions. -/
import Derived.Test.YtbnmpafbfoaggaaGreatDoorU0
import Derived.Test.YtbnmpafbfoaggaaGreatDoorU4
import Derived.Test.YtbnmpafbfoaggaaGreatDoorU3
import Derived.Test.YtbnmpafbfoaggaaGreatDoorU1
import Derived.Test.YtbnmpafbfoaggaaGreatDoorU2
import Derived.Outline
import Derived.BigQuiet
import Derived.Deep.DeepCutAuto
import Derived.Deep.Cut
import Derived.Carry
import Derived.Deep.CutBlock
set_option linter.defProp false
set_option linter.unusedVariables false
set_option linter.unusedSimpArgs false
set_option maxRecDepth 100000
set_option maxHeartbeats 16000000
noncomputable section
open Array renaming getElem?_eq_some_iff->Ω
open Go.Lib renaming hid->V
open Go.Obj renaming cells->Ψ
open Go.IntKind renaming i64->Ξ
open Go.World renaming cell?->Z,frozen?->Z8,setCell->ZB
open Go.Value renaming int->Θ,slice->ZU,pointer->Zz
open Option renaming some->U,none->I
open Go.RowKit.Below renaming refl->Δ,heap_alloc->η
open Go renaming heap_alloc_new->Γ,World->M,Calls->R,bodyPost_ret->κ,wpOp_step->Z4,results->Z1,Addr->ZQ,madeCells->ZH,run_underlying->Zy,info_parts->Zx,leaves_cons->Zr
open And renaming intro->ω
open List renaming getElem?_eq_some_iff->ψ,take_of_length_le->χ,mem_of_getElem?->φ,setIfInBounds_toArray->ο,map_append->ξ,take_succ_cons->ι,drop_succ_cons->θ,mem_map->ζ,set_cons_zero->ε,set_cons_succ->Z9,getElem?_eq_getElem->Z2,map_singleton->Z0,take_zero->ZZ,drop_zero->ZY,mem_append->ZV,length_append->ZT,pairwise_iff_getElem->ZS,pairwise_map->ZR,length_map->ZN,mem_iff_getElem?->ZL,contains_iff_mem->ZK,getD->ZJ,prefix_refl->ZF,nodup_nil->ZD,getElem?_append_right->ZC,getElem?_append_left->ZA,take_append_drop->Zw,mem_of_mem_take->Zu,idxOf_append->Zt,append_nil->Zs,length_set->Zq,mem_range->Zp
open Go.RowKit renaming Below->Y
open Nat renaming zero_le->υ,lt_of_lt_of_le->μ,reduceAdd->ZW,le_of_eq->ZG,le_trans->Zv,not_lt_zero->Zo
open Go.Addr renaming add->Z7
open Bool renaming false->Z3,true->ZM
open Option.some renaming inj->ZX
open Ne renaming symm->ZP
open Go.World.grownBy renaming refl->ZO
open Go.Result renaming andThen_ok->ZI
open Go.Act renaming put->ZE
namespace Go.Proofs.YtbnmpafbfoaggaaGreatDoor
open Go.Proofs.Tryz hiding prog
open Go.Proofs.aD
namespace Kn
open Go Go.RowKit Md
section
structure JI(w w':M)(b:Nat):Prop where
 ints:∀o k,w.cell? ⟨b,o,I⟩≠U (Θ Ξ k)
 same:∀k,k≠b->w'.heap[k]?=w.heap[k]?
 size:w.heap.size<=w'
section
variable{w w':M}{b:Nat}{v:Value}
def JI.ne(h:JI w w' b){a o:Nat}{k}(hc:w (a,o)=U (Θ Ξ k)):a≠b:=λe=>h.ints o k<|e▸hc
def JI.cell(h:JI w w' b){a o}(c:a≠b):w'.cell? ⟨a,o,I⟩=w.cell? ⟨a,o,I⟩:=by simp only[Z,h.same a c]
def eI.off{l}(h:eI w v l)(f:JI w w' b):eI w' v l:=by obtain⟨a,m,rfl,r,j,h⟩:=h;refine⟨a,m,rfl,r,j,λh0=>?_⟩;obtain⟨c,o,rfl,hb,d⟩:=h h0;obtain⟨p,q,e⟩:=ep h0;have g:=f.ne (d 0 p q e).1;refine⟨c,o,rfl,μ hb f.size,λi k n e=>?_⟩;rw[f.cell g,f.cell g];exact d i k n e
def n9.off{l}(h:n9 w v l)(f:JI w w' b):n9 w' v l:=by obtain⟨a,m,rfl,j,g,h⟩:=h;refine⟨a,m,rfl,j,g,λh0=>?_⟩;obtain⟨c,o,rfl,hb,d⟩:=h h0;obtain⟨p,e⟩:=lw h0;have k:=f.ne<|d 0 p e;refine⟨c,o,rfl,μ hb f.size,λi n e=>?_⟩;rw[f.cell k];exact d i n e
def sa.off{l}(h:sa w v l)(d:JI w w' b):sa w' v l:=by obtain⟨a,m,rfl,t,s,h⟩:=h;refine⟨a,m,rfl,t,s,λh0=>?_⟩;obtain⟨c,o,rfl,hb,f⟩:=h h0;obtain⟨p,q,e⟩:=cQ h0;have g:=d.ne (f 0 p q e).1;refine⟨c,o,rfl,μ hb d.size,λi k r e=>?_⟩;obtain⟨n,x,j,u⟩:=f i k r e;rw[d.cell g,d.cell g];exact⟨n,x,j,u.off d⟩
def GV.off{g}(h:GV w v g)(a:JI w w' b):GV w' v g:=by obtain⟨n,o,r,i,d,m,rfl,f,e,h3,h4,h5,c⟩:=h;exact⟨_,_,_,_,_,_,rfl,f.off a,e.off a,h3.off a,h4.off a,h5.off a,c.off a⟩
def tH.off{h:PH}(e:tH w v h)(a:JI w w' b):tH w' v h:=by obtain⟨c,r,i,d,rfl,g,f,h3,h4⟩:=e;exact⟨_,_,_,_,rfl,g.off a,f.off a,h3.off a,h4.off a⟩
end
def aaO{w b t v0 v1 v2 v3 v4 v5}(h:w.heap[b]?=U (Ψ #[(),(),(),(),(),()] t (0,0))):JI w (io w b v0 v1 v2 v3 v4 v5) b:=by
 obtain⟨_,a,c,_⟩:=kn (v1:=v1) (v2:=v2) (v3:=v3) (v4:=v4) (v5:=v5) h;refine⟨λo k e=>?_,a,ZG c.symm⟩;simp only[Z,h]at e
 match o,e with
 |0,e=>cases e
 |1,e=>cases e
 |2,e=>cases e
 |3,e=>cases e
 |4,e=>cases e
 |5,e=>cases e
 |n+6,e=>simp at e
def JJ{w:M}{b t}(h:w.heap[b]?=U (Ψ #[(),(),(),(),(),()] t (0,0))):(∀i,i<6->w (b,i)=U ())/\∀i,w.frozen? ⟨b,i,I⟩=Z3:=by
 refine⟨λi hi=>?_,λi=>cD h⟩
 match i,hi with
 |0,_=>simp[Z,h]
 |1,_=>simp[Z,h]
 |2,_=>simp[Z,h]
 |3,_=>simp[Z,h]
 |4,_=>simp[Z,h]
 |5,_=>simp[Z,h]
def sS{w:M}{b:Nat}{t v0 v1 v2 v3 v4 v5}(h:w.heap[b]?=U (Ψ #[v0,v1,v2,v3,v4,v5] t (0,0))):w b=U v0/\w (b,1)=U v1/\w (b,2)=U v2/\w (b,3)=U v3/\w (b,4)=U v4/\w (b,5)=U v5:=by refine⟨?_,?_,?_,?_,?_,?_⟩<;>simp[Z,h]
def ahX:uH->Nat
 |.minor=>102
 |.full=>119
 |.major=>120
def ahY:uH->Nat
 |.minor=>22
 |.full=>28
 |.major=>30
def Qq(s w v g g' n)(K:GV w v g)(G:oy g)(hm:g.marked.length<=1000000)(hz:cN g=0)(c:Md.collect s g=U (n,g'))(hc:∀w B b,cR w B b g (λ_=>False) ->B<=w->R prog 144 #[.pointer b,.iface (ahX s)<|.agg #[]] w (cq (λ_=>False) B b g s w)):
 R prog (ahY s) #[v] w λe w'=>(∃r,e=.returned (.tuple #[r,Θ Ξ 0])/\GV w' r g')/\Y w w w':=by
 have HV:=V K;have HK:=V G;have HP:=V hc;have HC:=V c;obtain⟨vn,o,r,L,d,m,rfl,X,N,h3,h4,h5,h6⟩:=K;clear G X N h3 h4 h5 h6 hc c;cases s
 all_goals
  first
   |go_enter (fU func22 rfl),ntmps22
   |go_enter (fU func28 rfl),ntmps28
   |go_enter (fU func30 rfl),ntmps30
  go_wp2_with fail
  obtain⟨J,a,E⟩:=Ju w (Ψ #[vn,o,r,L,d,m] 26)<|Ψ #[(),(),(),(),(),()] 26;refine(qh _ _ g g' _ n _ (HV.out.below a) HK.out hm hz HC.out HP.out).mono ?_;rintro e C ⟨⟨r3,rfl,z⟩,i⟩;have P:=V z;have D:=(i.block (w.heap.size+1)<|by omega).trans J;have T:=V<|a.trans<|i.mono a.size;obtain⟨a0,a1,a2,a3,a4,a5,rfl,⟨l,l0,rfl,_⟩,⟨j,u,rfl,_⟩,⟨t,x,rfl,_⟩,⟨b3,p,rfl,_⟩,⟨b4,q,rfl,_⟩,⟨b5,k,rfl,_⟩⟩:=z;obtain⟨d,f⟩:=JJ D;have d0:=d 0 (by omega);have d1:=d 1 (by omega);have d2:=d 2 (by omega);have d3:=d 3 (by omega);have d4:=d 4 (by omega);have d5:=d 5 (by omega);have f0:=f 0;have f1:=f 1;have f2:=f 2;have f3:=f 3;have f4:=f 4;have f5:=f 5;have H:=V D;clear d f D J a i E
  go_wp2_with fail
  rw[show((((((C.setCell ⟨w.heap.size+1,0,I⟩<|.slice l g'.new.length l0).setCell ⟨w.heap.size+1,1,I⟩<|.slice j g'.old.length u).setCell ⟨w.heap.size+1,2,I⟩<|.slice t g'.roots.length x).setCell ⟨w.heap.size+1,3,I⟩<|.slice b3 g'.aA.length p).setCell (w.heap.size+1,4)<|.slice b4 g'.done.length q).setCell (w.heap.size+1,5)<|.slice b5 g'.marked.length k)=io C (w.heap.size+1) (.slice l g'.new.length l0) (.slice j g'.old.length u) (.slice t g'.roots.length x) (.slice b3 g'.aA.length p) (.slice b4 g'.done.length q) (.slice b5 g'.marked.length k)from rfl];have A:=aaO (v0:=(.slice l g'.new.length l0)) (v1:=(.slice j g'.old.length u)) (v2:=(.slice t g'.roots.length x)) (v3:=(.slice b3 g'.aA.length p)) (v4:=(.slice b4 g'.done.length q)) (v5:=(.slice b5 g'.marked.length k)) H.out;obtain⟨F,_,_,k4⟩:=kn (v0:=(.slice l g'.new.length l0)) (v1:=(.slice j g'.old.length u)) (v2:=(.slice t g'.roots.length x)) (v3:=(.slice b3 g'.aA.length p)) (v4:=(.slice b4 g'.done.length q)) (v5:=(.slice b5 g'.marked.length k)) H.out;have h:=P.out.off A;have y:=T.out.trans<|k4 w<|by omega
  generalize io C (w.heap.size+1) (.slice l g'.new.length l0) (.slice j g'.old.length u) (.slice t g'.roots.length x) (.slice b3 g'.aA.length p) (.slice b4 g'.done.length q) (.slice b5 g'.marked.length k)=w4 at F h y⊢;obtain⟨z0,W,S,z3,Q,O⟩:=sS F;refine κ (v:=.tuple #[.agg #[.slice l g'.new.length l0,.slice j g'.old.length u,.slice t g'.roots.length x,.slice b3 g'.aA.length p,.slice b4 g'.done.length q,.slice b5 g'.marked.length k],Θ Ξ 0]) (by simp[Z1,results22,results28,results30,go_sem,z0,W,S,z3,Q,O]) rfl ⟨⟨_,rfl,h⟩,y⟩
def WO(w v g g' n)(h:GV w v g)(f:oy g)(d:g.marked.length<=1000000)(hz:cN g=0)(c:im g)(a:Md.collect .full g=U (n,g')):
 R prog 28 #[v] w λe w'=>(∃r,e=.returned (.tuple #[r,Θ Ξ 0])/\GV w' r g')/\Y w w w':=
 Qq .full w v g g' n h f d hz a λw B b j i=>tO w B b g j c i
end
section
variable{g:GH}
def Pc{v}(h:zH g v):eO g v=0:=by
 unfold eO;obtain⟨a,b,h3⟩|⟨a,b,h3⟩:=h
 omega;omega
def Qw{v}(h:ta g v):mh g v=0:=by
 unfold mh;obtain(⟨a,h2,h3⟩|⟨a,h2⟩)|h:=h
 omega;omega;have b:=Pc h;obtain⟨a,_⟩|⟨a,_⟩:=h
 omega;omega
def KF{l}(h:∀e∈l,e=0):cU l=0:=by have:=jZ (r:=[]) h;rwa[Zs]at this
def V'{c}(h:RJ g c):zj g c=0:=by
 obtain⟨i,b⟩:=h;unfold zj;have f:¬c.2.length<(if c.1=0 then 0 else if c.1=1 then 1 else 2):=by grind
 have h3:¬(if c.1=0 then 4 else if c.1=1 then 1 else 2)<c.2.length:=by
  split
  omega;split<;>omega
 rw[if_neg (by omega),if_neg f,if_neg h3];refine KF λe d=>?_;obtain⟨v,a,rfl⟩:=ζ.1 d;exact Qw<|b v a
def PG{l}(h:Oi g l):BF g l:=by
 refine⟨h.wW,λi v e=>⟨(h.cells v<|φ e).cell,Pc<|h.cells v<|φ e,?_⟩⟩;obtain⟨hi,rfl⟩:=ψ.1 e;rw[Bool.eq_false_iff];intro hc;obtain⟨j,b⟩:=ZL.1<|ZK.1 hc;rw[List.getElem?_take]at b;split at b
 rename_i c;obtain⟨a,e2⟩:=ψ.1 b;exact absurd e2<|ZS.1 h.nodup j i a hi c
 grind
def VG.look(h:VG g):oy g:=⟨λc hc=>V'<|h.cells c hc,h.news,h.bw,h.four,λv a=>Qw<|h.roots v a,PG h.aA,PG h.done⟩
def VG.aeP(h:VG g):im g where
 cells:=h.Kx
 cJ:=λv a=>(h.JZ v a).VQ
 news:=by have:=h.news;omega
 bw:=by have:=h.bw;omega
 roots:=by have:=h.four;omega
 aA:=by have:=h.aA.wW;omega
 done:=by have:=h.done.wW;omega
 eT:=λc hc=>by have:=(h.cells c hc).1;omega
 marks:=h.marks
 marked:=by have:=h.By;omega
theorem VG.cN{g:GH}(h:VG g):cN g=0:=by
 unfold Kn.cN;refine KF λe a=>?_;obtain a|a:=ZV.1 a
 obtain⟨i,hi,rfl⟩:=ζ.1 a;have hi:=Zp.1 hi;unfold jt;have d:=h.marks _<|List.getElem_mem hi;dsimp only;rw[(by simp[ZJ,Z2 hi]:g.marked.getD i 0=g.marked[i]),if_neg<|by omega,if_neg];split
 omega;have:=ZS.1 h.order (i-1) i (by omega) hi (by omega);rw[(by simp[ZJ,Z2 (by omega:i-1<g.marked.length)]:g.marked.getD (i-1) 0=g.marked[i-1])];omega;obtain⟨n,b,rfl⟩:=ζ.1 a;unfold ju at b;obtain⟨i,hi,rfl⟩:=ζ.1 b;obtain⟨hi,c⟩:=List.mem_filter.1 hi;have:=h.ju i _ (by simp[ZJ,Z2<|Zp.1 hi]) c;rw[if_pos (ZK.2 this)]
end
section
section
variable{g:GH}(h:VG g)
include h
def VG.aej:im (Md.iF g):=by
 have hs:=yY h;have hz:=E7 h;have hw:=B9 h;have a:=h.news;have f:=h.bw;refine⟨hs.VQ,λv b=>(hs.cJ v b).VQ,by omega,by omega,?_,by have:=hw.1.2;omega,by have:=hw.2.2;omega,λc hc=>?_,λn a=>(by cases a),υ _⟩;have:=h.four;have e:(Md.iF g).roots.length=g.roots.length:=by simp[Md.iF,Ij,ir,b',plain]
 omega;have:∃d∈(lu<|plain g).cells,c=qO g.old.length d:=by
  obtain hc|hc:=ZV.1 hc
  obtain⟨d,hd,rfl⟩:=ζ.1 hc;exact⟨d,List.mem_of_mem_drop hd,rfl⟩;obtain⟨d,hd,rfl⟩:=ζ.1 hc;exact⟨d,Zu hd,rfl⟩
 obtain⟨d,hd,rfl⟩:=this;have:=(qP<|eC h).shape d hd;unfold zY at this;show(d.2.map _).length<=100;rw[ZN];obtain h|h|h|h:=this
 omega;omega;omega;rw[h.2];exact υ _
omit h in
def VG.afY(a:(aq g).length<=32):Md.collect .full g=U ((aq g).length,Md.Al g):=by unfold Md.collect;simp only[reduceCtorEq,if_false,Md.aeP];rw[if_neg (by show¬32<0+(aq g).length;omega)];rfl
omit h in
def VG.afN(a:(aq<|Md.iF g).length<=32):Md.collect .major g=U ((aq<|Md.iF g).length,Md.vm g):=by unfold Md.collect;simp only[if_true,Md.aeP];rw[if_neg (by show¬32<0+(aq<|Md.iF g).length;omega)];rfl
def adz(w v)(a:GV w v g)(b:(aq g).length<=32):
 R prog 28 #[v] w λe w'=>(∃r,e=.returned (.tuple #[r,Θ Ξ 0])/\GV w' r (Md.Al g))/\Y w w w':=
 WO w v g (Md.Al g) _ a (VG.look h) (by have:=h.By;omega) (VG.cN h) (VG.aeP h) (VG.afY b)
def S5(w v)(a:GV w v g)(c:(aq<|Md.iF g).length<=32):
 R prog 30 #[v] w λe w'=>(∃r,e=.returned (.tuple #[r,Θ Ξ 0])/\GV w' r (Md.vm g))/\Y w w w':=
 Qq .major w v g (Md.vm g) _ a (VG.look h) (by have:=h.By;omega) (VG.cN h) (VG.afN c) λw B b i d=>sP w B b g (λ_ f=>f.elim) i (VG.sw h) (VG.aej h) d
end
end
def agy:Catch 143:=λp x c w i b g=>by
 have a:=block_lt_of_cell b;refine callsD_of_wpS (fU func143 rfl) rfl λd cs f=>?_;apply wpS_region;unfold gK at f;simp[wpOpsS,go_sem,recoverD,f,ntmps143,Exit.thenS];refine(af0 c w i).mono ?_;rintro e h ⟨rfl,hb⟩;have k:=(hb.cell a).trans b;have j:=(hb.frozen a).trans g
 simp_all [go_sem,bodyPostS,Z1,results143]
 exact⟨h,hb,rfl⟩
def aaP(w v g)(k:Nat)(s)(F:GV w v g)(E:oy g)(hm:g.marked.length<=1000000)(hz:cN g=0)(j:Md.collect s g=I)(D:PQ w)(hc:∀w B b,cR w B b g (λ_=>False) ->B<=w->R prog 144 #[.pointer b,.iface k<|.agg #[]] w (cq (λ_=>False) B b g s w)):
 R prog 78 #[v,.iface k<|.agg #[]] w λe w'=>e=.returned (.tuple #[.agg #[(),(),(),(),(),()],Θ Ξ 8])/\Y w w w':=by
 have K:∀(fn:Fn) (first cap:Array Value) (w:M),(Instr.makeFunc fn first cap).run prog w=.ok (.func fn first cap) w:=λ_ _ _ _=>rfl;have HV:=V F;have W:=V E;have HC:=V hc;have L:=V D;have A:=V j;obtain⟨vn,o,r,G,d,m,rfl,Q,H,h3,h4,h5,h6⟩:=F;clear E Q H h3 h4 h5 h6 hc j D
 go_enter_defers (fU func78 rfl),ntmps78
 go_wp2_with fail
 obtain⟨t,n,a,hz3⟩:=al3 w (Ψ #[vn,o,r,G,d,m] 26) (Ψ #[(),(),(),(),(),()] 26)<|Ψ #[Θ Ξ 0] 34;refine(Xb _ _ g (HV.out.below a) W.out hz hm).mono ?_;rintro e w2 ⟨⟨b,rfl,q⟩,c⟩;have p:=a.trans<|c.mono a.size;have x:=V<|q.less (B':=w.heap.size+1+1+1)<|by omega
 have T:=c.size;have z:=V<|ω ((c.block (w.heap.size+1)<|by omega).trans t)<|(c.block (w.heap.size+1+1)<|by omega).trans n;clear c a q t n
 go_wp2_with fail
 refine(HC.out _ (w.heap.size+1+1+1) b (cR.wC x.out λ_ h=>h.elim)<|by omega).mono ?_;rintro e w3 l;unfold cq at l;rw[A.out]at l;obtain⟨rfl,-,a,-,-⟩:=l;have i:=p.trans<|a.mono (B':=w.heap.size)<|by omega
 have t:=(a.block (w.heap.size+1)<|by omega).trans z.out.1;have n:=(a.block (w.heap.size+1+1)<|by omega).trans z.out.2;clear p z a
 go_wp2_with fail
 ((with_reducible refine(eU _ _).mono ?_))
 rintro e w4 ⟨rfl,rfl⟩;refine Zr (f:=143) (args:=#[.pointer (w.heap.size+1+1:Nat)]) (by simp) (by simp[go_sem]) ?_;refine(agy (w.heap.size+1+1:Nat) (Θ Ξ 0) 8 _ (L.out.below i) (d7 n)<|cD n).mono ?_;rintro e u' X ⟨rfl,rfl,w9,u,rfl⟩;obtain⟨q1,q2,S⟩:=behind (y:=Θ Ξ 8) i n (by omega) u;have C:=(S (w.heap.size+1) (by omega) (Ω.1 t).1).trans t;generalize w9.setCell (w.heap.size+1+1:Nat) (Θ Ξ 8)=w10 at *;obtain⟨z0,P,N,z3,O,J⟩:=sS C;simp[Leaves,settle,Z1,results78,go_sem,z0,P,N,z3,O,J,(d7 q1)];exact q2
def afs(s w v g)(z:GV w v g)(p:oy g)(N:g.marked.length<=1000000)(hz:cN g=0)(c:Md.collect s g=I)(n:PQ w)(hc:∀w B b,cR w B b g (λ_=>False) ->B<=w->R prog 144 #[.pointer b,.iface (ahX s)<|.agg #[]] w (cq (λ_=>False) B b g s w)):
 R prog (ahY s) #[v] w λe w'=>e=.returned (.tuple #[.agg #[(),(),(),(),(),()],Θ Ξ 8])/\Y w w w':=by
 have HV:=V z;have J:=V p;have P:=V hc;have HC:=V c;have E:=V n;obtain⟨K,o,r,C,d,m,rfl,G,D,h3,h4,h5,L⟩:=z;clear p G D h3 h4 h5 L hc c n;cases s
 all_goals
  first
   |go_enter (fU func22 rfl),ntmps22
   |go_enter (fU func28 rfl),ntmps28
   |go_enter (fU func30 rfl),ntmps30
  go_wp2_with fail
  obtain⟨y,a,k⟩:=Ju w (Ψ #[K,o,r,C,d,m] 26)<|Ψ #[(),(),(),(),(),()] 26;refine(aaP _ _ g _ _ (HV.out.below a) J.out N hz HC.out (E.out.below a) P.out).mono ?_;rintro e T ⟨rfl,h⟩;have j:=(h.block (w.heap.size+1)<|by omega).trans y;have F:=V<|a.trans<|h.mono a.size;obtain⟨d,f⟩:=JJ j;have d0:=d 0 (by omega);have d1:=d 1 (by omega);have Q:=d 2 (by omega);have S:=d 3 (by omega);have d4:=d 4 (by omega);have d5:=d 5 (by omega);have W:=f 0;have X:=f 1;have f2:=f 2;have f3:=f 3;have f4:=f 4;have f5:=f 5;have H:=V j;clear d f j y a h k
  go_wp2_with fail
  obtain⟨A,_,_,O⟩:=kn (v0:=()) (v1:=()) (v2:=()) (v3:=()) (v4:=()) (v5:=()) H.out;have i:=F.out.trans<|O w<|by omega
  obtain⟨x,u,q,z3,t,l⟩:=sS A;unfold io at x u q z3 t l i;refine κ (v:=.tuple #[.agg #[(),(),(),(),(),()],Θ Ξ 8]) (by simp[Z1,results22,results28,results30,go_sem,x,u,q,z3,t,l]) rfl ⟨rfl,i⟩
section
def GB(w:M)(b:Nat)(l:List Int):Prop:=∃es clk,w.heap[b]?=U (.map es clk)/\es.toList.map (λe=>(e.key,e.val))=l.zipIdx.map λx=>(Value.int Ξ x.1,Value.int Ξ (x.2:Int))
def agz:prog.underlying 164=U (.map 3 3):=by kernel_rfl
theorem γ(n:Int):∀(es:List MapEntry) (l:List Int) (j i:Nat),es.map (λe=>(e.key,e.val))=(l.zipIdx j).map (λx=>(Value.int Ξ x.1,Value.int Ξ (x.2:Int))) ->
 Instr.findNow (.int Ξ) n es i=U (if n∈l then U (i+l.idxOf n,Θ Ξ ((j+l.idxOf n:Nat):Int))else I)
 |[],l,j,i,h=>by
  obtain _|⟨a,l⟩:=l
  simp[Instr.findNow];simp at h
 |e::es,l,j,i,h=>by
  obtain _|⟨a,l⟩:=l
  simp at h;simp at h;obtain⟨⟨c,d⟩,h3⟩:=h;unfold Instr.findNow;rw[c];simp only[Instr.sameNow,if_true];by_cases b:n=a
  subst b;simp[d];have hb:(n==a)=Z3:=by simp[b]
  rw[hb];simp only[(γ n es l (j+1) (i+1) h3)]
  grind
section
variable{w w':M}{b:Nat}{l:List Int}
def GB.of_block(h:GB w b l)(hb:w'.heap[b]?=w.heap[b]?):GB w' b l:=by obtain⟨c,a,e,r⟩:=h;exact⟨c,a,hb.trans e,r⟩
def GB.lt(h:GB w b l):b<w:=by obtain⟨c,a,e,r⟩:=h;exact(Ω.1 e).1
def afI{es}(n:Int)(w)(a:es.map (λe=>(e.key,e.val))=l.zipIdx.map λx=>(Value.int Ξ x.1,Value.int Ξ (x.2:Int))):
 (Instr.findKey 3 n es).run prog w=.ok (if n∈l then U (l.idxOf n,Θ Ξ ((l.idxOf n:Nat):Int))else I) w:=by
 unfold Instr.findKey;rw[Sem.run_bind,Zy ae8,ZI,γ n es l 0 0 a];simp
def aaQ(n:Int)(h:GB w b l):
 (Instr.lookup 164 (.map<|U b) n ZM).run prog w=.ok (.tuple #[Θ Ξ (if n∈l then((l.idxOf n:Nat):Int)else 0),.bool<|decide<|n∈l]) w:=by
 obtain⟨e,d,hb,c⟩:=h;unfold Instr.lookup;simp only[Sem.run_bind,Zy agz,ZI,run_get hb,Sem.run_pure,sE,(afI n w c)];by_cases a:n∈l
 simp[a];simp[a,aeZ]
def aeg(n)(h:GB w b l)(e:n∉l):
 ∃w',(Instr.mapUpdate 164 (.map<|U b) n<|Θ Ξ (l.length:Int)).run prog w=.ok () w'/\GB w' b (l++[n])/\w.grownBy w' (U b):=by
 obtain⟨d,a,hb,c⟩:=h;refine⟨{w with heap:=w.heap.setIfInBounds b<|.map (d.push {key:=Θ Ξ n,val:=Θ Ξ (l.length:Int),born:=a})<|a+1},?_,?_,sG w b _⟩;unfold Instr.mapUpdate;simp only[Sem.run_bind,Zy agz,ZI,run_get hb,Sem.run_pure,sE,afI n w c,if_neg e];simp[setObj,Sem.run,hb];refine⟨_,a+1,by simp[((Ω.1 hb).1)];rfl,?_⟩
 grind
end
def GC{ops:Array Oper}{rest:List Oper}{o:Oper}{a:Act}{w:M}{Q:Exit->Act->M->Prop}(g:o.guard=I)(s x:Operand)(q:o.op=.call {callee:=.builtin .append,args:=#[s,x],argTypes:=#[24,24]})
 (B:Nat) (v:Value) (l:List Int) (hs:a.eval s=v) (b:OI w B v l) (ad:ZQ) (c:Nat) (u:Int) (y:a.eval x=ZU (U ad) 1 c)
 (t:w (ad.add 0)=U (Θ Ξ u)) (A:l.length<=1000000000) (n:B<=w)
 (h:∀d w',OI w' B d (l++[u]) ->Y B w w'->w.grownBy w' v.ownBlock->(d.ownBlock=v.ownBlock\/d.ownBlock=U w) ->wpList prog ops Q rest (a.put o.dst d) w'):wpList prog ops Q (o::rest) a w:=by
 obtain⟨p,hi,i,k,f⟩:=Zx Dq;refine wpList_append_own_at _ g s x 24 q B 3 p _ 1 8 se hi i k f rfl (by simp) v l.length _ hs b ad 1 c (eP u) y rfl (λj z e=>?_) (λz hz=>?_) (by unfold maxLen;omega) (by omega) n λd w' r m _ h4=>?_
 match j,e with
 |0,e=>cases e;exact t
 |j+1,e=>simp[eP]at e
 simp[eP]at hz;subst hz;rfl;refine h d w' ?_ (cM b m n) m h4;unfold OI;simpa using r
structure hE(w:M)(B p3 p4 p5 bm:Nat)(so:Value)(N:List Int):Prop where
 b3:B<=p3
 b4:B<=p4
 b5:B<=p5
 b6:B<=bm
 h3:w.heap[p3]?=U (Ψ #[.map (U bm)] 164 (0,0))
 h4:w.heap[p4]?=U (Ψ #[so] 24 (0,0))
 h5:w.heap[p5]?=U (Ψ #[.func (.func 177) #[] #[.pointer p3,.pointer p4]] 47 (0,0))
 row:OI w B so N
 map:GB w bm N
section
variable{w w':M}{B p3 p4 p5 bm:Nat}{so so':Value}{N N':List Int}
def hE.below(h:hE w B p3 p4 p5 bm so N)(a:Y w w w'):hE w' B p3 p4 p5 bm so N:=⟨h.b3,h.b4,h.b5,h.b6,(a.block _ (Ω.1 h.h3).1).trans h.h3,(a.block _ (Ω.1 h.h4).1).trans h.h4,(a.block _ (Ω.1 h.h5).1).trans h.h5,h.row.below a,h.map.of_block<|a.block bm h.map.lt⟩
def GG{w:M}{B k e size n:Nat}{v xs}(h:w.ownsRow B e size v n xs)(d:∀c fr,w.heap[k]?≠U (.cells c e fr)):v.ownBlock≠U k:=by
 intro a;obtain⟨_,⟨rfl,_⟩|⟨g,f,b,rfl,j,i,_⟩⟩:=h;cases a
 cases a
 exact d _ _ i
def hE.free(h:hE w B p3 p4 p5 bm so N){k a t fr}(b:w.heap[k]?=U (.cells a t fr))(g:t≠24)(j:t≠3):wm k p4 bm so:=by
 obtain⟨l,d,i,_⟩:=h.map;refine⟨λe=>?_,λe=>?_,GG h.row λc f e=>?_⟩;subst e;rw[h.h4]at b;cases b;exact g rfl
 grind
 grind
def hE.low(h:hE w B p3 p4 p5 bm so N){k}(a:k<B):wm k p4 bm so:=⟨λe=>by have:=h.b4;omega,λe=>by have:=h.b6;omega,λe=>by have:=(h.row.lt k e).1;omega⟩
def hE.Q4(h:hE w B p3 p4 p5 bm so N):p4<w/\bm<w:=⟨(Ω.1 h.h4).1,h.map.lt⟩
def hE.ne(h:hE w B p3 p4 p5 bm so N):p4≠bm/\so.ownBlock≠U p4/\so.ownBlock≠U bm:=by
 obtain⟨d,b,a,_⟩:=h.map;refine⟨λe=>?_,GG h.row λc f e=>?_,GG h.row λc f e=>?_⟩;subst e;have:=h.h4;rw[a]at this;cases this
 rw[h.h4]at e;cases e
 grind
def OY(h:hE w B p3 p4 p5 bm so N)(t:cz w w' p4 bm so so')(e:B<=w):Y B w w':=⟨t.os,t.tape,t.output,t.size,λk d=>by obtain⟨a,b,c⟩:=h.low d;exact t.block k (by omega) a b c⟩
def Pe{e size n:Nat}{v xs B'}(h:hE w B p3 p4 p5 bm so N)(t:cz w w' p4 bm so so')(f:w.ownsRow B' e size v n xs)(m:e≠24)(l:e≠3):w'.ownsRow B' e size v n xs:=
 aS f λg i=>by
  have d:=(f.lt g i).2;obtain⟨_,⟨rfl,_⟩|⟨p,o,k,rfl,q,j,_⟩⟩:=f;cases i
  cases i
  obtain⟨a,b,c⟩:=h.free j m l;exact t.block p d a b c
end
end
def ag4{w c w4 B f b h bm so a N n}(hs:hE w B f b h bm so N)(h3:w.grownBy c (U bm))(x:GB c bm (N++[n]))(h4:c.grownBy w4 so.ownBlock)(v:OI w4 B a (N++[n]))(s:a.ownBlock=so.ownBlock\/∃k,a.ownBlock=U k/\c.heap.size<=k):
 hE (w4.setCell ⟨b,0,I⟩ a) B f b h bm a (N++[n])/\cz w (w4.setCell ⟨b,0,I⟩ a) b bm so a:=by
 obtain⟨o,z,q⟩:=hs.ne;obtain⟨y,D⟩:=hs.Q4;have z3:=h3.size;have C:=h4.size;obtain⟨q1,A,u⟩:=hs.free hs.h3 (by decide) (by decide);obtain⟨r1,r2,r3⟩:=hs.free hs.h5 (by decide) (by decide);have d:∀k,k<w.heap.size->k≠bm->so.ownBlock≠U k->w4.heap[k]?=w.heap[k]?:=λk j m l=>(h4.block k (by omega)<|ZP l).trans<|h3.block k j λe=>m<|ZX e;have t:a.ownBlock≠U b:=by grind
 refine⟨⟨hs.b3,hs.b4,hs.b5,hs.b6,(aa q1).trans<|(d f (Ω.1 hs.h3).1 A u).trans hs.h3,?_,(aa r1).trans<|(d h (Ω.1 hs.h5).1 r2 r3).trans hs.h5,aS v λg r=>aa λe=>t<|e▸r,?_⟩,⟨h4.os.trans h3.os,h4.tape.trans h3.tape,h4.output.trans h3.output,by simp[ZB];omega,λk j p m l=>(aa p).trans<|d k j m l,λk e=>?_⟩⟩;exact heap_setCell_same (i:=0)<|(d b y o z).trans hs.h4;exact x.of_block<|(aa<|ZP o).trans<|h4.block bm (by omega)<|ZP q
 grind
def VZ(w:M)(B v c A bm:Nat)(so:Value)(N:List Int)(n:Int)(h:hE w B v c A bm so N)(hl:N.length<=1000000):
 R prog 177 #[Θ Ξ n,.pointer v,.pointer c] w λe w'=>e=.returned (Θ Ξ ((ml N n).idxOf n:Nat))/\∃u,hE w' B v c A bm u (ml N n)/\cz w w' c bm so u:=by
 have G:=V h;have T:w v=U (.map<|U bm):=by simp[Z,h.h3]
 have r:w c=U so:=by simp[Z,h.h4]
 have l:=aaQ n h.map;by_cases i:n∈N
 ·have t:ml N n=N:=by unfold ml;rw[if_pos (by simpa using i)]
  rw[t];simp only[i,if_true,decide_true]at l;generalize N.idxOf n=ix at l⊢;clear h t i r
  go_enter (fU func177 rfl),ntmps177
  go_wp2_with fail
  go_ret;exact⟨rfl,_,G.out,cz.refl _⟩
 ·have t:ml N n=N++[n]:=by unfold ml;rw[if_neg (by simpa using i)]
  have hi:(N++[n]).idxOf n=N.length:=by simp[Zt,i]
  rw[t,hi];simp only[i,if_false,decide_false]at l;have HX:=V i;obtain⟨a,m,z,P,Q,_⟩:=aF h.row;obtain⟨f,E,q,d⟩:=aeg n h.map i;obtain⟨y,H,C⟩:=h.ne;subst z;have c3:=(d.cell_far c h.Q4.1 λe=>y<|ZX e).trans r;have S:f.frozen? c=Z3:=(d.frozen_far c h.Q4.1 λe=>y<|ZX e).trans (by simp[Z8,h.h4]);have o:OI f B (.slice a N.length m) N:=aS h.row λg D=>d.block g (h.row.lt g D).2 λe=>C<|by rw[D,ZX e]
  have s:c<f:=μ h.Q4.1 d.size;have K:B<=f:=by have:=h.b4;omega
  have L:=V d;have J:=V q;have HO:=V o;have F:=V H;clear h t i hi y H C d q o
  go_enter (fU func177 rfl),ntmps177
  go_wp2_with (at_builtin;refine GC rfl _ _ rfl B _ _ rfl (HO.out.below<|af f _) f.heap.size _ n rfl (by simp[go_sem,Z7]) (by omega) (by simp;omega) ?_;intro X w6 b O k j;obtain⟨a6,W,rfl,_⟩:=aF b;have c6:=(k.cell_far c (by simp;omega)<|ZP F.out).trans<|((af f _).cell (p:=⟨c,0,I⟩) s).trans c3;have f6:=(k.frozen_far c (by simp;omega)<|ZP F.out).trans<|((af f _).frozen (p:=⟨c,0,I⟩) s).trans S)
  go_ret;have x:(N++[n]).length=N.length+1:=by simp
  rw[x]at b j;exact⟨rfl,_,ag4 G.out L.out J.out (ae2 (af f _) k) b (by obtain e|e:=j;exact .inl e;exact .inr ⟨_,e,by simp⟩)⟩
section
def agA{b:Type}{l:List b}{i a}(h:l[i]?=U a):l.set i a=l:=by
 refine List.ext_getElem? λj=>?_
 grind
def OV.ajo{w}{B g n m k:Nat}{l p q}(r:Int)(h:OV w B (.slice g n m) l)(c:l[k]?=U (p,q)):
 OV (w.setCell (g,k*2+1) r) B (.slice g n m) (l.set k (p,r)):=by
 have b:(l.set k (p,r)).flatMap lU=(l.flatMap lU).set (k*2+1) r:=by rw[JX (p,r) l k ((ψ.1 c).1),agA (jx lU (λv=>Θ Ξ v.1) (λv=>Θ Ξ v.2) (λ_=>rfl) l k _ c).1]
 obtain⟨f,⟨h0,_⟩|⟨u,i,a,e,j,s,t,d,hs,o⟩⟩:=h;cases h0
 cases e
 refine⟨by rw[b];simpa using f,.inr ⟨g,m,a.setIfInBounds (k*2+1) r,by simp,j,?_,by simpa using t,d,by simpa using hs,?_⟩⟩;simp[ZB,Array.getElem?_modify,s];rw[b,<-o];simp only[Array.toList_setIfInBounds,Zq,List.take_set]
section
variable{w w':M}{B p3 p4 p5 bm:Nat}{so so':Value}{N:List Int}
def hE.setCell(h:hE w B p3 p4 p5 bm so N){g:Nat}{b t fr}(d:w.heap[g]?=U (.cells b t fr))(a:t≠24/\t≠3/\t≠164/\t≠47)(i:Nat)(v):hE (w.setCell (g,i) v) B p3 p4 p5 bm so N:=by
 obtain⟨l,f,m⟩:=h.free d a.1 a.2.1;have k:∀j,j≠g->(w.setCell (g,i) v).heap[j]?=w.heap[j]?:=λj c=>aa c;exact⟨h.b3,h.b4,h.b5,h.b6,(k _ λe=>by subst e;have:=h.h3;rw[d]at this;cases this;exact a.2.2.1 rfl).trans h.h3,(k _ (ZP l)).trans h.h4,
  (k _ λe=>by subst e;have:=h.h5;rw[d]at this;cases this;exact a.2.2.2 rfl).trans h.h5,aS h.row λj c=>k j λe=>m (e▸c),h.map.of_block (k _ (ZP f))⟩
def cz.setCell{bs}(h:cz w w' bs bm so so'){g}(e:w.heap.size<=g)(i:Nat)(v):cz w (w'.setCell (g,i) v) bs bm so so':=⟨h.os,h.tape,h.output,by simpa[ZB]using h.size,λk d a b c=>(aa<|by omega).trans<|h.block k d a b c,h.own⟩
def agB{g n m:Nat}{l B'}(h:OV w B' (.slice g n m) l):∃a,w.heap[g]?=U (.cells a 50 (0,0)):=by
 obtain⟨e,⟨h0,_⟩|⟨o,b,a,d,f,j,k,c,hs,i⟩⟩:=h
 grind
 grind
end
def afL(N n):N<+:ml N n:=by
 unfold ml
 grind
theorem n6:∀(l:List HV) (N:List Int),N<+:iZ N l
 |[],N=>ZF _
 |v::l,N=>by
  rw[v7];refine List.IsPrefix.trans ?_<|n6 l _;split
  exact afL _ _;simp
def u4(N l a):iZ N (l++a)=iZ (iZ N l) a:=by simp[iZ]
def Qo{N}{l:List HV}{k:Nat}{p q}(h:l[k]?=U (p,q)):iZ N (l.take<|k+1)=if p=1 then ml (iZ N<|l.take k) q else iZ N (l.take k):=by rw[bW h,u4];rfl
def KI{A C}{n:Int}(h:A<+:C)(a:n∈A):C.idxOf n=A.idxOf n:=by obtain⟨t,rfl⟩:=h;rw[Zt,if_pos a]
def Qs(N n):n∈ml N n:=ND.2<|.inr rfl
def G1(l):∀N,(iZ N l).length<=N.length+l.length:=by
 induction l with
 |nil=>intro N;exact .refl
 |cons v l a=>
  intro N;rw[v7];have:=a (if v.1=1 then ml N v.2 else N);have b:(if v.1=1 then ml N v.2 else N).length<=N.length+1:=by
   split
   unfold ml;split<;>simp;omega
  simp;omega
def Pf(w B K y x bm so v N l)(h:hE w B K y x bm so N)(hv:eI w v l)(hN:N.length<=100000)(hl:l.length<=100000):
 R prog 178 #[v,.pointer x] w λe w'=>∃r f,e=.returned r/\OV w' w r (l.map<|yA<|iZ N l)/\hE w' B K y x bm f (iZ N l)/\cz w w' y bm so f:=by
 have HS:=V h;obtain⟨a,m,rfl,hm,hm2,ha⟩:=hv;obtain⟨i0,hi,hz0,Q,hz2⟩:=Zx nh;have hmk:=λW=>BC l.length l.length .refl (by omega) W;have HA:=V ha;have HI:=V hi;have HZ1:=V Q;have c5:w x=U (.func (.func 177) #[] #[.pointer K,.pointer y]):=by simp[Z,h.h5]
 have ν:=(Ω.1 h.h5).1;have L:=h.free h.h5 (by decide) (by decide);have F:=V L;clear h ha hi hz0 Q hz2 L
 go_enter (fU func178 rfl),ntmps178
 go_wp2_with (with_reducible refine iW rfl (.tmp 10) (.tmp 11) 23 23 rfl 50 i0 2 w l.length l.length a m _ 50 (l.flatMap lU) lx HI.out HZ1.out rfl rfl (Γ w _) (fx l) (λh0=>?h1) (by rw[fx,jz];omega) (V1 l) ?_)
 case h1=>obtain⟨bb,o,e,hb2,hat⟩:=HA.out h0;refine⟨_,e,λj u hu=>(World.cell?_alloc_lt w _ _ ?_).trans<|zt hat j u hu⟩;rw[show(((bb,o):ZQ).add j).block=bb by unfold Z7;split<;>rfl];exact hb2
 ·intro w1 D S;rw[<-List.length_flatMap]at D;have H:=(af w _).grown S (by simp) (λk hk=>by cases hk;exact .refl);have T:=zR rfl .refl D (by omega);have X:=HS.out.below H;have ht1:cz w w1 y bm so so:=cz.bK H;clear D S hmk HI HZ1 H
  go_wp2_with fail
  go_loopw [15] (λi wr=>∃(k:Nat) (f:Value),k<=l.length/\i=Θ Ξ k/\OV wr w (.slice w.heap.size l.length l.length) ((l.take k).map (yA<|iZ N l)++l.drop k)/\hE wr B K y x bm f (iZ N<|l.take k)/\cz w wr y bm so f) (λi _=>l.length-(intOf i).toNat)
  case atStart=>exact⟨0,so,υ _,rfl,by simpa using T,by simpa[iZ]using X,ht1⟩
  case round=>
   clear T X ht1;obtain⟨k,O,hk,rfl,b,c,d⟩:=hrel;by_cases hlt:k<l.length
   ·obtain⟨p,q,e1⟩:=ep hlt;obtain⟨c1,c2,A,hBg,hgl⟩:=OV.at_ b<|Wa e1;have HO:=V b;have C:=V c;have J:=V e1;have hz:=d.size;have k5:=(d.cell (a:=⟨x,0,I⟩) ν F.out.1 F.out.2.1 F.out.2.2).trans c5;have aoJ:x<wr:=by omega
    have f1:=A<|k*2+1;have hvl:(iZ N<|l.take k).length<=1000000:=by have:=G1 (l.take k) N;simp at this;omega
    by_cases hp:p=1
    ·subst hp;clear A e1 b c
     go_wp2_with fail
     refine(VZ _ B K y x bm O (iZ N<|l.take k) q (C.out.below<|af wr _) hvl).mono ?_;rintro e w2 ⟨rfl,so2,hn2,E⟩;have t:=Pe (C.out.below<|af wr<|Ψ #[Θ Ξ 1,Θ Ξ q] 50) E (HO.out.alloc _) (by decide) (by decide);obtain⟨d1,d2,P,-,-⟩:=OV.at_ t<|Wa J.out;have g1:=P<|k*2+1;have n:=OV.ajo (((ml (iZ N<|l.take k) q).idxOf q:Nat):Int) t<|Wa J.out;obtain⟨cur,z⟩:=agB t;have s:=hn2.setCell z (by decide) (k*2+1)<|Θ Ξ (((ml (iZ N<|l.take k) q).idxOf q:Nat):Int);have G:=(d.trans<|(cz.bK<|af wr<|Ψ #[Θ Ξ 1,Θ Ξ q] 50).trans E).setCell hBg (k*2+1)<|Θ Ξ (((ml (iZ N<|l.take k) q).idxOf q:Nat):Int);have hr:yA (iZ N l) (1,q)=(1,(((ml (iZ N<|l.take k) q).idxOf q:Nat):Int)):=by
      have h1:iZ N (l.take<|k+1)<+:iZ N l:=by have:=n6 (l.drop<|k+1)<|iZ N<|l.take<|k+1;rwa[<-u4,Zw]at this
      have g:=Qo (N:=N) J.out;rw[if_pos rfl]at g;rw[g]at h1;simp[yA,KI h1<|Qs _ _]
     rw[<-hr,IB J.out]at n;have g:=Qo (N:=N) J.out;rw[if_pos rfl]at g;generalize (((ml (iZ N<|l.take k) q).idxOf q:Nat):Int)=ix at n s G⊢;rw[<-g]at s;have H3:=V<|ω n<|ω s G;clear t n hn2 s E G hr g z P c1 c2 f1 k5
     go_wp2_with fail
     exact⟨⟨k+1,so2,by omega,by go_num,H3.out.1,H3.out.2.1,H3.out.2.2⟩,by simp[intOf];omega⟩
    ·have hp':(p==1)=Z3:=by simp[hp]
     have hr:yA (iZ N l) (p,q)=(p,q):=by simp[yA,hp]
     have g:=Qo (N:=N) J.out;rw[if_neg hp]at g;have HR:=V hr;have H2:=V g;clear A e1 b c hr g
     go_wp2_with fail
     exact⟨⟨k+1,O,by omega,by go_num,by rw[<-IC J.out HR.out];exact HO.out.alloc _,by rw[H2.out];exact C.out.below<|af wr _,d.trans<|cz.bK<|af wr _⟩,by simp[intOf];omega⟩
   ·rw[χ (by omega),List.drop_eq_nil_of_le<|by omega,Zs]at b;rw[χ (by omega)]at c
    go_wp2_with fail
    go_ret;exact⟨_,_,rfl,b,c,d⟩
end
section
def Ao(w:M)(c:Nat)(k:Int):Prop:=∃a l mc u,w.heap[c]?=U (Ψ #[.slice a (l:List Int).length mc,Θ Ξ k,Θ .u64 u] 95 (0,0))/\n9 w (.slice a l.length mc) l/\∀p,0<l.length->a=U p->p.block<c
def kp(w:M)(c m:Nat):Prop:=∃k,Ao w c k/\0<=k/\k<=(m:Int)
def Xx(op a b):0<=bits op .u64 a b:=(wrap_within .u64 _).1
section
variable{w w':M}{c:Nat}
def Kr{i:Nat}{v}(h:w.grownBy w' (U c)):w.grownBy (w'.setCell (c,i) v) (U c):=⟨h.os,h.tape,h.output,by simpa using h.size,λj b a=>(aa λe=>a<|congrArg U e).trans<|h.block j b a⟩
def Xy{r}(h:w.grownBy w' r)(n):w.grownBy (w'.drewN n) r:=⟨h.os,h.tape,h.output,h.size,h.block⟩
def adF{r}(h:w.grownBy w' r):w.grownBy w'.drew r:=⟨h.os,h.tape,h.output,h.size,h.block⟩
def n9.grown{a n m l}(h:n9 w (.slice a n m) l)(g:w.grownBy w' (U c))(d:∀p,0<l.length->a=U p->p.block≠c):n9 w' (.slice a n m) l:=by
 obtain⟨q,r,e,k,j,h3⟩:=h;cases e
 refine⟨a,m,rfl,k,j,λh0=>?_⟩;obtain⟨b,o,rfl,hb,f⟩:=h3 h0;refine⟨b,o,rfl,μ hb g.size,λi n e=>g.cell (f i n e) ?_⟩
 exactλe=>d _ h0 rfl<|ZX e
def Ao.ah3{k k':Int}(h:Ao w c k):Ao (w.setCell (c,1) k') c k':=by obtain⟨a,l,mc,u,hc,d,b⟩:=h;exact⟨a,l,mc,u,heap_setCell_same hc,d.grown (Kr<|ZO w<|U c) λp h0 e=>Nat.ne_of_lt<|b p h0 e,b⟩
def Ao.anz{k b}(h:Ao w c k):Ao (w.setCell (c,2)<|Θ .u64 b) c k:=by obtain⟨a,l,mc,u,hc,f,d⟩:=h;exact⟨a,l,mc,b,heap_setCell_same hc,f.grown (Kr<|ZO w<|U c) λp h0 e=>Nat.ne_of_lt<|d p h0 e,d⟩
def Ao.reads{k}(h:Ao w c k):∃a l mc u,w c=U (.slice a (l:List Int).length mc)/\w (c,1)=U (Θ Ξ k)/\w (c,2)=U (Θ .u64 u)/\w.frozen? (c,1)=Z3/\w.frozen? (c,2)=Z3/\(0<=k->(∃b o x,a=U ⟨b,o,I⟩/\w ((b:Nat),o+k.toNat)=U (Θ Ξ x)/\k<(l.length:Int))\/¬k<(l.length:Int))/\l.length<=mc/\mc<=9223372036854775807:=by
 obtain⟨a,l,mc,u,hc,⟨m,n,f,i,g,h3⟩,p⟩:=h;cases f
 refine⟨a,l,mc,u,by simp[Z,hc],by simp[Z,hc],by simp[Z,hc],by simp[Z8,hc],by simp[Z8,hc],λh0=>?_,i,g⟩;by_cases d:k<(l.length:Int)
 obtain⟨b,o,rfl,hb,e⟩:=h3 (by omega);obtain⟨x,j⟩:=lw (l:=l) (k:=k.toNat) (by omega);exact .inl ⟨b,o,x,rfl,e _ _ j,d⟩;exact .inr d
end
def adH(w c m)(h:kp w c m)(E:m<=1000000000):
 R prog 91 #[.pointer c] w λe w'=>(∃r,e=.returned (Θ .u64 r)/\0<=r)/\kp w' c (m+1)/\w.grownBy w' (U c):=by
 obtain⟨k,g,i,q⟩:=h;have v:=V g;obtain⟨a,l,mc,u,c0,c1,c2,s,y,n,C,A⟩:=g.reads;clear g;obtain⟨b,o,x,rfl,n,f⟩|f:=n i
 all_goals
  go_enter (fU func91 rfl),ntmps91
  go_wp2_with fail
  go_quiet (fail)
  go_wp2_with fail
  try
   go_quiet (fail)
   go_wp2_with fail
  go_region
  generalize hw:World.drew _=p;have d:Ao p c (k+1):=by rw[<-hw];exact Ao.anz<|Ao.anz<|Ao.ah3 (w:=w.drewN _) v.out
  have j:w.grownBy p (U c):=by rw[<-hw];exact adF<|Kr<|Kr<|Kr<|Xy (ZO w<|U c) _
  clear hw;obtain⟨D,F,t,u6,_,_,z,_,B,_⟩:=d.reads;clear c0 c1 c2 s y n
  go_wp2_with fail
  go_quiet (fail)
  go_wp2_with fail
  go_ret;exact⟨⟨_,rfl,Int.ediv_nonneg (Xx _ _ _)<|by omega⟩,⟨k+1,d.anz,by omega,by omega⟩,Xy (Kr j) nq⟩
end
section
variable{c:Nat}{w:M}
def hQ(w:M)(c m:Nat)(w':M):Prop:=kp w' c m/\w.grownBy w' (U c)
def R0(w c m n)(h:kp w c m)(b:m<=1000000000)(f:-1000000<=n)(d:n<=1000000):
 R prog 35 #[.pointer c,Θ Ξ n] w λe w'=>(∃r,e=.returned (Θ Ξ r)/\0<=r/\(r=0\/r<=n))/\hQ w c (m+1) w':=by
 go_enter (fU func35 rfl),ntmps35
 go_wp2_with fail
 refine(adH _ c m h b).mono ?_;rintro e g ⟨⟨x,rfl,i⟩,hc,a⟩;by_cases j:n<1
 ·go_wp2_with fail
  go_ret;exact⟨⟨0,rfl,by omega,.inl rfl⟩,hc,a⟩
 ·have e1:=Int.emod_nonneg x (by omega:n+1≠0);have e2:=Int.emod_lt_of_pos x (by omega:0<n+1)
  go_wp2_with fail
  go_ret;exact⟨⟨_,rfl,e1,.inr<|by omega⟩,hc,a⟩
def Kt(w c m n)(h:kp w c m)(a:m<=1000000000)(f:0<=n)(d:n<=1000000):
 R prog 38 #[.pointer c,Θ Ξ n] w λe w'=>(∃b,e=.returned (.bool b))/\hQ w c (m+1) w':=by
 go_enter (fU func38 rfl),ntmps38
 go_wp2_with fail
 refine(R0 _ c m (n-1) h a (by omega)<|by omega).mono ?_;rintro e g ⟨⟨x,rfl,i⟩,hw⟩
 go_wp2_with fail
 go_ret;exact⟨⟨_,rfl⟩,hw⟩
def adI(w c m lo hi)(h:kp w c m)(a:m<=1000000000)(d:-100000<=lo)(b:lo<=hi)(h3:hi<=100000):
 R prog 90 #[.pointer c,Θ Ξ lo,Θ Ξ hi] w λe w'=>(∃r,e=.returned (Θ Ξ r)/\lo<=r/\r<=hi)/\hQ w c (m+1) w':=by
 go_enter (fU func90 rfl),ntmps90
 go_wp2_with fail
 refine(R0 _ c m (hi-lo) h a (by omega)<|by omega).mono ?_;rintro e f ⟨⟨x,rfl,g⟩,hw⟩
 go_wp2_with fail
 go_ret;exact⟨⟨_,rfl,by omega,by omega⟩,hw⟩
def Pt(w)(c m g n:Nat)(l)(h:kp w c m)(t:m<=1000000000)(j:n9 w (.slice g n n) l)(A:g≠c)(z:0<l.length)(B:l.length<=1000000):
 R prog 34 #[.pointer c,.slice g n n] w λe w'=>(∃r,e=.returned (Θ Ξ r)/\r∈l)/\hQ w c (m+1) w':=by
 have HV:=V j;obtain⟨a,mc,i,f,s,_⟩:=j;cases i
 clear f
 go_enter (fU func34 rfl),ntmps34
 go_wp2_with fail
 refine(R0 _ c m (l.length-1) h t (by omega)<|by omega).mono ?_;rintro e D ⟨⟨x,rfl,E⟩,hw⟩;obtain⟨C,u,i,f,_,d⟩:=HV.out.grown hw.2 (λp _ e=>by cases e;exact A);cases i
 obtain⟨b,o,i,hb,d⟩:=d z;cases i
 obtain⟨y,q⟩:=lw (l:=l) (k:=x.toNat) (by omega);have hc:=d _ _ q;have v:x<l.length:=by omega
 rw[Nat.zero_add]at hc;clear d
 go_wp2_with fail
 go_ret;exact⟨⟨y,rfl,φ q⟩,hw⟩
def Ku(w:M)(l cs n)(a:l.length=n)(hc:cs.toList=l.map (.int Ξ))(b:n<=1000000):n9 (w.alloc<|.cells cs 3) (.slice w.heap.size n n) l:=by
 subst a;refine⟨_,_,rfl,.refl,by omega,λ_=>⟨_,_,rfl,by simp,λi k e=>?_⟩⟩;have hi:cs[i]?=U (Θ Ξ k):=by rw[<-Array.getElem?_toList,hc,List.getElem?_map,e];rfl
 simp_all
def hQ.trans{w w1 w2 c m n}(h:hQ w c m w1)(k:hQ w1 c n w2):hQ w c n w2:=⟨k.1,h.2.trans k.2⟩
def kp.Qh{w' m}(h:kp w c m)(b:Y w w w'):kp w' c m:=by obtain⟨k,⟨a,l,mc,u,hc,d,g⟩,f,e⟩:=h;exact⟨k,⟨a,l,mc,u,(b.block c (Ω.1 hc).1).trans hc,d.below b,g⟩,f,e⟩
def hQ.below{w1 w2 m}(h:hQ w c m w1)(a:Y w1 w1 w2):hQ w c m w2:=⟨h.1.Qh a,⟨a.os.trans h.2.os,a.tape.trans h.2.tape,a.output.trans h.2.output,Zv h.2.size a.size,λj b d=>(a.block j<|μ b h.2.size).trans<|h.2.block j b d⟩⟩
def kp.oq{m}(h:kp w c m):hQ w c m w:=⟨h,.refl _ _⟩
def kp.more{m n}(h:kp w c m)(d:m<=n):kp w c n:=by obtain⟨k,b,a,e⟩:=h;exact⟨k,b,a,by omega⟩
def kp.lt{m}(h:kp w c m):c<w:=by obtain⟨k,⟨a,l,mc,u,hc,_⟩,_⟩:=h;exact(Ω.1 hc).1
def hQ.more{w w' c m n}(h:hQ w c m w')(a:m<=n):hQ w c n w':=⟨h.1.more a,h.2⟩
def hQ.off{w' k o}(h:hQ (w.alloc o) c k w'):hQ w c k w':=⟨h.1,(World.grownBy_alloc w o _).trans h.2⟩
def hQ.upto{s W k}(h:hQ w c k s)(hc:c<w)(hb:Y w s W):hQ w c k W:=by
 obtain⟨⟨x,⟨a,l,mc,u,h0,v,f⟩,p,m⟩,d⟩:=h;refine⟨⟨x,⟨a,l,mc,u,(hb.block c hc).trans h0,?_,f⟩,p,m⟩,hb.os.trans d.os,hb.tape.trans d.tape,hb.output.trans d.output,Zv d.size hb.size,λj r f=>(hb.block j r).trans<|d.block j r f⟩;obtain⟨y,z,e,p,m,h3⟩:=v;cases e
 refine⟨a,mc,rfl,p,m,λh0=>?_⟩;obtain⟨b,o,rfl,g,q⟩:=h3 h0;have t:b<c:=f _ (by omega) rfl;exact⟨b,o,rfl,μ g hb.size,λi n e=>by have:=q i n e;simpa only[Z,hb.block b<|by omega]using this⟩
def eA{b:Nat}{x y t}(h:w.heap[b]?=U (Ψ #[x,y] t (0,0))):w b=U x/\w (b,1)=U y/\w.frozen? b=Z3/\w.frozen? (b,1)=Z3:=⟨by simp[Z,h],by simp[Z,h],by simp[Z8,h],by simp[Z8,h]⟩
def Qi{b:Nat}{x y t}(h:w.heap[b]?=U (Ψ #[x,y] t (0,0)))(p q):((w.setCell b p).setCell (b,1) q) b=U p/\((w.setCell b p).setCell (b,1) q) (b,1)=U q:=by have a:=heap_setCell_same (i:=1) (v:=q)<|heap_setCell_same (i:=0) (v:=p) h;exact⟨by simp[Z,a],by simp[Z,a]⟩
def KL(n p q:Int):Prop:=(p=1/\0<=q/\q<n)\/(p=2/\q=0)\/(p=0/\-99<=q/\q<=99)
def Pu(w c m n)(h:kp w c m)(N:m<=900000000)(K:0<=n)(J:n<=1000):
 R prog 127 #[.pointer c,Θ Ξ n] w λe w'=>(∃p q,e=.returned (.agg #[Θ Ξ p,Θ Ξ q])/\KL n p q)/\hQ w c (m+4) w':=by
 have B:=af w<|Ψ #[Θ Ξ 0,Θ Ξ 0] 50;have h0:=h.Qh B;have s:=h.lt;have hw:=(h0.more (by omega:m<=m+1)).oq;have fin:∀(g:M) (k:Nat) (p q:Int),k<=m+4->hQ (w.alloc<|Ψ #[Θ Ξ 0,Θ Ξ 0] 50) c k g->KL n p q->g.heap[w.heap.size]?=U (Ψ #[Θ Ξ 0,Θ Ξ 0] 50 (0,0))/\
  ∀W,W=(g.setCell w.heap.size<|Θ Ξ p).setCell (w.heap.size,1) (Θ Ξ q) ->W w.heap.size=U (Θ Ξ p)/\W (w.heap.size,1)=U (Θ Ξ q)/\hQ w c (m+4) W:=by
  intro g k p q F hw l;have hb:g.heap[w.heap.size]?=U (Ψ #[Θ Ξ 0,Θ Ξ 0] 50 (0,0)):=(hw.2.block _ (by simp) (by simp;omega)).trans<|Γ w _;refine⟨hb,?_⟩;rintro W rfl;obtain⟨i,f⟩:=Qi hb (Θ Ξ p)<|Θ Ξ q;exact⟨i,f,(hw.off.upto s<|((Δ _ _).setCell (p:=⟨w.heap.size,0,I⟩) .refl _).setCell (p:=⟨w.heap.size,1,I⟩) .refl _).more F⟩
 by_cases L:0<n<;>(go_enter (fU func127 rfl),ntmps127;go_wp2_with fail)<;>try (refine(Kt _ c m 4 h0 (by omega) (by omega)<|by omega).mono ?_;rintro e O ⟨⟨b,rfl⟩,hw⟩;go_wp2_with fail)
 ·refine(R0 _ c (m+1) (n-1) hw.1 (by omega) (by omega)<|by omega).mono ?_;rintro e g ⟨⟨x,rfl,H⟩,u⟩;have l:KL n 1 x:=.inl ⟨rfl,by omega,by omega⟩;obtain⟨hb,j⟩:=fin g _ _ _ (by omega) (hw.trans u) l;obtain⟨z,r,g0,C⟩:=eA hb
  go_wp2_with fail
  obtain⟨i,f,o⟩:=j _ rfl;exact κ (v:=.agg #[Θ Ξ 1,Θ Ξ x]) (by simp[Z1,results127,go_sem,i,f]) rfl ⟨⟨1,x,rfl,l⟩,o⟩
 all_goals
  refine(Kt _ c (m+1) 8 hw.1 (by omega) (by omega)<|by omega).mono ?_;rintro e w4 ⟨⟨b4,rfl⟩,a⟩;replace a:=hw.trans a;obtain⟨hb,j⟩:=fin w4 _ 2 0 (by omega) a<|.inr<|.inl ⟨rfl,rfl⟩;obtain⟨z,r,g0,C⟩:=eA hb
  go_wp2_with fail
  ·obtain⟨i,f,o⟩:=j _ rfl;exact κ (v:=.agg #[Θ Ξ 2,Θ Ξ 0]) (by simp[Z1,results127,go_sem,i,f]) rfl ⟨⟨2,0,rfl,.inr<|.inl ⟨rfl,rfl⟩⟩,o⟩
  ·refine(adI _ c (m+1+1) (-99) 99 a.1 (by omega) (by omega) (by omega)<|by omega).mono ?_;rintro e w5 ⟨⟨x,rfl,H⟩,d⟩;clear z r g0 C hb j
   go_wp2_with fail
   have A:=af w5<|Ψ #[Θ Ξ 0,Θ Ξ 1,Θ Ξ 7,Θ Ξ<|-3,Θ Ξ x] 3;have E:=d.1.lt;have d:=(a.trans d).below A;refine(Pt _ c _ _ _ [0,1,7,-3,x] d.1 (by omega) (Ku w5 _ _ 5 rfl rfl<|by omega) (by omega) (by simp)<|by simp).mono ?_;rintro e D ⟨⟨y,rfl,G⟩,t⟩;have l:KL n 0 y:=.inr<|.inr (by simp at G;omega);obtain⟨hb,j⟩:=fin D _ _ _ (by omega) (d.trans t) l;obtain⟨z,r,g0,C⟩:=eA hb
   go_wp2_with fail
   obtain⟨i,f,o⟩:=j _ rfl;exact κ (v:=.agg #[Θ Ξ 0,Θ Ξ y]) (by simp[Z1,results127,go_sem,i,f]) rfl ⟨⟨0,y,rfl,l⟩,o⟩
end
section
def Fe(w:M)(g:Nat)(l:List Int):Prop:=w.heap[g]?=U (.cells (l.map<|Value.int Ξ).toArray 3 (0,0))
section
variable{w w':M}{g:Nat}{l:List Int}
def Fe.cell(h:Fe w g l){i}(hi:i<l.length):w (g,i)=U (Θ Ξ<|l.getD i 0):=by unfold Fe at h;simp[Z,h,hi]
def Fe.thaw(h:Fe w g l)(i:Nat):w.frozen? (g,i)=Z3:=by unfold Fe at h;simp[Z8,h]
def Fe.set(h:Fe w g l)(i)(n:Int):Fe (w.setCell (g,i) n) g (l.set i n):=by unfold Fe at h⊢;rw[heap_setCell_same h];simp
end
def Fe.own{w B g k l}(h:Fe w g l)(f:B<=g)(c:k<=l.length)(i:l.length<=1000000):OI w B (.slice g k l.length) (l.take k):=by
 have b:(l.take k).length=k:=by simp;omega
 unfold OI World.ownsRow;rw[b];refine⟨by rw[EO,b],.inr ⟨g,_,_,rfl,f,h,c,by unfold maxLen;omega,by simp,?_⟩⟩;have e:∀l:List Int,l.flatMap eP=l.map (Value.int Ξ):=λl=>by
  induction l with
  |nil=>rfl
  |cons a l d=>rw[List.flatMap_cons,d];rfl
 simp_all
def Q8(n:Nat)(e:n<=1000000)(w):(Instr.makeSlice 24 (Θ Ξ (n:Int))<|Θ Ξ (n:Int)).run prog w=.ok (.slice w.heap.size n n) (w.alloc<|.cells (ZH #[Θ Ξ 0] n) 3):=by obtain⟨c,hi,a,b,d⟩:=Zx Dq;have:=mG 24 3 c _ se hi a Ξ Ξ n n .refl (by grind) (by omega) w;rw[b,Nat.mul_one]at this;exact this
def R1(w:M)(n):Fe (w.alloc<|.cells (ZH #[Θ Ξ 0] n) 3) w (List.replicate n 0):=by
 unfold Fe;rw[Γ]
 congr 2
 apply Array.ext;simp[ZH];intro i a b;simp[ZH,Nat.mod_one]
def Ordered(k:Nat)(f:Nat->Int):Prop:=(∀a,a<k->0<=f a/\f a<k)/\∀a b,a<k->b<k->f a=f b->a=b
def Ordered.step{k x f d}(h:Ordered k f)(l:x<=k)(c:∀a,a<=k->d a=if a=x then(k:Int)else if a=k then f x else f a):Ordered (k+1) d:=by
 refine⟨λa g=>?_,λa b g hb e=>?_⟩;rw[c a (by omega)];have j:=h.1 a;have i:=h.1 x;split
 omega;split<;>omega
 ·rw[c a (by omega),c b<|by omega]at e;have j:=h.1 a;have i:=h.1 b;have h3:=h.1 x
  repeat' split at e
  all_goals first
   |omega
   |exact(h.2 a b) (by omega) (by omega) e
   |(have:=(h.2 x b) (by omega) (by omega) e;omega)
   |(have:=(h.2 a x) (by omega) (by omega) e;omega)
def aat(w)(c m n:Nat)(h:kp w c m)(X:m<=900000000)(S:n<=1000):
 R prog 182 #[.pointer c,Θ Ξ n] w λe w'=>(∃g l,e=.returned (.slice (g:Nat) n n)/\Fe w' g l/\w.heap.size<=g/\l.length=n/\Ordered n λa=>l.getD a 0)/\hQ w c (m+n) w':=by
 have C:=Q8 n (by omega)
 go_enter (fU func182 rfl),ntmps182
 go_wp2_with fail
 clear C;have f:=R1 w n;have u:=h.lt;have j:=h.oq.below<|af w<|.cells (ZH #[Θ Ξ 0] n) 3;have q:(w.alloc<|.cells (ZH #[Θ Ξ 0] n) 3).heap.size=w.heap.size+1:=by simp
 generalize w.alloc _=P at f j q⊢;generalize F:w.heap.size=g at f q u⊢
 go_loopw [6] (λi wr=>∃(k:Nat) (l:List Int),k<=n/\i=Θ Ξ k/\Fe wr g l/\l.length=n/\(Ordered k λa=>l.getD a 0)/\hQ w c (m+k) wr) (λi _=>n-(intOf i).toNat)
 case atStart=>exact⟨0,_,υ _,rfl,f,by simp,⟨λa s=>absurd s<|Zo _,λa b s=>absurd s<|Zo _⟩,j⟩
 case round=>
  obtain⟨k,l,N,rfl,A,H,G,hw⟩:=hrel;clear f j;by_cases K:k<n
  ·go_wp2_with fail
   refine(R0 _ c (m+k) k hw.1 (by omega) (by omega)<|by omega).mono ?_;rintro e L ⟨⟨x,rfl,D,Q⟩,o⟩;obtain⟨x,rfl⟩:=Int.eq_ofNat_of_zero_le D;have d:Fe L g l:=(o.2.block g ((Ω.1 A).1) (by simp;omega)).trans A;have c1:=d.cell (i:=x) (by omega);have O:=d.thaw k;have T:=d.thaw x;have v:=d.cell (i:=k) (by omega);generalize J:l.getD x 0=y at c1;generalize l.getD k 0=W at v;have r:=d.set k y;have c2:=r.cell (i:=x) (by simp;omega);generalize (l.set k y).getD x 0=z at c2;have B:Ordered (k+1) λa=>((l.set k y).set x k).getD a 0:=G.step (x:=x) (by omega) λa s=>by
    simp only[ZJ,List.getElem?_set,Zq,<-J];by_cases e1:x=a
    subst e1;simp[show x<l.length by omega];have E:¬a=x:=λe=>e1 e.symm;rw[if_neg e1,if_neg E];by_cases e2:k=a
    subst e2;simp[show k<l.length by omega];have t:¬a=k:=λe=>e2 e.symm;rw[if_neg e2,if_neg t]
   clear J
   go_wp2_with fail
   exact⟨⟨k+1,_,by omega,by go_num,r.set x k,by simpa using H,B,(hw.trans o).upto (by omega)<|((Δ _ _).setCell (p:=⟨g,k,I⟩) (ZG F) _).setCell (p:=⟨g,x,I⟩) (ZG F) _⟩,by simp[intOf];omega⟩
  ·go_wp2_with fail
   go_ret;have e:k=n:=by omega
   subst e;exact⟨⟨g,l,rfl,A,by omega,H,G⟩,hw⟩
def Fs(n:Int)(l:List Int):Prop:=l.Nodup/\∀x∈l,0<=x/\x<n
def Ordered.some{n}{l:List Int}(h:Ordered n λa=>l.getD a 0)(m:l.length=n)(k):Fs n (l.take k):=by
 have f:l.Nodup:=by rw[List.Nodup,ZS];intro i j hi g c e;have:=h.2 i j (by omega) (by omega) (by grind);omega
 refine⟨f.sublist<|List.take_sublist k l,λx d=>?_⟩;obtain⟨i,hi⟩:=ZL.1<|Zu d;have b:=(ψ.1 hi).1;have:=h.1 i (by omega);simpa[ZJ,hi]using this
def Qj(w)(c m n:Nat)(h:kp w c m)(t:m<=900000000)(A:n<=1000):
 R prog 128 #[.pointer c,Θ Ξ n] w λe w'=>(∃r l,e=.returned r/\OI w' w r l/\Fs n l/\l.length<=6)/\hQ w c (m+n+1) w':=by
 go_enter (fU func128 rfl),ntmps128
 go_wp2_with fail
 refine(aat _ c m n h t A).mono ?_;rintro e q ⟨⟨g,l,rfl,p,z,o,u⟩,hw⟩
 go_wp2_with fail
 have d:=af q<|Ψ #[Θ Ξ 0,Θ Ξ 0,Θ Ξ 1,Θ Ξ 2,Θ Ξ 3,Θ Ξ 6] 3;have b:=hw.below d;have s:=hw.1.lt;refine(Pt _ c _ _ _ [0,0,1,2,3,6] b.1 (by omega) (Ku q _ _ 6 rfl rfl<|by omega) (by omega) (by simp)<|by simp).mono ?_;rintro e w4 ⟨⟨y,rfl,v⟩,a⟩;have i:0<=y/\y<=6:=by simp at v;omega
 obtain⟨y,rfl⟩:=Int.eq_ofNat_of_zero_le i.1;have j:=(Ω.1 p).1;have x:g≠c:=by have:=h.lt;omega
 have f:Fe w4 g l:=(a.2.block g (by simp;omega) (by simp;omega)).trans<|(d.block g j).trans p
 go_wp2_with fail
 all_goals
  go_ret;exact⟨⟨_,rfl,_,o▸f.own (k:=_) z (by omega) (by omega),u.some o _,by simp;omega⟩,b.trans a⟩
end
def VK{w w' c m B e size n v xs}(h:w.ownsRow B e size v n xs)(hw:hQ w c m w')(hc:c<B):w'.ownsRow B e size v n xs:=aS h λg a=>hw.2.block g (h.lt g a).2 (by have:=(h.lt g a).1;simp;omega)
def aau(n:Int)(c:HC):Prop:=((c.1=0/\c.2.length<=4)\/(c.1=1/\c.2.length=1)\/(c.1=2/\c.2.length=2))/\∀v∈c.2,KL n v.1 v.2
def Rd(w c m)(n:Int)(p)(h:kp w c m)(hm:m<=800000000)(h1:0<=n)(h2:n<=1000):
 R prog 126 #[.pointer (c:Nat),n,.bool p] w λe w'=>(∃k x vs,e=.returned (.agg #[Θ Ξ k,x])/\OV w' w x vs/\aau n (k,vs))/\hQ w c (m+20) w':=by
 have hb0:=af w<|Ψ #[Θ Ξ 0,()] 76;have h0:=h.oq.below hb0;have T:=h.lt;have z0:(w.alloc<|Ψ #[Θ Ξ 0,()] 76).heap[w.heap.size]?=U (Ψ #[Θ Ξ 0,()] 76 (0,0)):=Γ _ _;have Q:(w.alloc<|Ψ #[Θ Ξ 0,()] 76).heap.size=w.heap.size+1:=by simp
 go_enter (fU func126 rfl),ntmps126
 go_wp2_with fail
 generalize w.alloc _=w1 at h0 z0 Q⊢;have J:=af w1<|Ψ #[Θ Ξ 0,Θ Ξ 0,Θ Ξ 1,Θ Ξ 2,Θ Ξ 2] 3;have H:=h0.below J;have W:=Ku w1 [0,0,1,2,2] #[Θ Ξ 0,Θ Ξ 0,Θ Ξ 1,Θ Ξ 2,Θ Ξ 2] 5 rfl rfl (by omega);rw[Q]at W;refine(Pt _ c _ _ _ [0,0,1,2,2] H.1 (by omega) W (by omega) (by simp)<|by simp).mono ?_;rintro e w2 ⟨⟨N,rfl,B⟩,t⟩;have B:0<=N/\N<=2:=by simp at B;omega
 have z2:=(t.2.block w (by simp;omega) (by simp;omega)).trans<|(J.block _<|by omega).trans z0;have G:=H.trans t;have hs2:w.heap.size+2<=w2:=by have:=t.2.size;simp at this;omega
 clear J H h0 t z0
 go_upto_if 14 with(fail)
 generalize hg:w2.heap.size=g at hs2⊢
 go_cut [7]from 15 to 15 λv O=>∃kk:Int,v=.pointer g/\0<=kk/\kk<=2/\O.heap[g]?=U (Ψ #[Θ Ξ kk,()] 76 (0,0))/\O.heap[w.heap.size]?=U (Ψ #[Θ Ξ 0,()] 76 (0,0))/\hQ w c (m+1) O
 case first=>
  have z:=λk:Int=>af w2<|Ψ #[Θ Ξ k,()] 76;have D:=λk:Int=>Γ w2<|Ψ #[Θ Ξ k,()] 76;rw[hg]at D
  go_wp2_with fail
  ·go_meet
   exact⟨0,rfl,by omega,by omega,D 0,((z 0).block _<|by omega).trans z2,G.below<|z 0⟩
  ·go_meet
   exact⟨N,rfl,B.1,B.2,D N,((z N).block _<|by omega).trans z2,G.below<|z N⟩
 case rest=>
  obtain⟨kk,rfl,hk0,hk2,x1,x0,hw⟩:=hcut;generalize wc=w3 at x1 x0 hw⊢;have hg3:=(Ω.1 x1).1;clear G z2
  go_wp2_with fail
  have A:=af w3<|Ψ #[Θ Ξ 0,Θ Ξ 1,Θ Ξ 1,Θ Ξ 2,Θ Ξ 2,Θ Ξ 3,Θ Ξ 4] 3;have F:=hw.below A;refine(Pt _ c _ _ _ [0,1,1,2,2,3,4] F.1 (by omega) (Ku w3 _ _ 7 rfl rfl<|by omega) (by omega) (by simp)<|by simp).mono ?_;rintro e w4 ⟨⟨y,rfl,hy⟩,s⟩;have hy:0<=y/\y<=4:=by simp at hy;omega
  have y0:=(s.2.block w (by simp;omega) (by simp;omega)).trans<|(A.block _<|by omega).trans x0;have y1:=(s.2.block g (by simp;omega) (by simp;omega)).trans<|(A.block _<|by omega).trans x1;have C:=F.trans s;clear A F hw s x0 x1;have d0:w4 g=U (Θ Ξ kk):=by simp[Z,y1]
  go_upto_if 21 with(fail)
  go_cut [8]from 22 to 23 λv O=>∃j:Nat,v=Θ Ξ j/\j<=4/\(kk=1->j=1)/\(kk=2->j=2)/\O=w4
  case first=>
   go_wp2_with fail
   all_goals go_meet
   have hne:kk≠0:=by simp_all
   obtain⟨j,rfl⟩:=Int.eq_ofNat_of_zero_le hk0;exact⟨j,rfl,by omega,by omega,by omega,rfl⟩;have hne:kk=0:=by simp_all
   obtain⟨j,rfl⟩:=Int.eq_ofNat_of_zero_le hy.1;exact⟨j,rfl,by omega,by omega,by omega,rfl⟩
  case rest=>
   obtain⟨nn,rfl,hn4,hn1,hn2,rfl⟩:=hcut
   go_wp2_with fail
   clear d0
   go_loopw [9] (λi wr=>∃(k:Nat) (x:Value) (vs:List HV),k<=nn/\i=Θ Ξ k/\OV wr (g+1) x vs/\vs.length=k/\(∀v∈vs,KL n v.1 v.2)/\wr.heap[g]?=U (Ψ #[Θ Ξ kk,x] 76 (0,0))/\wr.heap[w.heap.size]?=U (Ψ #[Θ Ξ 0,()] 76 (0,0))/\hQ w c (m+2+4*k) wr) (λi _=>nn-(intOf i).toNat)
   case atStart=>exact⟨0,_,[],υ _,rfl,OV.nil _ _,rfl,(λv hv=>by cases hv),y1,y0,C⟩
   case round=>
    obtain⟨_,x,vs,hk,rfl,L,rfl,hv,e1,e0,hw⟩:=hrel;clear y0 y1 C;by_cases hlt:vs.length<nn
    ·have d1:wr (g,1)=U x:=by simp[Z,e1]
     have hgr:=(Ω.1 e1).1
     go_wp2_with fail
     refine Rg.aaH 4 2 (λu=>u ⟨g,1,I⟩=U x) (by kernel_rfl) (by kernel_rfl) (λc a d v w h=>by cases d<;>exact h) d1 ?_;simp only[ZW,ι,ZZ,θ,ZY]
     iterate 4
      (refine Rg.fp.step (v:=?_) (by rfl) (λu hu=>?_) ?_
       rotate_left
       (go_simp
        try rfl))
     refine Rg.fp.nil<|Rg.pA.succ ?_;simp only[ZE,ο,ε,Z9];refine Z4 rfl λK X=>?_;go_simp;have hd:=(Δ wr wr).drew;have E:=hw.below hd;refine(Pu _ c _ n E.1 (by omega) h1 h2).mono ?_;rintro e w5 ⟨⟨p,q,rfl,ho⟩,r⟩;have b1:=(r.2.block g hgr (by simp;omega)).trans e1;have b0:=(r.2.block w (by simp;omega) (by simp;omega)).trans e0;have hx5:=VK (L.below hd) r (by omega);have S:=E.trans r;have hg5:g<w5:=(Ω.1 b1).1;obtain⟨_,d5,_,f5⟩:=eA b1;refine X _ _ ⟨d5,Rg.pA.succ ?_⟩;clear X K;refine Z4 rfl λK X=>?_;go_simp;have l:=af w5<|Ψ #[p,q] 50;refine X _ _ ⟨cG l d5 hg5,Rg.pA.zero ?_⟩;clear X K d1 L hw E r
     go_wp2_with (at_builtin;refine fO rfl _ _ rfl (g+1) _ _ rfl (hx5.alloc _) w5.heap.size _ (p,q) rfl (by simp[go_sem,Z7]) (by omega) (by simp;omega) ?_;intro v' w6 b f Re;obtain⟨a6,m6,rfl,_⟩:=aF b;have t1:=(f.block g<|by omega).trans<|(l.block g hg5).trans b1;obtain⟨_,s1,_,sf⟩:=eA t1)
     have t0:=(f.block w<|by omega).trans<|(l.block w<|by omega).trans b0;have Xe:=f.size;have o:OV (w6.setCell (g,1)<|.slice a6 (vs++[(p,q)]).length m6) (g+1) (.slice a6 (vs++[(p,q)]).length m6) (vs++[(p,q)]):=aS b λj hj=>aa (by have:=(b.lt j hj).1;omega);have hw7:hQ w c (m+2+4*(vs.length+1)) (w6.setCell (g,1)<|.slice a6 (vs++[(p,q)]).length m6):=S.upto T<|((l.mono<|by omega).trans<|f.mono<|by omega).setCell (p:=((g,1):ZQ)) (by show w.heap.size<=g;omega) _;have hl':(vs++[(p,q)]).length=vs.length+1:=by simp
     rw[hl']at o hw7;exact⟨⟨vs.length+1,_,vs++[(p,q)],by omega,by go_num,o,by simp,λv hv'=>(ZV.1 hv').elim (hv v) λh=>by simp at h;subst h;exact ho,heap_setCell_same (i:=1) t1,(aa<|by omega).trans t0,hw7⟩,by simp[intOf];omega⟩
    ·obtain⟨a0,a1,_,_⟩:=eA e1;obtain⟨b0,b1,f0,f1⟩:=eA e0;have hok:aau n (kk,vs):=⟨by dsimp only;omega,hv⟩;obtain⟨ax,P,rfl,_⟩:=aF L
     go_wp2_with fail
     obtain⟨k0,k1⟩:=Qi e0 (Θ Ξ kk)<|.slice ax vs.length P;have l:=((Δ w wr).setCell (p:=(w.heap.size:ZQ)) .refl<|Θ Ξ kk).setCell (p:=((w.heap.size,1):ZQ)) .refl<|.slice ax vs.length P;have hw6:=(hw.upto T l).more (by omega:m+2+4*vs.length<=m+20);have hx6:OV ((wr.setCell w.heap.size<|Θ Ξ kk).setCell (w.heap.size,1)<|.slice ax vs.length P) w (.slice ax vs.length P) vs:=eV (aS L λj hj=>(aa (by have:=(L.lt j hj).1;omega)).trans<|aa (by have:=(L.lt j hj).1;omega)) (by omega);exact κ (v:=.agg #[Θ Ξ kk,.slice ax vs.length P]) (by simp[Z1,results126,go_sem,k0,k1]) rfl ⟨⟨kk,_,vs,rfl,hx6,hok⟩,hw6⟩
section
def HO(w:M)(B:Nat)(l:List (Int×Value))(cs:List HC):Prop:=l.length=cs.length/\∀(i:Nat) k x k' vs,l[i]?=U (k,x) ->cs[i]?=U (k',vs) ->k=k'/\OV w B x vs
def OX(w:M)(B:Nat)(v:Value)(cs:List HC):Prop:=∃l,OC w B v l/\HO w B l cs
def kE(B:Nat)(w w':M):Prop:=∀j,B<=j->j<w->w'.heap[j]?=w.heap[j]?
section
variable{w w':M}{B:Nat}{v:Value}
def kE.below(h:Y w w w'):kE B w w':=λj _ a=>h.block j a
def kE.oq{c m}(h:hQ w c m w')(hc:c<B):kE B w w':=λj hb a=>h.2.block j a (by grind)
def kE.set{b i:Nat}{u}(hb:b<B):kE B w (w.setCell (b,i) u):=λj a _=>aa (by omega)
def kE.trans{w2}(h:kE B w w')(k:kE B w' w2)(hs:w.heap.size<=w'):kE B w w2:=λj hb a=>(k j hb<|by omega).trans<|h j hb a
def dI{e size n xs}(h:w.ownsRow B e size v n xs)(b:kE B w w'):w'.ownsRow B e size v n xs:=aS h λg a=>b g (h.lt g a).1 (h.lt g a).2
def HO.keep{l cs}(h:HO w B l cs)(c:kE B w w'):HO w' B l cs:=⟨h.1,λi k x a b e1 e2=>⟨(h.2 i k x a b e1 e2).1,dI (h.2 i k x a b e1 e2).2 c⟩⟩
def OX.keep{cs}(h:OX w B v cs)(a:kE B w w'):OX w' B v cs:=by obtain⟨l,b,c⟩:=h;exact⟨l,dI b a,c.keep a⟩
def HO.less{B' l cs}(h:HO w B l cs)(c:B'<=B):HO w B' l cs:=⟨h.1,λi k x a b e1 e2=>⟨(h.2 i k x a b e1 e2).1,(h.2 i k x a b e1 e2).2.less c⟩⟩
def OX.less{B' cs}(h:OX w B v cs)(a:B'<=B):OX w B' v cs:=by obtain⟨l,b,c⟩:=h;exact⟨l,b.less a,c.less a⟩
def OX.reads{cs}(h:OX w B v cs):sa w v cs:=by obtain⟨l,d,a⟩:=h;exact d.reads ⟨a.1,λi k x c b e1 e2=>⟨(a.2 i k x c b e1 e2).1,(a.2 i k x c b e1 e2).2.reads⟩⟩
def OX.nil(w B):OX w B () []:=⟨[],OC.nil _ _,rfl,λi k x a b e1=>by simp at e1⟩
def HO.snoc{l cs k x vs}(h:HO w B l cs)(f:OV w B x vs):HO w B (l++[(k,x)]) (cs++[(k,vs)]):=by
 obtain⟨a,d⟩:=h;refine⟨by simp[a],λi b e c v2 e1 e2=>?_⟩
 grind
def HO.types{l l2 cs s}(h:HO w B l cs)(hs:OC w B s l2)(c:w.grownBy w' s.ownBlock):HO w' B l cs:=⟨h.1,λi k x a b e1 e2=>⟨(h.2 i k x a b e1 e2).1,fy (h.2 i k x a b e1 e2).2 hs (by simp) c⟩⟩
end
structure adJ(n:Nat)(h:PH):Prop where
 len:h.cells.length=n
 cells:∀c∈h.cells,aau n c
 four:h.roots.length=4
 roots:∀v∈h.roots,KL n v.1 v.2
 aA:Fs n h.aA/\h.aA.length<=6
 done:Fs n h.done/\h.done.length<=6
def pS(w:M)(B:Nat)(r:Value)(h:PH):Prop:=∃c ro wi d,r=.agg #[c,ro,wi,d]/\OX w B c h.cells/\OV w B ro h.roots/\OI w B wi h.aA/\OI w B d h.done
def dT{w:M}{b:Nat}{x y z u t}(h:w.heap[b]?=U (Ψ #[x,y,z,u] t (0,0))):(w b=U x/\w (b,1)=U y/\w (b,2)=U z/\w (b,3)=U u)/\∀i,w.frozen? ⟨b,i,I⟩=Z3:=⟨⟨by simp[Z,h],by simp[Z,h],by simp[Z,h],by simp[Z,h]⟩,λi=>by simp[Z8,h]⟩
def KM(w:M)(b a):((w.alloc b).alloc a).heap[w.heap.size]?=U b/\((w.alloc b).alloc a).heap[w.heap.size+1]?=U a/\Y w w ((w.alloc b).alloc a)/\((w.alloc b).alloc a).heap.size=w.heap.size+2:=by refine⟨(η _ _ _<|by simp).trans<|Γ _ _,?_,(af w _).alloc (by simp) _,by simp⟩;have:=Γ (w.alloc b) a;simpa using this
def Xz(w)(c m tG:Nat)(p)(h:kp w c m)(hm:m<=500000000)(hmo:tG<=1000):
 R prog 66 #[.pointer (c:Nat),tG,.bool p] w λe w'=>(∃r n h',e=.returned r/\pS w' w r h'/\adJ n h'/\n<=tG)/\hQ w c (m+100000) w':=by
 have T:=h.lt;obtain⟨z0,z1,hb0,hs0⟩:=KM w (Ψ #[(),(),(),()] 56)<|Ψ #[(),(),(),()] 56;have h0:=h.oq.below hb0
 go_enter (fU func66 rfl),ntmps66
 go_wp2_with fail
 generalize (w.alloc _).alloc _=w1 at z0 z1 hb0 hs0 h0⊢;refine(R0 _ c m tG h0.1 (by omega) (by omega)<|by omega).mono ?_;rintro e w2 ⟨⟨n,rfl,hn0,hn⟩,J⟩;obtain⟨n,rfl⟩:=Int.eq_ofNat_of_zero_le hn0;have hn1:n<=1000:=by omega
 have hnm:n<=tG:=by omega
 have y0:=(J.2.block w (by omega) (by simp;omega)).trans z0;have y1:=(J.2.block (w.heap.size+1) (by omega) (by simp;omega)).trans z1;replace J:=h0.trans J;clear z0 z1 hb0 hs0 h0
 go_wp2_with fail
 go_loopw [9] (λi wr=>∃(xc:Value) (cs:List HC),cs.length<=n/\i=Θ Ξ cs.length/\OX wr (w.heap.size+2) xc cs/\(∀v∈cs,aau n v)/\wr.heap[w.heap.size+1]?=U (Ψ #[xc,(),(),()] 56 (0,0))/\wr.heap[w.heap.size]?=U (Ψ #[(),(),(),()] 56 (0,0))/\hQ w c (m+1+20*cs.length) wr) (λi _=>n-(intOf i).toNat)
 case atStart=>exact⟨_,[],υ _,rfl,OX.nil _ _,(λv hv=>by cases hv),y1,y0,J⟩
 case round=>
  obtain⟨xc,cs,hk,rfl,O,hv,e1,e0,hw⟩:=hrel;clear y0 y1 J;have X:=(Ω.1 e1).1;by_cases hlt:cs.length<n
  ·obtain⟨⟨d1,_⟩,_⟩:=dT e1
   go_wp2_with fail
   refine Rg.aaH 5 2 (λu=>u.cell? ⟨w.heap.size+1,0,I⟩=U xc) (by kernel_rfl) (by kernel_rfl) (λc a d v w h=>by cases d<;>exact h) d1 ?_;simp only[ZW,ι,ZZ,θ,ZY]
   iterate 5
    (refine Rg.fp.step (v:=?_) (by rfl) (λu hu=>?_) ?_
     rotate_left
     (go_simp
      try rfl))
   refine Rg.fp.nil<|Rg.pA.succ ?_;simp only[ZE,ο,ε,Z9];refine Z4 rfl λK hK=>?_;go_simp;have hd:=(Δ wr.heap.size wr).drew;have hwd:=hw.below hd;refine(Rd _ c _ n p hwd.1 (by omega) (by omega)<|by omega).mono ?_;rintro e w5 ⟨⟨k,x,vs,rfl,ho,hok⟩,l⟩;have b1:=(l.2.block (w.heap.size+1) X (by simp;omega)).trans e1;have b0:=(l.2.block w (by omega:w.heap.size<wr) (by simp;omega)).trans e0;have hx5:=O.keep<|(kE.below hd).trans (kE.oq l<|by omega) .refl;have H:=hwd.trans l;have hg5:=(Ω.1 b1).1;obtain⟨⟨d5,_⟩,f5⟩:=dT b1;have hzw:=l.2.size;obtain⟨ax,mx,rfl,_⟩:=aF ho;refine hK _ _ ⟨d5,Rg.pA.succ ?_⟩;clear hK K;refine Z4 rfl λK hK=>?_;go_simp;have t:=af w5<|Ψ #[k,.slice ax vs.length mx] 76;refine hK _ _ ⟨cG t d5 hg5,Rg.pA.zero ?_⟩;clear hK K d1 O hw hwd l;obtain⟨l5,hoc,hoe⟩:=hx5;have hxk:=hoc.below t
   go_wp2_with (at_builtin;refine wh rfl _ _ rfl (w.heap.size+2) _ _ rfl hxk w5.heap.size _ (k,.slice ax vs.length mx) rfl rfl (by simp[go_sem,Z7]) (by have:=hoe.1;omega) (by simp;omega) ?_;intro v' B E G Re;obtain⟨a6,m6,rfl,_⟩:=aF E;have t1:=(G.block (w.heap.size+1)<|by omega).trans<|(t.block (w.heap.size+1) hg5).trans b1;obtain⟨⟨s1,_⟩,sf⟩:=dT t1)
   have Rf:HO B (w.heap.size+2) (l5++[(k,.slice ax vs.length mx)]) (cs++[(k,vs)]):=((hoe.snoc<|ho.less (by omega:w.heap.size+2<=wr)).keep<|kE.below t).types hxk Re;have L:(l5++[(k,Value.slice ax vs.length mx)]).length=l5.length+1:=by simp
   rw[L]at E;have Xe:=G.size;have ah4:OX (B.setCell (w.heap.size+1:Nat)<|.slice a6 (l5.length+1) m6) (w.heap.size+2) (.slice a6 (l5.length+1) m6) (cs++[(k,vs)]):=OX.keep ⟨_,E,Rf⟩<|kE.set<|by omega
   have hw7:hQ w c (m+1+20*(cs.length+1)) (B.setCell (w.heap.size+1:Nat)<|.slice a6 (l5.length+1) m6):=H.upto T<|((t.mono<|by omega).trans<|G.mono<|by omega).setCell (p:=((w.heap.size+1:Nat):ZQ)) (by show w.heap.size<=w.heap.size+1;omega) _;have t0:=(G.block w<|by omega).trans<|(t.block w<|by omega).trans b0;exact⟨⟨_,cs++[(k,vs)],by simp;omega,by rw[ZT,List.length_singleton];go_num,ah4,λv hv'=>(ZV.1 hv').elim (hv v) λh=>by simp at h;subst h;exact hok,heap_setCell_same (i:=0) t1,(aa<|by omega).trans t0,by simpa using hw7⟩,by simp[intOf];omega⟩
  ·go_wp2_with fail
   have HCN:=V (by omega:cs.length=n);generalize hM:m+1+20*cs.length=f at hw;have hM1:f<=m+30000:=by omega
   generalize hg:w.heap.size+1=g at e1 X⊢;rw[show w.heap.size+2=g+1 by omega]at O;obtain⟨wA,hwA⟩:∃x,x=wr:=⟨_,rfl⟩;subst hwA
   go_loopw [10] (λi wr=>∃(xr:Value) (s:List HV),s.length<=4/\i=Θ Ξ s.length/\(kE (g+1) wA wr/\wA.heap.size<=wr)/\OV wr wA xr s/\(∀v∈s,KL n v.1 v.2)/\wr.heap[g]?=U (Ψ #[xc,xr,(),()] 56 (0,0))/\wr.heap[w.heap.size]?=U (Ψ #[(),(),(),()] 56 (0,0))/\hQ w c (f+5*s.length) wr) (λi _=>4-(intOf i).toNat)
   case atStart=>exact⟨_,[],υ _,rfl,⟨λj _ _=>rfl,.refl⟩,OV.nil _ _,(λv hv=>by cases hv),e1,e0,hw⟩
   case round=>
    clear e1 e0 hw;obtain⟨xr,s,hk,rfl,⟨hkA,hzA⟩,hr,sR,e1,e0,hw⟩:=hrel;have X:g<wr:=(Ω.1 e1).1;by_cases hlt:s.length<4
    ·go_wp2_with fail
     refine(Pu _ c _ n hw.1 (by omega) (by omega)<|by omega).mono ?_;rintro e w3 ⟨⟨p',q,rfl,ho⟩,o⟩
     go_wp2_with fail
     have z:=af w3<|Ψ #[p',Θ Ξ q] 50;have A:=(hw.trans o).below z;have hz3:=o.2.size;refine(Kt _ c _ 3 A.1 (by omega) (by omega)<|by omega).mono ?_;rintro e w5 ⟨⟨b,rfl⟩,l⟩;have hk5:kE (g+1) wr w5:=((kE.oq o<|by omega).trans (kE.below z) hz3).trans (kE.oq l<|by omega) (by simp;omega);have f1:w5.heap[g]?=U (Ψ #[xc,xr,(),()] 56 (0,0)):=(l.2.block g (by simp;omega) (by simp;omega)).trans<|(z.block g<|by omega).trans<|(o.2.block g X (by simp;omega)).trans e1;have f0:=(l.2.block w (by simp;omega) (by simp;omega)).trans<|(z.block w<|by omega).trans<|(o.2.block w (by omega) (by simp;omega)).trans e0;have x5:=(l.2.block w3 (by simp) (by have:=A.1.lt;simp;have:=o.1.lt;omega)).trans<|Γ w3 _;have H:=A.trans l;have KU:=l.2.size;have hg3:g+1<=w3:=by omega
     have hl3:w3.heap.size<w5:=by simp at KU;omega
     generalize w3.heap.size=b3 at x5 hg3 hl3 hz3⊢;clear o z A l hw e1 e0 KU
     go_upto_if 37 with(fail)
     go_cut [11]from 29 to 45 λv wx=>∃p q:Int,v=.pointer b3/\KL n p q/\wx.heap[b3]?=U (Ψ #[Θ Ξ p,Θ Ξ q] 50 (0,0))/\Y b3 w5 wx/\(∀j,j≠b3->wx.heap[j]?=w5.heap[j]?)
     case first=>
      obtain⟨c0,c1,g0,g1⟩:=eA x5;have hi4:IntKind.i64.wrap (s.length:Int)=s.length:=wrap_small _ (by omega) (by omega);have t:Y b3 w5 ((w5.setCell b3<|Θ Ξ 0).setCell (b3,1) s.length):=((Δ b3 w5).setCell (p:=(⟨b3,0,I⟩:ZQ)) .refl _).setCell (p:=(⟨b3,1,I⟩:ZQ)) .refl _
      go_wp2_with fail
      all_goals go_meet
      exact⟨0,s.length,rfl,.inr<|.inr ⟨rfl,by omega,by omega⟩,heap_setCell_same (i:=1)<|heap_setCell_same (i:=0) x5,t,λj Q=>(aa Q).trans<|aa Q⟩;exact⟨p',q,rfl,ho,x5,.refl _ _,λj _=>rfl⟩
     case rest=>
      obtain⟨p2,q2,rfl,S,x6,t,D⟩:=hcut;generalize wc=B at x6 t D⊢;obtain⟨⟨_,d1,_⟩,ff⟩:=dT<|(D g<|by omega).trans f1;obtain⟨c0,c1,g0,g1⟩:=eA x6;have hk:kE (g+1) wr B:=λj hb Q=>(D j<|by omega).trans<|hk5 j hb Q;have hr6:OV B wA.heap.size xr s:=dI hr λj hb Q=>hk j (by omega) Q;have C:=H.upto T<|t.mono<|by omega
      have Xe:=t.size;have h0:=(D w.heap.size<|by omega).trans f0;have h1':=(D g<|by omega).trans f1;have hb7:=af B<|Ψ #[p2,q2] 50;clear hr hk5 D H f0 f1 x5 x6 t
      go_wp2_with (at_builtin;refine fO rfl _ _ rfl wA _ _ rfl (hr6.alloc _) B.heap.size _ (p2,q2) rfl (by simp[go_sem,Z7]) (by omega) (by simp;omega) ?_;intro v' w8 F P no;obtain⟨a8,m8,rfl,_⟩:=aF F;have t1:=(P.block g<|by omega).trans<|(hb7.block g<|by omega).trans h1';obtain⟨⟨_,s1,_⟩,sf⟩:=dT t1)
      have tT:=P.size;have L:(s++[(p2,q2)]).length=s.length+1:=by simp
      rw[L]at F;have ah7:kE (g+1) wA (w8.setCell (g,1)<|.slice a8 (s.length+1) m8):=λj hb Q=>(aa<|by omega).trans<|(P.block j Q).trans<|(hb7.block j<|by omega).trans<|(hk j hb<|by omega).trans<|hkA j hb Q;have hw9:hQ w c (f+5*(s.length+1)) (w8.setCell (g,1)<|.slice a8 (s.length+1) m8):=C.upto T<|((hb7.mono<|by omega).trans<|P.mono<|by omega).setCell (p:=((g,1):ZQ)) (by show w.heap.size<=g;omega) _;have ht0:=(P.block w<|by omega).trans<|(hb7.block w<|by omega).trans h0
      go_roundw
      case rel=>exact⟨_,s++[(p2,q2)],by rw[L];omega,by rw[L];go_num,⟨ah7,by simp at tT⊢;omega⟩,dI F<|kE.set<|by omega,λv hv'=>(ZV.1 hv').elim (sR v) λh=>by simp at h;subst h;exact S,heap_setCell_same (i:=1) t1,(aa<|by omega).trans ht0,by rw[L];exact hw9⟩
      case measure=>simp[intOf];omega
    ·have hxr:=O.keep hkA;have hr4:=V (by omega:s.length=4);have hrr:=hr.less (B':=g+1) (by omega);clear O hkA hr
     go_upto_if 47 with(fail)
     go_cut []from 46 to 58 λwx=>∃wi d N ld,wx.heap[g]?=U (Ψ #[xc,xr,wi,d] 56 (0,0))/\OI wx (g+1) wi N/\OI wx (g+1) d ld/\(Fs n N/\N.length<=6)/\(Fs n ld/\ld.length<=6)/\kE (g+1) wr wx/\wx.heap[w.heap.size]?=U (Ψ #[(),(),(),()] 56 (0,0))/\hQ w c (m+90000) wx
     case first=>
      go_wp2_with fail
      ·refine(Qj _ c _ n hw.1 (by omega) hn1).mono ?_;rintro e w3 ⟨⟨r3,l3,rfl,ho3,hl3⟩,o⟩
       go_wp2_with fail
       have z:=af w3<|Ψ #[Θ Ξ 0,Θ Ξ 0,Θ Ξ n] 3;have A:=(hw.trans o).below z;have hc3:=o.1.lt;refine(Pt _ c _ _ _ [0,0,(n:Int)] A.1 (by omega) (Ku w3 _ _ 3 rfl rfl<|by omega) (by omega) (by simp)<|by simp).mono ?_;rintro e w5 ⟨⟨y,rfl,hy⟩,l⟩;have hy:0<=y/\y<=n:=by simp at hy;omega
       obtain⟨y,rfl⟩:=Int.eq_ofNat_of_zero_le hy.1
       go_wp2_with fail
       refine(Qj _ c _ y (A.trans l).1 (by omega)<|by omega).mono ?_;rintro e B ⟨⟨r6,l6,rfl,Jb,hl6⟩,C⟩;have hz3:=o.2.size;have tU:w3.heap.size<=w5:=by have:=l.2.size;simp at this;omega
       have D:kE (g+1) wr B:=(((kE.oq o<|by omega).trans (kE.below z) hz3).trans (kE.oq l<|by omega) (by simp;omega)).trans (kE.oq C<|by omega) (by omega);have f1:B.heap[g]?=U (Ψ #[xc,xr,(),()] 56 (0,0)):=(C.2.block g (by omega) (by simp;omega)).trans<|(l.2.block g (by simp;omega) (by simp;omega)).trans<|(z.block g<|by omega).trans<|(o.2.block g X (by simp;omega)).trans e1;have f0:=(C.2.block w (by omega) (by simp;omega)).trans<|(l.2.block w.heap.size (by simp;omega) (by simp;omega)).trans<|(z.block w.heap.size<|by omega).trans<|(o.2.block w.heap.size (by omega) (by simp;omega)).trans e0;have ah9:OI B (g+1) r3 l3:=dI (dI (dI (ho3.less (B':=g+1)<|by omega)<|kE.below z)<|kE.oq l<|by omega)<|kE.oq C<|by omega
       obtain⟨⟨_,_,s2,s3⟩,sf⟩:=dT f1;obtain⟨a3,m3,rfl,_⟩:=aF ho3;obtain⟨a6,m6,rfl,_⟩:=aF Jb;have aia:Fs n l6/\l6.length<=6:=⟨⟨hl6.1.1,λx O=>by have:=hl6.1.2 x O;omega⟩,hl6.2⟩;have aib:=((A.trans l).trans C).upto T<|((Δ w.heap.size B).setCell (p:=((g,2):ZQ)) (by show w.heap.size<=g;omega)<|.slice a3 l3.length m3).setCell (p:=((g,3):ZQ)) (by show w.heap.size<=g;omega)<|.slice a6 l6.length m6;clear e1 e0 hw o z A l C
       go_wp2_with fail
       go_meet
       exact⟨_,_,l3,l6,heap_setCell_same (i:=3)<|heap_setCell_same (i:=2) f1,dI (dI ah9<|kE.set<|by omega)<|kE.set<|by omega,dI (dI (Jb.less (B':=g+1)<|by omega)<|kE.set<|by omega)<|kE.set<|by omega,hl3,aia,λj hb Q=>(aa<|by omega).trans<|(aa<|by omega).trans<|D j hb Q,(aa<|by omega).trans<|(aa<|by omega).trans f0,aib.more<|by omega⟩
      ·go_meet
       exact⟨_,_,[],[],e1,OI.nil _ _,OI.nil _ _,⟨⟨ZD,λx O=>by cases O⟩,υ _⟩,⟨⟨ZD,λx O=>by cases O⟩,υ _⟩,λj _ _=>rfl,e0,hw.more<|by omega⟩
     case rest=>
      obtain⟨wi,d,N,ld,f1,ho1,S,hl1,hl2,hk,f0,hw⟩:=hcut;generalize wc=B at f1 ho1 S hk f0 hw⊢;have hx6:=hxr.keep hk;have hr6:OV B (g+1) xr s:=dI hrr hk;clear e1 e0 hxr hrr hk;obtain⟨⟨s0,s1,s2,s3⟩,_⟩:=dT f1;obtain⟨⟨r0,r1,r2,r3⟩,rf⟩:=dT f0;have rf0:=rf 0;have rf1:=rf 1;have rf2:=rf 2;have rf3:=rf 3;obtain⟨lc,hlc,hle⟩:=hx6;obtain⟨ac,mc,rfl,_⟩:=aF hlc;obtain⟨ar,mr,rfl,_⟩:=aF hr6;obtain⟨aw,mw,rfl,_⟩:=aF ho1;obtain⟨ad,md,rfl,_⟩:=aF S
      go_wp2_with fail
      have hf:=heap_setCell_same (i:=3) (v:=.slice ad ld.length md)<|heap_setCell_same (i:=2) (v:=.slice aw N.length mw)<|heap_setCell_same (i:=1) (v:=.slice ar s.length mr)<|heap_setCell_same (i:=0) (v:=.slice ac lc.length mc) f0;have W:kE (g+1) B ((((B.setCell ⟨w.heap.size,0,I⟩<|.slice ac lc.length mc).setCell ⟨w.heap.size,1,I⟩<|.slice ar s.length mr).setCell ⟨w.heap.size,2,I⟩<|.slice aw N.length mw).setCell ⟨w.heap.size,3,I⟩<|.slice ad ld.length md):=λj hb _=>(aa<|by omega).trans<|(aa<|by omega).trans<|(aa<|by omega).trans<|aa<|by omega
      have hwf:=(hw.upto T<|((((Δ w B).setCell (p:=(w.heap.size:ZQ)) .refl<|.slice ac lc.length mc).setCell (p:=((w.heap.size,1):ZQ)) .refl<|.slice ar s.length mr).setCell (p:=((w.heap.size,2):ZQ)) .refl<|.slice aw N.length mw).setCell (p:=((w.heap.size,3):ZQ)) .refl<|.slice ad ld.length md).more (by omega:m+90000<=m+100000);generalize (((B.setCell w.heap.size<|.slice ac lc.length mc).setCell (w.heap.size,1)<|.slice ar s.length mr).setCell (w.heap.size,2)<|.slice aw N.length mw).setCell (w.heap.size,3) (.slice ad ld.length md)=w7 at hf W hwf⊢;obtain⟨⟨k0,k1,k2,k3⟩,_⟩:=dT hf;have hok:adJ n ⟨cs,s,N,ld⟩:=⟨HCN.out,hv,hr4.out,sR,hl1,hl2⟩;have hown:pS w7 w (.agg #[.slice ac lc.length mc,.slice ar s.length mr,.slice aw N.length mw,.slice ad ld.length md]) ⟨cs,s,N,ld⟩:=⟨_,_,_,_,rfl,OX.less (OX.keep ⟨lc,hlc,hle⟩ W)<|by omega,eV (dI hr6 W)<|by omega,eV (dI ho1 W)<|by omega,eV (dI S W)<|by omega⟩;exact κ (v:=.agg #[.slice ac lc.length mc,.slice ar s.length mr,.slice aw N.length mw,.slice ad ld.length md]) (by simp[Z1,results66,go_sem,k0,k1,k2,k3]) rfl ⟨⟨_,n,_,rfl,hown,hok,hnm⟩,hwf⟩
end
section
def Ap(a b:Value):Prop:=∀g,a.ownBlock=U g->b.ownBlock≠U g
structure Ck(w:M)(B p7:Nat)(cs:List HC)(roots:List HV)(f:Bool->List Int)(so vc vr:Value)(u:Bool->Value):Prop where
 hb:w.heap[p7]?=U (Ψ #[vc,vr,u Z3,u ZM] 56 (0,0))
 c:OX w B vc cs
 r:OV w B vr roots
 i:∀b,OI w B (u b) (f b)
 ap:∀b,Ap (u b) so
 ab:∀b,Ap (u b) (u !b)
 lo:B<=p7
section
variable{w w':M}{B p3 p4 p5 p7 bm:Nat}{cs:List HC}{roots:List HV}{f:Bool->List Int}{so so' vc vr:Value}{u:Bool->Value}{N:List Int}
def Ck.below(h:Ck w B p7 cs roots f so vc vr u)(a:Y w w w'):Ck w' B p7 cs roots f so vc vr u:=⟨(a.block _ (Ω.1 h.hb).1).trans h.hb,h.c.keep<|kE.below a,h.r.below a,λb=>(h.i b).below a,h.ap,h.ab,h.lo⟩
def HO.num{l}(h:HO w B l cs)(c:hE w B p3 p4 p5 bm so N)(t:cz w w' p4 bm so so'):HO w' B l cs:=⟨h.1,λi k x a b e1 e2=>⟨(h.2 i k x a b e1 e2).1,Pe c t (h.2 i k x a b e1 e2).2 (by simp)<|by simp⟩⟩
def Ck.num(h:Ck w B p7 cs roots f so vc vr u)(d:hE w B p3 p4 p5 bm so N)(t:cz w w' p4 bm so so'):Ck w' B p7 cs roots f so' vc vr u:=by
 obtain⟨v,q,m,_⟩:=d.map;obtain⟨n,k,p⟩:=d.free h.hb (by simp) (by decide);refine⟨(t.block _ (Ω.1 h.hb).1 n k p).trans h.hb,?_,Pe d t h.r (by decide)<|by decide,λb=>aS (h.i b) λg a=>t.block g ((h.i b).lt g a).2 (λe=>?_) (λe=>?_)<|h.ap b g a,λb g a e=>?_,h.ab,h.lo⟩;obtain⟨l,s,o⟩:=h.c;exact⟨l,Pe d t s (by decide)<|by decide,o.num d t⟩;subst e;exact cF (h.i b) d.h4 (by decide) a;subst e;exact GG (h.i b) (λc f e=>by rw[m]at e;cases e) a;obtain j|j:=t.own g e
 ·exact h.ap b g a j
 have:=((h.i b).lt g a).2;omega
def Ck.app{m n b}(h:Ck w B p7 cs roots f so vc vr u)(d:hE w B p3 p4 p5 bm so N)(ho:OI w' B m (f b++[n]))(G:w.grownBy w' (u b).ownBlock)(z:m.ownBlock=(u b).ownBlock\/∃k,m.ownBlock=U k/\w.heap.size<=k)(hB:B<=w):
 Ck (w'.setCell (p7,if b then 3 else 2) m) B p7 cs roots (λc=>if c=b then f b++[n]else f c) so vc vr (λc=>if c=b then m else u c)/\
 hE (w'.setCell ⟨p7,if b then 3 else 2,I⟩ m) B p3 p4 p5 bm so N/\Y B w (w'.setCell ⟨p7,if b then 3 else 2,I⟩ m):=by
 have K:∀g,(u b).ownBlock=U g->B<=g/\g<w:=λg G=>(h.i b).lt g G;have A:∀k,k<w.heap.size->(u b).ownBlock≠U k->w'.heap[k]?=w.heap[k]?:=λk A C=>G.block k A<|ZP C;have J:∀{k:Nat} {D:Array Value} {t:TypeId} {fr:Nat×Nat},w.heap[k]?=U (.cells D t fr) ->t≠3->w'.heap[k]?=w.heap[k]?:=λhc X=>A _ (Ω.1 hc).1 λe=>cF (h.i b) hc X e;have o:=(J h.hb<|by decide).trans h.hb;have row:∀{e size n:Nat} {v:Value} {y:List Value} {q:Nat},w.ownsRow q e size v n y->(e≠3\/Ap v (u b)) ->w'.ownsRow q e size v n y:=λ{e size n v y q} s hd=>aS s λg a=>A g (s.lt g a).2 λH=>by
  obtain hd|hd:=hd
  obtain⟨_,⟨rfl,_⟩|⟨g',cap,D,rfl,_,F,_⟩⟩:=s
  ·cases a
  cases a;exact cF (h.i b) F hd H
  exact hd g a H
 have fin:∀{e size n:Nat} {v:Value} {y:List Value} {q:Nat},w'.ownsRow q e size v n y->e≠56->(w'.setCell (p7,if b then 3 else 2) m).ownsRow q e size v n y:=λs he=>aS s λg a=>aa λH=>by subst H;exact cF s o (ZP he) a
 have Q:Ap m so:=λg a e=>by
  obtain h'|⟨k,h',hk'⟩:=z
  exact h.ap b g (h'▸a) e;rw[h']at a;cases a;have:=(d.row.lt g e).2;omega
 have E:∀c,c≠b->Ap (u c) m:=λc hc g a e=>by
  have j:c=!b:=by cases c<;>cases b<;>simp_all
  obtain h'|⟨k,h',hk'⟩:=z
  rw[h']at e;refine h.ab c g a ?_;subst j;rwa[Bool.not_not];rw[h']at e;cases e;have:=((h.i c).lt g a).2;omega
 refine⟨⟨?_,?_,fin (row h.r<|.inl<|by decide)<|by decide,λc=>?_,λc=>?_,λc=>?_,h.lo⟩,⟨d.b3,d.b4,d.b5,d.b6,?_,?_,?_,fin (row d.row<|.inr λg a e=>h.ap b g e a)<|by decide,?_⟩,?_⟩;cases b
 ·exact heap_setCell_same (i:=2) o
 exact heap_setCell_same (i:=3) o;obtain⟨l,C,L,h3⟩:=h.c;exact⟨l,fin (row C<|.inl<|by decide)<|by decide,L,λi k x T S e1 e2=>⟨(h3 i k x T S e1 e2).1,fin (row (h3 i k x T S e1 e2).2<|.inl<|by decide)<|by decide⟩⟩;by_cases hc:c=b
 ·rw[if_pos hc,if_pos hc];exact fin ho (by decide)
 rw[if_neg hc,if_neg hc];have j:b=!c:=by cases c<;>cases b<;>simp_all
 exact fin (row (h.i c)<|.inr<|j▸h.ab c) (by decide);by_cases hc:c=b
 ·rw[if_pos hc];exact Q
 rw[if_neg hc];exact h.ap c;by_cases hc:c=b
 ·subst hc;rw[if_pos rfl,if_neg (by cases c<;>simp)]
  exactλg C L=>E (!c) (by cases c<;>simp) g L C
 have j:(!c)=b:=by cases c<;>cases b<;>simp_all
 rw[if_neg hc,if_pos j];exact E c hc;exact(aa λe=>by subst e;have:=d.h3;rw[h.hb]at this;cases this).trans<|(J d.h3<|by decide).trans d.h3;exact(aa λe=>by subst e;have:=d.h4;rw[h.hb]at this;cases this).trans<|(J d.h4<|by decide).trans d.h4;exact(aa λe=>by subst e;have:=d.h5;rw[h.hb]at this;cases this).trans<|(J d.h5<|by decide).trans d.h5;obtain⟨es,O,W,P⟩:=d.map;have F:=(A bm d.map.lt (GG (h.i b) λc f e=>by rw[W]at e;cases e)).trans W;exact⟨es,O,(aa λe=>by subst e;rw[o]at F;cases F).trans F,P⟩;exact(((Δ B w).grown G hB λk e=>(K k e).1)).setCell (p:=⟨p7,_,I⟩) h.lo _
def Ck.reads(h:Ck w B p7 cs roots f so vc vr u)(c:hE w B p3 p4 p5 bm so N):(w p7=U vc/\w (p7,2)=U (u Z3)/\w (p7,3)=U (u ZM))/\(∀i,w.frozen? ⟨p7,i,I⟩=Z3)/\w p5=U (.func (.func 177) #[] #[.pointer p3,.pointer p4])/\p7<w/\p5<w:=by have a:=h.hb;have b:=c.h5;exact⟨⟨by simp[Z,a],by simp[Z,a],by simp[Z,a]⟩,λi=>by simp[Z8,a],by simp[Z,b],(Ω.1 a).1,(Ω.1 b).1⟩
def Qt{w0 c o}(g:Ck w B p7 cs roots f so vc vr u)(e:hE w B p3 p4 p5 bm so N)(d:Y B w0 w)(h0:B<=w0)(b:hE w' B p3 p4 p5 bm so' c)(a:cz w.drew w' p4 bm so so'):
 Ck w' B p7 cs roots f so' vc vr u/\Ck (w'.alloc o) B p7 cs roots f so' vc vr u/\hE (w'.alloc o) B p3 p4 p5 bm so' c/\Y B w0 (w'.alloc o):=by
 have hd:=(Δ w w).drew;have h5:=(g.below hd).num (e.below hd) a;have hz:=d.size;exact⟨h5,h5.below<|af _ _,b.below<|af _ _,(d.trans<|(hd.mono<|by omega).trans<|OY (e.below hd) a (by simp;omega)).trans<|(af _ _).mono (by have:=a.size;simp at this;omega)⟩
def Ck.cell{j x k vs l}(h:Ck w B p7 cs roots f so vc vr u)(o:OC w B vc l)(D:HO w B l cs)(a:hE w B p3 p4 p5 bm so N)(p:OV w B x vs)(J:OC w' B j (l++[(k,x)]))(m:w.grownBy w' vc.ownBlock)(L:B<=w):
 Ck (w'.setCell p7 j) B p7 (cs++[(k,vs)]) roots f so j vr u/\hE (w'.setCell p7 j) B p3 p4 p5 bm so N/\Y B w (w'.setCell p7 j):=by
 have y:∀{k:Nat} {cur:Array Value} {t:TypeId} {fr:Nat×Nat},w.heap[k]?=U (.cells cur t fr) ->t≠76->w'.heap[k]?=w.heap[k]?:=λhc G=>m.block _ (Ω.1 hc).1 λe=>cF o hc G e.symm;have d:=(y h.hb<|by decide).trans h.hb;have row:∀{e size n:Nat} {v:Value} {xs:List Value} {B':Nat},w.ownsRow B' e size v n xs->e≠76->w'.ownsRow B' e size v n xs:=λs hd=>fy s o hd m;have fin:∀{e size n:Nat} {v:Value} {xs:List Value} {B':Nat},w'.ownsRow B' e size v n xs->e≠56->(w'.setCell p7 j).ownsRow B' e size v n xs:=λs q=>aS s λg z=>aa λH=>by subst H;exact cF s d (ZP q) z
 have q:=(D.snoc (k:=k) p).types o m;refine⟨⟨heap_setCell_same (i:=0) d,⟨l++[(k,x)],fin J (by decide),q.1,λi k x E vs e1 e2=>⟨(q.2 i k x E vs e1 e2).1,fin (q.2 i k x E vs e1 e2).2 (by decide)⟩⟩,fin (row h.r (by decide)) (by decide),λb=>fin (row (h.i b) (by decide)) (by decide),h.ap,h.ab,h.lo⟩,
  ⟨a.b3,a.b4,a.b5,a.b6,?_,?_,?_,fin (row a.row (by decide)) (by decide),?_⟩,((Δ B w).grown m L λk e=>(o.lt k e).1).setCell h.lo _⟩
 exact(aa λe=>by subst e;have:=a.h3;rw[h.hb]at this;cases this).trans<|(y a.h3<|by decide).trans a.h3;exact(aa λe=>by subst e;have:=a.h4;rw[h.hb]at this;cases this).trans<|(y a.h4<|by decide).trans a.h4;exact(aa λe=>by subst e;have:=a.h5;rw[h.hb]at this;cases this).trans<|(y a.h5<|by decide).trans a.h5;obtain⟨K,A,F,C⟩:=a.map;have p:=(m.block bm a.map.lt λe=>GG o (λc f e=>by rw[F]at e;cases e) e.symm).trans F;exact⟨K,A,(aa λe=>by subst e;rw[d]at p;cases p).trans p,C⟩
end
end
section
variable(w:M){l:List HV}
def Ky(h):fd h=J9 h (h.cells.length+1) 0 (iZ (iZ (iZ [] h.roots)<|h.done.map tt)<|h.aA.map tt):=by unfold fd G4;rw[u4,u4]
theorem wb(h:PH):∀(f k:Nat) (o:List Int),o<+:J9 h f k o
 |0,_,_=>ZF _
 |f+1,k,o=>by
  unfold J9;split
  exact ZF _;exact(n6 _ _).trans<|wb h f _ _
def afM:∀{N} {v},v∈l->v.1=1->v.2∈iZ N l:=by
 induction l with
 |nil=>exactλh=>by cases h
 |cons u l c=>
  intro N v a b;rw[v7];obtain rfl|a:=List.mem_cons.1 a
  rw[if_pos b];exact(n6 l _).subset<|Qs _ _;exact c a b
def WK{A C}(h:A<+:C)(c:∀v∈l,v.1=1->v.2∈A):l.map (yA A)=l.map (yA C):=
 List.map_congr_left λv b=>by
  unfold yA;split
  rename_i a;rw[KI h (c v b a)];rfl
def afO{S F l:List Int}{k n}(d:l[k]?=U n)(c:iZ S (l.map tt)<+:F):iZ S ((l.take<|k+1).map tt)=ml (iZ S<|(l.take k).map tt) n/\(((ml (iZ S<|(l.take k).map tt) n).idxOf n:Nat):Int)=oZ F n:=by
 have a:iZ S ((l.take<|k+1).map tt)=ml (iZ S<|(l.take k).map tt) n:=by rw[bW d,ξ,u4];rfl
 refine⟨a,?_⟩;have b:iZ S ((l.take<|k+1).map tt)<+:iZ S (l.map tt):=by have:=n6 ((l.drop<|k+1).map tt)<|iZ S<|(l.take<|k+1).map tt;rwa[<-u4,<-ξ,Zw]at this
 rw[a]at b;unfold oZ;rw[KI (b.trans c) (Qs _ _)]
structure Pm(h:PH)(F:List Int)(k:Nat)(o:List Int):Prop where
 nodup:o.Nodup
 lF:∀n∈o,0<=n/\n<(h.cells.length:Int)
 eq:J9 h (h.cells.length+1-k) k o=F
 le:k<=o.length
def af7{h}(a:Xh h)(c:∀v∈l,uI h v=0):∀v∈l,v.1=1->0<=v.2/\v.2<(h.cells.length:Int):=λv b d=>by have:=c v b;unfold uI at this;rw[if_neg (by omega),if_pos d]at this;obtain⟨i,k,f,e,a,_⟩:=EX this;have:=(ψ.1 a).1;omega
def Pm.len{h F k o}(H:Pm h F k o):o.length<=h.cells.length:=Q6 (h':=h) (p:=id) (N:=λn=>0<=n/\n<(h.cells.length:Int)) (λn a=>a) (λ_ _ _ _ e=>e) H.lF H.nodup
def Pm.step{h F}{k i:Nat}{o kd vs}(hw:Xh h)(H:Pm h F k o)(hi:o[k]?=U (i:Int))(hc:h.cells[i]?=U (kd,vs)):Pm h F (k+1) (iZ o vs):=by
 have d:=H.len;have c:=(ψ.1 hi).1;have a:cellP h (i:Int)=(kd,vs):=by simp[cellP,hc]
 have b:=af7 hw<|hw.eT _<|φ hc;refine⟨qD _ H.nodup,G5 (N:=λn=>0<=n/\n<(h.cells.length:Int)) H.lF b,?_,?_⟩;have:=H.eq;rw[show h.cells.length+1-k=(h.cells.length+1-(k+1))+1 by omega]at this;unfold J9 at this;rw[hi]at this;dsimp only at this;rwa[a]at this;have:=(n6 vs o).length_le;omega
def Pm.done{h F k o}(H:Pm h F k o)(c:¬k<o.length):F=o/\k=o.length:=by have b:=H.len;have a:=H.le;refine⟨?_,by omega⟩;have:=H.eq;rw[show h.cells.length+1-k=(h.cells.length-k)+1 by omega]at this;unfold J9 at this;rw[List.getElem?_eq_none (by omega)]at this;exact this.symm
def Pm.begin{h}(hw:Xh h):Pm h (fd h) 0 (iZ (iZ (iZ [] h.roots)<|h.done.map tt)<|h.aA.map tt):=by
 have a:∀l:List Int,(∀n∈l,Ik h n=0) ->∀v∈l.map tt,v.1=1->0<=v.2/\v.2<(h.cells.length:Int):=λl d v c _=>by obtain⟨n,g,rfl⟩:=ζ.1 c;obtain⟨i,k,j,e,b,_⟩:=EX<|d n g;have:=(ψ.1 b).1;show 0<=n/\n<_;omega
 refine⟨qD _<|qD _<|qD _ ZD,?_,(Ky h).symm,υ _⟩;exact G5 (N:=λn=>0<=n/\n<(h.cells.length:Int)) (G5 (G5 (λx f=>by cases f)<|af7 hw hw.roots)<|a _ hw.done)<|a _ hw.aA
def Pm.in_{h F k o}(H:Pm h F k o):o<+:F:=H.eq▸wb _ _ _ _
def take_prefix{a:Type}{A C:List a}{k}(h:A<+:C)(b:k<=A.length):C.take k=A.take k:=by obtain⟨t,rfl⟩:=h;rw[List.take_append_of_le_length b]
def af8(h:PH)(n:Int):HC:=((cellP h n).1,(cellP h n).2.map<|yA<|fd h)
def four(w:M)(n:Nat):M:=(((w.alloc<|.map #[] 0).alloc<|Ψ #[.map (U n)] 164).alloc<|Ψ #[()] 24).alloc<|Ψ #[.func (.func 177) #[] #[.pointer (n+1:Nat),.pointer (n+1+1:Nat)]] 47
def NE(n):Y w w (four w n):=(((af w _).alloc (by simp) _).alloc (by simp;omega) _).alloc (by simp;omega) _
def aab(n):(four w n).heap.size=w.heap.size+4:=by simp[four]
def afP:hE (four w w) w (w.heap.size+1) (w.heap.size+1+1) (w.heap.size+1+1+1) w () []:=by refine⟨by omega,by omega,by omega,by omega,?_,?_,?_,OI.nil _ _,#[],0,?_,rfl⟩;refine(η _ _ _<|by simp).trans<|(η _ _ _<|by simp).trans ?_;simpa using Γ (w.alloc<|.map #[] 0) (Ψ #[.map (U w)] 164);refine(η _ _ _<|by simp).trans ?_;simpa using Γ ((w.alloc<|.map #[] 0).alloc<|Ψ #[.map (U w)] 164) (Ψ #[()] 24);simpa[four]using Γ (((w.alloc<|.map #[] 0).alloc<|Ψ #[.map (U w)] 164).alloc<|Ψ #[()] 24) (Ψ #[.func (.func 177) #[] #[.pointer (w.heap.size+1:Nat),.pointer (w.heap.size+1+1:Nat)]] 47);exact(η _ _ _ (by simp<;>omega)).trans<|(η _ _ _ (by simp<;>omega)).trans<|(η _ _ _<|by simp).trans<|Γ w _
def agC(b:Nat)(h:PH)(hp:qw w b h)(hk:Xh h):R prog 123 #[.pointer b] w λe w'=>(∃r,e=.returned r/\pS w' w r (normal h))/\Y w w w':=by
 have HK:=V hk;have hmm:=@run_makeMap prog;have hb0:=af w<|Ψ #[(),(),(),()] 56;have e0:=Γ w<|Ψ #[(),(),(),()] 56;have hs0:(w.alloc<|Ψ #[(),(),(),()] 56).heap.size=w.heap.size+1:=by simp
 obtain⟨c,r,wi,d,c0,c1,c2,c3,h1,h2,h3,h4⟩:=hp.below hb0;have hb:=az c0;have H1:=V h1;have H2:=V h2;have H3:=V h3;have H4:=V h4;obtain⟨ar,mr,sR,-⟩:=h2;subst sR;have q5:=((NE _<|w.heap.size+1).cell (p:=⟨b,1,I⟩) hb).trans c1;clear hk h1 h3 h4 hp;unfold four at q5
 go_enter (fU func123 rfl),ntmps123
 go_wp2_with fail
 change R _ _ _ (four (w.alloc<|Ψ #[(),(),(),()] 56)<|w.heap.size+1) _
 clear q5;rw[<-hs0];generalize w.alloc _=f at hb0 e0 hs0 c0 c1 c2 c3 hb H1 H2 H3 H4⊢;have G:=V hs0;clear hs0;refine(Pf (four f f) f _ _ _ _ _ _ [] h.roots (afP f) (H2.out.below<|NE f _) (by simp) (by have:=HK.out.four;omega)).mono ?_;rintro e w1 ⟨r1,rs,rfl,ho1,hn1,ht1⟩;obtain⟨S0,hS0⟩:∃S0,S0=iZ [] h.roots:=⟨_,rfl⟩;have hp0:S0<+:fd h:=by rw[hS0,Ky];exact(n6 _ _).trans<|(n6 _ _).trans<|wb _ _ _ _
 rw[<-hS0,WK hp0 (λv hv h1=>by rw[hS0];exact afM hv h1)]at ho1;rw[<-hS0]at hn1;have hB1:Y f f w1:=(NE f _).trans<|OY (afP f) ht1 (by rw[aab];omega);have hz1:=ht1.size;rw[aab]at hz1 ho1;have ahi:=ho1.less (B':=f.heap.size) (by omega);obtain⟨a1,m1,rfl,-⟩:=aF ho1;rw[ZN]at ahi;have hout:Ck (w1.alloc<|Ψ #[(),.slice a1 h.roots.length m1,(),()] 56) f w1.heap.size [] (h.roots.map<|yA<|fd h) (λ_=>[]) rs () (.slice a1 h.roots.length m1) (λ_=>()):=⟨Γ _ _,OX.nil _ _,ahi.alloc _,λ_=>OI.nil _ _,λ_ g hg=>(by cases hg),λ_ g hg=>(by cases hg),by omega⟩
 have hnum:=hn1.below<|af w1<|Ψ #[(),.slice a1 h.roots.length m1,(),()] 56;have hB2:=hB1.alloc (by omega)<|Ψ #[(),.slice a1 h.roots.length m1,(),()] 56;have c3':=cG hB1 c3 hb;have hb1:b<w1:=by omega
 obtain⟨ad,md,rfl,-⟩:=id H4.out;obtain⟨aw,mw,rfl,-⟩:=id H3.out;have H:=V<|ω hout<|ω hnum hB2;have HH0:=V hS0;have hz2:f.heap.size<w1:=by omega
 clear ho1 ahi hn1 ht1 hout hnum hB2 hS0 hp0 hB1 hz1
 go_wp2_with fail
 clear c3';generalize w1.alloc _=w2 at H⊢;generalize w1.heap.size=p7 at H hz2 hb1⊢;generalize Value.slice a1 h.roots.length m1=vr at H⊢;have HW:=V<|ω c0<|ω c2 c3;clear c0 c1 c2 c3
 go_loopw [31] (λi wr=>∃(k:Nat) (E:Value) (u:Bool->Value),k<=h.done.length/\i=Θ Ξ k/\Hid (Ck wr f p7 [] (h.roots.map<|yA<|fd h) (λc=>if c then(h.done.take k).map (oZ<|fd h)else []) E () vr u/\hE wr f (f.heap.size+1) (f.heap.size+1+1) (f.heap.size+1+1+1) f E (iZ S0<|(h.done.take k).map tt)/\Y f f wr)) (λi _=>h.done.length-(intOf i).toNat)
 case atStart=>exact⟨0,rs,_,υ _,rfl,V ⟨by simpa using H.out.1,H.out.2⟩⟩
 case round=>
  clear H rs;obtain⟨k,E,u,hk,rfl,H⟩:=hrel;by_cases J:k<h.done.length
  ·obtain⟨a9,m9,e9,hm9,agw,O⟩:=H4.out.below H.out.2.2;cases e9
   obtain⟨ba2,oa2,e,afb,P⟩:=O (by omega);cases e
   obtain⟨n,e1⟩:=lw J;have f1:=P k n e1;obtain⟨q1,q2⟩:=afO (S:=S0) (F:=fd h) e1 (by rw[HH0.out,Ky];exact(n6 _ _).trans<|wb _ _ _ _);have hN:(iZ S0<|(h.done.take k).map tt).length<=1000000:=by have:=G1 ((h.done.take k).map tt) S0;have:=G1 h.roots [];have:=HH0.out;have:=HK.out.four;have:=HK.out.Pz;subst S0;simp at *;omega
   have q3:(h.done.take<|k+1).map (oZ<|fd h)=(h.done.take k).map (oZ<|fd h)++[oZ (fd h) n]:=by rw[bW e1,ξ];rfl
   generalize iZ S0 ((h.done.take k).map tt)=Nk at H q1 q2 hN;have C:((h.done.take k).map<|oZ<|fd h).length=k:=by simp;omega
   generalize (h.done.take k).map (oZ<|fd h)=dk at H q3 C;have HQ:=V<|ω q1<|ω q2 q3;obtain⟨av,mv,B,-⟩:=aF<|H.out.1.i ZM;obtain⟨⟨-,-,d3⟩,-,d5,-⟩:=H.out.1.reads H.out.2.1;have hz:=H.out.2.2.size;rw[if_pos rfl,C]at B;rw[B]at d3;have HU:=V B;have HD:=V C;clear O P e1 B q1 q2 q3 C
   go_wp2_with fail
   refine Rg.aaH 4 2 (λx=>x ⟨p7,3,I⟩=U (.slice av k mv)/\x.cell? ⟨f.heap.size+1+1+1,0,I⟩=U (.func (.func 177) #[] #[Zz (U ⟨f.heap.size+1,0,I⟩),Zz<|U ⟨f.heap.size+1+1,0,I⟩])) (by kernel_rfl) (by kernel_rfl) (λc a d v w h=>by cases d<;>exact h) ⟨d3,d5⟩ ?_;simp only[ZW,ι,ZZ,θ,ZY]
   iterate 4
    (refine Rg.fp.step (v:=?_) (by rfl) (λx hx=>?_) ?_
     rotate_left
     (obtain⟨hx0,hx1⟩:=hx
      go_simp
      try rfl))
   refine Rg.fp.nil<|Rg.pA.succ ?_;simp only[ZE,ο,ε,Z9];refine Z4 rfl λK y=>?_;go_simp;have hd:=(Δ wr wr).drew;refine(VZ _ _ _ _ _ _ E _ n (H.out.2.1.below hd) hN).mono ?_;rw[HQ.out.2.1];rintro e w5 ⟨rfl,so5,D,A⟩;obtain⟨Pk,m,t,q⟩:=Qt (o:=Ψ #[(oZ (fd h) n)] 3) H.out.1 H.out.2.1 H.out.2.2 .refl D A;obtain⟨⟨-,-,g3⟩,gf,g5,-⟩:=Pk.reads D;rw[HU.out]at g3;refine y _ _ ⟨⟨g3,g5⟩,Rg.pA.succ ?_⟩;clear y K;refine Z4 rfl λK y=>?_;go_simp;obtain⟨⟨-,-,k3⟩,kf,k5,JF,-⟩:=m.reads t;have X:=m.i ZM;rw[HU.out,if_pos rfl]at X;rw[HU.out]at k3;refine y _ _ ⟨⟨k3,k5⟩,Rg.pA.zero ?_⟩;clear y K g3 gf g5 d3 d5;have s:=q.size;have hlen:dk.length<=1000000000:=by have:=HD.out;have:=HK.out.Pz;omega
   have HO:=V<|ω m<|ω t q;clear m t q
   go_wp2_with (at_builtin;refine GC rfl _ _ rfl f _ _ rfl X w5.heap.size _ (oZ (fd h) n) rfl (by simp[go_sem,Z7]) hlen s ?_;intro v' w7 l hb7 Q ahj;obtain⟨a7,m7,rfl,-⟩:=aF l;have n7:=(Q.block p7 JF λe=>cF X HO.out.1.hb (by decide) e.symm).trans HO.out.1.hb;obtain⟨⟨-,-,-,y3⟩,j7⟩:=dT n7;have j3:=j7 3)
   obtain⟨x1,x2,x3⟩:=Ck.app (b:=ZM) HO.out.1 HO.out.2.1 l (by rw[HU.out];exact Q) (by rw[HU.out];obtain e|e:=ahj;exact .inl e;exact .inr ⟨_,e,.refl⟩) s;have hl':(dk++[oZ (fd h) n]).length=dk.length+1:=by simp
   rw[hl']at x1 x2 x3;refine⟨⟨k+1,so5,λc=>if c=ZM then .slice a7 (dk.length+1) m7 else u c,by omega,by go_num,V ⟨?_,by rw[HQ.out.1];exact x2,HO.out.2.2.trans x3⟩⟩,by simp[intOf];omega⟩;rw[HQ.out.2.2];have hff:(λc=>if c=ZM then(if ZM=ZM then dk else [])++[oZ (fd h) n]else if c=ZM then dk else [])=λc=>if c=ZM then dk++[oZ (fd h) n]else []:=by funext c;cases c<;>rfl
   rw[<-hff];exact x1
  ·have hke:k=h.done.length:=by omega
   subst hke;rw[χ .refl]at H;obtain⟨S1,hS1⟩:∃S1,S1=iZ S0 (h.done.map tt):=⟨_,rfl⟩;rw[<-hS1]at H;have HH1:=V hS1;have c2':=(H.out.2.2.cell (p:=⟨b,2,I⟩) hb).trans HW.out.2.1;clear hS1 hk J
   go_wp2_with fail
   clear c2'
   go_loopw [50] (λi wr=>∃(k:Nat) (E:Value) (u:Bool->Value),k<=h.aA.length/\i=Θ Ξ k/\Hid (Ck wr f p7 [] (h.roots.map<|yA<|fd h) (λc=>if c then h.done.map (oZ<|fd h)else(h.aA.take k).map (oZ<|fd h)) E () vr u/\hE wr f (f.heap.size+1) (f.heap.size+1+1) (f.heap.size+1+1+1) f E (iZ S1<|(h.aA.take k).map tt)/\Y f f wr)) (λi _=>h.aA.length-(intOf i).toNat)
   case atStart=>exact⟨0,E,_,υ _,rfl,V ⟨by simpa using H.out.1,H.out.2⟩⟩
   case round=>
    clear H E u;obtain⟨k,E,u,hk,rfl,H⟩:=hrel;by_cases J:k<h.aA.length
    ·obtain⟨a9,m9,e9,hm9,agw,O⟩:=H3.out.below H.out.2.2;cases e9
     obtain⟨ba2,oa2,e,afb,P⟩:=O (by omega);cases e
     obtain⟨n,e1⟩:=lw J;have f1:=P k n e1;obtain⟨q1,q2⟩:=afO (S:=S1) (F:=fd h) e1 (by rw[HH1.out,HH0.out,Ky];exact wb _ _ _ _);have hN:(iZ S1<|(h.aA.take k).map tt).length<=1000000:=by have:=G1 ((h.aA.take k).map tt) S1;have:=G1 h.roots [];have:=HH0.out;have:=HH1.out;have:=HK.out.four;have:=HK.out.Pz;have:=HK.out.NG;have:=G1 (h.done.map tt) S0;subst S1;subst S0;simp at *;omega
     have q3:(h.aA.take<|k+1).map (oZ<|fd h)=(h.aA.take k).map (oZ<|fd h)++[oZ (fd h) n]:=by rw[bW e1,ξ];rfl
     generalize iZ S1 ((h.aA.take k).map tt)=Nk at H q1 q2 hN;have C:((h.aA.take k).map<|oZ<|fd h).length=k:=by simp;omega
     generalize (h.aA.take k).map (oZ<|fd h)=dk at H q3 C;have HQ:=V<|ω q1<|ω q2 q3;obtain⟨av,mv,B,-⟩:=aF<|H.out.1.i Z3;obtain⟨⟨-,d2,-⟩,-,d5,-⟩:=H.out.1.reads H.out.2.1;have hz:=H.out.2.2.size;rw[if_neg (by simp),C]at B;rw[B]at d2;have HU:=V B;have HD:=V C;clear O P e1 B q1 q2 q3 C
     go_wp2_with fail
     refine Rg.aaH 4 2 (λx=>x ⟨p7,2,I⟩=U (.slice av k mv)/\x.cell? ⟨f.heap.size+1+1+1,0,I⟩=U (.func (.func 177) #[] #[Zz (U ⟨f.heap.size+1,0,I⟩),Zz<|U ⟨f.heap.size+1+1,0,I⟩])) (by kernel_rfl) (by kernel_rfl) (λc a d v w h=>by cases d<;>exact h) ⟨d2,d5⟩ ?_;simp only[ZW,ι,ZZ,θ,ZY]
     iterate 4
      (refine Rg.fp.step (v:=?_) (by rfl) (λx hx=>?_) ?_
       rotate_left
       (obtain⟨hx0,hx1⟩:=hx
        go_simp
        try rfl))
     refine Rg.fp.nil<|Rg.pA.succ ?_;simp only[ZE,ο,ε,Z9];refine Z4 rfl λK y=>?_;go_simp;have hd:=(Δ wr wr).drew;refine(VZ _ _ _ _ _ _ E _ n (H.out.2.1.below hd) hN).mono ?_;rw[HQ.out.2.1];rintro e w5 ⟨rfl,so5,D,A⟩;obtain⟨Pk,m,t,q⟩:=Qt (o:=Ψ #[(oZ (fd h) n)] 3) H.out.1 H.out.2.1 H.out.2.2 .refl D A;obtain⟨⟨-,g3,-⟩,gf,g5,-⟩:=Pk.reads D;rw[HU.out]at g3;refine y _ _ ⟨⟨g3,g5⟩,Rg.pA.succ ?_⟩;clear y K;refine Z4 rfl λK y=>?_;go_simp;obtain⟨⟨-,k3,-⟩,kf,k5,JF,-⟩:=m.reads t;have X:=m.i Z3;rw[HU.out,if_neg<|by simp]at X;rw[HU.out]at k3;refine y _ _ ⟨⟨k3,k5⟩,Rg.pA.zero ?_⟩;clear y K g3 gf g5 d2 d5;have s:=q.size;have hlen:dk.length<=1000000000:=by have:=HD.out;have:=HK.out.NG;omega
     have HO:=V<|ω m<|ω t q;clear m t q
     go_wp2_with (at_builtin;refine GC rfl _ _ rfl f _ _ rfl X w5.heap.size _ (oZ (fd h) n) rfl (by simp[go_sem,Z7]) hlen s ?_;intro v' w7 l hb7 Q ahj;obtain⟨a7,m7,rfl,-⟩:=aF l;have n7:=(Q.block p7 JF λe=>cF X HO.out.1.hb (by decide) e.symm).trans HO.out.1.hb;obtain⟨⟨-,-,y3,-⟩,j7⟩:=dT n7;have j3:=j7 2)
     obtain⟨x1,x2,x3⟩:=Ck.app (b:=Z3) HO.out.1 HO.out.2.1 l (by rw[HU.out];exact Q) (by rw[HU.out];obtain e|e:=ahj;exact .inl e;exact .inr ⟨_,e,.refl⟩) s;have hl':(dk++[oZ (fd h) n]).length=dk.length+1:=by simp
     rw[hl']at x1 x2 x3;refine⟨⟨k+1,so5,λc=>if c=Z3 then .slice a7 (dk.length+1) m7 else u c,by omega,by go_num,V ⟨?_,by rw[HQ.out.1];exact x2,HO.out.2.2.trans x3⟩⟩,by simp[intOf];omega⟩;rw[HQ.out.2.2];have hff:(λc=>if c=Z3 then(if Z3=ZM then h.done.map (oZ<|fd h)else dk)++[oZ (fd h) n]else if c=ZM then h.done.map (oZ<|fd h)else dk)=λc=>if c=ZM then h.done.map (oZ<|fd h)else dk++[oZ (fd h) n]:=by funext c;cases c<;>rfl
     rw[<-hff];exact x1
    ·have hke:k=h.aA.length:=by omega
     subst hke;rw[χ .refl,HH1.out,HH0.out]at H;have hI:=Pm.begin HK.out;generalize hS2:iZ (iZ (iZ [] h.roots)<|h.done.map tt) (h.aA.map tt)=S2 at H hI;clear hS2 hk J HH0 HH1
     go_wp2_with fail
     go_loopw [12] (λi wr=>∃(k:Nat) (E vc:Value) (u:Bool->Value) (N:List Int),i=Θ Ξ k/\Hid (Pm h (fd h) k N/\Ck wr f p7 ((N.take k).map<|af8 h) (h.roots.map<|yA<|fd h) (λc=>if c then h.done.map (oZ<|fd h)else h.aA.map (oZ<|fd h)) E vc vr u/\hE wr f (f.heap.size+1) (f.heap.size+1+1) (f.heap.size+1+1+1) f E N/\Y f f wr)) (λi _=>h.cells.length-(intOf i).toNat)
     case atStart=>exact⟨0,E,_,u,S2,rfl,V ⟨hI,H.out⟩⟩
     case round=>
      clear H E u hI;obtain⟨k,E,vc,u,N,rfl,H⟩:=hrel;obtain⟨ag,mg,hso,aoO,aoP,-⟩:=aF H.out.2.2.1.row;have hrow:=H.out.2.2.1.row.reads;subst hso;have e4:=H.out.2.2.1.h4;have d4:wr (f.heap.size+1+1:Nat)=U (.slice ag N.length mg):=by simp[Z,e4]
      have hz:=H.out.2.2.2.size;have ajs:=V hrow;clear hrow e4;by_cases J:k<N.length
      ·obtain⟨a9,m9,e9,-,-,O⟩:=ajs.out;cases e9
       obtain⟨bg,og,e,hbg,ahD⟩:=O (by omega);cases e
       obtain⟨n,e1⟩:=lw J;have f1:=ahD k n e1;obtain⟨hn0,hn1⟩:=H.out.1.lF n<|φ e1;obtain⟨i,rfl⟩:=Int.eq_ofNat_of_zero_le hn0;have hil:i<h.cells.length:=by omega
       obtain⟨ac,mc,hcv,hmc1,am9,hac⟩:=H1.out.below H.out.2.2.2;obtain⟨bc,oc,e,hbc,ahE⟩:=hac (by omega);subst e;obtain⟨kd,z,ec⟩:=cQ hil;obtain⟨g1,x,g2,hx⟩:=ahE i kd z ec;have d0:=(H.out.2.2.2.cell (p:=⟨b,0,I⟩) hb).trans HW.out.1;rw[hcv]at d0;have hbr:b<wr:=by omega
       have HX:=V hx;obtain⟨ax,mx,hxv,-⟩:=hx;subst hxv;have hkc:k<h.cells.length:=by have:=H.out.1.len;omega
       have HE:=V<|ω e1 ec;clear O ahD ahE hac e1 ec
       go_wp2_with fail
       refine Rg.aaH 11 1 (λx=>x b=U (.slice (bc,oc) h.cells.length mc)/\x (f.heap.size+1+1:Nat)=U (.slice (bg,og) N.length mg)/\x (bg,og+k)=U (Θ Ξ (i:Int))/\x (bc,oc+i*2)=U (Θ Ξ kd)/\x (bc,oc+i*2+1)=U (.slice ax z.length mx)) (by kernel_rfl) (by kernel_rfl) (λc a d v w h=>by cases d<;>exact h) ⟨d0,d4,f1,g1,g2⟩ ?_;simp only[ZW,ι,ZZ,θ,ZY]
       iterate 11
        (refine Rg.fp.step (v:=?_) (by rfl) (λx hx=>?_) ?_
         rotate_left
         (obtain⟨hx0,hx1,hx2,hx3,hx4⟩:=hx
          go_simp
          try rfl))
       refine Rg.fp.nil<|Rg.pA.succ ?_;simp only[ZE,ο,ε,Z9];refine Z4 rfl λK y=>?_;go_simp;have hbN:=(Δ wr wr).drew.alloc .refl<|Ψ #[Θ Ξ 0,()] 76;have hk5:f.heap.size+1+1<wr:=az d4;refine y _ _ ⟨⟨cG hbN d0 hbr,cG hbN d4 hk5,cG hbN f1 hbg,cG hbN g1 hbc,cG hbN g2 hbc⟩,Rg.pA.zero ?_⟩;clear y K d0 d4 f1 g1 g2 hbN;have hsz:=H.out.2.2.2.size
       go_wp2_with fail
       have hbA:Y wr wr ((wr.alloc<|Ψ #[kd,.slice ax z.length mx] 76).drew):=(af _ _).drew;have e13:((wr.alloc<|Ψ #[kd,.slice ax z.length mx] 76).drew).heap[wr.heap.size]?=U (Ψ #[kd,.slice ax z.length mx] 76 (0,0)):=Γ wr _;have hOA:=H.out.2.1.below hbA;have L:=H.out.2.2.1.below hbA;have hBA:=H.out.2.2.2.trans<|hbA.mono hsz;have hXA:=HX.out.below hbA;clear hbA;generalize (wr.alloc _).drew=wA at hOA L hBA hXA e13⊢;generalize wr.heap.size=W at e13 hsz⊢;obtain⟨lc,hlc,hle⟩:=hOA.c;obtain⟨av,mv,hvv,-⟩:=aF hlc;subst hvv;obtain⟨⟨b0,-,-⟩,-,-,aoQ,-⟩:=hOA.reads L;obtain⟨b1,b2,-,-⟩:=eA e13;have PE:=(Ω.1 e13).1;have aju:N.length<=100000:=by have:=H.out.1.len;have:=HK.out.many;omega
       have ajv:z.length<=100000:=by have:=HK.out.kinds _<|φ HE.out.2;dsimp only at this;omega
       refine Rg.aaH 7 3 (λx=>x p7=U (.slice av lc.length mv)/\x W=U (Θ Ξ kd)/\x ⟨W,1,I⟩=U (.slice ax z.length mx)) (by kernel_rfl) (by kernel_rfl) (λc a d v w h=>by cases d<;>exact h) ⟨b0,b1,b2⟩ ?_;simp only[ZW,ι,ZZ,θ,ZY]
       iterate 7
        (refine Rg.fp.step (v:=?_) (by rfl) (λx hx=>?_) ?_
         rotate_left
         (obtain⟨hx0,hx1,hx2⟩:=hx
          go_simp
          try rfl))
       refine Rg.fp.nil<|Rg.pA.succ ?_;simp only[ZE,ο,ε,Z9];refine Z4 rfl λK y=>?_;go_simp;have hd:=(Δ wA wA).drew;refine(Pf wA.drew _ _ _ _ _ _ _ N z (L.below hd) (hXA.below hd) aju ajv).mono ?_;rintro e w5 ⟨r,so5,rfl,Xq,D,A⟩;have f13:=(L.below hd).free ((hd.block W PE).trans e13) (by decide) (by decide);have ahk:=(A.block W PE f13.1 f13.2.1 f13.2.2).trans<|(hd.block W PE).trans e13;obtain⟨T,mr5,sR,-⟩:=aF Xq;rw[ZN]at sR;subst sR;obtain⟨h5,m,t,q⟩:=Qt (o:=Ψ #[kd,.slice T z.length mr5] 76) hOA L hBA .refl D A;obtain⟨⟨c0,-,-⟩,-,-,ajw,-⟩:=h5.reads D;obtain⟨c1,c2,-,-⟩:=eA ahk;have ahI:OC w5 f (.slice av lc.length mv) lc:=Pe (L.below hd) A (hlc.below hd) (by decide) (by decide);have ahJ:=(hle.keep<|kE.below hd).num (L.below hd) A;have hzw:=hBA.size;have KU:=A.size;simp only[World.size_drew]at KU Xq;refine y _ _ ⟨⟨c0,c1,c2⟩,Rg.pA.succ ?_⟩;clear y K;refine Z4 rfl λK y=>?_;go_simp;refine y _ _ ⟨⟨c0,c1,c2⟩,Rg.pA.succ ?_⟩;clear y K;refine Z4 rfl λK y=>?_;go_simp;refine y _ _ ⟨⟨((af w5 _).cell (p:=⟨p7,0,I⟩) ajw).trans c0,((af w5 _).cell (p:=⟨W,0,I⟩) (Ω.1 ahk).1).trans c1,((af w5 _).cell (p:=⟨W,1,I⟩) (Ω.1 ahk).1).trans c2⟩,Rg.pA.zero ?_⟩;have hx6:OV (w5.alloc<|Ψ #[kd,.slice T z.length mr5] 76) f (.slice T z.length mr5) (z.map<|yA<|iZ N z):=(Xq.less<|by omega).alloc _;have hst:=Pm.step HK.out H.out.1 HE.out.1 HE.out.2;rw[WK hst.in_ (λv hv h1=>afM hv h1)]at hx6;clear y K c0 c1 c2 b0 b1 b2;have ahm:=ahI.alloc<|Ψ #[kd,.slice T z.length mr5] 76;have ag5:=ahJ.keep<|kE.below<|af w5<|Ψ #[kd,.slice T z.length mr5] 76;have hl6:lc.length<=1000000000:=by have h1:=hle.1;have:=H.out.1.le;have:=H.out.1.len;have:=HK.out.many;rw[ZN,List.length_take]at h1;omega
       have HQ:=V<|ω m<|ω t<|ω q<|ω ahm<|ω ag5<|ω hx6 hst;have s:=q.size;have ajx:=(Ω.1 m.hb).1;clear m t q ag5 hx6 hst ahI ahJ hlc hle hOA L hBA hXA Xq D A h5
       go_wp2_with (at_builtin;refine wh rfl _ _ rfl f _ _ rfl ahm w5.heap.size _ (kd,.slice T z.length mr5) rfl rfl (by simp[go_sem,Z7]) hl6 s ?_;intro v' w7 l hb7 Q;obtain⟨a7,m7,rfl,-⟩:=aF l;have n7:=(Q.block p7 ajx λe=>cF ahm HQ.out.1.hb (by decide) e.symm).trans HQ.out.1.hb;obtain⟨⟨y0,-⟩,j7⟩:=dT n7;have j0:=j7 0)
       obtain⟨m,t,q,ahK,ag5,hx6,hst⟩:=HQ.out;obtain⟨x1,x2,x3⟩:=Ck.cell m ahK ag5 t hx6 l Q s;have hl':(lc++[(kd,Value.slice T z.length mr5)]).length=lc.length+1:=by simp
       rw[hl']at x1 x2 x3;refine⟨⟨k+1,so5,.slice a7 (lc.length+1) m7,u,iZ N z,by go_num,V ⟨hst,?_,x2,q.trans x3⟩⟩,by simp[intOf];omega⟩;have hcs:((iZ N z).take<|k+1).map (af8 h)=(N.take k).map (af8 h)++[(kd,z.map<|yA<|fd h)]:=by
        rw[take_prefix (n6 z N) (by omega),bW HE.out.1,ξ];have:cellP h (i:Int)=(kd,z):=by simp[cellP,HE.out.2]
        simp[af8,this]
       rw[hcs];exact x1
      ·obtain⟨hF,hkN⟩:=H.out.1.done J;obtain⟨hO,hN,hB⟩:=H.out.2;have z0:=(hB.block w (by have:=G.out;omega)).trans e0;obtain⟨-,zf⟩:=dT z0;have hne:p7≠w.heap.size:=by have:=G.out;omega
       have f0:=zf 0;have f1:=zf 1;have f2:=zf 2;have f3:=zf 3;obtain⟨⟨s0,s1,s2,s3⟩,-⟩:=dT z0;obtain⟨⟨t0,t1,t2,t3⟩,-⟩:=dT hO.hb;obtain⟨lc,hlc,hle⟩:=hO.c;obtain⟨a1,n1,v1,-⟩:=aF hlc;obtain⟨a2,n2,v2,-⟩:=aF hO.r;obtain⟨a3,n3,v3,-⟩:=aF<|hO.i Z3;obtain⟨a4,n4,v4,-⟩:=aF<|hO.i ZM;have hown:pS wr f (.agg #[vc,vr,u Z3,u ZM]) (normal h):=⟨_,_,_,_,rfl,by have:=hO.c;rw[χ (by omega),<-hF]at this;exact this,hO.r,hO.i Z3,hO.i ZM⟩;generalize lc.length=m1 at v1;generalize (h.roots.map<|yA<|fd h).length=m2 at v2;generalize (if Z3=ZM then h.done.map (oZ<|fd h)else h.aA.map (oZ<|fd h)).length=m3 at v3;generalize (if ZM=ZM then h.done.map (oZ<|fd h)else h.aA.map (oZ<|fd h)).length=m4 at v4;rw[v1]at t0;rw[v2]at t1;rw[v3]at t2;rw[v4]at t3;rw[v1,v2,v3,v4]at hown;have HO:=V hown;have HZ:=V z0;have HBB:=V hB;clear hown z0 hB hO hN H v1 v2 v3 v4 hlc hle hF hkN zf
       go_wp2_with fail
       have hf:=heap_setCell_same (i:=3) (v:=.slice a4 m4 n4)<|heap_setCell_same (i:=2) (v:=.slice a3 m3 n3)<|heap_setCell_same (i:=1) (v:=.slice a2 m2 n2)<|heap_setCell_same (i:=0) (v:=.slice a1 m1 n1) HZ.out;have kb:kE f wr ((((wr.setCell w.heap.size<|.slice a1 m1 n1).setCell (w.heap.size,1)<|.slice a2 m2 n2).setCell (w.heap.size,2)<|.slice a3 m3 n3).setCell (w.heap.size,3)<|.slice a4 m4 n4):=λj hb _=>(aa (by have:=G.out;omega)).trans<|(aa (by have:=G.out;omega)).trans<|(aa (by have:=G.out;omega)).trans<|aa (by have:=G.out;omega);have Dv:Y w w wr:=hb0.trans<|HBB.out.mono (by have:=G.out;omega);have hBf:Y w w ((((wr.setCell w.heap.size<|.slice a1 m1 n1).setCell (w.heap.size,1)<|.slice a2 m2 n2).setCell (w.heap.size,2)<|.slice a3 m3 n3).setCell (w.heap.size,3)<|.slice a4 m4 n4):=(((Dv.setCell (p:=(w.heap.size:ZQ)) .refl _).setCell (p:=((w.heap.size,1):ZQ)) .refl _).setCell (p:=((w.heap.size,2):ZQ)) .refl _).setCell (p:=((w.heap.size,3):ZQ)) .refl _;generalize ((((wr.setCell w.heap.size<|.slice a1 m1 n1).setCell (w.heap.size,1)<|.slice a2 m2 n2).setCell (w.heap.size,2)<|.slice a3 m3 n3).setCell (w.heap.size,3)<|.slice a4 m4 n4)=wf at hf kb hBf⊢;obtain⟨⟨y0,y1,y2,y3⟩,-⟩:=dT hf;have hlo:w.heap.size<=f:=by have:=G.out;omega
       obtain⟨_,_,_,_,e,q1,q2,q3,q4⟩:=HO.out;cases e
       exact κ (v:=.agg #[.slice a1 m1 n1,.slice a2 m2 n2,.slice a3 m3 n3,.slice a4 m4 n4]) (by simp[Z1,results123,go_sem,y0,y1,y2,y3]) rfl ⟨⟨_,rfl,_,_,_,_,rfl,(q1.keep kb).less hlo,eV (dI q2 kb) hlo,eV (dI q3 kb) hlo,eV (dI q4 kb) hlo⟩,hBf⟩
end
def pS.reads{w B v h}(a:pS w B v h):tH w v h:=by obtain⟨c,r,b,d,e,g,f,h3,h4⟩:=a;exact⟨c,r,b,d,e,g.reads,f.reads,h3.reads,h4.reads⟩
def pS.blocks{w w' B v h}(A:pS w B v h)(s:∀(g:Nat) c t fr,w.heap[g]?=U (Obj.cells c t fr) ->t≠56->w'.heap[g]?=w.heap[g]?):pS w' B v h:=by
 have row:∀{e size n:Nat} {v:Value} {xs:List Value},e≠56->w.ownsRow B e size v n xs->w'.ownsRow B e size v n xs:=λC m=>aS m λg b=>by
  obtain⟨_,⟨rfl,_⟩|⟨D,y,z,rfl,E,a,_⟩⟩:=m;cases b
  cases b
  exact s _ _ _ _ a C
 obtain⟨c,r,p,d,e,⟨l,u,h5,o⟩,q,h3,h4⟩:=A;exact⟨c,r,p,d,e,⟨l,row (by simp) u,h5,λi k x j f e1 e2=>⟨(o i k x j f e1 e2).1,row (by simp) (o i k x j f e1 e2).2⟩⟩,row (by decide) q,row (by decide) h3,row (by decide) h4⟩
def pS.below{w w' B v h}(a:pS w B v h)(d:Y w w w'):pS w' B v h:=a.blocks λg c t fr b _=>d.block g (Ω.1 b).1
def ag6(p x w)(c:w p=U x)(d:w.frozen? p=Z3):
 CallsD prog 120 #[Zz (U p)] .returning w λe g w'=>e=.returned (.tuple #[])/\g=.returning/\∃w1,Y w w w1/\w'=w1.setCell p (Θ Ξ 0):=by
 have b:=block_lt_of_cell c;refine callsD_of_wpS (fU func120 rfl) rfl λa cs f=>?_;apply wpS_region;simp[wpOpsS,go_sem,recoverD,f,ntmps120,Exit.thenS];refine(Ad w).mono ?_;rintro e w1 ⟨rfl,hb⟩;have i:=(hb.cell b).trans c;have h:=(hb.frozen b).trans d;cases a
 simp_all [go_sem,bodyPostS,Z1,results120]
 exact⟨w1,hb,rfl⟩
def aeh(w:M)(b:Nat)(v0 v1 v2 v3:Value):M:=(((w.setCell b v0).setCell (b,1) v1).setCell (b,2) v2).setCell (b,3) v3
def ag7{w b d e g f v0 v1 v2 v3 t}(hb:w.heap[b]?=U (Ψ #[d,e,g,f] t (0,0))):
 (aeh w b v0 v1 v2 v3).heap[b]?=U (Ψ #[v0,v1,v2,v3] t (0,0))/\(∀k,k≠b->(aeh w b v0 v1 v2 v3).heap[k]?=w.heap[k]?)/\(aeh w b v0 v1 v2 v3).heap.size=w/\∀H,H<=b->Y H w (aeh w b v0 v1 v2 v3):=by
 refine⟨heap_setCell_same (i:=3) (v:=v3)<|heap_setCell_same (i:=2) (v:=v2)<|heap_setCell_same (i:=1) (v:=v1)<|heap_setCell_same (i:=0) (v:=v0) hb,λk a=>?_,by simp[aeh],λH c=>?_⟩;unfold aeh;rw[aa a,aa a,aa a,aa a];exact((((Δ H w).setCell (p:=⟨b,0,I⟩) c _).setCell (p:=⟨b,1,I⟩) c _).setCell (p:=⟨b,2,I⟩) c _).setCell (p:=⟨b,3,I⟩) c _
def aac(w v h)(hv:tH w v h)(Q:Xh h):
 R prog 63 #[v] w λe w'=>(∃r,e=.returned (.tuple #[r,Θ Ξ 0])/\tH w' r (normal h))/\Y w w w':=by
 have hmf:∀(fn:Fn) (first cap:Array Value) (w:M),(Instr.makeFunc fn first cap).run prog w=.ok (.func fn first cap) w:=λ_ _ _ _=>rfl;have HV:=V hv;have T:=V Q;obtain⟨c,r,wi,d,rfl,-⟩:=hv;clear Q
 go_enter_defers (fU func63 rfl),ntmps63
 go_wp2_with fail
 obtain⟨p,n,m,hz3⟩:=al3 w (Ψ #[c,r,wi,d] 56) (Ψ #[(),(),(),()] 56)<|Ψ #[Θ Ξ 0] 34;refine(PY _ _ h (HV.out.below m) T.out).mono ?_;rintro e w2 ⟨⟨b,rfl,B⟩,a⟩;have HP:=V B.reads;have o:=m.trans<|a.mono m.size;have hs2:=a.size;have W:=(a.block (w.heap.size+1)<|by omega).trans p;have S:=(a.block (w.heap.size+1+1)<|by omega).trans n;clear B a m p n
 go_wp2_with fail
 refine(agC _ b h HP.out T.out).mono ?_;rintro e w4 ⟨⟨r4,rfl,k⟩,j⟩;have p:=(j.block (w.heap.size+1)<|by omega).trans W;have n:=(j.block (w.heap.size+1+1)<|by omega).trans S;have F:=V<|o.trans<|j.mono o.size;have hs4:=j.size;obtain⟨a0,x,a1,A,z,s,u,q,rfl⟩:=k.reads.form;generalize hN:normal h=N at k;have HO:=V k;have HN:=V hN;obtain⟨⟨c0,c1,c2,c3⟩,cf⟩:=dT p;have f0:=cf 0;have f1:=cf 1;have f2:=cf 2;have f3:=cf 3;have ce:=d7 n;have fe:=cD (i:=0) n;have E:=V<|ω p n;clear cf p n o j W S k hN
 go_wp2_with fail
 obtain⟨K,X,k3,k4⟩:=ag7 (v0:=.slice a0 N.cells.length x) (v1:=.slice a1 N.roots.length A) (v2:=.slice z N.aA.length s) (v3:=.slice u N.done.length q) E.out.1;rw[show(((w4.setCell (w.heap.size+1:Nat)<|.slice a0 N.cells.length x).setCell (w.heap.size+1,1)<|.slice a1 N.roots.length A).setCell (w.heap.size+1,2)<|.slice z N.aA.length s).setCell (w.heap.size+1,3) (.slice u N.done.length q)=aeh w4 (w.heap.size+1) (.slice a0 N.cells.length x) (.slice a1 N.roots.length A) (.slice z N.aA.length s) (.slice u N.done.length q)from rfl];have P:=V (HO.out.blocks (w':=aeh w4 (w.heap.size+1) (.slice a0 N.cells.length x) (.slice a1 N.roots.length A) (.slice z N.aA.length s) (.slice u N.done.length q)) λg c t fr C ht=>X g λe=>by
  subst e;rw[E.out.1]at C;cases C
  exact ht rfl)
 have l:=F.out.trans<|k4 w<|by omega
 have O:=(X (w.heap.size+1+1)<|by omega).trans E.out.2;generalize aeh w4 (w.heap.size+1) (.slice a0 N.cells.length x) (.slice a1 N.roots.length A) (.slice z N.aA.length s) (.slice u N.done.length q)=w5 at K l O P k3⊢;obtain⟨t1,t2,L⟩:=jF O;have m1:=(t2 _).trans K;refine Zr (f:=120) (args:=#[.pointer (w.heap.size+1+1:Nat)]) (by simp) (by simp[go_sem]) ?_;refine(ag6 (w.heap.size+1+1:Nat) (Θ Ξ 0) _ (d7 t1)<|cD t1).mono ?_;rintro e u' w'' ⟨rfl,rfl,w9,D,rfl⟩;obtain⟨q1,J⟩:=fz t1 D;have H:=(J.block _ (Ω.1 m1).1).trans m1;have y:=((P.out.blocks λg c t fr C _=>t2 g).below J).reads;have G:=(l.trans<|L.mono l.size).trans<|J.mono<|Zv l.size L.size;generalize w9.setCell (w.heap.size+1+1:Nat) (Θ Ξ 0)=w10 at *;obtain⟨⟨r0,r1,r2,r3⟩,-⟩:=dT H;simp[Leaves,settle,Z1,results63,go_sem,r0,r1,r2,r3,d7 q1];rw[HN.out];exact⟨y,G⟩
section
section
variable{g:GH}(h:VG g)
include h
def Xt{n}(b:n∈alive (b'<|plain g)):Ik (lu<|plain g) n=0:=by
 have hw:=(eC h).wp;have hi:=D6.1<|(pO<|lE hw).2.1 n b;have a:=sT.2 hi;obtain⟨d,hd,e⟩:=ζ.1<|wK<|D6.2 hi;have hc:=B3 hw b;have c:=VG.kinds h d hd;have i:=a.1;have f:=a.2;unfold Ik;rw[if_neg (by omega),if_neg];intro h3;have h4:(cellP (lu<|plain g) n).1=3:=h3;rw[hc,<-e]at h4;have h5:(B7 (alive<|plain g) d).1=d.1:=by unfold B7;split<;>rfl
 rw[h5]at h4;omega
def afQ{v}(a:Ke (lu<|plain g) v)(b:v.1=1->v.2∈alive (b'<|plain g)):uI (lu<|plain g) v=0:=by
 unfold uI;obtain(⟨h1,h2,h3⟩|⟨h1,h2⟩)|⟨h1,_⟩:=a
 rw[if_pos h1,if_neg<|by omega];rw[if_neg (by omega),if_neg<|by omega,if_pos h1,if_pos h2];rw[if_neg (by omega),if_pos h1];exact Xt h<|b h1
def agD:Xh (lu<|plain g) where
 kinds:=λc hc=>by
  have:=(qP<|eC h).shape c hc;unfold zY at this;obtain h1|h1|h1|⟨h1,m⟩:=this
  exact .inl h1;exact .inr<|.inl h1;exact .inr<|.inr<|.inl h1;exact .inr<|.inr<|.inr ⟨h1,by rw[m];rfl⟩
 eT:=λc hc v f=>afQ h ((qP<|eC h).cells c hc v f) λk=>by
  rw[ir]at hc;obtain⟨⟨d,i⟩,hd,rfl⟩:=ζ.1 hc;dsimp only at f;split at f
  rename_i hb;have hb:=ZK.1 hb;obtain⟨_,m,h3⟩:=List.mem_zipIdx hd;have e:cellP (b'<|plain g) (i:Int)=d:=by simp only[cellP,Int.toNat_natCast];rw[ZJ,Z2<|by omega];simp[h3]
  exact(aee (eC h).wp hb (by rw[e];exact f) k).1;cases f
 many:=by rw[zi,G7];have:=h.bw;have:=h.news;omega
 four:=by have:=h.four;show(plain g).roots.length=4;simpa[plain]using this
 roots:=λv f=>afQ h ((qP<|eC h).roots v f) λk=>RK (eC h).wp<|yB.2<|.inl ⟨f,k⟩
 aA:=λn l=>Xt h<|XF (eC h).wp l
 Ko:=by have:=(B9 h).1.1;exact((ZR.1<|ZR.1 this).imp λ{a b} j e=>j<|by rw[e])
 NG:=by have:=(B9 h).1.2;simpa[Md.iF,Ij]using this
 done:=λn l=>Xt h<|RK (eC h).wp<|yB.2<|.inr ⟨n,l,rfl⟩
 Pq:=by have:=(B9 h).2.1;exact((ZR.1<|ZR.1 this).imp λ{a b} j e=>j<|by rw[e])
 Pz:=by have:=(B9 h).2.2;simpa[Md.iF,Ij]using this
end
end
def agE(w v g)(hv:GV w v g)(T:oy g)(hm:g.marked.length<=1000000)(hz:cN g=0)(hs:Small g):
 R prog 53 #[v] w λe w'=>(∃r,e=.returned (.tuple #[r,Θ Ξ 0])/\tH w' r (plain g))/\Y w w w':=by
 have hmf:∀(fn:Fn) (first cap:Array Value) (w:M),(Instr.makeFunc fn first cap).run prog w=.ok (.func fn first cap) w:=λ_ _ _ _=>rfl;have HV:=V hv;have HK:=V T;have HS:=V hs;obtain⟨n,o,r,wi,d,m,rfl,h1,h2,h3,h4,h5,h6⟩:=hv;clear T hs h1 h2 h3 h4 h5 h6
 go_enter_defers (fU func53 rfl),ntmps53
 go_wp2_with fail
 obtain⟨c,z,s,hz3⟩:=al3 w (Ψ #[n,o,r,wi,d,m] 26) (Ψ #[ZU I 0 0,ZU I 0 0,ZU I 0 0,ZU I 0 0] 56)<|Ψ #[Θ Ξ 0] 34;refine(Xb _ _ g (HV.out.below s) HK.out hz hm).mono ?_;rintro e w2 ⟨⟨b,rfl,H⟩,q⟩;have A:=s.trans<|q.mono s.size;have P:=V H;have hs2:=q.size;have HY:=V<|ω ((q.block (w.heap.size+1)<|by omega).trans c)<|(q.block (w.heap.size+1+1)<|by omega).trans z;clear q s H c z
 go_wp2_with fail
 refine(DB _ b g P.out.reads HS.out).mono ?_;rintro e j ⟨⟨r3,rfl,C⟩,a⟩;have HR:=V C;have c:=(a.block (w.heap.size+1)<|by omega).trans HY.out.1;have z:=(a.block (w.heap.size+1+1)<|by omega).trans HY.out.2;have W:=V<|A.trans<|a.mono A.size;obtain⟨E,mc,ar,G,aw,F,ad,D,rfl⟩:=C.form;clear A a C;have B:=V<|ω c z;have d0:j (w.heap.size+1:Nat)=U (ZU I 0 0):=by simp[Z,c]
 have d1:j (w.heap.size+1,1)=U (ZU I 0 0):=by simp[Z,c]
 have d2:j (w.heap.size+1,2)=U (ZU I 0 0):=by simp[Z,c]
 have d3:j (w.heap.size+1,3)=U (ZU I 0 0):=by simp[Z,c]
 have de:=d7 z;have f0:=cD (i:=0) c;have f1:=cD (i:=1) c;have f2:=cD (i:=2) c;have f3:=cD (i:=3) c;have fe:=cD (i:=0) z;clear c z
 go_wp2_with fail
 have p1:=aB (aB (aB (aB B.out.1 0<|.slice E (plain g).cells.length mc) 1<|.slice ar (plain g).roots.length G) 2<|.slice aw (plain g).aA.length F) 3<|.slice ad (plain g).done.length D;have N:∀k,k≠w.heap.size+1->((((j.setCell (w.heap.size+1:Nat)<|.slice E (plain g).cells.length mc).setCell (w.heap.size+1,1)<|.slice ar (plain g).roots.length G).setCell (w.heap.size+1,2)<|.slice aw (plain g).aA.length F).setCell (w.heap.size+1,3)<|.slice ad (plain g).done.length D).heap[k]?=j.heap[k]?:=λk h=>by rw[aa h,aa h,aa h,aa h]
 have Q:Y w j ((((j.setCell (w.heap.size+1:Nat)<|.slice E (plain g).cells.length mc).setCell (w.heap.size+1,1)<|.slice ar (plain g).roots.length G).setCell (w.heap.size+1,2)<|.slice aw (plain g).aA.length F).setCell (w.heap.size+1,3)<|.slice ad (plain g).done.length D):=((((Δ _ _).setCell (p:=⟨w.heap.size+1,0,I⟩) (by simp) _).setCell (p:=⟨w.heap.size+1,1,I⟩) (by simp) _).setCell (p:=⟨w.heap.size+1,2,I⟩) (by simp) _).setCell (p:=⟨w.heap.size+1,3,I⟩) (by simp) _;have S:((((j.setCell (w.heap.size+1:Nat)<|.slice E (plain g).cells.length mc).setCell (w.heap.size+1,1)<|.slice ar (plain g).roots.length G).setCell (w.heap.size+1,2)<|.slice aw (plain g).aA.length F).setCell (w.heap.size+1,3)<|.slice ad (plain g).done.length D).heap.size=j:=by simp
 generalize ((((j.setCell (w.heap.size+1:Nat)<|.slice E (plain g).cells.length mc).setCell (w.heap.size+1,1)<|.slice ar (plain g).roots.length G).setCell (w.heap.size+1,2)<|.slice aw (plain g).aA.length F).setCell (w.heap.size+1,3)<|.slice ad (plain g).done.length D)=w4 at p1 N Q S⊢;have K:JI j w4 (w.heap.size+1):=⟨λo k e=>by
  simp only[Z,B.out.1]at e
  match o,e with
  |0,e=>cases e
  |1,e=>cases e
  |2,e=>cases e
  |3,e=>cases e
  |n+4,e=>simp at e,N,ZG S.symm⟩
 obtain⟨q1,q2,X⟩:=jF<|(N (w.heap.size+1+1)<|by omega).trans B.out.2;have x:=(HR.out.off K).below X;have y:=(W.out.trans Q).trans<|X.mono (by have:=W.out.size;omega);have L:=(q2<|w.heap.size+1).trans p1;generalize w4.setCell (w.heap.size+1+1:Nat) (Θ Ξ 0)=w5 at q1 x y L⊢;refine Zr (f:=118) (args:=#[.pointer (w.heap.size+1+1:Nat)]) (by simp) (by simp[go_sem]) ?_;refine(ag2 (w.heap.size+1+1:Nat) (Θ Ξ 0) _ (d7 q1)<|cD q1).mono ?_;rintro e u' w'' ⟨rfl,rfl,w9,O,rfl⟩;obtain⟨r1,r2⟩:=fz q1 O;have J:=(r2.block _ (Ω.1 L).1).trans L;have l:=x.below r2;have u:=y.trans<|r2.mono y.size;generalize w9.setCell (w.heap.size+1+1:Nat) (Θ Ξ 0)=t at r1 J l u⊢;have r4:=d7 r1;have z0:t (w.heap.size+1:Nat)=U (.slice E (plain g).cells.length mc):=by simp[Z,J]
 have z1:t (w.heap.size+1,1)=U (.slice ar (plain g).roots.length G):=by simp[Z,J]
 have z2:t (w.heap.size+1,2)=U (.slice aw (plain g).aA.length F):=by simp[Z,J]
 have z3:t (w.heap.size+1,3)=U (.slice ad (plain g).done.length D):=by simp[Z,J]
 simp[Leaves,settle,Z1,results53,go_sem,z0,z1,z2,z3,r4];exact⟨l,u⟩
section
variable(w:M)(v:Value)
def Dl(l)(a:eI w v l)(f:l.length<=1000000):
 R prog 77 #[v] w λe w'=>(∃r,e=.returned r/\OV w' w r l)/\Y w w w':=by
 have hb:=af w<|Ψ #[] 50
 go_enter (fU func77 rfl),ntmps77
 go_wp2_with (at_builtin;refine tI rfl _ _ rfl w _ [] rfl (zu w _ .refl) _ l rfl (a.below hb) (by simp) (by omega) (by simp) ?_;intro d w' c b _)
 go_ret;exact⟨⟨_,rfl,c⟩,hb.trans<|b.mono .refl⟩
def Rn(l)(a:n9 w v l)(f:l.length<=1000000):
 R prog 72 #[v] w λe w'=>(∃r,e=.returned r/\OI w' w r l)/\Y w w w':=by
 have hb:=af w<|Ψ #[] 3
 go_enter (fU func72 rfl),ntmps72
 go_wp2_with (at_builtin;refine tJ rfl _ _ rfl w _ [] rfl (zx w _ .refl) _ l rfl (a.below hb) (by simp) (by omega) (by simp) ?_;intro d w' c b _)
 go_ret;exact⟨⟨_,rfl,c⟩,hb.trans<|b.mono .refl⟩
def SP.adG(B:Nat)(p:Int)(vs:List HV):Rg.SP:=⟨λv w=>∃g x,v=.slice (g:Nat) 1 1/\w.heap[g]?=U (Ψ #[Θ Ξ p,x] 76 (0,0))/\OV w B x vs,λ_ _ _ hb ⟨g,x,h1,h2,h3⟩=>⟨g,x,h1,(hb.block g (Ω.1 h2).1).trans h2,h3.below hb⟩⟩
def KG(cs)(hv:sa w v cs)(hl:cs.length<=1000000)(hs:∀c∈cs,c.2.length<=1000000):
 R prog 76 #[v] w λe w'=>(∃r,e=.returned r/\OX w' w r cs)/\Y w w w':=by
 have HV:=V hv;obtain⟨a,mc,rfl,hmc,T,_⟩:=hv
 go_enter (fU func76 rfl),ntmps76
 go_wp2_with fail
 go_loopw [3,4] (λx i wr=>∃k:Nat,k<=cs.length/\i=Θ Ξ k/\OX wr w x (cs.take k)/\Y w w wr) (λ_ i _=>cs.length-(intOf i).toNat)
 case atStart=>exact⟨0,υ _,rfl,OX.nil _ _,.refl _ _⟩
 case round=>
  obtain⟨k,hk,rfl,N,hb⟩:=hrel;by_cases F:k<cs.length
  ·obtain⟨a',mc',he,_,_,l⟩:=HV.out.below hb;cases he
   obtain⟨n,o,rfl,s,l⟩:=l (by omega);obtain⟨p,h,e1⟩:=cQ F;obtain⟨c0,x,c1,H⟩:=l k p h e1;have G:=hs _<|φ e1
   go_wp2_with fail
   refine Rg.pT [.eq u3,.eq<|.slice (n,o) cs.length mc,.eq<|Θ Ξ k,.eq<|.pointer (n,o+k*2),.eq<|.pointer (n,o+k*2),.eq p,.eq<|.slice (n,o) cs.length mc,.eq<|Θ Ξ k,.eq<|.pointer (n,o+k*2),.eq<|.pointer (n,o+k*2+1),.eq x,SP.ov w h,SP.cell w p h,SP.adG w p h] (by kernel_rfl) (by kernel_rfl) (by rfl) ?_ ?_
   ·refine⟨?_,?_,?_,?_,?_,?_,?_,?_,?_,?_,?_,?_,?_,?_,trivial⟩
    all_goals intro X w2 j d b
    all_goals first|(have f0:=cG j c0 s;have f1:=cG j c1 s;have k0:=d 0 rfl;have k1:=d 3 rfl;have k2:=d 4 rfl;simp at k0 k1 k2;(try have q0:=Rg.lT (b 1 _ rfl rfl) rfl);(try have q1:=Rg.lT (b 2 _ rfl rfl) rfl);(try have q2:=Rg.lT (b 3 _ rfl rfl) rfl);(try have q3:=Rg.lT (b 4 _ rfl rfl) rfl);(try have q4:=Rg.lT (b 6 _ rfl rfl) rfl);(try have q5:=Rg.lT (b 7 _ rfl rfl) rfl);(try have q6:=Rg.lT (b 8 _ rfl rfl) rfl);(try have q7:=Rg.lT (b 9 _ rfl rfl) rfl);clear d b;go_simp;exact⟨_,rfl,.refl _ _,rfl⟩)|skip
    ·have d0:=Rg.lT (b 10 _ rfl rfl) rfl;clear d b;go_simp;refine(Dl _ x h (H.below<|(Δ _ wr).drew.trans j) G).mono ?_;rintro e w3 ⟨⟨r,rfl,ho⟩,m⟩;exact⟨_,rfl,m,ho.less (by have:=hb.size;have:=j.size;simp at this;omega)⟩
    ·have d0:=Rg.lT (b 5 _ rfl rfl) rfl;have q:OV w2 w ((X.tmps[22]?).getD undef) h:=b 11 _ rfl rfl;obtain⟨D,B,d2,_⟩:=aF q;rw[d2]at q;clear d b;go_simp;exact⟨_,rfl,.refl _ _,_,rfl,q⟩
    ·obtain⟨y,d0,q⟩:∃y,(X.tmps[23]?).getD undef=.agg #[Θ Ξ p,y]/\OV w2 w y h:=b 12 _ rfl rfl;clear d b;obtain⟨D,B,rfl,_⟩:=aF q;go_simp;exact⟨_,rfl,af _ _,_,_,rfl,Γ _ _,q.alloc _⟩
   ·rintro O w3 m ⟨C,s1,s2,s3,s4,s5,s6,s7,s8,s9,L,Q,P,⟨g,y,z,hg,W⟩,_⟩;obtain⟨D,B,rfl,_⟩:=aF W;have C:O 0=u3:=C;simp[go_sem,z,C];clear C s1 s2 s3 s4 s5 s6 s7 s8 s9 L Q P z;have E:=(Δ wr wr).drew.trans m;obtain⟨S,t,A⟩:=N.keep<|kE.below E;obtain⟨h1,h2,_,_⟩:=eA hg
    go_wp2_with (at_builtin;refine wh rfl _ _ rfl w _ _ rfl t g _ (p,.slice D h.length B) rfl rfl ⟨h1,h2⟩ (by have:=A.1;simp at this;omega) (by have:=hb.size;have:=E.size;omega) ?_;intro v' w6 f u J;obtain⟨a6,m6,rfl,_⟩:=aF f)
    have K:(S++[(p,Value.slice D h.length B)]).length=S.length+1:=by simp
    rw[K]at f;have hz:=hb.size;have hz2:=E.size;exact⟨⟨k+1,by omega,by go_num,by rw[bW e1];exact⟨_,f,(A.snoc W).types t J⟩,hb.trans<|(E.mono<|by omega).trans u⟩,by simp[intOf];omega⟩
  ·go_wp2_with fail
   go_ret;rw[χ (by omega)]at N;exact⟨⟨_,rfl,N⟩,hb⟩
def SP.ox(B:Nat)(cs:List HC):Rg.SP:=⟨λv w=>OX w B v cs,λ_ _ _ hb h=>h.keep<|kE.below hb⟩
def Pd(w:M)(B:Nat)(r:Value)(g:GH):Prop:=∃n o ro wi d m,r=.agg #[n,o,ro,wi,d,m]/\OX w B n g.new/\OX w B o g.old/\OV w B ro g.roots/\OV w B wi g.aA/\OV w B d g.done/\OI w B m g.marked
def Pd.reads{w B r g}(h:Pd w B r g):GV w r g:=by obtain⟨n,o,f,e,d,m,rfl,c,b,h3,h4,h5,a⟩:=h;exact⟨_,_,_,_,_,_,rfl,c.reads,b.reads,h3.reads,h4.reads,h5.reads,a.reads⟩
def aaa(g)(hv:GV w v g)(hn:g.new.length<=1000000)(o:g.old.length<=1000000)(hs:∀c∈g.new++g.old,c.2.length<=1000000)(hr:g.roots.length<=1000000)(X:g.aA.length<=1000000)(hd:g.done.length<=1000000)(hm:g.marked.length<=1000000):
 R prog 21 #[v] w λe w'=>(∃r,e=.returned r/\Pd w' w r g)/\Y w w w':=by
 obtain⟨a0,a1,W,Q,T,S,rfl,h0,h1,h2,h3,h4,h5⟩:=hv;obtain⟨z0,z1,l,hs0⟩:=KM w (Ψ #[a0,a1,W,Q,T,S] 26)<|Ψ #[ZU I 0 0,ZU I 0 0,ZU I 0 0,ZU I 0 0,ZU I 0 0,ZU I 0 0] 26
 go_enter (fU func21 rfl),ntmps21
 go_wp2_with fail
 generalize (w.alloc _).alloc _=m at z0 z1 l hs0⊢;obtain⟨c0,c1,c2,c3,c4,c5⟩:(m w.heap.size=U a0)/\(m (w.heap.size,1)=U a1)/\(m (w.heap.size,2)=U W)/\(m (w.heap.size,3)=U Q)/\(m (w.heap.size,4)=U T)/\(m (w.heap.size,5)=U S):=by simp[Z,z0]
 replace h0:=h0.below l;replace h1:=h1.below l;replace h2:=h2.below l;replace h3:=h3.below l;replace h4:=h4.below l;replace h5:=h5.below l;have n:w.heap.size<m:=by omega
 refine Rg.pT [.eq (.pointer w.heap.size),.eq a0,SP.ox (w.heap.size+2) g.new,.eq<|.pointer (w.heap.size,1),.eq a1,SP.ox (w.heap.size+2) g.old,.eq<|.pointer (w.heap.size,2),.eq W,SP.ov (w.heap.size+2) g.roots,.eq<|.pointer (w.heap.size,3),.eq Q,SP.ov (w.heap.size+2) g.aA,.eq<|.pointer (w.heap.size,4),.eq T,SP.ov (w.heap.size+2) g.done,.eq<|.pointer (w.heap.size,5),.eq S,SP.oi (w.heap.size+2) g.marked] (by kernel_rfl) (by kernel_rfl) (by rfl) ?_ ?_
 ·refine⟨?_,?_,?_,?_,?_,?_,?_,?_,?_,?_,?_,?_,?_,?_,?_,?_,?_,?_,trivial⟩
  all_goals intro x w2 i b a
  all_goals first|(have f0:=cG i c0 n;have f1:=cG i c1 n;have f2:=cG i c2 n;have f3:=cG i c3 n;have f4:=cG i c4 n;have f5:=cG i c5 n;have k0:=b 1 rfl;simp at k0;(try have q0:=Rg.lT (a 0 _ rfl rfl) rfl);(try have q1:=Rg.lT (a 3 _ rfl rfl) rfl);(try have q2:=Rg.lT (a 6 _ rfl rfl) rfl);(try have q3:=Rg.lT (a 9 _ rfl rfl) rfl);(try have q4:=Rg.lT (a 12 _ rfl rfl) rfl);(try have q5:=Rg.lT (a 15 _ rfl rfl) rfl);clear b a;go_simp;exact⟨_,rfl,.refl _ _,rfl⟩)|skip
  ·have u:=Rg.lT (a 1 _ rfl rfl) rfl;have k:=(Δ _ m).drew.trans i;clear b a;go_simp;refine(KG _ a0 g.new (h0.below k) hn λc hc=>hs c<|List.mem_append_left _ hc).mono ?_;rintro e p ⟨⟨r,rfl,o⟩,h⟩;exact⟨_,rfl,h,o.less (by have:=k.size;omega)⟩
  ·have u:=Rg.lT (a 4 _ rfl rfl) rfl;have k:=(Δ _ m).drew.trans i;clear b a;go_simp;refine(KG _ a1 g.old (h1.below k) o λc hc=>hs c<|List.mem_append_right _ hc).mono ?_;rintro e p ⟨⟨r,rfl,o⟩,h⟩;exact⟨_,rfl,h,o.less (by have:=k.size;omega)⟩
  ·have u:=Rg.lT (a 7 _ rfl rfl) rfl;have k:=(Δ _ m).drew.trans i;clear b a;go_simp;refine(Dl _ W g.roots (h2.below k) hr).mono ?_;rintro e p ⟨⟨r,rfl,o⟩,h⟩;exact⟨_,rfl,h,o.less (by have:=k.size;omega)⟩
  ·have u:=Rg.lT (a 10 _ rfl rfl) rfl;have k:=(Δ _ m).drew.trans i;clear b a;go_simp;refine(Dl _ Q g.aA (h3.below k) X).mono ?_;rintro e p ⟨⟨r,rfl,o⟩,h⟩;exact⟨_,rfl,h,o.less (by have:=k.size;omega)⟩
  ·have u:=Rg.lT (a 13 _ rfl rfl) rfl;have k:=(Δ _ m).drew.trans i;clear b a;go_simp;refine(Dl _ T g.done (h4.below k) hd).mono ?_;rintro e p ⟨⟨r,rfl,o⟩,h⟩;exact⟨_,rfl,h,o.less (by have:=k.size;omega)⟩
  ·have u:=Rg.lT (a 16 _ rfl rfl) rfl;have k:=(Δ _ m).drew.trans i;clear b a;go_simp;refine(Rn _ S g.marked (h5.below k) hm).mono ?_;rintro e p ⟨⟨r,rfl,o⟩,h⟩;exact⟨_,rfl,h,o.less (by have:=k.size;omega)⟩
 ·rintro t p h ⟨_,_,F,_,_,s1,_,_,D,_,_,K,_,_,z,_,_,P,_⟩;have F:=F;have s1:=s1;have D:=D;have K:=K;have z:=z;have P:=P;simp[go_sem];generalize t 2=v0 at F⊢;generalize t 5=v1 at s1⊢;generalize t 8=v2 at D⊢;generalize t 11=v3 at K⊢;generalize t 14=v4 at z⊢;generalize t 17=v5 at P⊢;have k:=(Δ _ m).drew.trans h;have hG:∀w':M,Y w w w'->kE (w.heap.size+2) p w'->Pd w' w (.agg #[v0,v1,v2,v3,v4,v5]) g:=λw' _ s=>⟨_,_,_,_,_,_,rfl,(F.keep s).less<|by omega,(s1.keep s).less<|by omega,eV (dI D s)<|by omega,eV (dI K s)<|by omega,eV (dI z s)<|by omega,eV (dI P s)<|by omega⟩;obtain⟨l0,k0,_⟩:=id F;obtain⟨L,k1,_⟩:=id s1;obtain⟨y,G,rfl,_⟩:=aF k0;obtain⟨O,m1,rfl,_⟩:=aF k1;obtain⟨x,m2,rfl,_⟩:=aF D;obtain⟨B,A,rfl,_⟩:=aF K;obtain⟨x4,N,rfl,_⟩:=aF z;obtain⟨J,H,rfl,_⟩:=aF P;have y1:=(k.block (w.heap.size+1)<|by omega).trans z1;obtain⟨d,f⟩:=JJ y1;have d0:=d 0 (by omega);have u:=d 1 (by omega);have d2:=d 2 (by omega);have d3:=d 3 (by omega);have d4:=d 4 (by omega);have d5:=d 5 (by omega);have f0:=f 0;have f1:=f 1;have f2:=f 2;have f3:=f 3;have f4:=f 4;have f5:=f 5;clear d f
  go_wp2_with fail
  obtain⟨q1,q2,q3,q4⟩:=kn (v0:=.slice y l0.length G) (v1:=.slice O L.length m1) (v2:=.slice x g.roots.length m2) (v3:=.slice B g.aA.length A) (v4:=.slice x4 g.done.length N) (v5:=.slice J g.marked.length H) y1;have C:=q4 w (by omega);have q:=hG _ ((l.trans<|k.mono<|by omega).trans C) λj hj _=>q2 j (by omega);have E:=(l.trans<|k.mono<|by omega).trans C;rw[show((((((p.setCell (w.heap.size+1:Nat)<|.slice y l0.length G).setCell (w.heap.size+1,1)<|.slice O L.length m1).setCell (w.heap.size+1,2)<|.slice x g.roots.length m2).setCell (w.heap.size+1,3)<|.slice B g.aA.length A).setCell (w.heap.size+1,4)<|.slice x4 g.done.length N).setCell (w.heap.size+1,5)<|.slice J g.marked.length H)=io p (w.heap.size+1) (.slice y l0.length G) (.slice O L.length m1) (.slice x g.roots.length m2) (.slice B g.aA.length A) (.slice x4 g.done.length N) (.slice J g.marked.length H)from rfl];generalize io p (w.heap.size+1) (.slice y l0.length G) (.slice O L.length m1) (.slice x g.roots.length m2) (.slice B g.aA.length A) (.slice x4 g.done.length N) (.slice J g.marked.length H)=w4 at q1 q E⊢;obtain⟨e0,e1,e2,e3,e4,e5⟩:=sS q1;exact κ (v:=.agg #[.slice y l0.length G,.slice O L.length m1,.slice x g.roots.length m2,.slice B g.aA.length A,.slice x4 g.done.length N,.slice J g.marked.length H]) (by simp[Z1,results21,go_sem,e0,e1,e2,e3,e4,e5]) rfl ⟨⟨_,rfl,q⟩,E⟩
end
def Pn(w:M)(a0 a1 b d a c:Value)(t:TypeId):∀w1,w1=w.alloc (Ψ #[a0,a1,b,d,a,c] t) ->(w1 w.heap.size=U a0/\w1 (w.heap.size,1)=U a1/\w1 (w.heap.size,2)=U b/\w1 (w.heap.size,3)=U d/\w1 (w.heap.size,4)=U a/\w1 (w.heap.size,5)=U c)/\w1.heap.size=w.heap.size+1/\Y w w w1:=by rintro w1 rfl;exact⟨sS<|Γ w<|Ψ #[a0,a1,b,d,a,c] t,by simp,af _ _⟩
def WT(w:M)(a:Option ZQ)(mc:Nat)(l:List Int)(d:n9 w (.slice a l.length mc) l):
 R prog 19 #[.slice a l.length mc] w λe w'=>e=.returned (.pointer w.heap.size)/\kp w' w 0/\Y w w w':=by
 have hb:=af w<|Ψ #[.slice a l.length mc,Θ Ξ 0,Θ .u64 2611923443488327891] 95
 go_enter (fU func19 rfl),ntmps19
 go_wp2_with fail
 go_ret;exact⟨rfl,⟨0,⟨a,l,mc,_,Γ _ _,d.below hb,λp h0 e=>by obtain⟨_,_,f,_,_,h3⟩:=d;cases f;obtain⟨b,o,e2,c,_⟩:=h3 h0;rw[e]at e2;cases e2;exact c⟩,by omega,by omega⟩,hb⟩
def af9(w:M)(n:Int):
 R prog 54 #[Θ Ξ n] w λe w'=>e=.returned (.agg #[Θ Ξ 1,Θ Ξ n])/\Y w w w':=by
 go_enter (fU func54 rfl),ntmps54
 go_wp2_with fail
 refine κ (v:=.agg #[Θ Ξ 1,Θ Ξ n]) (by simp[Z1,results54,go_sem]) rfl ⟨rfl,?_⟩;exact(Δ _ _).alloc .refl _
def JY(w v u g l)(hv:GV w v g)(hu:eI w u l)(ho:g.old.length<=1000000)(hx:∀x∈l,x.1=3->0<=x.2/\x.2<=1000000)(hl:l.length<=1000000):
 R prog 101 #[v,u] w λe w'=>(∃r,e=.returned r/\OV w' w r (l.map<|cp g.old.length))/\Y w w w':=by
 have HU:=V hu;obtain⟨a0,a1,a2,a3,a4,a5,rfl,-,⟨b1,m1,rfl,-⟩,-⟩:=hv;obtain⟨a,m,rfl,hm,hm2,-⟩:=hu;obtain⟨⟨-,c1,-⟩,hs,hb⟩:=Pn w a0 (.slice b1 g.old.length m1) a2 a3 a4 a5 26 _ rfl
 go_enter (fU func101 rfl),ntmps101
 go_wp2_with fail
 generalize w.alloc _=A at c1 hs hb⊢
 go_loopw [5,6] (λx i wr=>∃k:Nat,k<=l.length/\i=Θ Ξ k/\OV wr A x ((l.take k).map<|cp g.old.length)/\Y A A wr) (λ_ i _=>l.length-(intOf i).toNat)
 case atStart=>exact⟨0,υ _,rfl,OV.nil _ _,.refl _ _⟩
 case round=>
  obtain⟨k,hk,rfl,f,j⟩:=hrel;have C:=j.size;have hB:=hb.trans<|j.mono hb.size;by_cases O:k<l.length
  ·obtain⟨a2',m2,he,_,_,y⟩:=HU.out.below hB;simp only[Value.slice.injEq]at he;obtain⟨rfl,-,-⟩:=he;obtain⟨bb,o,rfl,hbb,y⟩:=y (by omega);obtain⟨p,q,e1⟩:=ep O;obtain⟨d0,d1⟩:=y k p q e1;have H:=hx _<|φ e1;dsimp only at H;have n:((l.take k).map<|cp g.old.length).length<=1000000000:=by simp;omega
   clear y;have N:=cG j c1 (by omega:w.heap.size<A.heap.size);have h:=af wr<|Ψ #[Θ Ξ p,Θ Ξ q] 50;have B:=cG h N (by omega:w.heap.size<wr.heap.size);have hzn:(wr.alloc<|Ψ #[Θ Ξ p,Θ Ξ q] 50).heap.size=wr.heap.size+1:=by simp
   have z:=Γ wr<|Ψ #[Θ Ξ p,Θ Ξ q] 50;by_cases S:p=3
   ·subst S;obtain⟨P,hq1⟩:=H rfl;obtain⟨q,rfl⟩:=Int.eq_ofNat_of_zero_le P;have hw:=wrap_small _ (by omega) (by omega);obtain⟨L,K,-,-⟩:=eA z
    go_wp2_with fail
    refine(af9 _ _).mono ?_;rintro e E ⟨rfl,d⟩;have F:=(d.block wr<|by omega).trans z;have T:=d.size;obtain⟨z0,z1,Q,W⟩:=eA F;have G:Y wr wr ((E.setCell wr.heap.size<|Θ Ξ 1).setCell (wr.heap.size,1)<|Θ Ξ<|(g.old.length:Int)+(q:Int)):=((h.trans<|d.mono<|by omega).setCell (p:=(wr.heap.size:ZQ)) .refl _).setCell (p:=((wr.heap.size,1):ZQ)) .refl _;have xW:=heap_setCell_same (i:=1) (v:=Θ Ξ<|(g.old.length:Int)+(q:Int))<|heap_setCell_same (i:=0) (v:=Θ Ξ 1) F;have b:=OV.below f G;have t:cp g.old.length (3,(q:Int))=(1,((g.old.length:Int)+(q:Int))):=by simp[cp]<;>omega
    clear L K h B z d d0 d1
    go_wp2_with (at_builtin;refine fO rfl _ _ rfl A _ _ rfl (b.alloc _) E.heap.size _ (1,((g.old.length:Int)+(q:Int))) rfl (by simp[go_sem,Z7]) n (by simp;omega) ?_;intro X w5 c s J)
    exact⟨⟨k+1,by omega,by go_num,by rw[bW e1,ξ,Z0,t];exact c,j.trans<|((G.mono C).alloc (by simp;omega) _).trans<|s.mono<|by omega⟩,by simp[intOf];omega⟩
   ·by_cases D:p=4
    ·subst D;obtain⟨L,K,-,-⟩:=eA z
     go_wp2_with fail
     refine(af9 _ _).mono ?_;rintro e E ⟨rfl,d⟩;have F:=(d.block wr<|by omega).trans z;have T:=d.size;obtain⟨z0,z1,Q,W⟩:=eA F;have G:Y wr wr ((E.setCell wr.heap.size<|Θ Ξ 1).setCell (wr.heap.size,1) q):=((h.trans<|d.mono<|by omega).setCell (p:=(wr.heap.size:ZQ)) .refl _).setCell (p:=((wr.heap.size,1):ZQ)) .refl _;have xW:=heap_setCell_same (i:=1) (v:=Θ Ξ q)<|heap_setCell_same (i:=0) (v:=Θ Ξ 1) F;have b:=OV.below f G;have t:cp g.old.length (4,q)=(1,q):=by simp[cp]<;>omega
     clear L K h B z d d0 d1
     go_wp2_with (at_builtin;refine fO rfl _ _ rfl A _ _ rfl (b.alloc _) E.heap.size _ (1,q) rfl (by simp[go_sem,Z7]) n (by simp;omega) ?_;intro X w5 c s J)
     exact⟨⟨k+1,by omega,by go_num,by rw[bW e1,ξ,Z0,t];exact c,j.trans<|((G.mono C).alloc (by simp;omega) _).trans<|s.mono<|by omega⟩,by simp[intOf];omega⟩
    ·have aoS:(p==3)=Z3:=by simp[S]
     have aoT:(p==4)=Z3:=by simp[D]
     have t:cp g.old.length (p,q)=(p,q):=by simp[cp,S,D]
     obtain⟨L,K,-,-⟩:=eA z;have b:=OV.below f h;clear B z
     go_wp2_with (at_builtin;refine fO rfl _ _ rfl A _ _ rfl (b.alloc _) (wr.heap.size+1:Nat) _ (p,q) rfl (by simp[go_sem,Z7]) n (by simp;omega) ?_;intro X w5 c s J)
     exact⟨⟨k+1,by omega,by go_num,by rw[bW e1,ξ,Z0,t];exact c,j.trans<|((h.mono C).alloc (by simp;omega) _).trans<|s.mono<|by omega⟩,by simp[intOf];omega⟩
  ·go_wp2_with fail
   go_ret;rw[χ (by omega)]at f;exact⟨⟨_,rfl,OV.less f<|by omega⟩,hB⟩
def PJ(w v u g l)(D:GV w v g)(X:eI w u l)(S:g.old.length<=1000000)(hx:∀x∈l,x.1=3->0<=x.2/\x.2<=1000000)(T:l.length<=1000000):
 R prog 102 #[v,u] w λe w'=>(∃r,e=.returned r/\OI w' w.heap.size r ((l.map<|cp g.old.length).map (·.2)))/\Y w.heap.size w w':=by
 have G:=V D;obtain⟨a0,a1,a2,H,P,J,rfl,-⟩:=D;obtain⟨⟨c0,c1,c2,c3,E,B⟩,hs,hb⟩:=Pn w a0 a1 a2 H P J 26 _ rfl
 go_enter (fU func102 rfl),ntmps102
 go_wp2_with fail
 generalize w.alloc _=w1 at c0 c1 c2 c3 E B hs hb⊢;refine(JY _ _ _ g l (G.out.below hb) (X.below hb) S hx T).mono ?_;rintro e s ⟨⟨r,rfl,A⟩,n⟩;have O:=n.size;have f:=OV.reads A;generalize y:l.map (cp g.old.length)=L at A f;have F:L.length=l.length:=by rw[<-y];simp
 have HL:=V y;have HR:=V f;obtain⟨a,m,rfl,hm,K,-⟩:=f;clear y c0 c1 c2 c3 E B
 go_wp2_with fail
 go_loopw [5,7] (λx i wr=>∃k:Nat,k<=L.length/\i=Θ Ξ k/\OI wr s.heap.size x ((L.take k).map (·.2))/\Y s.heap.size s wr) (λ_ i _=>L.length-(intOf i).toNat)
 case atStart=>exact⟨0,υ _,rfl,OI.nil _ _,.refl _ _⟩
 case round=>
  obtain⟨k,hk,rfl,b,d⟩:=hrel;have N:=d.size;by_cases t:k<L.length
  ·obtain⟨W,m2,C,_,_,c⟩:=HR.out.below d;simp only[Value.slice.injEq]at C;obtain⟨rfl,-,-⟩:=C;obtain⟨bb,o,rfl,Q,c⟩:=c (by omega);obtain⟨p,q,e1⟩:=ep t;obtain⟨d0,d1⟩:=c k p q e1;have j:((L.take k).map (·.2)).length<=1000000000:=by simp;omega
   clear c
   go_wp2_with (at_builtin;refine od rfl _ _ rfl s.heap.size _ _ rfl (b.alloc _) ⟨wr.heap.size,0,I⟩ _ q rfl (by simp[go_sem,Z7]) j (by simp;omega) ?_;intro v' w5 h z hg5)
   exact⟨⟨k+1,by omega,by go_num,by rw[bW e1,ξ,Z0];exact h,d.trans<|((Δ _ _).alloc (by omega) _).trans z⟩,by simp[intOf];omega⟩
  ·go_wp2_with fail
   go_ret;rw[χ (by omega)]at b;exact⟨⟨_,rfl,by rw[HL.out];exact OI.less b<|by omega⟩,(hb.trans<|n.mono hb.size).trans<|d.mono<|by omega⟩
def KD(w v u g cs)(hv:GV w v g)(hu:sa w u cs)(B:g.old.length<=1000000)(hl:cs.length<=1000000)(hs:∀c∈cs,c.2.length<=1000000/\∀x∈c.2,x.1=3->0<=x.2/\x.2<=1000000):
 R prog 100 #[v,u] w λe w'=>(∃r,e=.returned r/\OX w' w r (cs.map<|Bz g.old.length))/\Y w w w':=by
 have HG:=V hv;have HU:=V hu;obtain⟨a0,a1,a2,a3,a4,a5,rfl,-⟩:=hv;obtain⟨a,mc,rfl,hmc,am9,-⟩:=hu;obtain⟨⟨c0,c1,c2,c3,c4,c5⟩,z,hb⟩:=Pn w a0 a1 a2 a3 a4 a5 26 _ rfl
 go_enter (fU func100 rfl),ntmps100
 go_wp2_with fail
 generalize w.alloc _=s at c0 c1 c2 c3 c4 c5 z hb⊢;have n:w.heap.size<s:=by omega
 clear z
 go_loopw [5,6] (λx i wr=>∃k:Nat,k<=cs.length/\i=Θ Ξ k/\OX wr s x ((cs.take k).map<|Bz g.old.length)/\Y s s wr) (λ_ i _=>cs.length-(intOf i).toNat)
 case atStart=>exact⟨0,υ _,rfl,OX.nil _ _,.refl _ _⟩
 case round=>
  obtain⟨k,hk,rfl,J,f⟩:=hrel;have hB:=hb.trans<|f.mono hb.size;have aoU:=f.size;by_cases hlt:k<cs.length
  ·obtain⟨a',mc',he,_,_,t⟩:=HU.out.below hB;simp only[Value.slice.injEq]at he;obtain⟨rfl,-,-⟩:=he;obtain⟨D,o,rfl,G,t⟩:=t (by omega);obtain⟨p,W,e1⟩:=cQ hlt;have q:w.heap.size<wr:=by omega
   have q0:=cG f c0 n;have q1:=cG f c1 n;have q2:=cG f c2 n;have q3:=cG f c3 n;have q4:=cG f c4 n;have q5:=cG f c5 n;obtain⟨c0,x,c1,hxv⟩:=t k p W e1;obtain⟨P,H⟩:=hs _<|φ e1;dsimp only at P H;clear t;obtain⟨C,E⟩:∃x,Hid (x=W.map (cp g.old.length)):=⟨_,V rfl⟩
   go_wp2_with fail
   refine Rg.pT [.eq u5,.eq<|.slice (D,o) cs.length mc,.eq<|Θ Ξ k,.eq<|.pointer (D,o+k*2),.eq<|.pointer (D,o+k*2),.eq p,.eq<|.agg #[a0,a1,a2,a3,a4,a5],.eq<|.slice (D,o) cs.length mc,.eq<|Θ Ξ k,.eq<|.pointer (D,o+k*2),.eq<|.pointer (D,o+k*2+1),.eq x,SP.ov s C,SP.cell s p C,SP.adG s p C] (by kernel_rfl) (by kernel_rfl) (by rfl) ?_ ?_
   ·refine⟨?_,?_,?_,?_,?_,?_,?_,?_,?_,?_,?_,?_,?_,?_,?_,trivial⟩
    all_goals intro x2 w2 h d b
    all_goals first|(have f0:=cG h c0 G;have f1:=cG h q0 q;have f2:=cG h q1 q;have f3:=cG h q2 q;have f4:=cG h q3 q;have f5:=cG h q4 q;have f6:=cG h q5 q;have f7:=cG h c1 G;have k0:=d 1 rfl;have k1:=d 2 rfl;have k2:=d 5 rfl;have k3:=d 6 rfl;simp at k0 k1 k2 k3;(try have q0:=Rg.lT (b 1 _ rfl rfl) rfl);(try have q1:=Rg.lT (b 2 _ rfl rfl) rfl);(try have q2:=Rg.lT (b 3 _ rfl rfl) rfl);(try have q3:=Rg.lT (b 4 _ rfl rfl) rfl);(try have q4:=Rg.lT (b 7 _ rfl rfl) rfl);(try have q5:=Rg.lT (b 8 _ rfl rfl) rfl);(try have q6:=Rg.lT (b 9 _ rfl rfl) rfl);(try have q7:=Rg.lT (b 10 _ rfl rfl) rfl);clear d b;go_simp;exact⟨_,rfl,.refl _ _,rfl⟩)|skip
    ·have F:=Rg.lT (b 6 _ rfl rfl) rfl;have m:=Rg.lT (b 11 _ rfl rfl) rfl;have j:=(Δ _ wr).drew.trans h;clear d b;go_simp;refine(JY _ _ _ g W ((HG.out.below hB).below j) (hxv.below j) B (λx J h3=>H x J h3) P).mono ?_;rintro e w3 ⟨⟨r,rfl,B⟩,A⟩;replace B:=B.less (show s.heap.size<=_ by have:=j.size;omega);rw[<-E.out]at B;exact⟨_,rfl,A,B⟩
    ·have F:=Rg.lT (b 5 _ rfl rfl) rfl;have m:=b 12 _ rfl rfl;obtain⟨Q,T,d2,-⟩:=aF m;rw[d2]at m;clear d b;go_simp;exact⟨_,rfl,.refl _ _,_,rfl,m⟩
    ·obtain⟨y,F,m⟩:∃y,(x2.tmps[26]?).getD undef=.agg #[Θ Ξ p,y]/\OV w2 s y C:=b 13 _ rfl rfl;clear d b;obtain⟨Q,T,rfl,-⟩:=aF m;go_simp;exact⟨_,rfl,af _ _,_,_,rfl,Γ _ _,m.alloc _⟩
   ·rintro fb w3 A ⟨S,s1,s2,s3,s4,s5,s6,s7,s8,s9,X,s11,s12,s13,⟨gb,y,L,hg,hy⟩,_⟩;obtain⟨Q,T,rfl,-⟩:=aF hy;have S:fb 0=u5:=S;simp[go_sem,L,S];clear S s1 s2 s3 s4 s5 s6 s7 s8 s9 X s11 s12 s13 L;have j:=(Δ wr wr).drew.trans A;obtain⟨lc,N,O⟩:=J.keep<|kE.below j;obtain⟨h1,h2,-,-⟩:=eA hg
    go_wp2_with (at_builtin;refine wh rfl _ _ rfl s _ _ rfl N gb _ (p,.slice Q C.length T) rfl rfl ⟨h1,h2⟩ (by have:=O.1;simp at this;omega) (by have:=j.size;omega) ?_;intro v' w6 l K Re;obtain⟨a6,m6,rfl,-⟩:=aF l)
    have hl':(lc++[(p,Value.slice Q C.length T)]).length=lc.length+1:=by simp
    rw[hl']at l;have hz2:=j.size;exact⟨⟨k+1,by omega,by go_num,by rw[bW e1,ξ,Z0];unfold Bz;rw[<-E.out];exact⟨_,l,(O.snoc hy).types N Re⟩,f.trans<|(j.mono<|by omega).trans K⟩,by simp[intOf];omega⟩
  ·go_wp2_with fail
   go_ret;rw[χ (by omega)]at J;exact⟨⟨_,rfl,J.less<|by omega⟩,hB⟩
section
def HO.append{w B l l2 cs a}(h:HO w B l cs)(k:HO w B l2 a):HO w B (l++l2) (cs++a):=by
 refine⟨by rw[ZT,ZT,h.1,k.1],λi p x b c e1 e2=>?_⟩;obtain hi|hi:=Nat.lt_or_ge i l.length
 rw[ZA hi]at e1;rw[ZA (by rw[<-h.1];exact hi)]at e2;exact h.2 i p x b c e1 e2;rw[ZC hi]at e1;rw[ZC (by rw[<-h.1];exact hi),<-h.1]at e2;exact k.2 _ p x b c e1 e2
def HO.one{w B l cs}(h:HO w B l cs):∀u∈l.flatMap dW,u.oneCell'=ZM:=by
 intro u b;obtain⟨p,d,b⟩:=List.mem_flatMap.1 b;obtain⟨i,hi⟩:=ZL.1 d;have c:i<cs.length:=by rw[<-h.1];exact(ψ.1 hi).1
 obtain⟨f,g,e3⟩:=cQ c;obtain⟨a,m,e,-⟩:=aF (h.2 i p.1 p.2 f g hi e3).2;simp[dW]at b;obtain rfl|rfl:=b
 rfl;rw[e];rfl
section
variable{ops:Array Oper}{rest:List Oper}{o:Oper}{a:Act}{w:M}{Q:Exit->Act->M->Prop}{K:Act->M->Prop}
def agc(s x)(H:o.op=.call {callee:=.builtin .append,args:=#[s,x],argTypes:=#[22,22]})(B v cs)(hs:a.eval s=v)(e:OX w B v cs)(v2 d)(N:a.eval x=v2)(r:OX w B v2 d)(P:cs.length<=1000000000)(F:d.length<=1000000000)(z:B<=w.heap.size)(h:∀f w',OX w' B f (cs++d) ->Y B w w'->w.grownBy w' v.ownBlock->K (a.put o.dst f) w'):o.wp prog a w K Q:=by
 obtain⟨G,hi,i,p,q⟩:=Zx ni;obtain⟨l,n,y⟩:=e;obtain⟨g,D,t⟩:=r;have E:=y.1;have C:=t.1;obtain⟨A,c,rfl,-,-,L⟩:=aF D;refine sg s x 22 H B 76 G _ 2 32 mF hi i p q rfl (by decide) v l.length _ hs n A g.length c (g.flatMap dW) N (su g) (λh0=>?_) t.one (by unfold maxLen;omega) (by omega) z λf w' J m=>?_;obtain⟨b,rfl,_,_,_,k⟩:=L h0;refine⟨_,rfl,λj u r=>?_⟩;have O:(⟨b,0,I⟩:ZQ).add j=⟨b,j,I⟩:=by unfold Z7;split<;>simp_all
 rw[O];exact k j u r;refine h f w' ⟨l++g,?_,(y.append t).types n m⟩ (cM n m z) m;unfold OC;rw[List.flatMap_append,ZT];exact J
def afR{E}(d:o.guard=I)(s x)(g:o.op=.call {callee:=.builtin .append,args:=#[s,x],argTypes:=#[22,22]})(B v cs)(hs:a.eval s=v)(c:OX w B v cs)(v2 b)(l:a.eval x=v2)(j:OX w B v2 b)(i:cs.length<=1000000000)(e:b.length<=1000000000)(k:B<=w.heap.size)(h:∀f w',OX w' B f (cs++b) ->Y B w w'->w.grownBy w' v.ownBlock->K (a.put o.dst f) w'):if Region.wanted o (yielded ops a.tmps)=ZM then Oper.wp prog o a w K Q else E:=by rw[if_pos (by simp[Region.wanted,d])];exact agc s x g B v cs hs c v2 b l j i e k h
end
end
end Kn
