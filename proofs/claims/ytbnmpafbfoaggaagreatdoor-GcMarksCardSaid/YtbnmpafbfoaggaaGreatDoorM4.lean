/- A part of the proof of GcMarks; no conditions. -/
import Derived.Test.YtbnmpafbfoaggaaGreatDoorM0
import Derived.Test.YtbnmpafbfoaggaaGreatDoorM1
import Derived.Test.YtbnmpafbfoaggaaGreatDoorM3
import Derived.Test.YtbnmpafbfoaggaaGreatDoorM2
import Derived.ScopeJumps
import Derived.WalkMore
import Derived.LoopNIn
import Derived.Maps.RangeWalk
import Derived.Maps.OwnSet
import Derived.Defers
import Derived.Recover
import Derived.Laws.Pointers
import Derived.Deep.Cut
import Derived.Deep.DeepCutAuto
set_option linter.defProp false
set_option linter.unusedVariables false
set_option linter.unusedSimpArgs false
set_option maxRecDepth 100000
set_option maxHeartbeats 16000000
noncomputable section
open Array renaming getElem?_eq_some_iff->Ω,replicate_succ->ZN,replicate_zero->ZM
open Go.Lib renaming hid->Y
open Go.Obj renaming cells->Ψ,map->Zh
open Go.World renaming cell?->Ξ,frozen?->φ,putObj_heap_other->Z4,size_alloc->ZS,grownBy_alloc->ZK,setCell->Zc
open Option renaming some->U,none->M
open And renaming intro->Z
open Go renaming heap_alloc_new->Θ,World->ε,Value->Z8,callsIn_wide->Z1,Calls->ZU,step_scope->ZJ,TypeId->Zv,wpOp_step->Zo,bodyPost_ret->Zm,step_inScope->Zl,results->Zi,wpIn_rangeFunc_ownH->Zd
open Go.Value renaming int->Δ,slice->θ,pointer->ZH,map->Zk
open Go.IntKind renaming i64->Γ
open List renaming length_map->ω,getElem?_eq_some_iff->χ,getElem?_eq_getElem->υ,mem_map->ξ,mem_of_getElem?->μ,getElem?_set_self->ι,map_append->ζ,getElem?_set_ne->Z9,ext_getElem?->ZX,range->ZW,length_nil->ZV,length_cons->ZR,getD->ZQ,take_of_length_le->ZO,mem_cons_of_mem->ZL,append_toArray->ZI,mem_cons_self->ZG,size_toArray->ZF,push_toArray->ZE,cons_append->ZB,nil_append->ZA,nodup_cons->Zz,nodup_nil->Zy,mem_range->Zx,drop_eq_getElem_cons->Zw,pairwise_iff_getElem->Zu,sublist_cons_self->Zt,drop_eq_nil_of_le->Zs,getElem?_eq_none->Zr,contains_iff_mem->Zq,set_cons_succ->Zp,pairwise_map->Zj,take_length->Zg,range_succ->Zf,mem_append->Ze,map_cons->Zb,map_nil->Za,map_map->Y'
open Go.RowKit renaming Below->ψ
open Go.RowKit.Below renaming refl->ο,heap_alloc->Z2,heap_setCell->ZT
open Bool renaming false->κ,true->Zn
open Int renaming eq_ofNat_of_zero_le->η
open Option.some renaming inj->Z0
open Ne renaming symm->ZY
open Go.Fence renaming wide->ZP
open List.Sublist renaming append_left->ZD
open Go.CallsIn renaming inRound->ZC
namespace Go.Proofs.YtbnmpafbfoaggaaGreatDoor
open Go.Proofs.Tryz hiding prog
open Go.Proofs.aD
namespace Kn
open Go Go.RowKit Go.Shelf Md
section
variable(w:ε)(b n:Nat)
attribute [local go_sem] Oper.semAt_some
def Jg:ZU prog 259 #[.pointer b] w λe w'=>e=.returned (.func (.func 276) #[] #[.pointer w.heap.size])/\w'=w.alloc (Ψ #[.pointer b] 155):=by
 go_enter (fU func259 rfl),ntmps259
 go_wp2
 go_ret;exact⟨rfl,rfl⟩
def refsOf(l:List HV):List Int:=(l.filter λv=>v.1==1).map (·.2)
def lB(l v):refsOf (l++[v])=if v.1=1 then refsOf l++[v.2]else refsOf l:=by
 unfold refsOf
 grind
def sL{l:List HV}{k:Nat}{n}(h:l[k]?=U (1,n)):(refsOf<|l.take k).length<(refsOf l).length:=by
 have a:l.drop k=(1,n)::l.drop (k+1):=by
  rw[Zw ((χ.1 h).1)]
  grind
 rw[(by rw[List.take_append_drop]:refsOf l=refsOf (l.take k++l.drop k)),a];unfold refsOf;simp
def JK(x:Nat×Nat):Z8:=.agg #[(x.1:Int),.slice x.2 1 1]
def KT(x:Nat×Nat):Int:=(x.1:Int)
def uY(n0 bg:Nat)(W W':ε):Prop:=ψ n0 W W'/\W'.heap[bg]?=W.heap[bg]?
def uY.trans{c d X a b}(h:uY c d X a)(k:uY c d a b):uY c d X b:=⟨h.1.trans k.1,k.2.trans h.2⟩
def uY.refl(a b X):uY a b X X:=⟨ο _ _,rfl⟩
def uY.book{b a:Nat}{w:ε}(e:b<=w)(hb:a<w)(W l o c)(d:w.heap.size<=l)(h:W.heap[l]?=U o)(hc:o.isCells=κ)(hw:o.isWalk=κ):uY b a W (W.putObj l c):=⟨belowK_b e W l o c d h hc hw,Z4<|by omega⟩
def uY.alloc{c b X a}(h:uY c b X a)(d:c<=a)(hb:b<a)(o):uY c b X (a.alloc o):=⟨h.1.alloc d o,(Z2 a o b hb).trans h.2⟩
def E0(hn:1<=n)(l b y:Nat)(h)(J Jx:List (Nat×Nat) ->ε->Prop)(W0 W:ε)(X:AbidesFrom W J) (hY:∀a x P,J a P->a.length<(refsOf h.roots).length->YieldAt ZP (n-1) prog l #[JK x] P λe z=>
 (e=.returned (.bool Zn)/\J (a++[x]) z/\uY W0 y P z)\/(e=.returned (.bool κ)/\Jx (a++[x]) z)) (f:W.heap[y]?=U (Ψ #[.pointer b] 155 (0,0))) (hg:qw W0 b h) (hd:h.done=[]) (D:∀v∈h.roots,v.1=1->0<=v.2) (hW:ψ W0 W0 W) (h0:J [] W):
 CallsIn ZP n prog 276 #[.func (.yield l) #[] #[],.pointer y] W λe z=>(∃v,e=.returned v)/\
  ((∃ys,ys.map KT=refsOf h.roots/\J ys z)\/(∃a,True/\Jx a z)):=by
 obtain⟨c,r,wi,d,c0,c1,c2,c3,_,h2,_,h4⟩:=hg;rw[hd]at h4;obtain⟨ar,mr,rfl,_,_,C⟩:=h2;obtain⟨ad,md,rfl,_,_,_⟩:=h4;have hb:=az c0;have T:W y=U (.pointer b):=by simp[Ξ,f]
 have B:=(Ω.1 f).1;have f1:=cG hW c1 hb;have C3:=Y c3;have L:=Y f;have HA:=Y C;have HY:=Y hY;simp only[ZV]at C3;clear hY c0 c1 c2 c3 C f;refine callsIn_of_wp (fU func276 rfl) rfl trivial ?_ rfl;simp only[ntmps276,ZF,ZR,ZV,Nat.reduceAdd,Nat.reduceSub,ZN,ZM,ZE,ZI,ZA,ZB]
 gi_wp2_with fail
 clear T
 gi_loopw [13] (λi wr=>∃k:Nat,∃a,k<=h.roots.length/\i=Δ Γ k/\a.map KT=refsOf (h.roots.take k)/\J a wr/\uY W0 y W wr) (λi _=>h.roots.length-(intOf i).toNat)
 case atStart=>exact⟨0,[],Nat.zero_le _,rfl,rfl,h0,uY.refl _ _ _⟩
 case round=>
  obtain⟨k,a,hk,rfl,w,s,g⟩:=hrel;clear h0 f1;have m:=Nat.lt_of_lt_of_le B g.1.size;have u:=hW.trans g.1;have F:=u.size;by_cases K:k<h.roots.length
  ·obtain⟨ba,oa,e,N,t⟩:=HA.out (by omega);cases e
   obtain⟨p,q,e1⟩:=ep K;obtain⟨d1,d2⟩:=(t.below u N) k p q e1;have E1:=Y e1;have HP:=Y w;by_cases o:p=1
   ·subst o;obtain⟨q,rfl⟩:=η<|D _ (μ e1) rfl;have j:a.length<(refsOf h.roots).length:=by have:=sL e1;rw[<-w]at this;simpa using this
    have A:=X _ _ (wr.alloc<|Ψ #[Δ Γ 1,q] 50) M s (ZK wr _ M) (λr e=>by cases e);have E:=X _ _ ((wr.alloc<|Ψ #[Δ Γ 1,q] 50).alloc<|Ψ #[Δ Γ k] 3) M A (ZK _ _ M) (λr e=>by cases e);obtain⟨fn,tmps,H,body,hy,hR⟩:=HY.out _ (q,wr.heap.size+1) _ E j;unfold JK at hy;dsimp only at hy;clear t e1 j A E w
    gi_wp2_with fail
    refine hR.mono ?_;rintro e W3 (⟨rfl,S,hk3⟩|⟨rfl,G⟩)
    ·gi_wp2_with fail
     go_roundw
     case rel=>exact⟨k+1,a++[(q,wr.heap.size+1)],by omega,by go_num,by rw[bW E1.out,lB,if_pos rfl,ζ,HP.out];rfl,S,((g.alloc F m _).alloc (by simp;omega) (by simp;omega) _).trans hk3⟩
     case measure=>simp[intOf];omega
    ·gi_wp2_with fail
     refine Zm (results_none rfl _ _ _) rfl ?_;exact⟨⟨_,rfl⟩,.inr ⟨_,trivial,G⟩⟩
   ·have hp1':(p==1)=κ:=by simp[o]
    clear t e1 w
    gi_wp2_with fail
    refine⟨λ_ h=>(by cases h),?_⟩
    gi_wp2_with fail
    go_roundw
    case rel=>exact⟨k+1,a,by omega,by go_num,by rw[bW E1.out,lB,if_neg o];exact HP.out,X _ _ (wr.alloc<|Ψ #[p,q] 50) M s (ZK wr _ M) (λr e=>by cases e),g.alloc F m _⟩
    case measure=>simp[intOf];omega
  ·have Q:k=h.roots.length:=by omega
   subst Q;rw[ZO .refl]at w;have f3:=cG u C3.out hb;have fg:wr y=U (.pointer b):=by simp[Ξ,g.2.trans L.out]
   gi_wp2_with fail
   gi_loopw [38] (λi O=>i=Δ Γ 0/\O=wr) (λ_ _=>0)
   case atStart=>exact⟨rfl,rfl⟩
   case round=>
    obtain⟨rfl,rfl⟩:=hrel
    gi_wp2_with fail
    go_end0;exact⟨⟨_,rfl⟩,.inl ⟨a,w,s⟩⟩
def wH(m:1<=n)(b a:Nat)(h)(w0 w:ε)(hb:ψ w0 w0 w)(c:w.heap[a]?=U (Ψ #[.pointer b] 155 (0,0)))(j:qw w0 b h)(hd:h.done=[])(d:∀v∈h.roots,v.1=1->0<=v.2):
 SeqStopsK ZP n prog 276 #[.pointer a] (λx=>#[JK x]) (uY w0 a) (λf=>f.map KT=refsOf h.roots) (λ_=>True) (refsOf h.roots).length w:=λl J k W e i o g h0=>
 E0 n m l b a h J k w0 W i g ((e.block a (Ω.1 c).1).trans c) j hd d (hb.trans<|e.mono hb.size) h0
def afz (t f:Int) (w:ε) (e:Ending) (w':ε):Prop:=∃bt bf,e=.returned (.func (.func 321) #[] #[.pointer (bt:Nat),.pointer (bf:Nat)])/\
    w'.heap[bt]?=U (Ψ #[t] 3 (0,0))/\w'.heap[bf]?=U (Ψ #[f] 3 (0,0))/\w.heap.size<=bt/\w.heap.size<=bf/\ψ w w w'
def zV(f t:Int):ZU prog 320 #[f,t] w λe w'=>afz t f w e w':=by
 go_enter (fU func320 rfl),ntmps320
 go_wp2
 go_ret;refine⟨w.heap.size+1,w.heap.size,by simp,by simpa using (Θ (w.alloc<|Ψ #[f] 3)<|Ψ #[t] 3),(heap_alloc_old (w.alloc<|Ψ #[f] 3) (Ψ #[t] 3)<|by simp).trans<|Θ w<|Ψ #[f] 3,Nat.le_succ _,.refl,(af w _).alloc (by simp) _⟩
def tR(k1 k2:Nat)(W W':ε):Prop:=W'.heap[k1]?=W.heap[k1]?/\W'.heap[k2]?=W.heap[k2]?
def tR.trans{c d X a b}(h:tR c d X a)(k:tR c d a b):tR c d X b:=⟨k.1.trans h.1,k.2.trans h.2⟩
def tR.refl(a b X):tR a b X X:=⟨rfl,rfl⟩
def tR.book{a b:Nat}{w:ε}(f:a<w)(e:b<w)(W l o c)(d:w.heap.size<=l)(h:W.heap[l]?=U o)(hc:o.isCells=κ)(hw:o.isWalk=κ):tR a b W (W.putObj l c):=⟨Z4<|by omega,Z4<|by omega⟩
def tR.bK{b c:Nat}{X a:ε}(h:ψ X X a)(d:b<X)(e:c<X):tR b c X a:=⟨h.block b d,h.block c e⟩
def inV{m:Nat}(x:Fin m):Z8:=Δ Γ ((x.val:Nat):Int)
def E3(Q:1<=n)(l p c m)(J y:List (Fin m) ->ε->Prop)(W) (A:∀a x s,J a s->a.length<m->YieldAt ZP (n-1) prog l #[inV x] s λe d=>
 (e=.returned (.bool Zn)/\J (a++[x]) d/\tR p c s d)\/(e=.returned (.bool κ)/\y (a++[x]) d)) (h:W.heap[p]?=U (Ψ #[m] 3 (0,0))) (b:W.heap[c]?=U (Ψ #[Δ Γ 0] 3 (0,0))) (S:m<=1000000) (h0:J [] W):
 CallsIn ZP n prog 321 #[.func (.yield l) #[] #[],.pointer p,.pointer c] W λe d=>(∃v,e=.returned v)/\
  ((∃C,C.map Fin.val=ZW m/\J C d)\/(∃a,True/\y a d)):=by
 have H:W p=U (Δ Γ (m:Int)):=by simp[Ξ,h]
 have E:W c=U (Δ Γ 0):=by simp[Ξ,b]
 have D:=Y b;have K:=Y A;clear A h b;refine callsIn_of_wp (fU func321 rfl) rfl trivial ?_ rfl;simp only[ntmps321,ZF,ZR,ZV,Nat.reduceAdd,Nat.reduceSub,ZN,ZM,ZE,ZI,ZA,ZB]
 gi_wp2_with fail
 clear H E
 gi_loopw [8] (λi wr=>∃k:Nat,∃a:List (Fin m),k<=m/\i=Δ Γ k/\a.map Fin.val=ZW k/\J a wr/\tR p c W wr) (λi _=>m-(intOf i).toNat)
 case atStart=>exact⟨0,[],Nat.zero_le _,rfl,rfl,h0,tR.refl _ _ _⟩
 case round=>
  obtain⟨k,a,N,rfl,r,g,o⟩:=hrel;clear h0;by_cases f:k<m
  ·have O:wr c=U (Δ Γ 0):=by simp[Ξ,o.2.trans D.out]
   obtain⟨fn,z,q,body,B,L⟩:=K.out _ ⟨k,f⟩ _ g (by have:=congrArg List.length r;simp at this;omega);unfold inV at B;dsimp only at B;have G:=Y r;clear r;have F:(k:Int)<(m:Int):=by omega
   gi_wp2_with fail
   refine L.mono ?_;rintro e P (⟨rfl,u,w⟩|⟨rfl,j⟩)
   ·gi_wp2_with fail
    go_roundw
    case rel=>exact⟨k+1,a++[⟨k,f⟩],by omega,by go_num,by rw[Zf,ζ,G.out];rfl,u,o.trans w⟩
    case measure=>simp[intOf];omega
   ·gi_wp2_with fail
    refine Zm (results_none rfl _ _ _) rfl ?_;exact⟨⟨_,rfl⟩,.inr ⟨_,trivial,j⟩⟩
  ·have t:k=m:=by omega
   subst t
   gi_wp2_with fail
   go_end0;exact⟨⟨_,rfl⟩,.inl ⟨a,r,g⟩⟩
def PZ(j:1<=n)(d b m:Nat)(w)(c:w.heap[d]?=U (Ψ #[m] 3 (0,0)))(a:w.heap[b]?=U (Ψ #[Δ Γ 0] 3 (0,0)))(f:m<=1000000):
 SeqStopsK ZP n prog 321 #[.pointer d,.pointer b] (λx:Fin m=>#[inV x]) (tR d b) (λg=>g.map Fin.val=ZW m) (λ_=>True) m w:=λl J h W e o k i h0=>
 E3 n j l d b m J h W i ((e.block d (Ω.1 c).1).trans c) ((e.block b (Ω.1 a).1).trans a) f h0
def Ou(a n m b):ZU prog 316 #[.agg #[Δ Γ 0,.slice a n m],.map<|U b] w λe w'=>afz n 0 w e w':=by
 go_enter (fU func316 rfl),ntmps316
 go_wp2_with fail
 refine(zV _ _ _).mono ?_;rintro e w' ⟨g,f,rfl,c,d,h3,h4,h5⟩
 go_wp2_with fail
 go_ret;simp at h3 h4;exact⟨g,f,rfl,c,d,by omega,by omega,(af w _).trans<|h5.mono<|by simp⟩
def Ov(a n m b):ZU prog 322 #[.agg #[Δ Γ 1,.slice a n m],.map<|U b] w λe w'=>afz ((0:Nat):Int) 0 w e w':=by
 go_enter (fU func322 rfl),ntmps322
 go_wp2_with fail
 refine(zV _ _ _).mono ?_;rintro e w' ⟨g,f,rfl,c,d,h3,h4,h5⟩
 go_wp2_with fail
 go_ret;simp at h3 h4;exact⟨g,f,rfl,c,d,by omega,by omega,(af w _).trans<|h5.mono<|by simp⟩
end
section
def Rs(l:List Int)(x:List Int×List Int):List Int×List Int:=l.foldl iG x
def dJ(l:List HV)(x:List Int×List Int):List Int×List Int:=Rs (refsOf l) x
structure Sr where
 q:List Int
 met:List Int
 al:List Int
def zW(h:PH)(x:Sr):Sr:=
 match x.q with
 |[]=>x
 |n::q=>
  let c:=h.cells.getD n.toNat (0,[])
  let y:=if c.1=0 then dJ c.2 (q,x.met)else(q,x.met)
  ⟨y.1,y.2,ml x.al n⟩
def dP(h:PH):Nat->Sr->Sr
 |0,x=>x
 |k+1,x=>zW h<|dP h k x
def gD(h:PH)(al:List Int):Sr:=⟨(dJ h.roots ([],[])).1,(dJ h.roots ([],[])).2,al⟩
def Wt(h:PH)(N:Nat)(al:List Int):List Int:=(dP h N<|gD h al).al
def jE(h:PH)(N:Nat):Nat->List Int
 |0=>[]
 |r+1=>Wt h N<|jE h N r
structure lZ(h:PH)(N R:Nat):Prop where
 fin:∀r,r<=R->(dP h N (gD h (jE h N r))).q=[]
 refs:∀r,r<=R->∀k,k<=N->∀n∈(dP h k (gD h (jE h N r))).q,0<=n/\n<h.cells.length
 short:∀r,r<=R->∀k,k<=N->(dP h k (gD h (jE h N r))).q.length<=1000
 grow:∀r,r<R->(jE h N r).length<(jE h N (r+1)).length
 stop:¬(jE h N R).length<(jE h N (R+1)).length
 sM:(refsOf h.roots).length<=1000
 pos:∀v∈h.roots,v.1=1->0<=v.2
 Wu:∀c∈h.cells,∀v∈c.2,v.1=1->0<=v.2
 kinds:∀c∈h.cells,c.1=0\/c.1=1
 wW:∀c∈h.cells,c.2.length<=1000
def sN(l n x):Rs (l++[n]) x=iG (Rs l x) n:=by simp[Rs]
def E4(x n):(iG x n).1.length<=x.1.length+1:=by unfold iG;split<;>simp
theorem pt:∀(l:List Int) (x:List Int×List Int),(Rs l x).1.length<=x.1.length+l.length
 |[],x=>by simp[Rs]
 |n::l,x=>by
  have a:=pt l<|iG x n;have b:=E4 x n;show(Rs l<|iG x n).1.length<=_
  grind
theorem sO{h:PH}{x:Sr}{k:Nat}(b:(dP h k x).q=[]):∀N,k<=N->dP h N x=dP h k x
 |0,hk=>by grind
 |N+1,hk=>by
  obtain a|a:=Nat.lt_or_ge N k
  grind
  have c:=sO b N a;show zW h (dP h N x)=_;rw[c];unfold zW;rw[b]
def BS{h x k n q}(a:(dP h k x).q=n::q):dP h (k+1) x=⟨(if(h.cells.getD n.toNat (0,[])).1=0 then dJ (h.cells.getD n.toNat (0,[])).2 (q,(dP h k x).met)else(q,(dP h k x).met)).1,
 (if(h.cells.getD n.toNat (0,[])).1=0 then dJ (h.cells.getD n.toNat (0,[])).2 (q,(dP h k x).met)else(q,(dP h k x).met)).2,ml (dP h k x).al n⟩:=by
 show zW h (dP h k x)=_;unfold zW;rw[a]
def zX(l v x):dJ (l++[v]) x=if v.1=1 then iG (dJ l x) v.2 else dJ l x:=by
 unfold dJ;rw[lB];split
 rw[sN];rfl
def BT(l):(refsOf l).length<=l.length:=by
 unfold refsOf
 grind
def BU{F n P Q a w c}(I:Nat->Act->ε->Prop)(N)(h0:I 0 a w)(round:∀k a w,k<=N->I k a w->c.wpIn F n P (Exit.then (λa' w'=>k<N/\I (k+1) a' w') Q) a w):(Code.loop c).wpIn F n P Q a w:=by
 have d:∀m k a w,k+m=N+1->k<=N->I k a w->Code.roundsIn F n P c Q m a w:=by
  intro m
  induction m with
  |zero=>intro k a w f b _;omega
  |succ m i=>
   intro k a w f b g;refine wpIn_mono (round k a w b g) λe a' w' h=>?_;cases e with
   |normal=>exact i (k+1) a' w' (by omega) (by have:=h.1;omega) h.2
   |_=>exact h
 exact wpIn_loop_rounds (N+1)<|d (N+1) 0 a w (by omega) (Nat.zero_le _) h0
def qy{P a w Q c rest}(l)(J:Nat->Act->ε->Prop)(N)(E:findLabel c l=U (.seq .skip rest))(first:(∀a w,J 0 a w->rest.wp P (Exit.jump l (λa' w'=>0<N/\J 1 a' w') Q) a w) ->c.wp P (Exit.jump l (λa' w'=>0<N/\J 1 a' w') Q) a w)(t:∀k a w,k<=N->J k a w->rest.wp P (Exit.jump l (λa' w'=>k<N/\J (k+1) a' w') Q) a w):(Code.scope c).wp P Q a w:=by
 intro b k cs;have p:∀k a w,k<=N->J k a w->(Code.seq .skip rest).wp P (Exit.jump l (λa' w'=>k<N/\J (k+1) a' w') Q) a w:=λk a w v z=>wp_seq<|wp_skip<|t k a w v z;have C:gotoIn l (.inScope c::k)=U (.code (.seq .skip rest)::.inScope c::k):=by simp[gotoIn,E]
 have A:∀m j a w,j+m=N->J j a w->∃e a' w',Q e a' w'/\Arrives P (lone (b.at a (.code (.seq .skip rest)::.inScope c::k)) cs w) b k cs e a' w':=by
  intro m
  induction m with
  |zero=>
   intro j a w F z;obtain⟨e,g,d,n,f⟩:=p j a w (by omega) z b (.inScope c::k) cs;cases e with
   |normal=>exact⟨.normal,g,d,n,Steps.trans f<|.one Zl⟩
   |exit id=>exact⟨.exit id,g,d,n,λy v=>f y<|by simp[exitTo,v]⟩
   |goto D=>obtain⟨_,x,_⟩:=n;omega
   |ret=>exact⟨_,g,d,n,f⟩
   |panic B=>exact⟨_,g,d,n,f⟩
   |outgrown=>exact⟨_,g,d,n,f⟩
  |succ m G=>
   intro j a w F z;obtain⟨e,g,d,n,f⟩:=p j a w (by omega) z b (.inScope c::k) cs;cases e with
   |normal=>exact⟨.normal,g,d,n,Steps.trans f<|.one Zl⟩
   |exit id=>exact⟨.exit id,g,d,n,λy v=>f y<|by simp[exitTo,v]⟩
   |goto D=>obtain⟨rfl,x,u⟩:=n;obtain⟨q,r,s,o,i⟩:=G (j+1) g d (by omega) u;exact⟨q,r,s,o,.of_steps (f _ C) i⟩
   |ret=>exact⟨_,g,d,n,f⟩
   |panic B=>exact⟨_,g,d,n,f⟩
   |outgrown=>exact⟨_,g,d,n,f⟩
 obtain⟨e,g,d,n,f⟩:=first (λa w h=>t 0 a w (Nat.zero_le _) h) b (.inScope c::k) cs
 cases e with
 |normal=>exact⟨.normal,g,d,n,.head ZJ<|Steps.trans f<|.one Zl⟩
 |exit id=>exact⟨.exit id,g,d,n,λy v=>.head ZJ<|f y<|by simp[exitTo,v]⟩
 |goto D=>obtain⟨rfl,x,u⟩:=n;obtain⟨q,r,s,o,i⟩:=A (N-1) 1 g d (by omega) u;exact⟨q,r,s,o,.of_steps (.head ZJ<|f _ C) i⟩
 |ret=>exact⟨_,g,d,n,.of_steps (.one ZJ) f⟩
 |panic B=>exact⟨_,g,d,n,.of_steps (.one ZJ) f⟩
 |outgrown=>exact⟨_,g,d,n,.of_steps (.one ZJ) f⟩
def Jh(D:Nat):Deferred:={target:=.collected D,args:=#[]}
def Marks(W:ε)(lo:Nat)(Ds:List Nat):Prop:=Ds.Nodup/\∀D∈Ds,lo<=D/\W.heap[D]?=U (.deferred<|U [])
def Marks.nil(W lo):Marks W lo []:=⟨Zy,λD h=>by cases h⟩
def Marks.of_block{W c lo b}(h:Marks W lo b)(d:∀D∈b,W.heap[D]?=U (.deferred<|U []) ->c.heap[D]?=W.heap[D]?):Marks c lo b:=⟨h.1,λD a=>⟨(h.2 D a).1,(d D a (h.2 D a).2).trans (h.2 D a).2⟩⟩
def Marks.lt{W lo a}(h:Marks W lo a){D}(b:D∈a):D<W:=(Ω.1 (h.2 D b).2).1
theorem oz{F:Fence}{n:Nat}{P:Program}{fn:Func}{b:Array Z8}{a:Ending->ε->Prop}:∀(d:List Nat) (W:ε) (lo:Nat),Marks W lo d->
 (∀c,c.heap.size=W.heap.size->c.os=W.os->c.tape=W.tape->c.output=W.output->(∀k,k∉d->c.heap[k]?=W.heap[k]?) ->LeavesInM F n P fn b a [] .returning c) ->
 LeavesInM F n P fn b a (d.map Jh) .returning W
 |[],W,lo,hm,h=>h W rfl rfl rfl rfl λ_ _=>rfl
 |D::d,W,lo,hm,h=>by have m:=Zz.1 hm.1;refine⟨by simp,.inl ⟨D,_,rfl,run_takeDeferred<|(hm.2 D ZG).2,?_⟩⟩;refine oz d _ lo ⟨m.2,λg f=>⟨(hm.2 g<|ZL _ f).1,?_⟩⟩ λc l j h3 h4 h5=>?_;rw[Z4 (by grind)];exact(hm.2 g<|ZL _ f).2;refine h c (by rw[l];simp[World.putObj]) j h3 h4 λk i=>?_;rw[h5 k (λe=>i<|ZL _ e),Z4<|by grind]
def OQ.Q7{w B B' s l}(h:OQ w B s l)(f:B'<=B):OQ w B' s l:=by obtain⟨a,m,rfl,d,h3,h4,h5⟩:=h;refine⟨a,m,rfl,d,h3,h4,λad e=>?_⟩;obtain⟨g,o,b,e2,c,r⟩:=h5 ad e;exact⟨g,o,b,e2,Nat.le_trans f c,r⟩
def hdI(l:List Int):Int:=l.headD 0
def isI(l:List Int):Bool:=!l.isEmpty
def Ow:hdI []=0:=rfl
def Ox:isI []=κ:=rfl
def Ji(n l):hdI (n::l)=n:=rfl
def Jj(n l):isI (n::l)=Zn:=rfl
def BV(w B bq bm s l)(h:zS w B bq s l)(c:l.length<=1000000):
 ZU prog 260 #[.pointer bq] w λe w'=>e=.returned (.tuple #[(hdI l),.bool<|isI l])/\∃s',zS w' B bq s' l.tail/\Kf w w' bq bm s s':=by
 obtain _|⟨n,l⟩:=l
 exact(EY w B bq s h).mono λe w' ⟨b,a⟩=>⟨b,s,by rw[a];exact h,by rw[a];exact Kf.bK<|ο _ _⟩;exact EZ w B bq bm s n l h (by grind)
structure AO(w W:ε)(A:List Int)(Ds:List Nat):Prop where
 c3:W.heap[w.heap.size]?=U (Ψ #[Δ Γ (-1)] 3 (0,0))
 al:bk W (w.heap.size+1) A
 E5:Marks W (w.heap.size+2) Ds
 below:ψ w w W
structure AQ(w W:ε)(q0:Nat)(A:List Int)(s:Z8)(q met:List Int)(Ds:List Nat):Prop extends AO w W A Ds where
 lo:w.heap.size+1<q0
 qa:zS W q0 q0 s q
 mt:bk W (q0+1) met
 mc:W.heap[q0+1+1]?=U (Ψ #[.map (U (q0+1))] 205 (0,0))
 me:W.heap[q0+1+1+1]?=U (Ψ #[.func (.func 257) #[] #[.pointer (q0+1+1:Nat),.pointer w.heap.size,.pointer q0]] 256 (0,0))
section
variable{w W W':ε}{q0:Nat}{A A':List Int}{s s':Z8}{q q' met met':List Int}{Ds:List Nat}
def AQ.keep(h:AQ w W q0 A s q met Ds)(f:Kf W W' q0 (q0+1) s s'){k o}(b:W.heap[k]?=U o)(d:k≠q0)(c:k≠q0+1)(h3:q0<=k->∀a fr,o≠.cells a 3 fr):W'.heap[k]?=U o:=by
 refine(f.block k (Ω.1 b).1 d c λe=>?_).trans b;obtain⟨g,_,a,hc⟩:=h.qa.2.lt e
 grind
def AQ.to(h:AQ w W q0 A s q met Ds)(l:zS W' q0 q0 s' q')(k:bk W' (q0+1) met')(a:Kf W W' q0 (q0+1) s s'):AQ w W' q0 A s' q' met' Ds:=by
 have g:=h.lo;refine⟨⟨h.keep a h.c3 (by omega) (by omega) λe=>by omega,?_,?_,?_⟩,g,l,k,h.keep a h.mc (by omega) (by omega) (λ_ b fr e=>by cases e),h.keep a h.me (by omega) (by omega) λ_ b fr e=>by cases e⟩;obtain⟨j,d,hb,r⟩:=h.al;exact⟨j,d,h.keep a hb (by omega) (by omega) λe=>by omega,r⟩;refine h.E5.of_block λD m hb=>?_;have i:D≠q0:=λe=>by subst e;rw[h.qa.1]at hb;cases hb
 have f:D≠q0+1:=λe=>by subst e;obtain⟨j,d,c,_⟩:=h.mt;rw[hb]at c;cases c
 rw[h.keep a hb i f (λ_ b fr e=>by cases e),hb];exact h.below.trans<|a.below (B:=w) (h.qa.2.Q7<|by omega) (by omega) (by omega) h.below.size
def AQ.low(h:AQ w W q0 A s q met Ds)(a:ψ W W W'):AQ w W' q0 A s q met Ds:=h.to ⟨(a.block q0 (Ω.1 h.qa.1).1).trans h.qa.1,h.qa.2.below a⟩ (h.mt.below a) (Kf.bK a)
def AQ.grown(h:AQ w W q0 A s q met Ds){row c}(x:q0+1+1+1<c)(v:∀D∈Ds,D<c)(i:W.grownBy W' row)(p:∀r,row=U r->c<=r/\∃o,W.heap[r]?=U o/\o.isCells=κ):AQ w W' q0 A s q met Ds:=by
 have d:=h.lo;have b:∀k,k<c->k<W->W'.heap[k]?=W.heap[k]?:=λk y u=>i.block k u λe=>by grind
 have a:∀{k:Nat} {o:Obj},W.heap[k]?=U o->k<W:=λe=>(Ω.1 e).1;refine⟨⟨(b _ (by omega) (a h.c3)).trans h.c3,h.al.of_block (b _ (by omega) h.al.lt),h.E5.of_block λD m hb=>b D (v D m) (a hb),h.below.grown i h.below.size (λk e=>by have:=(p k e).1;omega)⟩,d,
  ⟨(b _ (by omega) (a h.qa.1)).trans h.qa.1,h.qa.2.of_block λg l=>?_⟩,h.mt.of_block (b _ (by omega) h.mt.lt),(b _ (by omega) (a h.mc)).trans h.mc,(b _ (by omega) (a h.me)).trans h.me⟩
 obtain⟨_,j,t,hc⟩:=h.qa.2.lt l;refine i.block g j λe=>?_;obtain⟨_,o,n,f⟩:=p g e.symm;rw[hc]at n;cases n
 cases f
def AQ.alive(h:AQ w W q0 A s q met Ds)(d:bk W' (w.heap.size+1) A')(l:W.grownBy W' (U<|w.heap.size+1)):AQ w W' q0 A' s q met Ds:=by
 have c:=h.lo;have b:∀k,k≠w.heap.size+1->k<W->W'.heap[k]?=W.heap[k]?:=λk n m=>l.block k m λe=>n<|Z0 e;have a:∀{k:Nat} {o:Obj},W.heap[k]?=U o->k<W:=λe=>(Ω.1 e).1;refine⟨⟨(b _ (by omega) (a h.c3)).trans h.c3,d,h.E5.of_block λD j hb=>b D (by have:=(h.E5.2 D j).1;omega) (a hb),h.below.grown l h.below.size (λk e=>by have:=Z0 e;omega)⟩,c,
  ⟨(b _ (by omega) (a h.qa.1)).trans h.qa.1,h.qa.2.of_block λg i=>?_⟩,h.mt.of_block (b _ (by omega) h.mt.lt),(b _ (by omega) (a h.mc)).trans h.mc,(b _ (by omega) (a h.me)).trans h.me⟩
 obtain⟨p,f,_⟩:=h.qa.2.lt i;exact b g (by omega) f
def AQ.mark(h:AQ w W q0 A s q met Ds){D}(e:W.heap[D]?=U (.deferred<|U []))(c:D∉Ds)(b:w.heap.size+2<=D):AQ w W q0 A s q met (D::Ds):=
 ⟨⟨h.c3,h.al,⟨Zz.2 ⟨c,h.E5.1⟩,λd a=>by
   obtain rfl|a:=List.mem_cons.1 a
   grind
   exact h.E5.2 d a⟩,h.below⟩,h.lo,h.qa,h.mt,h.mc,h.me⟩
def AQ.keeps(h:AQ w W q0 A s q met Ds)(a:Kf W W' q0 (q0+1) s s'){B}(f:q0+1<B):KeepsFrom B W W':=⟨a.size,λk o d c hc=>h.keep a c (by omega) (by omega) (λ_ b fr e=>by subst e;cases hc)⟩
def AQ.kpb(h:AQ w W q0 A s q met Ds)(b:Kf W W' q0 (q0+1) s s'){a cs t fr}(hb:W.heap[a]?=U (.cells cs t fr))(f:a≠q0)(d:a≠q0+1)(h3:t≠3):uY w a W W':=⟨b.below (h.qa.2.Q7 (by have:=h.lo;omega)) (by have:=h.lo;omega) (by have:=h.lo;omega) h.below.size,(h.keep b hb f d (λ_ c fr e=>by cases e;exact h3 rfl)).trans hb.symm⟩
def AO.low(h:AO w W A Ds)(a:ψ W W W'):AO w W' A Ds:=⟨(a.block _ (Ω.1 h.c3).1).trans h.c3,h.al.below a,h.E5.of_block λD b hb=>a.block D (Ω.1 hb).1,h.below.trans<|a.mono h.below.size⟩
def AO.round(h:AO w W A Ds):AQ w ((((W.alloc<|Ψ #[()] 305).alloc<|.map #[] 0).alloc<|Ψ #[.map (U<|W.heap.size+1)] 205).alloc<|Ψ #[.func (.func 257) #[] #[.pointer (W.heap.size+1+1:Nat),.pointer w.heap.size,.pointer W.heap.size]] 256) W A () [] [] Ds:=by have a:=Θ (W.alloc<|Ψ #[()] 305)<|.map #[] 0;have h3:=Θ ((W.alloc<|Ψ #[()] 305).alloc<|.map #[] 0)<|Ψ #[.map (U<|W.heap.size+1)] 205;have h4:=Θ (((W.alloc<|Ψ #[()] 305).alloc<|.map #[] 0).alloc<|Ψ #[.map (U<|W.heap.size+1)] 205)<|Ψ #[.func (.func 257) #[] #[.pointer (W.heap.size+1+1:Nat),.pointer w.heap.size,.pointer W.heap.size]] 256;simp only[ZS]at a h3 h4;have push:∀(w:ε) (o:Obj) (k:Nat),k<w->(w.alloc o).heap[k]?=w.heap[k]?:=λw o k h=>Z2 w o k h;refine⟨h.low<|(((af W _).alloc (by simp) _).alloc (by simp;omega) _).alloc (by simp;omega) _,h.al.lt,⟨?_,OQ.nil _ _⟩,⟨#[],0,?_,⟨rfl,Zy,λe b=>by simp at b⟩⟩,?_,h4⟩;rw[push _ _ _ (by simp;omega),push _ _ _ (by simp;omega),push _ _ _<|by simp];exact Θ W<|Ψ #[()] 305;rw[push _ _ _ (by simp),push _ _ _<|by simp];exact a;rw[push _ _ _ (by simp)];exact h3
def Jk(w):AO w ((w.alloc<|Ψ #[Δ Γ (-1)] 3).alloc<|.map #[] 0) [] []:=by have a:=Θ (w.alloc<|Ψ #[Δ Γ (-1)] 3)<|.map #[] 0;simp only[ZS]at a;exact⟨(Z2 _ _ _<|by simp).trans<|Θ w _,⟨#[],0,a,⟨rfl,Zy,λe b=>by simp at b⟩⟩,Marks.nil _ _,(af w _).alloc (by simp) _⟩
end
end
section
attribute [local go_sem] Oper.semAt_some
structure agG(k:Int)(vs us:List HV)(T F:Nat):Prop where
 cellOf:∀w a n m,ZU prog 181 #[.agg #[Δ Γ k,.slice a n m]] w λe w'=>e=.returned (.iface T (.agg #[Δ Γ k,.slice a n m]))/\ψ w w w'
 mt:∀w s,(method 463 T (.agg #[Δ Γ k,s]) "caracole/heap.keeps").run prog w=.ok (F,.agg #[Δ Γ k,s]) w
 ent:∀w args,(callFunc F args).run prog w=.ok (.enter F args) w
 keeps:∀w a m b,ZU prog F #[.agg #[Δ Γ k,.slice a vs.length m],.map (U b)] w λe w'=>afz (us.length:Int) 0 w e w'
 le:us.length<=vs.length
 sel:∀z,(if k=0 then dJ vs z else z)=dJ us z
 eT:0<us.length->vs=us/\∀w a n m,ZU prog 261 #[.iface T (.agg #[Δ Γ k,.slice a n m])] w λe w'=>e=.returned (.slice a n m)/\ψ w w w'
def ael{k}(vs)(h:k=0\/k=1):∃us T F,agG k vs us T F:=by
 obtain rfl|rfl:=h
 exact⟨vs,264,316,sI,λw s=>Oc w s _ 316<|.inr<|.inr<|.inl ⟨rfl,rfl⟩,λw c=>Pp 316 c w rfl,λw a m b=>Ou w a _ m b,.refl,λz=>rfl,λ_=>⟨rfl,I1⟩⟩;exact⟨[],265,322,sJ,λw s=>Od w s _ 322<|.inr<|.inr<|.inl ⟨rfl,rfl⟩,λw c=>Pp 322 c w rfl,λw a m b=>Ov w a _ m b,Nat.zero_le _,λz=>rfl,λh=>by cases h⟩
def BW(w b h N f)(hg:qw w b h)(ho:lZ h N f)(hd:h.done=[]):
 ZU prog 222 #[.pointer b,Δ Γ<|-1] w λe w'=>(∃m,e=.returned (.map<|U m)/\w.heap.size<=m/\bk w' m (jE h N<|f+1))/\ψ w w w':=by
 have hmm:=@run_makeMap prog;have HG:=Y hg;have HO:=Y ho;clear hg ho;refine(Z1 (n:=9)).1 ?_;refine callsIn_of_wp_marks (fU func222 rfl) rfl trivial ?_ rfl;simp only[ntmps222,ZF,ZR,ZV,Nat.reduceAdd,Nat.reduceSub,ZN,ZM,ZE,ZI,ZA,ZB];refine wpIn_wide.2 ?_
 go_wp2_with fail
 refine qy 0 (λr a' W=>∃(Ds:List Nat) (u6 u7 u8 u9 u10 u11 u12 u13 u14 u15 u16 u17 u18 u19 u20 u21 u22 u23 u24 u25 u26 u27 u28 u29 u30 u31 u32 u33 u34 u35 u36 u37 u38 u39 u40 u41 u42 u43 u44 u45 u46 u47 u48 u49 u50 u51 u52 u53 u54 u55 u56 u57 u58 u59 u60 u61 u62 u63 u64 u65 u66 u67 u68:Z8),a'={tmps:=#[.pointer b,Δ Γ<|-1,undef,.pointer w.heap.size,.map M,.map<|U<|w.heap.size+1,u6,u7,u8,u9,u10,u11,u12,u13,u14,u15,u16,u17,u18,u19,u20,u21,u22,u23,u24,u25,u26,u27,u28,u29,u30,u31,u32,u33,u34,u35,u36,u37,u38,u39,u40,u41,u42,u43,u44,u45,u46,u47,u48,u49,u50,u51,u52,u53,u54,u55,u56,u57,u58,u59,u60,u61,u62,u63,u64,u65,u66,u67,u68],defers:=Ds.map Jh}/\AO w W (jE h N r) Ds) f (by rfl) ?first ?pass
 case first=>
  intro hrest
  go_wp2_with fail
  go_step3
  rename_i hK;exact hK _ _<|hrest _ _ ⟨[],_,_,_,_,_,_,_,_,_,_,_,_,_,_,_,_,_,_,_,_,_,_,_,_,_,_,_,_,_,_,_,_,_,_,_,_,_,_,_,_,_,_,_,_,_,_,_,_,_,_,_,_,_,_,_,_,_,_,_,_,_,_,_,rfl,Jk w⟩
 case pass=>
  rintro r a' W hr ⟨Ds,u6,u7,u8,u9,u10,u11,u12,u13,u14,u15,u16,u17,u18,u19,u20,u21,u22,u23,u24,u25,u26,u27,u28,u29,u30,u31,u32,u33,u34,u35,u36,u37,u38,u39,u40,u41,u42,u43,u44,u45,u46,u47,u48,u49,u50,u51,u52,u53,u54,u55,u56,u57,u58,u59,u60,u61,u62,u63,u64,u65,u66,u67,u68,rfl,hA⟩;have HA:=Y hA;have hlen:=uV 3 hA.al;refine(wpIn_wide (n:=9)).1 ?_;have arK:=hA.below;clear hA
  gi_wp2_with (refine⟨trivial,?_⟩;gi_at_call 259;refine(Z1.2<|Jg _ b).mono ?_;rintro e w' ⟨rfl,rfl⟩)
  clear hmm hlen;have hq0:=HA.out.round;have hD0:=λD (hD:D∈Ds)=>HA.out.E5.lt hD;have KU:(((((W.alloc<|Ψ #[θ M 0 0] 305).alloc<|Zh #[] 0).alloc<|Ψ #[Zk (U<|W.heap.size+1)] 205).alloc<|Ψ #[.func (.func 257) #[] #[.pointer (W.heap.size+1+1:Nat),.pointer w.heap.size,.pointer W.heap.size]] 256).alloc<|Ψ #[ZH (U {block:=b,off:=0})] 155).heap.size=W.heap.size+1+1+1+1+1:=by simp
  have hq5:=hq0.low<|af _<|Ψ #[ZH (U {block:=b,off:=0})] 155;have hbh:(((((W.alloc<|Ψ #[θ M 0 0] 305).alloc<|Zh #[] 0).alloc<|Ψ #[Zk (U<|W.heap.size+1)] 205).alloc<|Ψ #[.func (.func 257) #[] #[.pointer (W.heap.size+1+1:Nat),.pointer w.heap.size,.pointer W.heap.size]] 256).alloc<|Ψ #[ZH (U {block:=b,off:=0})] 155).heap[W.heap.size+1+1+1+1]?=U (Ψ #[.pointer b] 155 (0,0)):=by have:=Θ ((((W.alloc<|Ψ #[θ M 0 0] 305).alloc<|Zh #[] 0).alloc<|Ψ #[Zk (U<|W.heap.size+1)] 205).alloc<|Ψ #[.func (.func 257) #[] #[.pointer (W.heap.size+1+1:Nat),.pointer w.heap.size,.pointer W.heap.size]] 256)<|Ψ #[ZH (U {block:=b,off:=0})] 155;simpa using this
  generalize ((((W.alloc _).alloc<|Zh #[] 0).alloc _).alloc _).alloc _=W5 at hbh KU hq5⊢;have hsA:=HA.out.al.lt;generalize ann:W.heap.size=g at KU hbh hq5 hD0 hsA⊢;have Z5:=Y KU;have HD0:=Y hD0;clear hq0 KU hD0 ann;have hW5:=hq5.below;have hb5:=hW5.size;have hq3:g+1+1+1<W5:=by rw[Z5.out];omega
  refine Zd rfl (by omega) (gf:=276) (lb:=#[.pointer (g+1+1+1+1:Nat)]) rfl trivial (enters_of (fU func276 rfl) (by kernel_rfl) rfl)
   (wH 8 (by omega) b (g+1+1+1+1) h w W5 hW5 hbh HG.out hd HO.out.pos) uY.trans (uY.book hb5 (by rw[Z5.out];omega)) (ο _ _) (λ_=>rfl)
   (λu W=>(∃s,AQ w W g (jE h N r) s (Rs (u.map KT) ([],[])).1 (Rs (u.map KT) ([],[])).2 Ds)/\W.heap[g+1+1+1+1]?=U (Ψ #[.pointer b] 155 (0,0))) (λ_ _ _=>False)
   (λs A C row hs' L hr=>by
     obtain⟨⟨Q,h⟩,h2⟩:=hs';refine⟨⟨Q,h.grown hq3 (λD hD=>by have:=HD0.out D hD;rw[Z5.out];omega) L hr⟩,(L.block _ (Ω.1 h2).1 λe=>?_).trans h2⟩;obtain⟨_,o,ho,hc'⟩:=hr _ e.symm;rw[h2]at ho;cases ho
     cases hc') (λ_ _ _ _ _ h _ _=>h) ⟨⟨_,hq5⟩,hbh⟩
   (λx a' W=>∃Bx,W.heap[Bx]?=U (Ψ #[Δ Γ (x.1:Int),.slice x.2 1 1] 310 (0,0))/\a'={tmps:=#[.pointer b,Δ Γ<|-1,undef,.pointer w.heap.size,.map M,.map<|U<|w.heap.size+1,Δ Γ ((jE h N r).length:Int),.pointer g,.pointer (g+1+1:Nat),.pointer (g+1+1+1:Nat),.pointer (Bx:Nat),u11,u12,u13,u14,u15,u16,.map<|U<|w.heap.size+1,Δ Γ ((jE h N r).length:Int),.map<|U<|g+1,.func (.func 257) #[] #[.pointer (g+1+1:Nat),.pointer w.heap.size,.pointer g],.pointer b,.func (.func 276) #[] #[.pointer (g+1+1+1+1:Nat)],JK x,u24,u25,u26,u27,u28,u29,u30,u31,u32,u33,u34,u35,u36,u37,u38,u39,u40,u41,u42,u43,u44,u45,u46,u47,u48,u49,u50,u51,u52,u53,u54,u55,u56,u57,u58,u59,u60,u61,u62,u63,u64,u65,u66,u67,u68],defers:=[]})
   (λx a' s A C row hs' L hr=>by
     obtain⟨Bx,h1,h2⟩:=hs';refine⟨Bx,(L.block Bx (Ω.1 h1).1 λe=>?_).trans h1,h2⟩;obtain⟨_,o,ho,hc'⟩:=hr Bx e.symm;rw[h1]at ho;cases ho
     cases hc') ?assign ?body ?done ?stop
  case assign=>
   rintro l u ⟨p,q⟩ O K ⟨⟨Q,G⟩,v⟩ hK;unfold JK
   gi_wp2
   have hbb:=af O<|Ψ #[Value.int IntKind.i64 (p:Int),θ (U {block:=q,off:=0}) 1 1] 310;exact hK _ _ ((KeepsOthers.alloc _ _).from _) (uY.alloc (uY.refl _ _ _) G.below.size (Ω.1 v).1 _) ⟨⟨Q,G.low hbb⟩,(hbb.block _ (Ω.1 v).1).trans v⟩ ⟨O.heap.size,Θ O _,rfl⟩
  case body=>
   rintro l u ⟨p,q⟩ a' O hl ⟨rr,hrr⟩ ⟨⟨Q,G⟩,v⟩ ⟨Bx,hx,rfl⟩ hlt;have cf:O (g+1+1+1:Nat)=U (.func (.func 257) #[] #[.pointer (g+1+1:Nat),.pointer w.heap.size,.pointer g]):=by simp[Ξ,G.me]
   have x0:O (Bx:Nat)=U (Δ Γ (p:Int)):=by simp[Ξ,hx]
   have B:=Y G;have HI2:=Y v;have hbl:=HO.out.sM;have hvl:=pt (u.map KT) ([],[]);simp only[ZV,Nat.zero_add,ω]at hvl;clear hrr hx G v;unfold JK
   gi_wp2_with fail
   refine⟨trivial,?_⟩;refine(ZC l<|Z1.2<|DC O g w g (g+1) (g+1+1) Q _ _ (p:Int) B.out.qa B.out.mt (by simp[Ξ,B.out.mc]) (by simp[Ξ,B.out.c3]) (by omega) (by have:=(Ω.1 B.out.qa.1).1;omega)<|by omega).mono ?_;rintro e W3 ⟨rfl,so3,P,Fw,ht3⟩
   gi_wp2_with fail
   have hmx:iG ((Rs (u.map KT) ([],[])).1,(Rs (u.map KT) ([],[])).2) (p:Int)=Rs ((u++[(p,q)]).map KT) ([],[]):=by rw[ζ];exact(sN _ _ _).symm
   rw[hmx]at P Fw;exact⟨B.out.keeps ht3<|by omega,B.out.kpb ht3 HI2.out (by omega) (by omega)<|by decide,⟨so3,B.out.to P Fw ht3⟩,(B.out.keep ht3 HI2.out (by omega) (by omega) λ_ cur fr e=>by cases e)⟩
  case done=>
   rintro D xs O hD hxs ⟨⟨Q,G⟩,_⟩ hK;have H:Rs (xs.map KT) ([],[])=dJ h.roots ([],[]):=by unfold dJ;rw[<-hxs]
   rw[H]at G;clear H hxs;have hDn:D∉Ds:=λe=>by have:=HD0.out D e;have:=Z5.out;omega
   have z:=Y<|G.mark hK hDn (by have:=G.lo;omega);have hsh:(dJ h.roots ([],[])).1.length<=1000:=HO.out.short r hr 0<|Nat.zero_le _;clear G hK
   gi_wp2_with (refine⟨trivial,?_⟩;gi_at_call 260;refine(Z1.2<|BV O g g g Q _ z.out.qa<|by omega).mono ?_;rintro e W1 ⟨rfl,tU,hq1,ht1⟩)
   have hI1:=Y (z.out.to hq1 (z.out.mt.of_block (ht1.block _ z.out.mt.lt (by omega) (by omega) (λe=>by obtain⟨_,_,cur,hc⟩:=z.out.qa.2.lt e;obtain⟨es,clk,hb,_⟩:=z.out.mt;rw[hc]at hb;cases hb))) ht1.ye)
   clear z hq1 ht1;refine BU (λk a W=>∃(wP:List Nat) (s:Z8) (u10 u13 u14 u15 u16 u23 u24 u25 u26 u27 u28 u29 u30 u31 u32 u33 u34 u35 u36 u37 u38 u39 u40 u41 u42 u43 u44 u45 u46 u47 u48 u49 u50 u51 u52 u53 u54 u55 u56 u57 u58 u59 u60 u61 u62 u63 u64 u65 u66 u67 u68:Z8),a={tmps:=#[.pointer b,Δ Γ<|-1,undef,.pointer w.heap.size,.map M,.map<|U<|w.heap.size+1,Δ Γ ((jE h N r).length:Int),.pointer g,.pointer (g+1+1:Nat),.pointer (g+1+1+1:Nat),u10,Δ Γ<|hdI (dP h k<|gD h<|jE h N r).q,.bool<|isI (dP h k<|gD h<|jE h N r).q,u13,u14,u15,u16,.map<|U<|w.heap.size+1,Δ Γ ((jE h N r).length:Int),.map<|U<|g+1,.func (.func 257) #[] #[.pointer (g+1+1:Nat),.pointer w.heap.size,.pointer g],.pointer b,.func (.func 276) #[] #[.pointer (g+1+1+1+1:Nat)],u23,u24,u25,u26,u27,u28,u29,u30,u31,u32,u33,u34,u35,u36,u37,u38,u39,u40,u41,u42,u43,u44,u45,u46,u47,u48,u49,u50,u51,u52,u53,u54,u55,u56,u57,u58,u59,u60,u61,u62,u63,u64,u65,u66,u67,u68],defers:=wP.map Jh}/\AQ w W g (dP h k<|gD h<|jE h N r).al s (dP h k<|gD h<|jE h N r).q.tail (dP h k<|gD h<|jE h N r).met wP) N ?atStart ?loop
   case atStart=>exact⟨D::Ds,tU,_,_,_,_,_,_,_,_,_,_,_,_,_,_,_,_,_,_,_,_,_,_,_,_,_,_,_,_,_,_,_,_,_,_,_,_,_,_,_,_,_,_,_,_,_,_,_,_,_,_,_,rfl,hI1.out⟩
   case loop=>
    rintro k a1 W2 hkN ⟨wP,s2,u10,u13,u14,u15,u16,u23,u24,u25,u26,u27,u28,u29,u30,u31,u32,u33,u34,u35,u36,u37,u38,u39,u40,u41,u42,u43,u44,u45,u46,u47,u48,u49,u50,u51,u52,u53,u54,u55,u56,u57,u58,u59,u60,u61,u62,u63,u64,u65,u66,u67,u68,rfl,v⟩;have B:=Y v;clear hI1 v;rcases hqk:(dP h k<|gD h<|jE h N r).q with _|⟨n,q⟩
    ·have hfin:=sO hqk N hkN;have Wv:jE h N (r+1)=(dP h k<|gD h<|jE h N r).al:=by show(dP h N<|gD h<|jE h N r).al=_;rw[hfin]
     have hln:=uV 3 B.out.al;rw[<-Wv]at hln;have HH:=Y Wv;clear hfin Wv;rw[Ow,Ox];by_cases hgr:(jE h N r).length<(jE h N<|r+1).length
     ·have hrR:r<f:=by
       obtain h1|h1:=Nat.lt_or_ge r f
       exact h1
       ·have:r=f:=by omega
        subst this;exact absurd hgr HO.out.stop
      have hgi:decide (((jE h N r).length:Int)<((jE h N<|r+1).length:Int))=Zn:=by simpa using hgr
      have hao:=B.out.toAO;rw[<-HH.out]at hao;have HAO:=Y hao;clear hao
      gi_wp2_with fail
      refine wpIn_goto ?_;exact⟨rfl,hrR,wP,_,_,_,_,_,_,_,_,_,_,_,_,_,_,_,_,_,_,_,_,_,_,_,_,_,_,_,_,_,_,_,_,_,_,_,_,_,_,_,_,_,_,_,_,_,_,_,_,_,_,_,_,_,_,_,_,_,_,_,_,_,_,_,rfl,HAO.out⟩
     ·have hrR:r=f:=by
       obtain h1|h1:=Nat.lt_or_ge r f
       exact absurd (HO.out.grow r h1) hgr;omega
      subst hrR;have hgi:decide (((jE h N r).length:Int)<((jE h N<|r+1).length:Int))=κ:=by simpa using hgr
      gi_wp2_with fail
      refine oz wP W2 (w.heap.size+2) B.out.E5 λW9 e1 e2 e3 e4 e5=>?_;have hkeys:=B.out.al.of_block (w':=W9) (e5 _ λe=>by have:=(B.out.E5.2 _ e).1;omega);rw[<-HH.out]at hkeys;exact⟨_,results_tmp rfl _ _ _,⟨w.heap.size+1,rfl,by omega,hkeys⟩,B.out.below.trans ⟨e2,e3,e4,by omega,λk hk=>e5 k λe=>by have:=(B.out.E5.2 _ e).1;omega⟩⟩
    ·obtain⟨hn0,hn1⟩:=HO.out.refs r hr k hkN n (by rw[hqk];exact ZG);obtain⟨i,rfl⟩:=η hn0;have hi:i<h.cells.length:=by omega
     obtain⟨kd,y,ec⟩:=cQ hi;have hmem:=μ ec;have hkind:=HO.out.kinds _ hmem;have hcp:=Y<|HO.out.Wu _ hmem;have hfew:=HO.out.wW _ hmem;have afk:=HO.out.short r hr k hkN;rw[hqk]at afk;simp only[ZR]at afk;dsimp only at hkind hfew;have hkl:k<N:=by
      obtain h1|h1:=Nat.lt_or_ge k N
      exact h1;have:k=N:=by omega
      subst this;have:=HO.out.fin r hr;rw[hqk]at this;cases this
     have H:=BS hqk;have hgd:h.cells.getD (Int.toNat (i:Int)) (0,[])=(kd,y):=by simp[ZQ,ec]
     rw[hgd]at H;dsimp only at H;have v:=B.out;rw[hqk]at v;generalize hx0:dP h k (gD h<|jE h N r)=X at H v;clear hx0 hqk hgd hmem;simp only[List.tail_cons]at v;obtain⟨W3,hup,hal3,hg3,hs3⟩:=ki (i:Int) v.al;have hI3:=v.alive hal3 hg3;obtain⟨c,r0,wi,d,c0,_,_,_,hcs,_⟩:=HG.out;obtain⟨ac,mc,rfl,_,_,hac⟩:=hcs;have hb:=az c0;obtain⟨bc0,oc,e,afl,hat⟩:=hac (by omega);subst e;have hbw3:=hI3.below;have e0:=cG hbw3 c0 hb;obtain⟨f1,xv,f2,hxv⟩:=(hat.below hbw3 afl) i kd y ec;have hxw:eI w xv y:=by
      obtain⟨_,xv',f2',anp⟩:=hat i kd y ec;have:=(hbw3.cell (p:=⟨bc0,oc+i*2+1,M⟩) afl).symm.trans f2;rw[show(Ξ w (bc0,oc+i*2+1))=U xv' from f2']at this;cases this
      exact anp
     obtain⟨ax,mx,rfl,_,_,_⟩:=id hxv;have HXW:=Y hxw;have HI3:=Y hI3;have hi0:(0:Int)<=(i:Int):=by omega
     have hi1:(i:Int)<(h.cells.length:Int):=by omega
     rw[Ji,Jj];clear B v hal3 hg3 hI3 hac hat hxv hxw hn0 hn1 c0 ec;obtain⟨us,T,F,S⟩:=ael y hkind;have hmt:=λw=>S.mt w<|.slice ax y.length mx;have hent:=S.ent
     gi_wp2_with fail
     clear hup;refine⟨trivial,?_⟩;refine(Z1.2<|S.cellOf _ _ _ _).mono ?_;rintro e W4 ⟨rfl,hb4⟩
     gi_wp2_with fail
     refine⟨trivial,?_⟩;refine(Z1.2<|S.keeps _ _ _ _).mono ?_;rintro e W6 ⟨bt,bf,rfl,hbt,hbf,lbt,lbf,hb6⟩
     gi_wp2_with fail
     have wB:=hb4.size;have aet:ψ W3.heap.size W3 W6:=hb4.trans<|((af W4 _).trans<|hb6.mono<|by simp).mono wB;have hcI:W6.heap[W4.heap.size]?=U (Ψ #[.iface T (.agg #[Δ Γ kd,.slice ax y.length mx])] 208 (0,0)):=(hb6.block _<|by simp).trans<|Θ W4 _;obtain⟨bc,hbc⟩:∃bc,bc=W4.heap.size:=⟨_,rfl⟩;have hI6:=HI3.out.low aet;have Xe:=aet.size;simp only[ZS]at lbt lbf;have hq0:=(Ω.1 HI3.out.me).1;have Ww:=(Ω.1 hbt).1;have Wx:=(Ω.1 hbf).1;have Wy:=(Ω.1 hcI).1;have hn1:d6 s2≠U bt:=λe=>by have:=(HI3.out.qa.2.lt e).2.1;omega
     have hn2:d6 s2≠U bf:=λe=>by have:=(HI3.out.qa.2.lt e).2.1;omega
     have hDl:=Y λD hD=>hI6.E5.lt (D:=D) hD;rw[<-hbc]at hcI Wy⊢;have anq:W3.heap.size<=bc:=by omega
     have anr:W3.heap.size<=bt:=by omega
     have ant:W3.heap.size<=bf:=by omega
     clear hbc aet hb4 hb6 lbt lbf wB;refine Zd rfl (by omega) (gf:=321) (lb:=#[ZH (U ⟨bt,0,M⟩),ZH<|U ⟨bf,0,M⟩]) rfl trivial (enters_of (fU func321 rfl) (by kernel_rfl) rfl)
      (PZ 8 (by omega) bt bf us.length W6 hbt hbf (by have:=S.le;omega)) tR.trans (tR.book Ww Wx) (ο _ _) (λ_=>rfl)
      (λu W=>(∃s,AQ w W g (ml X.al (i:Int)) s (dJ (u.map λx=>us.getD x.val (0,0)) (q,X.met)).1 (dJ (u.map λx=>us.getD x.val (0,0)) (q,X.met)).2 wP/\d6 s≠U bt/\d6 s≠U bf)/\
        W.heap[bc]?=U (Ψ #[.iface T (.agg #[Δ Γ kd,.slice ax y.length mx])] 208 (0,0))/\(∃x,W.heap[bt]?=U (.cells x 3 (0,0)))/\(∃x,W.heap[bf]?=U (.cells x 3 (0,0)))) (λ_ _ _=>False)
      (λs A C row hs' L hr=>by
        obtain⟨⟨Q,h,h1,h2⟩,h3,⟨x4,h4⟩,⟨x5,h5⟩⟩:=hs';have key:∀{k:Nat} {x:Array Z8} {t:Zv} {fr:Nat×Nat},A.heap[k]?=U (.cells x t fr) ->C.heap[k]?=U (.cells x t fr):=λ{k x t fr} hk=>(L.block k (Ω.1 hk).1 λe=>by
         obtain⟨_,o,ho,hc'⟩:=hr _ e.symm;rw[hk]at ho;cases ho
         cases hc').trans hk
        exact⟨⟨Q,h.grown (by omega) hDl.out L hr,h1,h2⟩,key h3,⟨x4,key h4⟩,⟨x5,key h5⟩⟩) (λ_ _ _ _ _ h _ _=>h) ⟨⟨s2,hI6,hn1,hn2⟩,hcI,⟨_,hbt⟩,⟨_,hbf⟩⟩
      (λx a' W=>∃(u10 u15 u16 u23 u24 u25 u26 u27 u28 u29 u30 u31 u32 u33 u34 u35 u36 u37 u38 u39 u40 u41 u42 u43 u44 u45 u46 u47 u48 u49 u50 u51 u52 u53 u54 u55 u56 u57 u58 u59 u60 u61 u62 u63 u64 u65 u66 u67 u68:Z8),a'={tmps:=#[ZH (U ⟨b,0,M⟩),Δ Γ<|-1,undef,ZH<|U ⟨w.heap.size,0,M⟩,.map M,.map<|U<|w.heap.size+1,Δ Γ ((jE h N r).length:Int),.pointer g,.pointer (g+1+1:Nat),.pointer (g+1+1+1:Nat),u10,Δ Γ (i:Int),.bool Zn,.pointer (bc:Nat),inV x,u15,u16,.map<|U<|w.heap.size+1,Δ Γ ((jE h N r).length:Int),.map<|U<|g+1,.func (.func 257) #[] #[.pointer (g+1+1:Nat),.pointer w.heap.size,.pointer g],.pointer b,.func (.func 276) #[] #[.pointer (g+1+1+1+1:Nat)],u23,u24,u25,u26,u27,u28,u29,u30,u31,u32,u33,u34,u35,u36,u37,u38,u39,u40,u41,u42,u43,u44,u45,u46,u47,u48,u49,u50,u51,u52,u53,u54,u55,u56,u57,u58,u59,u60,u61,u62,u63,u64,u65,u66,u67,u68],defers:=[]})
      (λx a' s A C row hs' L hr=>hs') ?assign2 ?body2 ?done2 ?stop2
     case assign2=>
      rintro l u x O K G hK
      gi_wp2
      exact hK _ _ ((KeepsOthers.refl _).from _) (tR.refl _ _ _) G ⟨_,_,_,_,_,_,_,_,_,_,_,_,_,_,_,_,_,_,_,_,_,_,_,_,_,_,_,_,_,_,_,_,_,_,_,_,_,_,_,_,_,_,_,_,_,_,_,_,_,rfl⟩
     case body2=>
      rintro l u x a' O hl ⟨rr,hrr⟩ ⟨⟨Q,G,qv,oX⟩,hcW,⟨x4,h4⟩,⟨x5,h5⟩⟩ ⟨u10,u15,u16,u23,u24,u25,u26,u27,u28,u29,u30,u31,u32,u33,u34,u35,u36,u37,u38,u39,u40,u41,u42,u43,u44,u45,u46,u47,u48,u49,u50,u51,u52,u53,u54,u55,u56,u57,u58,u59,u60,u61,u62,u63,u64,u65,u66,u67,u68,rfl⟩ hlt;have cI:O.cell? ⟨bc,0,M⟩=U (.iface T<|.agg #[Δ Γ kd,.slice ax y.length mx]):=by simp[Ξ,hcW]
      have B:=Y G;have HC:=Y<|Z hcW<|Z h4 h5;have HS:=Y<|Z qv oX;obtain⟨xv,Wz⟩:=x;obtain⟨e,hval⟩:=S.eT (by omega);subst e;clear hrr G hcW h4 h5 qv oX;unfold inV;dsimp only
      gi_wp2_with fail
      refine⟨trivial,?_⟩;refine(ZC l<|Z1.2<|hval O ax y.length mx).mono ?_;rintro e W7 ⟨rfl,hb7⟩;have hI7:=B.out.low hb7;obtain⟨a9,m9,e9,_,_,hh9⟩:=HXW.out.below hI7.below;cases e9
      obtain⟨ba2,oa2,e,afb,afq⟩:=hh9 (by omega);cases e
      obtain⟨p,nn,e1⟩:=ep Wz;obtain⟨g1,g2⟩:=afq xv p nn e1;have hx0:(0:Int)<=(xv:Int):=by omega
      have hx1:(xv:Int)<(y.length:Int):=by omega
      have hgd:y.getD xv (0,0)=(p,nn):=by simp[ZQ,e1]
      have hmv:=zX (u.map λx:Fin y.length=>y.getD x.val (0,0)) (p,nn) (q,X.met);have hpm:((u++[(⟨xv,Wz⟩:Fin y.length)]).map λx:Fin y.length=>y.getD x.val (0,0))=(u.map λx:Fin y.length=>y.getD x.val (0,0))++[(p,nn)]:=by
       rw[ζ]
       congr 1
       simp only[Zb,Za];rw[hgd]
      have hml:=pt (refsOf (u.map λx:Fin y.length=>y.getD x.val (0,0))) (q,X.met);have hrl:=BT (u.map λx:Fin y.length=>y.getD x.val (0,0));rw[ω]at hrl;dsimp only at hml;have afr:(dJ (u.map λx:Fin y.length=>y.getD x.val (0,0)) (q,X.met)).1.length<=1000000:=by show(Rs _ _).1.length<=_;omega
      have KV:=Y hI7;have HML:=Y afr;have HPM:=Y hpm;have HE:=Y e1;clear hI7 hh9 afq hgd hml hrl afr hpm e1;have cf:W7 (g+1+1+1:Nat)=U (.func (.func 257) #[] #[.pointer (g+1+1:Nat),.pointer w.heap.size,.pointer g]):=by simp[Ξ,KV.out.me]
      have Dv:=af W7<|Ψ #[Δ Γ p,Δ Γ nn] 50;have E:=hb7.trans<|Dv.mono hb7.size;have cf9:=cG Dv cf<|az cf;obtain⟨k3,k4,k5⟩:=HC.out;have l3:=(Ω.1 k3).1;have l4:=(Ω.1 k4).1;have l5:=(Ω.1 k5).1;by_cases hp1:p=1
      ·subst hp1;obtain⟨nm,rfl⟩:=η<|hcp.out _ (μ HE.out) rfl;rw[if_pos rfl]at hmv;have HMV:=Y hmv;clear hmv
       gi_wp2_with fail
       refine⟨trivial,?_⟩;have J:=KV.out.low Dv;refine(ZC l<|Z1.2<|DC _ g w g (g+1) (g+1+1) Q _ _ (nm:Int) J.qa J.mt (by simp[Ξ,J.mc]) (by simp[Ξ,J.c3]) (by omega) (by have:=(Ω.1 J.qa.1).1;omega) HML.out).mono ?_;rintro e W10 ⟨rfl,so3,P,Fw,ht3⟩
       gi_wp2_with fail
       have hmx:iG ((dJ (u.map λx:Fin y.length=>y.getD x.val (0,0)) (q,X.met)).1,(dJ (u.map λx:Fin y.length=>y.getD x.val (0,0)) (q,X.met)).2) (nm:Int)=dJ ((u++[(⟨xv,Wz⟩:Fin y.length)]).map λx:Fin y.length=>y.getD x.val (0,0)) (q,X.met):=by rw[HPM.out,HMV.out]
       rw[hmx]at P Fw;obtain⟨s1,s2'⟩:=HS.out;have sz9:=E.size;have htt:=(Kf.bK (bq:=g) (bm:=g+1) (s:=Q) E).trans ht3;have kp4:=htt.block bt l4 (by omega) (by omega) s1;have kp5:=htt.block bf l5 (by omega) (by omega) s2';refine⟨B.out.keeps htt<|by omega,⟨kp4,kp5⟩,⟨so3,J.to P Fw ht3,λe=>?_,λe=>?_⟩,B.out.keep htt k3 (by omega) (by omega) (λ_ cur fr e=>by cases e),⟨_,kp4.trans k4⟩,⟨_,kp5.trans k5⟩⟩;obtain e|e:=htt.own _ e
       ·exact s1 e
       omega;obtain e|e:=htt.own _ e
       ·exact s2' e
       omega
      ·have hp1':(p==1)=κ:=by simp[hp1]
       rw[if_neg hp1,<-HPM.out]at hmv;have HMV:=Y hmv;clear hmv
       gi_wp2_with fail
       have J:=KV.out.low Dv;rw[<-HMV.out]at J;refine⟨B.out.keeps (Kf.bK (bq:=g) (bm:=g+1) (s:=Q) E)<|by omega,tR.bK E l4 l5,⟨Q,J,HS.out.1,HS.out.2⟩,(E.block _ l3).trans k3,⟨_,(E.block _ l4).trans k4⟩,⟨_,(E.block _ l5).trans k5⟩⟩
     case done2=>
      rintro D2 xs O hD2 hxs ⟨⟨Q,G,_,_⟩,_,_,_⟩ hK;have hvs:(xs.map λx=>us.getD x.val (0,0))=us:=by
       have:=congrArg (List.map λj=>us.getD j (0,0)) hxs;rw[Y']at this;refine Eq.trans this ?_;refine ZX λj=>?_;by_cases hj:j<us.length
       rw[List.getElem?_map,List.getElem?_range hj];simp[ZQ,υ hj];rw[Zr (by simp;omega),Zr<|by omega]
      rw[hvs]at G;have z:=Y<|G.mark hK (λe=>by have:=hDl.out D2 e;omega) (by have:=G.lo;omega);have XG:=HO.out.short r hr (k+1) hkl;rw[H]at XG;dsimp only at XG;simp only[S.sel]at H XG;clear G hK hvs hxs
      gi_wp2_with (refine⟨trivial,?_⟩;gi_at_call 260;refine(Z1.2<|BV O g g g Q _ z.out.qa<|by omega).mono ?_;rintro e W8 ⟨rfl,so8,hq8,V9⟩)
      have hI8:=z.out.to hq8 (z.out.mt.of_block (V9.block _ z.out.mt.lt (by omega) (by omega) (λe=>by obtain⟨_,_,cur,hc⟩:=z.out.qa.2.lt e;obtain⟨es,clk,hb,_⟩:=z.out.mt;rw[hc]at hb;cases hb))) V9.ye
      refine⟨hkl,?_⟩;rw[H];exact⟨D2::wP,so8,_,_,_,_,_,_,_,_,_,_,_,_,_,_,_,_,_,_,_,_,_,_,_,_,_,_,_,_,_,_,_,_,_,_,_,_,_,_,_,_,_,_,_,_,_,_,_,_,_,_,_,rfl,hI8⟩
     case stop2=>rintro D2 c2 u O _ _ hx _;exact hx.elim
  case stop=>rintro D c u O _ _ hx _;exact hx.elim
end
end Kn
namespace Kn
open Go Go.RowKit Md
section
def DD(w b h N a)(i:qw w b h)(d:lZ h N a)(hd:h.done=[]):
 ZU prog 179 #[.pointer b] w λe w'=>(∃m,e=.returned (.map<|U m)/\w.heap.size<=m/\bk w' m (jE h N<|a+1))/\ψ w w w':=by
 have c:=Y i
 go_enter (fU func179 rfl),ntmps179
 go_wp2_with fail
 refine(BW _ b h N a c.out d hd).mono ?_;rintro e w' ⟨⟨m,rfl,g,f⟩,h3⟩
 go_wp2_with fail
 go_ret;exact⟨⟨m,rfl,g,f⟩,h3⟩
def dQ(w:ε)(B b:Nat)(c:Z8)(cs:List HC)(roots:List HV):Prop:=∃r aw mw ad md l,B<=b/\w.heap[b]?=U (Ψ #[c,r,.slice aw 0 mw,.slice ad 0 md] 159 (0,0))/\mw<=9223372036854775807/\md<=9223372036854775807/\
 OC w B c l/\df w B l cs/\OV w B r roots/\∀(i:Nat) p,l[i]?=U p->∀g,p.2.ownBlock=U g->r.ownBlock≠U g
def mp.named{w B b cs roots}(h:mp w B b cs roots):∃c,dQ w B b c cs roots:=by trivial
def dQ.own{w B b c cs roots}(h:dQ w B b c cs roots):mp w B b cs roots:=by obtain⟨r,aw,a,ad,d,l,h⟩:=h;exact⟨c,r,aw,a,ad,d,l,h⟩
def dQ.below{w w' B b c cs roots}(h:dQ w B b c cs roots)(a:ψ w w w'):dQ w' B b c cs roots:=by obtain⟨r,aw,j,ad,e,l,i,hb,g,f,h3,h4,h5,d⟩:=h;exact⟨r,aw,j,ad,e,l,i,(a.block b (Ω.1 hb).1).trans hb,g,f,h3.below a,h4.below a,h5.below a,d⟩
section
variable{w:ε}{B b:Nat}{c:Z8}{cs:List HC}{roots:List HV}
def dQ.cells(h:dQ w B b c cs roots):B<=b/\b<w/\w b=U c/\(∃aw d,w (b,2)=U (.slice aw 0 d))/\(∀i,w.frozen? ⟨b,i,M⟩=κ)/\∃a m,c=.slice a cs.length m/\cs.length<=m:=by obtain⟨r,aw,d,ad,k,l,g,hb,o,n,h3,h4,h5,j⟩:=h;obtain⟨a,m,e,f,_⟩:=aF h3;exact⟨g,(Ω.1 hb).1,by simp[Ξ,hb],⟨aw,d,by simp[Ξ,hb]⟩,λi=>by simp[φ,hb],a,m,by rw[e,h4.1],by rw[<-h4.1];exact f⟩
theorem Kw(x:Int×Z8):∀(l:List (Int×Z8)) (k:Nat),k<l.length->(l.set k x).flatMap dW=((l.flatMap dW).set (k*2)<|Δ Γ x.1).set (k*2+1) x.2
 |[],k,h=>by simp at h
 |a::l,0,h=>by simp[dW]
 |a::l,k+1,h=>by have:=Kw x l k (by grind);rw[Zp,List.flatMap_cons,this,show(k+1)*2=k*2+1+1 by omega];simp[dW]
def OC.anz{w}{B g n m k:Nat}{l x}(h:OC w B (.slice g n m) l)(b:k<l.length):
 OC ((w.setCell (g,k*2)<|Δ Γ x.1).setCell (g,k*2+1) x.2) B (.slice g n m) (l.set k x):=by
 obtain⟨e,⟨h0,_⟩|⟨q,f,a,d,i,o,p,c,hs,j⟩⟩:=h;cases h0
 cases d
 refine⟨by rw[Kw x l k b];simpa using e,.inr ⟨g,m,(a.setIfInBounds (k*2)<|Δ Γ x.1).setIfInBounds (k*2+1) x.2,by simp,i,?_,by simpa using p,c,by simpa using hs,?_⟩⟩;simp[Zc,Array.getElem?_modify,o];rw[Kw x l k b,<-j];simp only[Array.toList_setIfInBounds,List.length_set,List.take_set]
def eX{w:ε}{g i j:Nat}{u v k}(h:k≠g):((w.setCell (g,i) u).setCell (g,j) v).heap[k]?=w.heap[k]?:=by rw[ZT _ _ _ _ h,ZT _ _ _ _ h]
def uZ{w}{B g i j:Nat}{u v}(h:B<=g):ψ B w ((w.setCell (g,i) u).setCell (g,j) v):=((ο B w).setCell h u).setCell h v
def dQ.at_(h:dQ w B b c cs roots){i:Nat}{k vs}(hi:cs[i]?=U (k,vs)):∃f m x,c=.slice (f:Nat) cs.length m/\cs.length<=m/\B<=f/\w ((f:Nat),i*2)=U (Δ Γ k)/\w ((f:Nat),i*2+1)=U x/\(∀j,w.frozen? ⟨f,j,M⟩=κ)/\eI w x vs:=by
 obtain⟨r,aw,G,ad,E,l,J,hb,F,D,h3,h4,h5,H⟩:=h;have q:i<l.length:=by rw[h4.1];exact(χ.1 hi).1
 obtain⟨⟨y,x⟩,e⟩:∃p,l[i]?=U p:=⟨_,υ q⟩;obtain⟨rfl,n⟩:=h4.2.1 i y x k vs e hi;obtain⟨a,m,s,A,_,_⟩:=aF h3;obtain⟨g,u,d,o,_⟩:=h3.form (by omega);rw[s]at d;injection d with e1 e2 e3
 subst e1;subst s;obtain⟨v,t,C⟩:=OC.at_ h3 e;refine⟨g,m,x,by rw[h4.1],by rw[<-h4.1];exact A,o,v,t,λj=>?_,n.reads⟩;obtain⟨_,_,z,hc,_⟩:=OC.block h3;simp[φ,hc]
def dQ.BB(h:dQ w B b c cs roots){i j:Nat}{k vs}(hi:cs[i]?=U (k,vs))(X:j<vs.length)(v):∃C m g m2,c=.slice (C:Nat) cs.length m/\w ((C:Nat),i*2+1)=U (.slice (g:Nat) vs.length m2)/\vs.length<=m2/\
 (∃u,w ((g:Nat),j*2)=U u)/\(∃u,w ((g:Nat),j*2+1)=U u)/\(∀n,w.frozen? ⟨g,n,M⟩=κ)/\
 dQ ((w.setCell ((g:Nat),j*2)<|Δ Γ v.1).setCell ((g:Nat),j*2+1)<|Δ Γ v.2) B b c (cs.set i (k,vs.set j v)) roots/\ψ B w ((w.setCell ((g:Nat),j*2)<|Δ Γ v.1).setCell ((g:Nat),j*2+1)<|Δ Γ v.2):=by
 obtain⟨C,m,x,ec,_,_,_,O,_,_⟩:=h.at_ hi;obtain⟨r,aw,mw,ad,md,l,hB,hb,h1,h2,h3,h4,h5,W⟩:=h;have A:=(χ.1 hi).1;have N:i<l.length:=by rw[h4.1];exact A
 obtain⟨⟨k',T⟩,e⟩:∃p,l[i]?=U p:=⟨_,υ N⟩;obtain⟨rfl,d⟩:=h4.2.1 i k' T k vs e hi;subst ec;have hx:T=x:=by have hn:=(Dz h3).1;obtain⟨_,y,_⟩:=OC.at_ h3 e;rw[O]at y;exact(Z0 y).symm
 subst hx;obtain⟨g,m2,rfl,J,hgl⟩:=d.form (by omega);obtain⟨_,m2',e2,L,_,_⟩:=aF d;cases e2
 obtain⟨p,q,ej⟩:=ep X;obtain⟨f1,f2,f3,_,_⟩:=OV.at_ d ej;obtain⟨P,H⟩:∃f,w.heap[g]?=U (.cells f 50 (0,0)):=by
  obtain⟨E,_⟩|⟨g',cap,f,E,_,a,_⟩:=d.2
  cases E
  cases E
  exact⟨f,a⟩
 have s:∀{S:Nat} {cs0:Array Z8} {t:Zv} {fr:Nat×Nat},w.heap[S]?=U (.cells cs0 t fr) ->t≠50->S≠g:=λQ ht e=>by
  subst e;rw[H]at Q;cases Q
  exact ht rfl
 refine⟨C,m,g,m2,rfl,O,L,⟨_,f1⟩,⟨_,f2⟩,f3,⟨r,aw,mw,ad,md,l,hB,(eX<|s hb<|by decide).trans hb,h1,h2,?_,⟨by simpa using h4.1,λD k1 x1 k2 G e1 e2=>?_,h4.2.2⟩,?_,W⟩,uZ J⟩;obtain⟨_,_,f,hc,_⟩:=OC.block h3;exact aS h3 λg0 a=>eX (by cases a;exact s hc<|by decide);by_cases o:D=i
 ·subst o;rw[e]at e1;rw[ι A]at e2;cases e1
  cases e2
  exact⟨rfl,OV.set (x:=v) d X⟩
 rw[Z9 (ZY o)]at e2;obtain⟨q1,q2⟩:=h4.2.1 D k1 x1 k2 G e1 e2;refine⟨q1,aS q2 λg0 a=>eX λK=>?_⟩;subst K;obtain F|z:=Nat.lt_or_gt_of_ne o
 exact h4.2.2 D i _ _ F e1 e _ a rfl;exact h4.2.2 i D _ _ z e e1 _ rfl a;refine aS h5 λg0 a=>eX λK=>?_;subst K;exact W i _ e _ rfl a
def dQ.free(h:dQ w B b c cs roots){i}(hi:i<cs.length):∃d m,c=.slice (d:Nat) cs.length m/\cs.length<=m/\(∃u,w ((d:Nat),i*2)=U u)/\(∃u,w ((d:Nat),i*2+1)=U u)/\(∀n,w.frozen? ⟨d,n,M⟩=κ)/\
 dQ ((w.setCell ((d:Nat),i*2)<|Δ Γ 3).setCell ((d:Nat),i*2+1)<|θ M 0 0) B b c (cs.set i (3,[])) roots/\ψ B w ((w.setCell ((d:Nat),i*2)<|Δ Γ 3).setCell ((d:Nat),i*2+1)<|θ M 0 0):=by
 obtain⟨k,vs,W⟩:=cQ hi;obtain⟨d,m,x,P,hm,z,T,K,L,_⟩:=h.at_ W;obtain⟨r,aw,mw,ad,S,l,hB,hb,X,N,h3,h4,h5,h6⟩:=h;have g:i<l.length:=by rw[h4.1];exact hi
 subst P;obtain⟨_,_,cur,hc,_⟩:=OC.block h3;have v:∀{F:Nat} {cs0:Array Z8} {t:Zv} {fr:Nat×Nat},w.heap[F]?=U (.cells cs0 t fr) ->t≠76->F≠d:=λE Q e=>by
  subst e;rw[hc]at E;cases E
  exact Q rfl
 refine⟨d,m,rfl,hm,⟨_,T⟩,⟨_,K⟩,L,⟨r,aw,mw,ad,S,l.set i (3,θ M 0 0),hB,(eX<|v hb<|by decide).trans hb,X,N,?_,⟨by simpa using h4.1,λG J x1 k2 y e1 e2=>?_,λq D C O s e1 e2 g0 a j=>?_⟩,?_,λq C e1 g0 a hr=>?_⟩,uZ z⟩;simpa using (OC.anz (x:=(3,θ M 0 0)) h3 g);by_cases p:G=i
 ·subst p;rw[ι g]at e1;rw[ι hi]at e2;cases e1
  cases e2
  exact⟨rfl,OV.nil _ _⟩
 rw[Z9 (ZY p)]at e1 e2;obtain⟨q1,H⟩:=h4.2.1 G J x1 k2 y e1 e2;refine⟨q1,aS H λg0 a=>eX λA=>?_⟩;subst A;exact cF H hc (by decide) a;by_cases f:q=i
 ·subst f;rw[ι g]at e1;cases e1
  cases a
 by_cases o:D=i
 ·subst o;rw[ι g]at e2;cases e2
  cases j
 rw[Z9 (ZY f)]at e1;rw[Z9 (ZY o)]at e2;exact h4.2.2 q D C O s e1 e2 g0 a j;refine aS h5 λg0 a=>eX λA=>?_;subst A;exact cF h5 hc (by decide) a;by_cases f:q=i
 ·subst f;rw[ι g]at e1;cases e1
  cases a
 rw[Z9 (ZY f)]at e1;exact h6 q C e1 g0 a hr
def dQ.Jl(h:dQ w B b c cs roots):dQ (w.setCell (b,2)<|θ M 0 0) B b c cs roots/\ψ B w (w.setCell (b,2)<|θ M 0 0):=by
 obtain⟨r,aw,y,ad,o,l,j,hb,x,n,h3,h4,h5,s⟩:=h;refine⟨⟨r,M,0,ad,o,l,j,?_,by decide,n,?_,⟨h4.1,λu m v t i e1 e2=>?_,h4.2.2⟩,?_,s⟩,(ο B w).setCell j _⟩;rw[aB hb];rfl;refine aS h3 λg a=>aa λe=>?_;subst e;obtain⟨f,_⟩|⟨z,p,q,f,_,d,_⟩:=h3.2
 rw[f]at a;cases a
 rw[f]at a;cases a
 rw[hb]at d;cases d
 obtain⟨q1,k⟩:=h4.2.1 u m v t i e1 e2;exact⟨q1,aS k λg a=>aa λe=>by subst e;exact cF k hb (by decide) a⟩;exact aS h5 λg a=>aa λe=>by subst e;exact cF h5 hb (by decide) a
end
end
section
def qz{w ops rest o a Q}(c:o.guard=M)(m x)(f:o.op=.call {callee:=.builtin .delete,args:=#[m,x],argTypes:=#[205,3]})(b l n)(d:a.eval m=.map (U b))(p:a.eval x=Δ Γ n)(e:bk w b l)(h:∀w',bk w' b (l.erase n) ->w.grownBy w' (U b) ->w'.heap.size=w->wpList prog ops Q rest (a.put o.dst<|.tuple #[]) w'):wpList prog ops Q (o::rest) a w:=by refine wpList_plain c λK j=>?_;obtain⟨w',i,k,g,h3⟩:=wE o.type n e;unfold Oper.wp execOp;simp only[f,resolve,invoke,builtin,Sem.run_bind,Sem.run_pure,Result.andThen_ok,List.map_toArray,Zb,Za,d,p,i];exact j _ _<|h w' k g h3
def tS(a:List Int)(c:HC):HC:=if zm c a then(c.1,c.2.map λ_=>(2,0))else c
def DE(a:List Int)(cs:List HC)(k:Nat):List HC:=(cs.take k).map (tS a)++cs.drop k
def wI(a cs k):(DE a cs k).length=cs.length:=by unfold DE;simp;omega
def Jm{a cs k}(h:k<cs.length):(DE a cs k)[k]?=cs[k]?:=by
 unfold DE
 grind
def zZ{a cs k c}(h:cs[k]?=U c):DE a cs (k+1)=(DE a cs k).set k (tS a c):=by
 have b:=(χ.1 h).1;have hd:cs.drop k=c::cs.drop (k+1):=by
  rw[Zw b]
  congr 1
  exact(χ.1 h).2
 unfold DE;rw[bW h,hd,ζ,List.set_append_right _ _ (by simp;omega)];have:k-((cs.take k).map<|tS a).length=0:=by simp;omega
 rw[this];simp
def Aa{a cs k c}(h:cs[k]?=U c)(hc:tS a c=c):DE a cs (k+1)=DE a cs k:=by rw[zZ h];have b:=(χ.1 h).1;have:=Jm (a:=a) b;exact ZX λi=>by grind
def Oy(a cs):DE a cs cs.length=cs.map (tS a):=by unfold DE;simp
def freed(cs:List HC)(D left:List Int):List HC:=cs.zipIdx.map λx=>if D.contains (x.2:Int)&&!left.contains (x.2:Int)then(3,[])else x.1
def PB(cs D a):(freed cs D a).length=cs.length:=by simp[freed]
def lC(cs D a)(i:Nat):(freed cs D a)[i]?=(cs[i]?).map λc=>if D.contains (i:Int)&&!a.contains (i:Int)then(3,[])else c:=by
 unfold freed
 grind
def Ab(cs D):freed cs D D=cs:=ZX λi=>by rw[lC];simp
def BX{cs D A B}{n:Nat}(c:n<cs.length)(d:(n:Int)∈D)(a:(A++(n:Int)::B).Nodup):freed cs D (A++B)=(freed cs D (A++(n:Int)::B)).set n (3,[]):=ZX λi=>by
 have b:(n:Int)∉A++B:=by
  intro h;rw[List.nodup_append]at a;obtain h|h:=Ze.1 h
  exact a.2.2 _ h _ ZG rfl;exact(Zz.1 a.2.1).1 h
 by_cases hi:i=n
 subst hi;rw[ι (by rw[PB];exact c),lC,υ c];simp only[Option.map_some,(by simpa using d:D.contains (i:Int)=Zn),(by simpa using b:(A++B).contains (i:Int)=κ)];rfl;rw[Z9 (ZY hi),lC,lC]
 grind
def oA(w:ε)(r m:Nat):Nat:=
 match w.heap[r]?,w.heap[m]? with
 |some (.mapIter _ _ seen _),U (.map es _)=>(leftOf es seen).size
 |_,_=>0
theorem eD.oA{w:ε}{r b:Nat}{l a:List Int}(h:eD w r b l a):oA w r b=a.length:=by obtain⟨j,f,c,seen,c0,g,i,h3,h4,h5,d,e⟩:=h;unfold Kn.oA;rw[h3,g];have:=congrArg List.length e;simpa using this
section
variable{w w':ε}{B b:Nat}{c:Z8}{cs:List HC}{roots:List HV}
def dQ.grown(h:dQ w B b c cs roots){row}(A:w.grownBy w' row)(G:∀r,row=U r->w.heap.size<=r\/∃o,w.heap[r]?=U o/\o.isCells=κ):dQ w' B b c cs roots:=by
 have f:∀{k:Nat} {x:Array Z8} {t:Zv} {fr:Nat×Nat},w.heap[k]?=U (.cells x t fr) ->w'.heap[k]?=w.heap[k]?:=λq=>A.block _ (Ω.1 q).1 λe=>by
  obtain u|⟨o,j,hc⟩:=G _ e.symm
  grind
  rw[q]at j;cases j
  cases hc
 have a:∀{e:Zv} {size n:Nat} {v:Z8} {xs:List Z8},w.ownsRow B e size v n xs->w'.ownsRow B e size v n xs:=λj=>aS j λg d=>by
  obtain⟨m,_⟩|⟨K,D,F,m,_,p,_⟩:=j.2
  rw[m]at d;cases d
  rw[m]at d;cases d
  exact f p
 obtain⟨r,aw,E,ad,C,l,J,hb,u,z,h3,h4,h5,H⟩:=h;exact⟨r,aw,E,ad,C,l,J,(f hb).trans hb,u,z,a h3,⟨h4.1,λi k x y s e1 e2=>⟨(h4.2.1 i k x y s e1 e2).1,a (h4.2.1 i k x y s e1 e2).2⟩,h4.2.2⟩,a h5,H⟩
def bk.Ac{m l}(h:bk w m l):∃o,w.heap[m]?=U o/\o.isCells=κ:=by obtain⟨b,a,hb,_⟩:=h;exact⟨_,hb,rfl⟩
def bk.BY{m l}(h:bk w m l){g i:Nat}{u}(hc:w (g,i)=U u):m≠g:=λe=>by obtain⟨b,a,hb,_⟩:=h;subst e;simp[Ξ,hb]at hc
def bk.two{m l}(h:bk w m l){g i j n:Nat}{u v x}(hc:w (g,n)=U x):bk ((w.setCell (g,i) u).setCell (g,j) v) m l:=h.of_block<|eX<|h.BY hc
def eD.two{r m l a}(h:eD w r m l a){g i j n:Nat}{u v x}(hc:w (g,n)=U x):eD ((w.setCell (g,i) u).setCell (g,j) v) r m l a:=h.of_block (eX (h.keys.BY hc)) (eX λe=>by obtain⟨k,c,b,seen,c0,f,d,h3,_⟩:=h;subst e;simp[Ξ,h3]at hc)
end
structure lD(n:Nat)(A left L:List Int):Prop where
 nodup:L.Nodup
 mem:∀x,x∈L↔((0<=x/\x<(n:Int))/\(x∈A->x∈left))
def lD.sM(n A):lD n A A ((ZW n).map λi:Nat=>(i:Int)):=by
 refine⟨?_,λx=>⟨λh=>?_,λh=>?_⟩⟩;rw[List.Nodup,Zj];exact List.nodup_range.imp λh e=>h (by omega)
 grind
 obtain⟨i,rfl⟩:=η h.1.1;exact ξ.2 ⟨i,Zx.2<|by omega,rfl⟩
def lD.next{n A X a L x}(h:lD n A (X++x::a) L)(b:(X++x::a).Nodup)(c:x∈A):lD n A (X++a) (L.erase x):=by
 refine⟨h.nodup.erase x,λy=>?_⟩;rw[List.Nodup.mem_erase_iff h.nodup,h.mem]
 grind
def wJ(cs:List HC)(a2:List Int):List HC:=cs.zipIdx.map λx=>if a2.contains (x.2:Int)then x.1 else(3,[])
def VP{cs A L}(h:lD cs.length A [] L):freed cs L []=wJ cs A:=ZX λi=>by
 rw[lC];unfold wJ;obtain hi|hi:=Nat.lt_or_ge i cs.length
 rw[υ hi];have a:=h.mem (i:Int)
 grind
 grind
end
def pU{P w ops rest o a Q}(c:o.guard=M)(it)(e:o.op=.next it κ)(v)(hi:a.eval it=v)(r w')(b:(Instr.next v κ o.type).run P w=.ok r w')(h:wpList P ops Q rest (a.put o.dst r) w'):wpList P ops Q (o::rest) a w:=by refine wpList_plain c λK d=>?_;unfold Oper.wp;simp[execOp,e,hi,b];exact d _ _ h
def qv(cs:List HC)(roots:List HV)(N R:Nat):List HC:=cs.map<|tS<|jE ⟨cs,roots,[],[]⟩ N<|R+1
def oX(cs:List HC)(roots:List HV)(N R:Nat):List HC:=wJ (qv cs roots N R)<|jE ⟨qv cs roots N R,roots,[],[]⟩ N<|R+1
structure wK(cs:List HC)(roots:List HV)(N R:Nat):Prop where
 first:lZ ⟨cs,roots,[],[]⟩ N R
 second:lZ ⟨qv cs roots N R,roots,[],[]⟩ N R
 nodup:(jE ⟨qv cs roots N R,roots,[],[]⟩ N (R+1)).Nodup
 ye:∀c∈cs,c.1=1->c.2.length=1
 wW:cs.length<=1000
def BZ(w B b cs roots N d)(h:mp w B b cs roots)(hB:B<=w)(ho:wK cs roots N d):
 ZU prog 125 #[.pointer b] w λe w'=>e=.returned (.tuple #[])/\mp w' B b (oX cs roots N d) roots/\ψ B w w':=by
 obtain⟨c,hc⟩:=h.named;have H:=Y hc;have HO:=Y ho;have hcl:=ho.wW;have hmm:=@run_makeMap prog;clear h hc ho
 go_enter (fU func125 rfl),ntmps125
 go_wp2_with fail
 refine(DD _ b ⟨cs,roots,[],[]⟩ N d H.out.own.reads HO.out.first rfl).mono ?_;rintro e w1 ⟨⟨m1,rfl,hm1,hk1⟩,hb1⟩;have hP1:=H.out.below hb1;obtain⟨hBb,hbl,q0,⟨aw,mw,q2⟩,qf,ac,mc,hcv,hmc⟩:=hP1.cells;have HP1:=Y hP1;have hw1:=hb1.size;clear hP1
 go_wp2_with fail
 go_loopw [3,21] (λv i wr=>v=()/\i=Δ Γ 0/\wr=w1) (λ_ _ _=>0)
 case atStart=>exact⟨rfl,rfl,rfl⟩
 case round=>
  obtain⟨rfl,rfl,rfl⟩:=hrel;subst hcv;obtain⟨hP2,hb2⟩:=HP1.out.Jl;have q2f:=qf 2;have hk2:=hk1.of_block (w':=wr.setCell (b,2) ())<|aa<|hk1.BY q0;have hq0:(wr.setCell (b,2) ()) b=U (.slice ac cs.length mc):=by obtain⟨_,_,q0',_⟩:=hP2.cells;exact q0'
  go_wp2_with fail
  have hB2:ψ B w (wr.setCell (b,2) ()):=(hb1.mono hB).trans hb2;clear q2 q2f q0 hb2;generalize wr.setCell (b,2) ()=w2 at hP2 hk2 hq0 hB2⊢;obtain⟨a1,ha1⟩:∃a1,a1=jE ⟨cs,roots,[],[]⟩ N (d+1):=⟨_,rfl⟩;rw[<-ha1]at hk2;have HA1:=Y ha1;have HP2:=Y<|Z hP2<|Z hk2 hB2;clear hP2 hk1 hk2 hB2 hq0 ha1 qf HP1 H hb1
  go_loopw [57] (λi wr=>∃k:Nat,k<=cs.length/\i=Δ Γ k/\Hid (dQ wr B b (.slice ac cs.length mc) (DE a1 cs k) roots/\bk wr m1 a1/\ψ B w wr)) (λi _=>cs.length-(intOf i).toNat)
  case atStart=>exact⟨0,Nat.zero_le _,rfl,by simpa[DE]using HP2⟩
  case round=>
   clear HP2;obtain⟨k,hk,rfl,HP⟩:=hrel;have hBw:=HP.out.2.2;have J:B<=wr:=Nat.le_trans hB hBw.size;by_cases hlt:k<cs.length
   ·obtain⟨kd,vs,ec⟩:=cQ hlt;have hat:=Jm (a:=a1) hlt;rw[ec]at hat
    obtain⟨gc,m,x,e,_,_,d1,d2,_,hxv⟩:=HP.out.1.at_ hat
    obtain⟨ax,mx,rfl,_,_,_⟩:=id hxv;rw[wI]at e;cases e
    have hmem:=μ ec;have hkind:=HO.out.first.kinds _ hmem;have XH:=HO.out.ye _ hmem;dsimp only at hkind XH;have HX:=Y hxv;have HE:=Y<|Z ec hat
    have hb0:=af wr<|Ψ #[kd,.slice ax vs.length mx] 76;clear hat hxv ec hmem;obtain rfl|rfl:=hkind
    ·have hmt:=λw=>Oc w (.slice ax vs.length mx) "caracole/heap.loses" 318 (.inr<|.inr<|.inr ⟨rfl,rfl⟩)
     go_wp2_with fail
     refine(sI _ _ _ _).mono ?_;rintro e w3 ⟨rfl,hb3⟩
     go_wp2_with fail
     refine(Og _ _ _ _ _).mono ?_;rintro e w4 ⟨rfl,hb4⟩
     go_wp2_with fail
     have l:ψ wr wr w4:=hb0.trans<|(hb3.trans<|hb4.mono hb3.size).mono<|by simp
     have F:=Aa (a:=a1) HE.out.1 (by unfold tS zm;simp);exact⟨⟨k+1,by omega,by go_num,Y ⟨by rw[F];exact HP.out.1.below l,HP.out.2.1.below l,hBw.trans<|l.mono J⟩⟩,by simp[intOf];omega⟩
    ·have hmt:=λw=>Od w (.slice ax vs.length mx) "caracole/heap.loses" 324 (.inr<|.inr<|.inr ⟨rfl,rfl⟩);obtain⟨v,rfl⟩:=List.length_eq_one_iff.1<|XH rfl;clear XH
     go_wp2_with fail
     refine(sJ _ _ _ _).mono ?_;rintro e w3 ⟨rfl,hb3⟩;have hz3:wr.heap.size<w3:=by have:=hb3.size;rw[ZS]at this;omega
     have O:=hb0.trans<|hb3.mono<|by simp
     go_wp2_with fail
     refine(Oh _ _ m1 a1 v [] (HP.out.2.1.below O)<|HX.out.below O).mono ?_;rintro e w4 ⟨rfl,hb4⟩;have l:ψ wr wr w4:=O.trans<|hb4.mono O.size;have n4:w4 (wr.heap.size,1)=U (.slice ax 1 mx):=(hb4.cell (p:=⟨wr.heap.size,1,M⟩) hz3).trans<|(hb3.cell (p:=⟨wr.heap.size,1,M⟩)<|by simp).trans<|by go_simp
     clear hb0 hb3 O hb4;by_cases hh:has a1 v=Zn
     ·have F:=Aa (a:=a1) HE.out.1 (by unfold tS zm;simp[hh]);rw[hh]
      go_wp2_with fail
      exact⟨⟨k+1,by omega,by go_num,Y ⟨by rw[F];exact HP.out.1.below l,HP.out.2.1.below l,hBw.trans<|l.mono J⟩⟩,by simp[intOf];omega⟩
     ·have hhf:has a1 v=κ:=by simpa using hh
      have F:=zZ (a:=a1) HE.out.1;have hbc:tS a1 (1,[v])=(1,[(2,0)]):=by unfold tS zm;simp[hhf]
      rw[hbc]at F;have hP4:=HP.out.1.below l;obtain⟨gc',m',g,m2,e1,s1,_,⟨u1,s2⟩,⟨u2,s3⟩,s4,OF,Oz⟩:=hP4.BB (j:=0) HE.out.2 (by simp) (2,0);rw[wI]at e1;cases e1
      simp only[Nat.zero_mul,Nat.zero_add]at s2 s3 OF Oz;have s4a:=s4 0;have s4b:=s4 1;obtain⟨_,_,r0,_⟩:=hP4.cells;have hk4:=HP.out.2.1.below l;have hk5:=hk4.two (i:=0) (j:=1) (u:=Δ Γ 2) (v:=Δ Γ 0) s2;have HP5:=Y<|Z OF<|Z hk5 Oz;have HS:=Y F;have HB4:=Y l;have hlt':(k:Int)<(cs.length:Int):=by omega
      have hk0:(0:Int)<=(k:Int):=by omega
      rw[hhf];clear hP4 OF Oz hk4 hk5 F hbc s4 hh l
      go_wp2_with fail
      clear n4
      go_loopw [70] (λi wr'=>(i=Δ Γ 0/\wr'=w4)\/(i=Δ Γ 1/\wr'=(w4.setCell g<|Δ Γ 2).setCell (g,1) (Δ Γ 0))) (λi _=>1-(intOf i).toNat)
      case atStart=>exact .inl ⟨rfl,rfl⟩
      case round=>
       obtain⟨rfl,rfl⟩|⟨rfl,rfl⟩:=hrel
       ·go_wp2_with fail
        exact⟨.inr ⟨rfl,trivial⟩,by simp[intOf]⟩
       ·go_wp2_with fail
        have anB:ψ B w ((w4.setCell ⟨g,0,M⟩<|Δ Γ 2).setCell ⟨g,1,M⟩<|Δ Γ 0):=hBw.trans<|(HB4.out.mono J).trans HP5.out.2.2;exact⟨⟨k+1,by omega,by go_num,Y ⟨by rw[HS.out];exact HP5.out.1,HP5.out.2.1,anB⟩⟩,by simp[intOf];omega⟩
   ·have hke:k=cs.length:=by omega
    subst hke;have q:=HP.out.1;have F:DE a1 cs cs.length=qv cs roots N d:=by rw[Oy,HA1.out];rfl
    rw[F]at q;obtain⟨G,hcs1⟩:∃x,x=qv cs roots N d:=⟨_,rfl⟩;have hl1:G.length=cs.length:=by rw[hcs1];simp[qv]
    rw[<-hcs1]at q;have HC1:=Y hcs1;obtain⟨_,_,q0,_⟩:=q.cells;have HP9:=Y<|Z q hBw;have WA:=Y hl1;clear HP q hcs1 hl1 F
    go_wp2_with fail
    have hkd:bk (wr.alloc<|.map #[] 0) wr.heap.size (((ZW 0).map λi:Nat=>(i:Int))):=bk.made wr;have hPa:=HP9.out.1.below<|af wr<|.map #[] 0;have hBa:=hBw.trans<|((af wr<|.map #[] 0)).mono J;have HKD:=Y<|Z hkd<|Z hPa hBa;obtain⟨m3,Fw⟩:∃m3,m3=wr.heap.size:=⟨_,rfl⟩;rw[<-Fw]at HKD⊢;have aft:B<=m3:=by omega
    clear hkd hPa hBa q0 Fw
    go_loopw [94] (λi wr=>∃k:Nat,k<=cs.length/\i=Δ Γ k/\Hid (bk wr m3 ((ZW k).map λi:Nat=>(i:Int))/\dQ wr B b (.slice ac cs.length mc) G roots/\ψ B w wr)) (λi _=>cs.length-(intOf i).toNat)
    case atStart=>exact⟨0,Nat.zero_le _,rfl,HKD⟩
    case round=>
     clear HKD HP9 hBw J;obtain⟨k,hk',rfl,HK⟩:=hrel;by_cases hlt2:k<cs.length
     ·obtain⟨w5,hup,hk5,hg5,hs5⟩:=ki (k:Int) HK.out.1;have hadd:ml ((ZW k).map λi:Nat=>(i:Int)) (k:Int)=(ZW<|k+1).map λi:Nat=>(i:Int):=by unfold ml;rw[if_neg (by simp;omega),Zf,ζ];rfl
      rw[hadd]at hk5;have OF:=HK.out.2.1.grown hg5 λr e=>.inr (by cases e;exact HK.out.1.Ac);have Oz:=HK.out.2.2.grown hg5 (Nat.le_trans hB HK.out.2.2.size) (λr e=>by
       cases e
       exact aft)
      have HK5:=Y<|Z hk5<|Z OF Oz;clear hk5 OF Oz hg5 hadd
      go_wp2_with fail
      exact⟨⟨k+1,by omega,by go_num,HK5⟩,by simp[intOf];omega⟩
     ·have hke:k=cs.length:=by omega
      subst hke;have J:=Nat.le_trans hB HK.out.2.2.size;have hse:=HO.out.second;have hnd:=HO.out.nodup;rw[<-HC1.out]at hse hnd;have HSE:=Y hse;have HND:=Y hnd;clear hse hnd
      go_wp2_with fail
      refine(DD _ b ⟨G,roots,[],[]⟩ N d HK.out.2.1.own.reads HSE.out rfl).mono ?_;rintro e w6 ⟨⟨m4,rfl,hm4,hk4⟩,hb6⟩;obtain⟨a2,ha2⟩:∃x,x=jE ⟨G,roots,[],[]⟩ N (d+1):=⟨_,rfl⟩;rw[<-ha2]at hk4 HND;obtain⟨w7,hrg,s,hg7,hs7⟩:=qg hk4;have hk6:=HK.out.1.below hb6;have JH:=hk6.of_block<|hg7.block m3 hk6.lt<|by simp
      have hP7:=(HK.out.2.1.below hb6).grown hg7 (λr e=>by cases e);have Wm:=(HK.out.2.2.trans<|hb6.mono J).grown hg7 (Nat.le_trans J hb6.size) (λr e=>by cases e);have afu:m3≠m4:=by have:=HK.out.1.lt;omega
      have WB:m3≠w6.heap.size:=by have:=hk6.lt;omega
      have HA2:=Y ha2;have KV:=Y<|Z s<|Z JH<|Z hP7 Wm;obtain⟨r4,hr4⟩:∃r,r=w6.heap.size:=⟨_,rfl⟩;have anD:B<=r4:=by rw[hr4];exact Nat.le_trans J hb6.size
      rw[<-hr4]at hrg KV WB;clear hr4;clear hk4 s hg7 hk6 JH hP7 Wm ha2 hb6 HK
      go_wp2_with fail
      clear hrg;have WC:=lD.sM G.length a2;rw[WA.out]at WC
      go_loopw [11] (λ_ wr=>∃o L,Hid<|eD wr r4 m4 a2 o/\bk wr m3 L/\lD cs.length a2 o L/\o.Nodup/\(∀x∈o,x∈a2)/\dQ wr B b (.slice ac cs.length mc) G roots/\ψ B w wr) (λ_ wr=>oA wr r4 m4)
      case atStart=>exact⟨a2,_,Y ⟨KV.out.1,KV.out.2.1,WC,HND.out,λx hx=>hx,KV.out.2.2.1,KV.out.2.2.2⟩⟩
      case round=>
       clear KV WC;obtain⟨o,L,HL⟩:=hrel;obtain⟨s,hkl,hsk,K,t,E,C⟩:=HL.out;obtain⟨hnil,P⟩|⟨X,f,x,w8,hXY,P,z,W,hs8,hen⟩:=sH 0 s
       ·subst hnil;have anF:=Nat.le_trans hB C.size;have HSK:=Y hsk;obtain⟨w9,afv,A,T,hs9⟩:=qg hkl;have q:=E.grown T (λr e=>by cases e);have Dv:=C.grown T anF (λr e=>by cases e);have wR:=Y<|Z A<|Z q Dv;obtain⟨r5,Xq⟩:∃r,r=wr.heap.size:=⟨_,rfl⟩;rw[<-Xq]at afv wR;have anH:B<=r5:=by omega
        clear Xq;clear HL s hkl hsk K t E C A T q Dv
        go_wp2_with (at_next;refine pU rfl _ rfl _ rfl _ _ P ?_)
        clear P afv
        go_loopw [12] (λ_ wr=>∃o,Hid<|eD wr r5 m3 L o/\o.Nodup/\(∀x∈o,x∈L)/\dQ wr B b (.slice ac cs.length mc) (freed G L o) roots/\ψ B w wr) (λ_ wr=>oA wr r5 m3)
        case atStart=>exact⟨L,Y ⟨wR.out.1,HSK.out.nodup,λx hx=>hx,by rw[Ab];exact wR.out.2.1,wR.out.2.2⟩⟩
        case round=>
         clear wR;obtain⟨o,HF⟩:=hrel;obtain⟨s,K,t,E,C⟩:=HF.out;obtain⟨hnil,P⟩|⟨X,f,x,w8,hXY,P,z,W,hs8,hen⟩:=sH 0 s
         ·subst hnil;have hend:freed G L []=oX cs roots N d:=by have h1:=HSK.out;rw[<-WA.out]at h1;rw[VP h1,HA2.out];unfold oX;rw[<-HC1.out]
          rw[hend]at E;have HPL:=Y<|Z E C;clear HF s K t E C hend
          go_wp2_with (at_next;refine pU rfl _ rfl _ rfl _ _ P ?_)
          go_end0;exact⟨rfl,HPL.out.1.own,HPL.out.2⟩
         ·subst hXY;have hxL:=t x (by simp);obtain⟨⟨hx0,hx1⟩,_⟩:=(HSK.out.mem x).1 hxL;obtain⟨n,rfl⟩:=η hx0;have S:=E.grown W (λr e=>.inr (by
           cases e
           obtain⟨es,clk,since,seen,c0,h1,h2,h3,_⟩:=s;exact⟨_,h3,rfl⟩))
          have Q:=C.grown W (Nat.le_trans hB C.size) (λr e=>by cases e;exact anH);have hfl:=PB G L (X++(n:Int)::f);obtain⟨gc',m',e1,_,⟨u1,s1⟩,⟨u2,s2⟩,s3,q,Dv⟩:=S.free (i:=n) (by rw[hfl,WA.out];omega);rw[hfl,WA.out]at e1;cases e1
          have afw:=BX (cs:=G) (D:=L) (by rw[WA.out];omega) hxL K;rw[<-afw]at q;have A:=z.two (i:=n*2) (j:=n*2+1) (u:=Δ Γ 3) (v:=()) s1;have afx:(X++f).Nodup:=K.sublist<|ZD (Zt _ _) _;have hm1:=s.oA;have hm2:=A.oA;obtain⟨_,_,r0,_⟩:=S.cells;have s3a:=s3<|n*2;have s3b:=s3<|n*2+1;have wR:=Y<|Z A<|Z afx<|Z (λy (hy:y∈X++f)=>t y (by simp at hy⊢;obtain h|h:=hy;exact .inl h;exact .inr<|.inr h))<|Z q<|Q.trans Dv;have HM:=Y<|Z hm1 hm2;have hn1:(n:Int)<(cs.length:Int):=by omega
          have hn0:(0:Int)<=(n:Int):=by omega
          clear HF s K t E C hxL hx0 hx1 z W hs8 S Q hfl q Dv afw A afx hm1 hm2 s3
          go_wp2_with (at_next;refine pU rfl _ rfl _ rfl _ _ P ?_)
          go_roundw
          case rel=>exact⟨X++f,wR⟩
          case measure=>rw[HM.out.1,HM.out.2];simp
       ·subst hXY;have hxa:=t x (by simp);have hne:m3≠r4:=WB;have hk8:bk w8 m3 L:=hkl.of_block<|W.block m3 hkl.lt λe=>hne<|Z0 e;have S:=E.grown W (λr e=>.inr (by
         cases e
         obtain⟨es,clk,since,seen,c0,h1,h2,h3,_⟩:=s;exact⟨_,h3,rfl⟩))
        have Q:=C.grown W (Nat.le_trans hB C.size) (λr e=>by cases e;exact anD);have aaL:=hsk.next K hxa;have OA:(X++f).Nodup:=K.sublist<|ZD (Zt _ _) _;have hm1:=s.oA;have HK8:=Y<|Z z<|Z aaL<|Z OA<|Z (λy (hy:y∈X++f)=>t y (by simp at hy⊢;obtain h|h:=hy;exact .inl h;exact .inr<|.inr h))<|Z S Q;have HKK:=Y hk8;have HM:=Y hm1;clear HL s hkl hsk K t E C z W hs8 hk8 S Q aaL OA hm1
        go_wp2_with (first|(at_next;refine pU rfl _ rfl _ rfl _ _ P ?_)|(at_delete;refine qz rfl _ _ rfl m3 L x rfl rfl HKK.out ?_;intro w9 hk9 T hs9;go_frame))
        obtain⟨z,aaL,OA,afy,S,Q⟩:=HK8.out;have A:=z.of_block (w':=w9) (T.block m4 z.lt.2.1 λe=>afu (Z0 e).symm)<|T.block r4 z.lt.1 λe=>WB (Z0 e).symm;have q:=S.grown T λr e=>.inr (by cases e;exact HKK.out.Ac);have Dv:=Q.grown T (Nat.le_trans hB Q.size) (λr e=>by cases e;exact aft)
        go_roundw
        case rel=>exact⟨X++f,L.erase x,Y ⟨A,hk9,aaL,OA,afy,q,Dv⟩⟩
        case measure=>rw[HM.out,A.oA];simp
def ν.XI{h}(k:ν h):Xh h:=⟨λc hc=>(k.kinds c hc).imp id .inl,k.eT,k.many,k.four,k.roots,by rw[k.aA];simp,by rw[k.aA];simp,by rw[k.aA];simp,by rw[k.done];simp,by rw[k.done];simp,by rw[k.done];simp⟩
def OB(w v h)(g:tH w v h)(a:ν h):ZU prog 122 #[v] w λe w'=>(∃b,e=.returned (ZH<|U ⟨b,0,M⟩)/\mp w' w.heap.size b h.cells h.roots)/\ψ w.heap.size w w':=by refine(PY w v h g a.XI).mono ?_;rintro e w' ⟨⟨b,rfl,c,r,n,o,l,k,i,h3,h4,h5⟩,hb⟩;rw[a.aA]at h3;rw[a.done]at h4;obtain⟨aw,m,rfl,_,d,_⟩:=aF h3;obtain⟨ad,f,rfl,_,j,_⟩:=aF h4;exact⟨⟨b,rfl,c,r,aw,m,ad,f,l,k,i,d,j,h5⟩,hb⟩
section
variable(w:ε)
def Ad:ZU prog 121 #[.nilIface] w λe w'=>e=.returned (Δ Γ 0)/\ψ w w w':=by
 have a:∀w:ε,(Instr.typeAssert .nilIface 20 174 Zn).run prog w=.ok (.tuple #[.nilIface,.bool κ]) w:=λw=>by kernel_rfl
 go_enter (fU func121 rfl),ntmps121
 go_wp2
 go_ret;exact⟨rfl,ο _ _⟩
def Ae(p x w)(c:w p=U x)(d:w.frozen? p=κ):
 CallsD prog 124 #[ZH (U p)] .returning w λe g w'=>e=.returned (.tuple #[])/\g=.returning/\∃w1,ψ w w w1/\w'=w1.setCell p (Δ Γ 0):=by
 have b:=block_lt_of_cell c;refine callsD_of_wpS (fU func124 rfl) rfl λa cs f=>?_;apply wpS_region;simp[wpOpsS,go_sem,recoverD,f,ntmps124,Exit.thenS];refine(Ad w).mono ?_;rintro e w1 ⟨rfl,hb⟩;have i:=(hb.cell b).trans c;have h:=(hb.frozen b).trans d;cases a
 simp_all [go_sem,bodyPostS,Zi,results124]
 exact⟨w1,hb,rfl⟩
def Rk(v h N a)(hv:tH w v h)(Q:ν h)(ho:wK h.cells h.roots N a):
 ZU prog 64 #[v] w λe w'=>(∃r,e=.returned (.tuple #[r,Δ Γ 0])/\tH w' r ⟨oX h.cells h.roots N a,h.roots,[],[]⟩)/\ψ w w w':=by
 have hmf:∀(fn:Fn) (first cap:Array Z8) (w:ε),(Instr.makeFunc fn first cap).run prog w=.ok (.func fn first cap) w:=λ_ _ _ _=>rfl;have HV:=Y hv;have HK:=Y Q;have HO:=Y ho;obtain⟨c,r,wi,d,rfl,⟨ac,mc,rfl,_⟩,⟨ar,mr,rfl,_⟩,⟨aw,mw,rfl,_⟩,⟨ad,md,rfl,_⟩⟩:=hv;clear Q ho
 go_enter_defers (fU func64 rfl),ntmps64
 go_wp2_with fail
 have J:ψ w w (((w.alloc<|Ψ #[.slice ac h.cells.length mc,.slice ar h.roots.length mr,.slice aw h.aA.length mw,.slice ad h.done.length md] 56).alloc<|Ψ #[(),(),(),()] 56).alloc<|Ψ #[Δ Γ 0] 34):=((af w _).alloc (by simp) _).alloc (by simp;omega) _;have hz3:(((w.alloc<|Ψ #[.slice ac h.cells.length mc,.slice ar h.roots.length mr,.slice aw h.aA.length mw,.slice ad h.done.length md] 56).alloc<|Ψ #[(),(),(),()] 56).alloc<|Ψ #[Δ Γ 0] 34).heap.size=w.heap.size+1+1+1:=by simp
 have x1:(((w.alloc<|Ψ #[.slice ac h.cells.length mc,.slice ar h.roots.length mr,.slice aw h.aA.length mw,.slice ad h.done.length md] 56).alloc<|Ψ #[(),(),(),()] 56).alloc<|Ψ #[Δ Γ 0] 34).heap[w.heap.size+1]?=U (Ψ #[(),(),(),()] 56 (0,0)):=by rw[Z2 _ _ _ (by simp)];have:=Θ (w.alloc<|Ψ #[.slice ac h.cells.length mc,.slice ar h.roots.length mr,.slice aw h.aA.length mw,.slice ad h.done.length md] 56)<|Ψ #[(),(),(),()] 56;simpa using this
 have x2:(((w.alloc<|Ψ #[.slice ac h.cells.length mc,.slice ar h.roots.length mr,.slice aw h.aA.length mw,.slice ad h.done.length md] 56).alloc<|Ψ #[(),(),(),()] 56).alloc<|Ψ #[Δ Γ 0] 34).heap[w.heap.size+1+1]?=U (Ψ #[Δ Γ 0] 34 (0,0)):=by have:=Θ ((w.alloc<|Ψ #[.slice ac h.cells.length mc,.slice ar h.roots.length mr,.slice aw h.aA.length mw,.slice ad h.done.length md] 56).alloc<|Ψ #[(),(),(),()] 56)<|Ψ #[Δ Γ 0] 34;simpa using this
 generalize ((w.alloc _).alloc _).alloc _=G at J hz3 x1 x2⊢;have HX:=Y<|Z x1 x2;clear x1 x2;refine(OB _ _ h (HV.out.below J) HK.out).mono ?_;rintro e w4 ⟨⟨b,rfl,P⟩,X⟩;have Xh:=Y P;clear P
 go_wp2_with fail
 refine(BZ w4 G b h.cells h.roots N a Xh.out X.size HO.out).mono ?_;rintro e w5 ⟨rfl,Pk,hb5⟩;have j:=X.trans hb5;have HR5:=Y Pk.reads;obtain⟨c5,r5,q,l,t,m,A,Oz,y,anI,ait,W,h54,S,_⟩:=Pk;obtain⟨K,F,rfl,_⟩:=aF W;obtain⟨o,u,rfl,_⟩:=aF S;have HP5:=Y<|Z W<|Z h54<|Z S<|Z anI ait;have g0:w5 b=U (.slice K A.length F):=by simp[Ξ,y]
 have g1:w5 (b,1)=U (.slice o h.roots.length u):=by simp[Ξ,y]
 have g2:w5 (b,2)=U (.slice q 0 l):=by simp[Ξ,y]
 have g3:w5 (b,3)=U (.slice t 0 m):=by simp[Ξ,y]
 have D:=(j.block (w.heap.size+1)<|by omega).trans HX.out.1;have y2:=(j.block (w.heap.size+1+1)<|by omega).trans HX.out.2;have HY:=Y<|Z D y2;have z0:w5 (w.heap.size+1:Nat)=U ():=by simp[Ξ,D]
 have z1:w5 (w.heap.size+1,1)=U ():=by simp[Ξ,D]
 have z2:w5 (w.heap.size+1,2)=U ():=by simp[Ξ,D]
 have z3:w5 (w.heap.size+1,3)=U ():=by simp[Ξ,D]
 have ze:w5 (w.heap.size+1+1:Nat)=U (Δ Γ 0):=by simp[Ξ,y2]
 have f0:w5.frozen? (w.heap.size+1:Nat)=κ:=by simp[φ,D]
 have f1:w5.frozen? (w.heap.size+1,1)=κ:=by simp[φ,D]
 have f2:w5.frozen? (w.heap.size+1,2)=κ:=by simp[φ,D]
 have f3:w5.frozen? (w.heap.size+1,3)=κ:=by simp[φ,D]
 have fe:w5.frozen? (w.heap.size+1+1:Nat)=κ:=by simp[φ,y2]
 have HB:=Y<|Z J<|Z j<|Z hz3 Oz;clear J X hb5 j D y2 W h54 S y Oz
 go_wp2_with fail
 have e6:=aB (aB (aB (aB HY.out.1 0<|.slice K A.length F) 1<|.slice o h.roots.length u) 2<|.slice q 0 l) 3<|.slice t 0 m;have e7:((((w5.setCell (w.heap.size+1:Nat)<|.slice K A.length F).setCell (w.heap.size+1,1)<|.slice o h.roots.length u).setCell (w.heap.size+1,2)<|.slice q 0 l).setCell (w.heap.size+1,3)<|.slice t 0 m).heap[w.heap.size+1+1]?=U (Ψ #[Δ Γ 0] 34 (0,0)):=by rw[aa (by omega),aa<|by omega,aa<|by omega,aa<|by omega];exact HY.out.2
 have C:∀k,G.heap.size<=k->((((w5.setCell (w.heap.size+1:Nat)<|.slice K A.length F).setCell (w.heap.size+1,1)<|.slice o h.roots.length u).setCell (w.heap.size+1,2)<|.slice q 0 l).setCell (w.heap.size+1,3)<|.slice t 0 m).heap[k]?=w5.heap[k]?:=λk Q=>by rw[aa (by omega),aa<|by omega,aa<|by omega,aa<|by omega]
 have T:ψ w w5 ((((w5.setCell (w.heap.size+1:Nat)<|.slice K A.length F).setCell (w.heap.size+1,1)<|.slice o h.roots.length u).setCell (w.heap.size+1,2)<|.slice q 0 l).setCell (w.heap.size+1,3)<|.slice t 0 m):=((((ο w w5).setCell (p:=⟨w.heap.size+1,0,M⟩) (by simp) _).setCell (p:=⟨w.heap.size+1,1,M⟩) (by simp) _).setCell (p:=⟨w.heap.size+1,2,M⟩) (by simp) _).setCell (p:=⟨w.heap.size+1,3,M⟩) (by simp) _
 generalize ((((w5.setCell (w.heap.size+1:Nat)<|.slice K A.length F).setCell (w.heap.size+1,1)<|.slice o h.roots.length u).setCell (w.heap.size+1,2)<|.slice q 0 l).setCell (w.heap.size+1,3)<|.slice t 0 m)=w6 at e6 e7 T C⊢;have k2:(w6.setCell (w.heap.size+1+1:Nat)<|Δ Γ 0).heap[w.heap.size+1+1]?=U (Ψ #[Δ Γ 0] 34 (0,0)):=by rw[aB e7];rfl
 have k1:(w6.setCell (w.heap.size+1+1:Nat)<|Δ Γ 0).heap[w.heap.size+1]?=U (Ψ #[.slice K A.length F,.slice o h.roots.length u,.slice q 0 l,.slice t 0 m] 56 (0,0)):=by rw[aa (by omega),e6];rfl
 have L:=T.setCell (p:=⟨w.heap.size+1+1,0,M⟩) (by simp;omega)<|Δ Γ 0;have B:∀k,G.heap.size<=k->(w6.setCell (w.heap.size+1+1:Nat)<|Δ Γ 0).heap[k]?=w5.heap[k]?:=λk Q=>by rw[aa (by omega)];exact C k Q
 generalize (w6.setCell (w.heap.size+1+1:Nat)<|Δ Γ 0)=w7 at k1 k2 L B⊢;clear e6 e7 T C;refine leaves_cons (f:=124) (args:=#[.pointer (w.heap.size+1+1:Nat)]) (by simp) (by simp[go_sem]) ?_;refine(Ae (w.heap.size+1+1:Nat) (Δ Γ 0) _ (by simp[Ξ,k2])<|by simp[φ,k2]).mono ?_;rintro e u' w'' ⟨rfl,rfl,w9,H,rfl⟩;have hl1:=(Ω.1 k1).1;have hl2:=(Ω.1 k2).1;have n2:=(H.block _ hl2).trans k2;have n1:=(H.block _ hl1).trans k1;have m2:(w9.setCell (w.heap.size+1+1:Nat)<|Δ Γ 0).heap[w.heap.size+1+1]?=U (Ψ #[Δ Γ 0] 34 (0,0)):=by rw[aB n2];rfl
 have m1:(w9.setCell (w.heap.size+1+1:Nat)<|Δ Γ 0).heap[w.heap.size+1]?=U (Ψ #[.slice K A.length F,.slice o h.roots.length u,.slice q 0 l,.slice t 0 m] 56 (0,0)):=by rw[aa (by omega)];exact n1
 have j:=HB.out.2.1;have hw5:w.heap.size<=w7:=by have:=j.size;have:=L.size;omega
 have hb8:=H.mono hw5;have O:=(L.trans hb8).setCell (p:=⟨w.heap.size+1+1,0,M⟩) (by simp;omega)<|Δ Γ 0;have z:∀k,G.heap.size<=k->k<w5->(w9.setCell (w.heap.size+1+1:Nat)<|Δ Γ 0).heap[k]?=w5.heap[k]?:=λk Q hk2=>by rw[aa (by omega),H.block k (by have:=L.size;omega)];exact B k Q
 generalize (w9.setCell (w.heap.size+1+1:Nat)<|Δ Γ 0)=s at m1 m2 O z⊢;have r0:s (w.heap.size+1:Nat)=U (.slice K A.length F):=by simp[Ξ,m1]
 have r1:s (w.heap.size+1,1)=U (.slice o h.roots.length u):=by simp[Ξ,m1]
 have r2:s (w.heap.size+1,2)=U (.slice q 0 l):=by simp[Ξ,m1]
 have r3:s (w.heap.size+1,3)=U (.slice t 0 m):=by simp[Ξ,m1]
 have r4:s (w.heap.size+1+1:Nat)=U (Δ Γ 0):=by simp[Ξ,m2]
 simp[Leaves,settle,Zi,results64,go_sem,r0,r1,r2,r3,r4];obtain⟨p53,E,p55,q1,q2⟩:=HP5.out;have wl:∀{e:Zv} {size n:Nat} {v:Z8} {xs:List Z8},w5.ownsRow G e size v n xs->s.ownsRow G e size v n xs:=λho=>aS ho λg hg=>by obtain⟨h1,h2⟩:=ho.lt g hg;exact z g h1 h2
 have t53:OC s G _ A:=wl p53;have t54:df s G A _:=⟨E.1,λi k x k' vs e1 e2=>⟨(E.2.1 i k x k' vs e1 e2).1,wl (E.2.1 i k x k' vs e1 e2).2⟩,E.2.2⟩;have t55:OV s G _ h.roots:=wl p55;exact⟨⟨_,_,_,_,rfl,t53.reads t54.hold,t55.reads,qP q1,qP q2⟩,HB.out.1.trans<|(j.mono HB.out.1.size).trans O⟩
end
section
variable{k:Nat}{t:Zv}{w:ε}
def eW{ty}{B bx:Nat}{s l k x fr}(h:OC w B s l)(r:w.heap[bx]?=U (Ψ #[Δ Γ k,x] t fr))(v:x.oneCell'=Zn)(C:l.length<=1000000)(A:B<=w):
 ∃a w',(Builtin.append_ #[22,22] ty #[s,.slice bx 1 1]).run prog w=.ok a w'/\(OC w' B a (l++[(k,x)])/\w.grownBy w' s.ownBlock/\(a.ownBlock=s.ownBlock\/∀g,a.ownBlock=U g->w.heap.size<=g)/\∃g m,a=.slice (g:Nat) (l.length+1) m):=by
 obtain⟨y,hi,d,i,n⟩:=info_parts ni;have b:∀j u,(dW (k,x))[j]?=U u->w ((bx:Addr).add j)=U u:=by
  intro j u c
  match j,c with
  |0,c=>cases c;simp[Ξ,r,Addr.add]
  |1,c=>cases c;simp[Ξ,r,Addr.add]
  |j+2,c=>simp[dW]at c
 have o:∀u∈dW (k,x),u.oneCell'=Zn:=by
  intro u q;simp[dW]at q;obtain rfl|rfl:=q
  rfl;exact v
 obtain⟨a,w',z,r1,r2,_,r4⟩:=run_append_own_at (P:=prog) w B 22 ty 76 y _ 2 32 mF hi d i n rfl (by decide) s l.length (l.flatMap dW) h bx 1 1 (dW (k,x)) rfl b o (by unfold maxLen;omega) (by omega) A;refine⟨a,w',z,?_,r2,?_,?_⟩;unfold OC;rw[List.flatMap_append,List.length_append];simpa using r1;obtain e|e:=r4
 ·exact .inl e
 right;intro g p;rw[e]at p;cases p
 exact .refl;obtain⟨g,f,e,_⟩:=r1.form (by omega);exact⟨g,f,e⟩
def I8{cs:List HC}{bw c}(h:cs[k]?=U c)(d:k<bw):(cs.take<|k+1).take bw=(cs.take k).take bw++[c]/\(cs.take<|k+1).drop bw=(cs.take k).drop bw:=by
 rw[bW h];refine⟨?_,?_⟩;have a:(cs.take k++[c]).length<=bw:=by simp;omega
 have b:(cs.take k).length<=bw:=by simp;omega
 rw[ZO a,ZO b];have a:(cs.take k++[c]).length<=bw:=by simp;omega
 have b:(cs.take k).length<=bw:=by simp;omega
 rw[Zs a,Zs b]
def I9{cs:List HC}{bw c}(h:cs[k]?=U c)(b:bw<=k):(cs.take<|k+1).take bw=(cs.take k).take bw/\(cs.take<|k+1).drop bw=(cs.take k).drop bw++[c]:=by have a:=(χ.1 h).1;rw[bW h];refine⟨?_,?_⟩;rw[List.take_append_of_le_length (by simp;omega)];rw[List.drop_append_of_le_length (by simp;omega)]
def DA{c:Array Z8}{a b:Z8}(h:w.heap[k]?=U (.cells c t (0,0)))(hc:c=#[a,b]:=by rfl):w k=U a/\w (k,1)=U b/\w.frozen? k=κ/\w.frozen? (k,1)=κ:=by subst hc;simp[Ξ,φ,h]
def cr{g i j:Nat}{u v}(h:k≠g):((w.setCell (g,i) u).setCell (g,j) v).heap[k]?=w.heap[k]?:=by rw[ZT _ _ _ _ h,ZT _ _ _ _ h]
def Om{a b}(h:w.heap[k]?=U (Ψ #[a,b] t (0,0))):w k=U a/\w (k,1)=U b/\w.frozen? k=κ/\w.frozen? (k,1)=κ:=by simp[Ξ,φ,h]
def SP.ov(B:Nat)(l:List HV):Rg.SP:=⟨λv w=>OV w B v l,λ_ _ _ hb h=>OV.below h hb⟩
def SP.oi(B:Nat)(l:List Int):Rg.SP:=⟨λv w=>OI w B v l,λ_ _ _ hb h=>OI.below h hb⟩
def SP.agI(B:Nat)(a:List HV)(b c:List Int):Rg.SP:=⟨λv w=>∃x y z,v=.agg #[(),x,y,z]/\OV w B x a/\OI w B y b/\OI w B z c,λ_ _ _ hb ⟨x,y,z,e,h1,h2,h3⟩=>⟨x,y,z,e,OV.below h1 hb,OI.below h2 hb,OI.below h3 hb⟩⟩
def SP.aey(B:Nat):Rg.SP:=⟨λv w=>∃g,v=.pointer (g:Nat)/\w.heap[g]?=U (Ψ #[(),(),(),()] 56 (0,0))/\B<=g,λ_ _ _ hb ⟨g,h1,h2,h3⟩=>⟨g,h1,(hb.block g (Ω.1 h2).1).trans h2,h3⟩⟩
def SP.cell(B:Nat)(p:Int)(vs:List HV):Rg.SP:=⟨λv w=>∃x,v=.agg #[p,x]/\OV w B x vs,λ_ _ _ hb ⟨x,h1,h2⟩=>⟨x,h1,h2.below hb⟩⟩
def SP.agJ(B:Nat):Rg.SP:=⟨λv w=>∃g,v=.pointer (g:Nat)/\w.heap[g]?=U (Ψ #[Δ Γ 0,()] 76 (0,0))/\B<=g,λ_ _ _ hb ⟨g,h1,h2,h3⟩=>⟨g,h1,(hb.block g (Ω.1 h2).1).trans h2,h3⟩⟩
structure I'(h:PH):Prop where
 cells:∀c∈h.cells,c.2.length<=1000/\∀v∈c.2,Sm v.2
 many:h.cells.length<=1000
 roots:h.roots.length<=1000/\∀v∈h.roots,Sm v.2
 aA:h.aA.length<=1000/\∀v∈h.aA,Sm v
 done:h.done.length<=1000/\∀v∈h.done,Sm v
def On(w v h)(bw:Nat)(hv:tH w v h)(hs:I' h)(hol:bw<=1000000):
 ZU prog 226 #[v,bw] w λe w'=>(∃b,e=.returned (.pointer (b:Nat))/\dm w' w b (Ij h bw))/\ψ w w w':=by
 have HS:=Y hs;obtain⟨c,r,wi,d,rfl,C,H,h3,h4⟩:=hv;have H1:=Y C;have H2:=Y H;have H3:=Y h3;have H4:=Y h4;obtain⟨ac,mc,rfl,_,_,hac⟩:=C;obtain⟨ar,mr,rfl,_,_,_⟩:=H;obtain⟨aw,mw,rfl,_,_,_⟩:=h3;obtain⟨ad,md,rfl,_,_,_⟩:=h4;have HC:=Y hac;have hoi:(0:Int)<=(bw:Int)/\(bw:Int)<=1000000:=by omega
 have hb1:=af w<|Ψ #[.slice ac h.cells.length mc,.slice ar h.roots.length mr,.slice aw h.aA.length mw,.slice ad h.done.length md] 56;have hrl:h.roots.length<=1000000:=by have:=hs.roots.1;omega
 have hwl:h.aA.length<=1000000:=by have:=hs.aA.1;omega
 have hdl:h.done.length<=1000000:=by have:=hs.done.1;omega
 have Oo:(h.aA.map λn=>((1,n):HV)).length<=1000000:=by rw[ω];exact hwl
 have Oq:(h.done.map λn=>((1,n):HV)).length<=1000000:=by rw[ω];exact hdl
 have hws:∀x∈h.aA.map λn=>((1,n):HV),Sm x.2:=λx hx=>by obtain⟨n,hn,rfl⟩:=ξ.1 hx;exact hs.aA.2 n hn
 have hds:∀x∈h.done.map λn=>((1,n):HV),Sm x.2:=λx hx=>by obtain⟨n,hn,rfl⟩:=ξ.1 hx;exact hs.done.2 n hn
 clear hs hac
 go_enter (fU func226 rfl),ntmps226
 go_wp2_with fail
 have f0:(w.alloc<|Ψ #[.slice ac h.cells.length mc,.slice ar h.roots.length mr,.slice aw h.aA.length mw,.slice ad h.done.length md] 56).drew.cell? w.heap.size=U (.slice ac h.cells.length mc):=by go_simp
 have f1:(w.alloc<|Ψ #[.slice ac h.cells.length mc,.slice ar h.roots.length mr,.slice aw h.aA.length mw,.slice ad h.done.length md] 56).drew.cell? (w.heap.size,1)=U (.slice ar h.roots.length mr):=by go_simp
 have f2:(w.alloc<|Ψ #[.slice ac h.cells.length mc,.slice ar h.roots.length mr,.slice aw h.aA.length mw,.slice ad h.done.length md] 56).drew.cell? (w.heap.size,2)=U (.slice aw h.aA.length mw):=by go_simp
 have f3:(w.alloc<|Ψ #[.slice ac h.cells.length mc,.slice ar h.roots.length mr,.slice aw h.aA.length mw,.slice ad h.done.length md] 56).drew.cell? (w.heap.size,3)=U (.slice ad h.done.length md):=by go_simp
 have hd1:=hb1.drew;have qv:w.heap.size<(w.alloc<|Ψ #[.slice ac h.cells.length mc,.slice ar h.roots.length mr,.slice aw h.aA.length mw,.slice ad h.done.length md] 56).drew.heap.size:=by simp
 go_region_held3 (λx=>x (w.heap.size,1)=U (.slice ar h.roots.length mr)/\x (w.heap.size,2)=U (.slice aw h.aA.length mw)/\x (w.heap.size,3)=U (.slice ad h.done.length md))
  (first|(refine⟨?_,?_,?_⟩<;>assumption)|go_keep)
  (first
    |(go_at_call 262;(with_reducible refine(afS _ (.slice ar h.roots.length mr) h.roots _ (H2.out.below hd1) hrl HS.out.roots.2 hoi).mono ?_);rintro e w4 ⟨⟨r4,rfl,Ja⟩,O⟩;have hB4:ψ w w w4:=hd1.trans<|O.mono hd1.size;have Fx:=Y Ja;obtain⟨a4,m4,rfl,_⟩:=aF Ja;clear Ja;simp only[ω]at Fx;have q40:=cG O f0 qv;have q41:=cG O f1 qv;have q42:=cG O f2 qv;have q43:=cG O f3 qv;have T:=Nat.lt_of_lt_of_le qv O.size)
    |(go_at_call 132;(with_reducible refine(Ip _ (.slice aw h.aA.length mw) h.aA (H3.out.below hB4) hwl).mono ?_);rintro e w5 ⟨⟨r5,rfl,Pk⟩,m⟩;have K:ψ w w w5:=hB4.trans<|m.mono hB4.size;have E:=Y Pk;obtain⟨J,G,rfl,_⟩:=aF Pk;clear Pk;simp only[ω]at E;have Wk:=cG m q40 T;have Wl:=cG m q41 T;have OE:=cG m q42 T;have q53:=cG m q43 T;have S:=Nat.lt_of_lt_of_le T m.size)
    |(go_at_call 262;(with_reducible refine(afS _ (.slice J h.aA.length G) (h.aA.map λn=>((1,n):HV)) _ E.out.reads Oo hws hoi).mono ?_);rintro e w6 ⟨⟨r6,rfl,Jb⟩,z⟩;have hB6:ψ w w w6:=K.trans<|z.mono K.size;have Jc:=Y Jb;obtain⟨a6,m6,rfl,_⟩:=aF Jb;clear Jb;simp only[ω]at Jc;have q60:=cG z Wk S;have q61:=cG z Wl S;have q62:=cG z OE S;have q63:=cG z q53 S;have Q:=Nat.lt_of_lt_of_le S z.size)
    |(go_at_call 132;(with_reducible refine(Ip _ (.slice ad h.done.length md) h.done (H4.out.below hB6) hdl).mono ?_);rintro e w7 ⟨⟨r7,rfl,Jd⟩,o⟩;have Wm:ψ w w w7:=hB6.trans<|o.mono hB6.size;have Je:=Y Jd;obtain⟨a7,m7,rfl,_⟩:=aF Jd;clear Jd;simp only[ω]at Je;have q70:=cG o q60 Q;have q71:=cG o q61 Q;have rJ:=cG o q62 Q;have q73:=cG o q63 Q;have W:=Nat.lt_of_lt_of_le Q o.size)
    |(go_at_call 262;(with_reducible refine(afS _ (.slice a7 h.done.length m7) (h.done.map λn=>((1,n):HV)) _ Je.out.reads Oq hds hoi).mono ?_);rintro e w8 ⟨⟨r8,rfl,DF⟩,a⟩;have Wn:ψ w w w8:=Wm.trans (a.mono Wm.size);have Or:=Y DF;obtain⟨a8,m8,rfl,_⟩:=aF DF;clear DF;simp only[ω]at Or;have Eh:=cG a q70 W;have yq:=cG a q71 W;have q82:=cG a rJ W;have q83:=cG a q73 W;have hs8:=Nat.lt_of_lt_of_le W a.size))
 clear f1 f2 f3 q40 q41 q42 q43 Wk Wl OE q53 q60 q61 q62 q63 q70 q71 rJ q73 yq q82 q83;have hk8:=Θ w8<|Ψ #[(),(),.slice a4 h.roots.length m4,.slice a6 h.aA.length m6,.slice a8 h.done.length m8,()] 114;have BP:=af w8<|Ψ #[(),(),.slice a4 h.roots.length m4,.slice a6 h.aA.length m6,.slice a8 h.done.length m8,()] 114;have Dv:=Wn.trans<|BP.mono Wn.size;have t4:OV w8 w (.slice a4 h.roots.length m4) (h.roots.map<|ed (bw:Int)):=(((((Fx.out.below m).below z).below o).below a).less hd1.size);have t6:OV w8 w5 (.slice a6 h.aA.length m6) ((h.aA.map λn=>((1,n):HV)).map<|ed (bw:Int)):=(Jc.out.below o).below a;have t8:OV w8 w7 (.slice a8 h.done.length m8) ((h.done.map λn=>((1,n):HV)).map<|ed (bw:Int)):=Or.out;have t4':=(((Fx.out.below m).below z).below o).below a;have l4:∀g,(θ a4 h.roots.length m4).ownBlock=U g->g<w4:=λg hg=>(Fx.out.lt g hg).2;have l6:∀g,(θ a6 h.aA.length m6).ownBlock=U g->w5.heap.size<=g/\g<w6:=λg hg=>Jc.out.lt g hg;have l8:∀g,(θ a8 h.done.length m8).ownBlock=U g->w7.heap.size<=g/\g<w8:=λg hg=>Or.out.lt g hg;have afe:Apart (.slice a4 h.roots.length m4) (.slice a6 h.aA.length m6):=λg C H=>by have:=l4 g C;have:=(l6 g H).1;have:=m.size;omega
 have aff:Apart (.slice a4 h.roots.length m4) (.slice a8 h.done.length m8):=λg C H=>by have:=l4 g C;have:=(l8 g H).1;have:=m.size;have:=z.size;have:=o.size;omega
 have afg:Apart (.slice a6 h.aA.length m6) (.slice a8 h.done.length m8):=λg C H=>by have:=(l6 g C).2;have:=(l8 g H).1;have:=o.size;omega
 have hlow:∀g,((θ a4 h.roots.length m4).ownBlock=U g\/(θ a6 h.aA.length m6).ownBlock=U g\/(θ a8 h.done.length m8).ownBlock=U g) ->g<w8:=by
  rintro g (C|C|C);have:=l4 g C;have:=m.size;have:=z.size;have:=o.size;have:=a.size;omega
  have:=(l6 g C).2;have:=o.size;have:=a.size;omega
  exact(l8 g C).2
 have F:=Wn.size;have h58:w5.heap.size<=w8/\w.heap.size<=w5/\w.heap.size<=w7:=⟨by have:=z.size;have:=o.size;have:=a.size;omega,K.size,Wm.size⟩;have HT:=Y<|Z t4<|Z (t6.less h58.2.1)<|Z (t8.less h58.2.2)<|Z afe<|Z aff<|Z afg hlow;have htw:Ol (w8.alloc<|Ψ #[(),(),.slice a4 h.roots.length m4,.slice a6 h.aA.length m6,.slice a8 h.done.length m8,()] 114) w8 w8 w8 (.slice a4 h.roots.length m4) (.slice a6 h.aA.length m6) (.slice a8 h.done.length m8) [] []:=⟨_,_,[],[],.refl,hk8,OC.nil _ _,⟨rfl,λi k x k' s e1 _=>by simp at e1,λi j p q _ e1 _=>by simp at e1⟩,OC.nil _ _,⟨rfl,λi k x k' s e1 _=>by simp at e1,λi j p q _ e1 _=>by simp at e1⟩,λg e=>(by cases e),λp L=>(by cases L)⟩
 have f9:=cG BP Eh hs8;have HW:=Y<|Z htw<|Z BP Wn;have Wo:w8.heap.size<(w8.alloc<|Ψ #[(),(),.slice a4 h.roots.length m4,.slice a6 h.aA.length m6,.slice a8 h.done.length m8,()] 114).heap.size:=by simp
 generalize w8.alloc _=w9 at HW f9 Wo⊢;clear t4 t6 t8 t4' l4 l6 l8 afe aff afg hlow htw hk8 BP Dv Eh O m z o a hB4 K hB6 Wm Wn Fx E Jc Je Or qv T S Q W hs8 f0 hd1 hb1;obtain⟨y,hS0⟩:∃y,y=w8.heap.size:=⟨_,rfl⟩;rw[<-hS0]at HW HT Wo F⊢;replace hS0:=Y hS0;clear h58
 go_wp2_with fail
 clear f9
 go_loopw [29] (λi wr=>∃k:Nat,k<=h.cells.length/\i=Δ Γ k/\Hid (Ol wr y y y (.slice a4 h.roots.length m4) (.slice a6 h.aA.length m6) (.slice a8 h.done.length m8) (((h.cells.take k).drop bw).map<|qO (bw:Int))<|((h.cells.take k).take bw).map<|qO (bw:Int))/\ψ y w8 wr/\y<wr.heap.size) (λi _=>h.cells.length-(intOf i).toNat)
 case atStart=>exact⟨0,Nat.zero_le _,rfl,Y<|by simpa using HW.out.1,HW.out.2.1,Wo⟩
 case round=>
  have HB8:=Y HW.out.2.2;clear HW;obtain⟨k,hk,rfl,HK,h8r,A⟩:=hrel;have hbw:ψ w.heap.size w wr:=HB8.out.trans<|h8r.mono F;have hsz:=hbw.size;by_cases hlt:k<h.cells.length
  ·obtain⟨ba,oa,e,hba,hat⟩:=HC.out (by omega);cases e
   obtain⟨B,s,e1⟩:=cQ hlt;obtain⟨d1,x,d2,hx⟩:=(hat.below hbw hba) k B s e1;have hsc:=HS.out.cells _<|μ e1;dsimp only at hsc;have HX:=Y hx;obtain⟨ax,mx,rfl,_,_,_⟩:=hx;have E1:=Y e1;have hvl:s.length<=1000000:=by omega
   clear hat e1
   go_wp2_with fail
   have hb0:=af wr<|Ψ #[B,.slice ax s.length mx] 76;have n0:(wr.alloc<|Ψ #[B,.slice ax s.length mx] 76).cell? ⟨wr.heap.size,0,M⟩=U (Δ Γ B):=by go_simp
   have n1:(wr.alloc<|Ψ #[B,.slice ax s.length mx] 76).cell? (wr.heap.size,1)=U (.slice ax s.length mx):=by go_simp
   have hn1:wr.heap.size<(wr.alloc<|Ψ #[B,.slice ax s.length mx] 76).heap.size:=by simp
   generalize wr.alloc _=X at hb0 n0 n1 hn1⊢;have hd0:=hb0.drew;have hv1:=HX.out.below hb0;refine Rg.pT [.eq (.pointer wr.heap.size),.eq B,.eq<|.pointer (wr.heap.size,1),.eq<|.slice ax s.length mx,.eq bw,SP.ov X<|s.map<|ed (bw:Int),SP.cell X B<|s.map<|ed (bw:Int),SP.agJ X] (by kernel_rfl) (by kernel_rfl) (by rfl) ?_ ?_
   ·refine⟨?_,?_,?_,?_,?_,?_,?_,?_,trivial⟩
    all_goals intro a2 w2 hb2 t l
    all_goals have hB:ψ X X w2:=(ο _ X).drew.trans hb2
    all_goals have y0:=cG hB n0 hn1
    all_goals have y1:=cG hB n1 hn1
    all_goals first|(have k0:=t 1 rfl;have k1:=t 7 rfl;simp at k0 k1;(try have q0:=Rg.lT (l 0 _ rfl rfl) rfl);(try have q1:=Rg.lT (l 2 _ rfl rfl) rfl);clear t l;go_simp;exact⟨_,rfl,.refl _ _,rfl⟩)|skip
    ·have d0:=Rg.lT (l 3 _ rfl rfl) rfl;have d1:=Rg.lT (l 4 _ rfl rfl) rfl;clear t l;go_simp;refine(afS _ _ s _ (hv1.below hB) hvl hsc.2 hoi).mono ?_;rintro e w3 ⟨⟨r,rfl,ho⟩,hb3⟩;exact⟨_,rfl,hb3,OV.less ho hB.size⟩
    ·have d0:=Rg.lT (l 1 _ rfl rfl) rfl;obtain⟨v1,d1,hv1⟩:∃v,(a2.tmps[39]?).getD undef=v/\OV w2 X v _:=⟨_,rfl,l 5 _ rfl rfl⟩;obtain⟨_,_,rfl,_⟩:=aF hv1;simp only[ω]at hv1;clear t l;go_simp;exact⟨_,rfl,.refl _ _,_,rfl,hv1⟩
    ·clear t l;go_simp;exact⟨_,rfl,af _ _,_,rfl,Θ _ _,hB.size⟩
   ·rintro fl w5 m ⟨s0,s1,s2,s3,s4,s5,⟨x5,s6,E⟩,⟨P,s7,xo,a⟩,-⟩;have s6:fl 6=_:=s6;have s7:fl 7=_:=s7;obtain⟨J,G,rfl,_⟩:=aF E;have K:ψ X X w5:=(ο _ X).drew.trans m;simp only[ω]at E s6;simp[go_sem,s6,s7];obtain⟨xc0,xc1,xf0,xf1⟩:=Om xo;clear s0 s1 s2 s3 s4 s5 s6 s7 n0 n1 m
    go_upto_region 6 with fail
    have hk9:=aB (aB xo 0 B) 1<|.slice J s.length G;have Dv:ψ X X ((w5.setCell P B).setCell (P,1)<|.slice J s.length G):=(K.setCell (p:=⟨P,0,M⟩) a _).setCell (p:=⟨P,1,M⟩) a _;have tT:Hid (OV ((w5.setCell P B).setCell (P,1)<|.slice J s.length G) X (.slice J s.length G)<|s.map<|ed (bw:Int)):=Y<|hZ (w':=(w5.setCell ⟨P,0,M⟩<|Δ Γ B).setCell ⟨P,1,M⟩<|.slice J s.length G) E xo (by decide) λk hk=>cr hk;have hl9:P<((w5.setCell P B).setCell (P,1)<|.slice J s.length G).heap.size:=(Ω.1 hk9).1;generalize hw9:((w5.setCell P B).setCell (P,1)<|.slice J s.length G)=u at hk9 Dv tT hl9⊢;clear hw9 E xo xc0 xc1 xf0 xf1 K a;have f:ψ wr wr u:=hb0.trans<|Dv.mono hb0.size;obtain⟨sn,so,ln,lo,hSb,aez,C,H,h3,h4,h5,h6⟩:=HK.out;have OG:=Y<|Z hSb<|Z aez<|Z C<|Z H<|Z h3<|Z h4<|Z h5 h6;have D:=(f.block y A).trans aez;replace C:=C.below f;replace h3:=h3.below f;have hln:ln.length<=1000000/\lo.length<=1000000:=by have e1:=H.1;have e2:=h4.1;have:=HS.out.many;simp at e1 e2;omega
    obtain⟨an,mn,rfl,_⟩:=aF C;obtain⟨ao,mo,rfl,_⟩:=aF h3;have c8a:u P=U (Δ Γ B):=(DA hk9).1;have c8b:u (P,1)=U (.slice J s.length G):=(DA hk9).2.1;have cs0:u (y:Nat)=U (.slice an ln.length mn):=by simp[Ξ,D]
    have cs1:u ⟨y,1,M⟩=U (.slice ao lo.length mo):=by simp[Ξ,D]
    have fs0:u.frozen? ⟨y,0,M⟩=κ:=by simp[φ,D]
    have fs1:u.frozen? ⟨y,1,M⟩=κ:=by simp[φ,D]
    have hSl:y<u.heap.size:=(Ω.1 D).1;have anj:w.heap.size<=u.heap.size:=Nat.le_trans hsz f.size;have agL:(θ an ln.length mn).ownBlock≠U y:=eJ C D (by decide);have aaZ:(θ ao lo.length mo).ownBlock≠U y:=eJ h3 D (by decide);have HN:=Y<|Z agL aaZ;clear D aez C H h3 h4 h5 h6 agL aaZ hk9;by_cases hko:k<bw
    ·have hki:(k:Int)<(bw:Int):=by omega
     go_wp2_with fail
     go_region_law ((refine aX rfl _ _ 22 (by rfl) (.slice ao lo.length mo) (θ (U ⟨u.heap.size,0,M⟩) 1 1) (by rfl) (by rfl) _ (eW (k:=B) (x:=.slice J s.length G) ((OG.out.2.2.2.2.1.below f).below<|by first|exact(af u _).drew|exact(af u _)) (Θ u _) (by rfl) (by omega) (by simp;omega)) ?_;intro v' w2 H;obtain⟨hoc,N,hnb,gg,mg,rfl⟩:=H;have gc:=(N.cell_far ⟨y,1,M⟩ (by simp;omega)<|ZY HN.out.2).trans<|(((af u _).drew).cell (p:=⟨y,1,M⟩) hSl).trans cs1;have gf:=(N.frozen_far ⟨y,1,M⟩ (by simp;omega)<|ZY HN.out.2).trans<|(((af u _).drew).frozen (p:=⟨y,1,M⟩) hSl).trans fs1))
     all_goals
      go_wp2_with fail
      have hx2:=OV.less (B':=wr.heap.size) (tT.out.below<|(af u<|Ψ #[B,.slice J s.length G] 76).drew) (by omega);obtain⟨p1,p2,p3,p4,p5,p6,p7,p8⟩:=OG.out;obtain⟨e1,e2⟩:=I7 (w2:=(u.alloc<|Ψ #[B,.slice J s.length G] 76).drew) p1 p2 p3 p4 p5 p6 p7 p8 (Nat.le_of_lt A) (Nat.le_of_lt A) (f.trans<|(af u _).drew.mono f.size) hx2 N hoc (hnb.imp_right λhh g hg=>by have:=hh g hg;exact this);have htk:=I8 (bw:=bw) E1.out hko
      go_roundw
      case rel=>refine⟨k+1,by omega,by go_num,Y ?_,h8r.trans e2,Nat.lt_of_lt_of_le A e2.size⟩;rw[htk.1,htk.2,ζ];exact e1
      case measure=>simp[intOf];omega
    ·have hki:¬(k:Int)<(bw:Int):=by omega
     go_wp2_with fail
     go_region_law ((refine aX rfl _ _ 22 (by rfl) (.slice an ln.length mn) (θ (U ⟨u.heap.size,0,M⟩) 1 1) (by rfl) (by rfl) _ (eW (k:=B) (x:=.slice J s.length G) ((OG.out.2.2.1.below f).below<|by first|exact(af u _).drew|exact(af u _)) (Θ u _) (by rfl) (by omega) (by simp;omega)) ?_;intro v' w2 H;obtain⟨hoc,N,hnb,gg,mg,rfl⟩:=H;have gc:=(N.cell_far ⟨y,0,M⟩ (by simp;omega)<|ZY HN.out.1).trans<|(((af u _).drew).cell (p:=⟨y,0,M⟩) hSl).trans cs0;have gf:=(N.frozen_far ⟨y,0,M⟩ (by simp;omega)<|ZY HN.out.1).trans<|(((af u _).drew).frozen (p:=⟨y,0,M⟩) hSl).trans fs0))
     all_goals
      go_wp2_with fail
      have hx2:=OV.less (B':=wr.heap.size) (tT.out.below<|(af u<|Ψ #[B,.slice J s.length G] 76).drew) (by omega);obtain⟨p1,p2,p3,p4,p5,p6,p7,p8⟩:=OG.out;obtain⟨e1,e2⟩:=I6 (w2:=(u.alloc<|Ψ #[B,.slice J s.length G] 76).drew) p1 p2 p3 p4 p5 p6 p7 p8 (Nat.le_of_lt A) (Nat.le_of_lt A) (f.trans<|(af u _).drew.mono f.size) hx2 N hoc (hnb.imp_right λhh g hg=>by have:=hh g hg;exact this);have htk:=I9 (bw:=bw) E1.out (by omega)
      go_roundw
      case rel=>refine⟨k+1,by omega,by go_num,Y ?_,h8r.trans e2,Nat.lt_of_lt_of_le A e2.size⟩;rw[htk.1,htk.2,ζ];exact e1
      case measure=>simp[intOf];omega
  ·have hke:k=h.cells.length:=by omega
   subst hke;clear hlt;have h8':ψ w8.heap.size w8 wr:=hS0.out▸h8r;have HE:Hid (dm wr w.heap.size y (Ij h bw)):=Y (by
    obtain⟨sn,so,ln,lo,q1,q2,q3,q4,q5,q6,q7,q8⟩:=HK.out;obtain⟨t1,t2,t3,t4,t5,t6,t7⟩:=HT.out;rw[Zg]at q4 q6;have wl:∀p,(p∈ln\/p∈lo) ->∀g,p.2.ownBlock=U g->y<=g:=λp L g hg=>by
     obtain L|L:=L
     exact(lY q4 L hg).1;exact(lY q6 L hg).1
    have fr:∀p,(p∈ln\/p∈lo) ->Apart p.2 (.slice a4 h.roots.length m4)/\Apart p.2 (.slice a6 h.aA.length m6)/\Apart p.2 (.slice a8 h.done.length m8):=λp L=>⟨λg e1 e2=>Nat.lt_irrefl _<|Nat.lt_of_lt_of_le (t7 g<|.inl e2)<|wl p L g e1,λg e1 e2=>Nat.lt_irrefl _<|Nat.lt_of_lt_of_le (t7 g<|.inr<|.inl e2)<|wl p L g e1,λg e1 e2=>Nat.lt_irrefl _<|Nat.lt_of_lt_of_le (t7 g<|.inr<|.inr e2)<|wl p L g e1⟩
    exact I5 F q2 (q3.less F) (q4.less F) (q5.less F) (q6.less F) (t1.below h8') (t2.below h8') (t3.below h8') (OI.nil _ _) q8 (λp L=>fr p (.inl L)) (λp L=>fr p (.inr L)) t4 t5 t6)
   have hfin:ψ w.heap.size w wr:=HB8.out.trans<|h8r.mono F;clear h8' HT HK
   go_wp2_with fail
   go_ret;exact⟨⟨_,rfl,HE.out⟩,hfin⟩
end
section
variable{x:Z8}{B:Nat}{t:Zv}{w:ε}
def km{k:Nat}{a b c d}(h:w.heap[k]?=U (Ψ #[a,b,c,d] t (0,0))):w k=U a/\w (k,1)=U b/\w (k,2)=U c/\w (k,3)=U d/\
 w.frozen? k=κ/\w.frozen? (k,1)=κ/\w.frozen? (k,2)=κ/\w.frozen? (k,3)=κ:=by simp[Ξ,φ,h]
def dB{o a}(h:w a=U x):(w.alloc o) a=U x:=by simp[World.cell?_alloc_some,h]
def dO{a}(h:w a=U x):w.drew.cell? a=U x:=h
def da{i b j:Nat}{v}(a:¬B=b)(h:w (b,j)=U x):(w.setCell (B,i) v) (b,j)=U x:=(World.cell?_setCell_far w (B,i) (b,j) v a).trans h
structure Small(g:GH):Prop where
 cells:∀c∈g.old++g.new,c.2.length<=1000/\∀v∈c.2,Sm v.2
 roots:g.roots.length<=1000/\∀v∈g.roots,Sm v.2
 aA:g.aA.length<=1000/\∀v∈g.aA,Sm v.2
 done:g.done.length<=1000/\∀v∈g.done,Sm v.2
 bw:g.old.length<=1000
 news:g.new.length<=1000
def uX(g:GH)(j:Nat):List HC:=if j=0 then []else if j=1 then g.old else g.old++g.new
def qx(w V:ε)(S B:Nat)(s4 s6 s8:Z8)(l4:List HV)(l6 l8:List Int)(cs:List HC):Prop:=ψ S w V/\sK V S B 56 [s4,s6,s8] cs/\OV V S s4 l4/\OI V S s6 l6/\OI V S s8 l8
def Kh{g:Nat}{y z u}(a b c d)(h:w.heap[g]?=U (Ψ #[x,y,z,u] t (0,0))):
 ((((w.setCell g a).setCell (g,1) b).setCell (g,2) c).setCell (g,3) d).heap[g]?=U (Ψ #[a,b,c,d] t (0,0))/\
 (∀j,j≠g->((((w.setCell g a).setCell (g,1) b).setCell (g,2) c).setCell (g,3) d).heap[j]?=w.heap[j]?)/\
 (∀B,B<=g->ψ B w ((((w.setCell g a).setCell (g,1) b).setCell (g,2) c).setCell (g,3) d))/\
 ((((w.setCell g a).setCell (g,1) b).setCell (g,2) c).setCell (g,3) d).heap.size=w:=
 ⟨heap_setCell_same (i:=3) (heap_setCell_same (i:=2) (heap_setCell_same (i:=1) (heap_setCell_same (i:=0) h))),
   λj e=>(aa e).trans<|(aa e).trans<|(aa e).trans<|aa e,
   λB f=>((((ο B w).setCell (p:=⟨g,0,M⟩) f _).setCell (p:=⟨g,1,M⟩) f _).setCell (p:=⟨g,2,M⟩) f _).setCell (p:=⟨g,3,M⟩) f _,by simp[Zc]⟩
def jD{w8 S s4 b c f l h}(r:ψ S w w8)(g:S<=B)(d:w8.heap[B]?=U (Ψ #[(),(),(),()] 56 (0,0)))(h4:OV w8 S s4 f)(o:OI w8 S b l)(n:OI w8 S c h):
 qx w ((((w8.setCell B ()).setCell (B,1) s4).setCell (B,2) b).setCell (B,3) c) S B s4 b c f l h []:=by
 obtain⟨m,a,e,_⟩:=Kh () s4 b c d;exact⟨r.trans<|e S g,⟨_,[],g,m,OC.nil _ _,⟨rfl,λi k x t s e1 _=>by simp at e1,λi j p q _ e1 _=>by simp at e1⟩⟩,hZ h4 d (by decide) a,hZ o d (by decide) a,hZ n d (by decide) a⟩
def qx.below{w a e S B s4 d f c g i cs}(h:qx w a S B s4 d f c g i cs)(hs:S<=a)(b:ψ a a e):qx w e S B s4 d f c g i cs:=⟨h.1.trans<|b.mono hs,h.2.1.below b,h.2.2.1.below b,h.2.2.2.1.below b,h.2.2.2.2.below b⟩
def tQ{b e size n v xs c fr}(h:w.ownsRow B e size v n xs)(hb:w.heap[b]?=U (.cells c t fr))(d:t≠e):v.ownBlock≠U b:=λa=>cF h hb d a
def qx.step{a w2 j}{S bx:Nat}{s4 o p q s' so v u y t cs l k vs}(h:qx w a S B s4 o p u y t cs)(hs:S<=a)(G:S<=B)(hb:a.heap[B]?=U (Ψ #[q,s4,o,p] 56 (0,0)))(s:OC a S q l)(z:df a S l cs)(n:a.heap[bx]?=U (Ψ #[so,v] 22 (0,0)))(f:ψ a a w2)(F:OV w2 a x vs)(m:w2.grownBy j q.ownBlock)(D:OC j S s' (l++[(k,x)])):
 qx w (j.setCell B s') S B s4 o p u y t (cs++[(k,vs)])/\(j.setCell B s').heap[bx]?=U (Ψ #[so,v] 22 (0,0)):=by
 obtain⟨q1,H,A,E,C⟩:=h;obtain⟨r1,r2⟩:=Ok (rest:=[s4,o,p]) G hb s z hs (by decide) f F m D;have b:OC w2 S q l:=s.below f;have g:=(f.block B (Ω.1 hb).1).trans hb;have d:=(f.block bx (Ω.1 n).1).trans n;have i:=(m.block B (Ω.1 g).1 λe=>cF b g (by decide) e.symm).trans g;have r:=(m.block bx (Ω.1 d).1 λe=>cF b d (by decide) e.symm).trans d;have c:∀k,k≠B->(j.setCell B s').heap[k]?=j.heap[k]?:=λk h=>aa h;refine⟨⟨q1.trans r2,r1,hZ (fy (A.below f) b (by decide) m) i (by decide) c,hZ (fy (E.below f) b (by decide) m) i (by decide) c,hZ (fy (C.below f) b (by decide) m) i (by decide) c⟩,?_⟩;rw[c bx (λe=>by subst e;rw[hb]at n;injection n with n;injection n with _ h4 _;exact absurd h4<|by decide)];exact r
def DB(w b g)(h:mi w b g)(hs:Small g):
 ZU prog 119 #[.pointer b] w λe w'=>(∃r,e=.returned r/\tH w' r (plain g))/\ψ w w w':=by
 have HS:=Y hs;obtain⟨n,o,r,wi,d,m,c0,c1,c2,c3,c4,c5,T,h2,h3,h4,h5,h6⟩:=h;have hb:=az c0;have H1:=Y T;have H2:=Y h2;have H3:=Y h3;have H4:=Y h4;have H5:=Y h5;obtain⟨an,mn,rfl,_,_,_⟩:=T;obtain⟨ao,mo,rfl,_,_,_⟩:=h2;obtain⟨ar,mr,rfl,_,_,_⟩:=h3;obtain⟨aw,mw,rfl,_,_,_⟩:=h4;obtain⟨ad,md,rfl,_,_,_⟩:=h5;have hol:(0:Int)<=(g.old.length:Int)/\(g.old.length:Int)<=1000000:=by have:=hs.bw;omega
 have y:=af w<|Ψ #[(),(),(),()] 56;have C:=Y<|Z c0<|Z c1<|Z c2<|Z c3 c4;clear hs h6 c0 c5
 go_enter (fU func119 rfl),ntmps119
 go_upto_region 2 with fail
 have hob:=Θ w<|Ψ #[(),(),(),()] 56;have D:w.heap.size<(w.alloc<|Ψ #[(),(),(),()] 56).heap.size:=by simp
 generalize w.alloc _=z at y hob D⊢;replace H1:=Y<|H1.out.below y;replace H2:=Y<|H2.out.below y;replace H3:=Y<|H3.out.below y;replace H4:=Y<|H4.out.below y;replace H5:=Y<|H5.out.below y;replace C:=Y<|Z (cG y C.out.1 hb)<|cG y C.out.2.1 hb;replace c2:=cG y c2 hb;replace c3:=cG y c3 hb;replace c4:=cG y c4 hb;clear c1;replace hb:b<z:=Nat.lt_of_lt_of_le hb y.size;have HB1:=Y y;have HOB:=Y hob;clear y hob;generalize hrb:w.heap.size=rb at HOB D⊢;have hrl:g.roots.length<=1000000:=by have:=HS.out.roots.1;omega
 have hwl:g.aA.length<=1000000:=by have:=HS.out.aA.1;omega
 have hdl:g.done.length<=1000000:=by have:=HS.out.done.1;omega
 obtain⟨RL,hRL⟩:∃x,Hid (x=g.roots.map (cp (g.old.length:Int))):=⟨_,Y rfl⟩;obtain⟨N,hWV⟩:∃x,Hid (x=g.aA.map (cp (g.old.length:Int))):=⟨_,Y rfl⟩;obtain⟨P,hDV⟩:∃x,Hid (x=g.done.map (cp (g.old.length:Int))):=⟨_,Y rfl⟩;have hwv:N.length<=1000000:=by rw[hWV.out,ω];exact hwl
 have hdv:P.length<=1000000:=by rw[hDV.out,ω];exact hdl
 refine Rg.pT [.eq (.pointer b),.eq<|.pointer b,.eq<|.pointer b,.eq<|.pointer (b,2),.eq<|.slice ar g.roots.length mr,.eq g.old.length,SP.ov z RL,.eq<|.pointer b,.eq<|.pointer b,.eq<|.pointer b,.eq<|.pointer (b,3),.eq<|.slice aw g.aA.length mw,.eq g.old.length,SP.ov z N,SP.oi z<|N.map (·.2),.eq<|.pointer b,.eq<|.pointer b,.eq<|.pointer b,.eq<|.pointer (b,4),.eq<|.slice ad g.done.length md,.eq g.old.length,SP.ov z P,SP.oi z<|P.map (·.2),SP.agI z RL (N.map (·.2))<|P.map (·.2),SP.aey z] (by kernel_rfl) (by kernel_rfl) (by rfl) ?_ ?_
 ·refine⟨?_,?_,?_,?_,?_,?_,?_,?_,?_,?_,?_,?_,?_,?_,?_,?_,?_,?_,?_,?_,?_,?_,?_,?_,?_,trivial⟩
  all_goals intro a2 w2 hb2 s q
  all_goals have Q:ψ z z w2:=(ο _ z).drew.trans hb2
  all_goals have y2:=cG Q c2 hb
  all_goals have y3:=cG Q c3 hb
  all_goals have y4:=cG Q c4 hb
  all_goals first|(have k0:=s 0 rfl;have k1:=s 3 rfl;simp at k0 k1;(try have q0:=Rg.lT (q 0 _ rfl rfl) rfl);(try have q1:=Rg.lT (q 1 _ rfl rfl) rfl);(try have q2:=Rg.lT (q 2 _ rfl rfl) rfl);(try have q3:=Rg.lT (q 3 _ rfl rfl) rfl);(try have q4:=Rg.lT (q 7 _ rfl rfl) rfl);(try have q5:=Rg.lT (q 8 _ rfl rfl) rfl);(try have q6:=Rg.lT (q 9 _ rfl rfl) rfl);(try have q7:=Rg.lT (q 10 _ rfl rfl) rfl);(try have q8:=Rg.lT (q 15 _ rfl rfl) rfl);(try have q9:=Rg.lT (q 16 _ rfl rfl) rfl);(try have q10:=Rg.lT (q 17 _ rfl rfl) rfl);(try have q11:=Rg.lT (q 18 _ rfl rfl) rfl);clear s q;go_simp;exact⟨_,rfl,.refl _ _,rfl⟩)|skip
  ·have d0:=Rg.lT (q 4 _ rfl rfl) rfl;have d1:=Rg.lT (q 5 _ rfl rfl) rfl;clear s q;go_simp;refine(gz _ _ g.roots _ (H3.out.below Q) hrl HS.out.roots.2 hol).mono ?_;rintro e w3 ⟨⟨r,rfl,O⟩,F⟩;rw[<-hRL.out]at O;exact⟨_,rfl,F,OV.less O Q.size⟩
  ·have d0:=Rg.lT (q 11 _ rfl rfl) rfl;have d1:=Rg.lT (q 12 _ rfl rfl) rfl;clear s q;go_simp;refine(gz _ _ g.aA _ (H4.out.below Q) hwl HS.out.aA.2 hol).mono ?_;rintro e w3 ⟨⟨r,rfl,O⟩,F⟩;rw[<-hWV.out]at O;exact⟨_,rfl,F,OV.less O Q.size⟩
  ·obtain⟨v,d0,hv⟩:∃v,(a2.tmps[28]?).getD undef=v/\OV w2 z v _:=⟨_,rfl,q 13 _ rfl rfl⟩;clear s q;go_simp;refine(lV _ _ _ hv.reads hwv).mono ?_;rintro e w3 ⟨⟨r,rfl,O⟩,F⟩;exact⟨_,rfl,F,OI.less O Q.size⟩
  ·have d0:=Rg.lT (q 19 _ rfl rfl) rfl;have d1:=Rg.lT (q 20 _ rfl rfl) rfl;clear s q;go_simp;refine(gz _ _ g.done _ (H5.out.below Q) hdl HS.out.done.2 hol).mono ?_;rintro e w3 ⟨⟨r,rfl,O⟩,F⟩;rw[<-hDV.out]at O;exact⟨_,rfl,F,OV.less O Q.size⟩
  ·obtain⟨v,d0,hv⟩:∃v,(a2.tmps[36]?).getD undef=v/\OV w2 z v _:=⟨_,rfl,q 21 _ rfl rfl⟩;clear s q;go_simp;refine(lV _ _ _ hv.reads hdv).mono ?_;rintro e w3 ⟨⟨r,rfl,O⟩,F⟩;exact⟨_,rfl,F,OI.less O Q.size⟩
  ·obtain⟨v1,d1,hv1⟩:∃v,(a2.tmps[21]?).getD undef=v/\OV w2 z v _:=⟨_,rfl,q 6 _ rfl rfl⟩;obtain⟨v2,d2,hv2⟩:∃v,(a2.tmps[29]?).getD undef=v/\OI w2 z v _:=⟨_,rfl,q 14 _ rfl rfl⟩;obtain⟨v3,d3,hv3⟩:∃v,(a2.tmps[37]?).getD undef=v/\OI w2 z v _:=⟨_,rfl,q 22 _ rfl rfl⟩;obtain⟨_,_,rfl,_⟩:=aF hv1;obtain⟨_,_,rfl,_⟩:=aF hv2;obtain⟨_,_,rfl,_⟩:=aF hv3;simp only[ω]at hv2 hv3;clear s q;go_simp;exact⟨_,rfl,.refl _ _,_,_,_,rfl,hv1,hv2,hv3⟩
  ·clear s q;go_simp;exact⟨_,rfl,af _ _,_,rfl,Θ _ _,Q.size⟩
 ·rintro fl w8 hb8 ⟨s0,s1,s2,s3,s4,s5,s6,s7,s8,s9,s10,s11,s12,s13,s14,s15,s16,s17,s18,s19,s20,s21,s22,⟨x4,x6,x8,s23,S4,S6,S8⟩,⟨B,s24,xo,hlB⟩,-⟩;have s23:fl 23=_:=s23;have s24:fl 24=_:=s24;obtain⟨a4,m4,rfl,_⟩:=aF S4;obtain⟨a6,m6,rfl,_⟩:=aF S6;obtain⟨a8,m8,rfl,_⟩:=aF S8;simp only[ω]at S4 S6 S8 s23;simp[go_sem,s23,s24];have H:ψ z z w8:=(ο _ z).drew.trans hb8;have HP:=Y<|jD H hlB xo S4 S6 S8;obtain⟨xc0,xc1,xc2,xc3,xf0,xf1,xf2,xf3⟩:=km xo;clear S4 S6 S8 s0 s1 s2 s3 s4 s5 s6 s7 s8 s9 s10 s11 s12 s13 s14 s15 s16 s17 s18 s19 s20 s21 s22 s23 s24 hb8 H xo c2 c3 c4
  go_wp2_with fail
  generalize ((((w8.setCell B ()).setCell (B,1)<|.slice a4 RL.length m4).setCell ⟨B,2,M⟩<|.slice a6 N.length m6).setCell ⟨B,3,M⟩<|.slice a8 P.length m8)=v9 at HP⊢;clear xc0 xc1 xc2 xc3 xf0 xf1 xf2 xf3;obtain⟨S,J⟩:∃S,S=z.heap.size:=⟨_,rfl⟩;rw[<-J]at HP hlB;have H:ψ z.heap.size z v9:=by rw[<-J];exact HP.out.1
  have hlS:S<=v9.heap.size:=by rw[J];exact H.size
  have d0:=(H.cell (p:=⟨b,0,M⟩) hb).trans C.out.1;have d1:=(H.cell (p:=⟨b,1,M⟩) hb).trans C.out.2
  go_region_held3 (λx=>x.cell? ⟨b,1,M⟩=U (.slice ao g.old.length mo)/\x.cell? ⟨b,0,M⟩=U (.slice an g.new.length mn)) ((refine⟨?_,?_⟩<;>(repeat (first|with_reducible assumption|with_reducible refine dB ?_|with_reducible refine dO ?_)))) (fail)
  go_wp2_with fail
  have hx0:((v9.alloc<|Ψ #[.slice ao g.old.length mo,.slice an g.new.length mn] 22).drew).heap[v9.heap.size]?=U (Ψ #[.slice ao g.old.length mo,.slice an g.new.length mn] 22 (0,0)):=Θ v9 _;have HPX:=Y<|HP.out.below hlS<|(af v9<|Ψ #[.slice ao g.old.length mo,.slice an g.new.length mn] 22).drew;have hlx:S<=((v9.alloc<|Ψ #[.slice ao g.old.length mo,.slice an g.new.length mn] 22).drew).heap.size:=by simp;omega
  clear HP d0 d1 H hlS;generalize (v9.alloc _).drew=u9 at hx0 HPX hlx⊢;generalize v9.heap.size=bx at hx0⊢;have HL:∀j:Nat,j<2->∃ax mx l,(#[θ ao g.old.length mo,.slice an g.new.length mn]:Array Z8)[j]?=U (.slice ax l.length mx)/\sa z (.slice ax l.length mx) l/\uX g (j+1)=uX g j++l/\(∀c∈l,c∈g.old++g.new)/\l.length<=1000:=by
   intro j hj
   match j,hj with
   |0,_=>exact⟨ao,mo,g.old,rfl,H2.out,rfl,λc hc=>List.mem_append_left _ hc,HS.out.bw⟩
   |1,_=>exact⟨an,mn,g.new,rfl,H1.out,rfl,λc hc=>List.mem_append_right _ hc,HS.out.news⟩
  replace HL:=Y HL
  go_loopw [51] (λi wr=>∃j:Nat,j<=2/\i=Δ Γ j/\Hid (qx z wr S B (.slice a4 RL.length m4) (.slice a6 N.length m6) (.slice a8 P.length m8) RL (N.map (·.2)) (P.map (·.2))<|(uX g j).map<|Bz (g.old.length:Int))/\wr.heap[bx]?=U (Ψ #[.slice ao g.old.length mo,.slice an g.new.length mn] 22 (0,0))/\S<=wr.heap.size) (λi _=>2-(intOf i).toNat)
  case atStart=>exact⟨0,by omega,rfl,HPX,hx0,hlx⟩
  case round=>
   clear HPX hx0 hlx;obtain⟨j,hj,rfl,HR,G,hlr⟩:=hrel;by_cases hlt:j<2
   ·obtain⟨ax,mx,l,hax,hvl,hpt,hin,hll⟩:=HL.out j hlt;have hcx:wr.cell? ⟨bx,j,M⟩=U (.slice ax l.length mx):=by simp only[Ξ,G];exact hax
    have HV:=Y hvl;obtain⟨ax',mx',he,hmx,N4,haz⟩:=hvl;cases he
    have HZ:=Y haz;have HIN:=Y hin;have OG:=Y hpt;clear hax haz hin hpt;have HXR:=Y G;clear G
    go_wp2_with fail
    clear hcx
    go_loopw [57] (λi wr=>∃k:Nat,k<=l.length/\i=Δ Γ k/\Hid (qx z wr S B (.slice a4 RL.length m4) (.slice a6 N.length m6) (.slice a8 P.length m8) RL (N.map (·.2)) (P.map (·.2))<|(uX g j++l.take k).map<|Bz (g.old.length:Int))/\wr.heap[bx]?=U (Ψ #[.slice ao g.old.length mo,.slice an g.new.length mn] 22 (0,0))/\S<=wr.heap.size) (λi _=>l.length-(intOf i).toNat)
    case atStart=>exact⟨0,by omega,rfl,by simpa using HR,HXR.out,hlr⟩
    case round=>
     clear HR HXR hlr;obtain⟨k,hk,rfl,HR,G,hlr⟩:=hrel;by_cases hlk:k<l.length
     ·obtain⟨ba,oa,e,hba,hat⟩:=HZ.out (by omega);cases e
      obtain⟨kd,X,e1⟩:=cQ hlk;have hbr:ψ z.heap.size z wr:=by rw[<-J];exact HR.out.1
      obtain⟨f1,x,f2,hx⟩:=(hat.below hbr hba) k kd X e1;have hsc:=HS.out.cells _<|HIN.out _<|μ e1;dsimp only at hsc;have HX:=Y hx;obtain⟨av,mv,rfl,_,_,_⟩:=hx;have E1:=Y e1;have hvn:X.length<=1000000:=by omega
      obtain⟨sc,ln,hSb,t,T,h2⟩:=HR.out.2.1;have HXR:=Y G;have HPP:=Y<|Z t<|Z T h2;have hln:ln.length<=1000000:=by
       have e1:=h2.1;have:=HS.out.bw;have:=HS.out.news;have e2:(uX g j).length<=g.old.length+g.new.length:=by unfold uX;split<;>(try split)<;>simp
       simp at e1;omega
      obtain⟨an1,mn1,rfl,_⟩:=aF T;have hBl:B<wr.heap.size:=(Ω.1 t).1;have cs0:wr.cell? ⟨B,0,M⟩=U (.slice an1 ln.length mn1):=by simp[Ξ,t]
      have fs0:wr.frozen? ⟨B,0,M⟩=κ:=by simp[φ,t]
      have HN:=Y<|tQ T t<|by decide
      have HN2:Hid ((θ an1 ln.length mn1).ownBlock≠U wr.heap.size):=Y λe=>Nat.lt_irrefl _ (T.lt _ e).2;have hsz:=hbr.size;clear hat e1 G t T h2
      go_wp2_with fail
      have A:=af wr<|Ψ #[kd,.slice av X.length mv] 76;have n0:(wr.alloc<|Ψ #[kd,.slice av X.length mv] 76).cell? ⟨wr.heap.size,0,M⟩=U (Δ Γ kd):=by go_simp
      have n1:(wr.alloc<|Ψ #[kd,.slice av X.length mv] 76).cell? (wr.heap.size,1)=U (.slice av X.length mv):=by go_simp
      have D:wr.heap.size<(wr.alloc<|Ψ #[kd,.slice av X.length mv] 76).heap.size:=by simp
      have cs1:=cG A cs0 hBl;have fs1:=(A.frozen (p:=⟨B,0,M⟩) hBl).trans fs0;generalize wr.alloc _=u1 at A n0 n1 D cs1 fs1⊢;have hd0:=A.drew;have Wq:B<u1:=Nat.lt_of_lt_of_le hBl A.size;have hneb:¬B=wr:=by omega
      clear cs0 fs0 f1 f2;refine Rg.aaH 7 4 (λx=>x wr.heap.size=U (Δ Γ kd)/\x ⟨wr.heap.size,1,M⟩=U (.slice av X.length mv)/\x.cell? ⟨B,0,M⟩=U (.slice an1 ln.length mn1)) (by kernel_rfl) (by kernel_rfl) (λc a d v w h=>by cases d<;>exact h) ⟨n0,n1,cs1⟩ ?_;simp only[Nat.reduceAdd,List.take_succ_cons,List.take_zero,List.drop_succ_cons,List.drop_zero]
      iterate 7
       (refine Rg.fp.step (v:=?_) (by rfl) (λu hu=>?_) ?_
        rotate_left
        (obtain⟨hu0,hu1,hu2⟩:=hu
         go_simp
         try rfl))
      refine Rg.fp.nil<|Rg.pA.succ ?_;simp only[Act.put,List.setIfInBounds_toArray,List.set_cons_zero,Zp];refine Zo rfl λK hK=>?_;go_simp
      with_reducible refine(gz _ (.slice av X.length mv) X _ ((HX.out.below A).below<|(ο _ _).drew) hvn hsc.2 hol).mono ?_
      rintro e w5 ⟨⟨r5,rfl,Pk⟩,hb5⟩;have E:ψ u1 u1 w5:=((ο u1 u1).drew).trans hb5;have WN:=Y Pk;obtain⟨a5,m5,rfl,_⟩:=aF Pk;clear Pk;simp only[ω]at WN;have Wk:=cG E n0 D;have Wl:=cG E n1 D;have OE:=cG E cs1 Wq;have q53:=(E.frozen (p:=⟨B,0,M⟩) Wq).trans fs1;have afj:B<w5:=Nat.lt_of_lt_of_le Wq E.size;have hn5:wr.heap.size<w5:=Nat.lt_of_lt_of_le D E.size;refine hK _ _ ⟨⟨Wk,Wl,OE⟩,Rg.pA.succ ?_⟩;clear hK K;refine Zo rfl λK hK=>?_;go_simp;refine hK _ _ ⟨⟨Wk,Wl,OE⟩,Rg.pA.succ ?_⟩;clear hK K;refine Zo rfl λK hK=>?_;go_simp;refine hK _ _ ⟨⟨dB Wk,dB Wl,dB OE⟩,Rg.pA.succ ?_⟩;clear hK K;refine Zo rfl λK hK=>?_;refine aX rfl _ _ 22 (by rfl) (.slice an1 ln.length mn1) (.slice w5.heap.size 1 1) (by rfl) (by rfl) _ (eW (k:=kd) (x:=.slice a5 X.length m5) ((HPP.out.2.1.below<|A.trans<|E.mono A.size).below<|by first|exact(af w5 _).drew|exact(af w5 _)) (Θ w5 _) (by rfl) (by omega) (by simp;omega)) ?_;intro v' w6 h2;obtain⟨hoc,hgr,hnb,gg,mg,rfl⟩:=h2;have gc:=(hgr.cell_far B (by simp;omega)<|ZY HN.out).trans<|(((af w5 _).drew).cell (p:=⟨B,0,M⟩) afj).trans OE;have gf:=(hgr.frozen_far B (by simp;omega)<|ZY HN.out).trans<|(((af w5 _).drew).frozen (p:=⟨B,0,M⟩) afj).trans q53;have gn0:=(hgr.cell_far wr.heap.size (by simp;omega)<|ZY HN2.out).trans<|(((af w5 _).drew).cell (p:=⟨wr.heap.size,0,M⟩) hn5).trans Wk;have gn1:=(hgr.cell_far ⟨wr.heap.size,1,M⟩ (by simp;omega)<|ZY HN2.out).trans<|(((af w5 _).drew).cell (p:=⟨wr.heap.size,1,M⟩) hn5).trans Wl;refine hK _ _ ⟨⟨gn0,gn1,gc⟩,Rg.pA.zero ?_⟩;clear hK K
      all_goals
       go_wp2_with fail
       obtain⟨p1,p2,p3⟩:=HPP.out;obtain⟨e1,e2⟩:=qx.step HR.out hlr hlB p1 p2 p3 HXR.out (by first|exact A.trans ((E.trans<|(af w5 _).mono E.size).mono A.size)|exact A.trans<|(E.trans<|(af w5 _).drew.mono E.size).mono A.size) (by first|exact OV.less (B':=wr.heap.size) (WN.out.below<|af w5 _) (Nat.le_of_lt D)|exact OV.less (B':=wr.heap.size) (WN.out.below (af w5 _).drew)<|Nat.le_of_lt D) hgr hoc;have e3:S<=((w6.setCell B<|.slice gg (ln.length+1) mg)).heap.size:=by have:=e1.1.size;rw[J];exact this
       go_roundw
       case rel=>refine⟨k+1,by omega,by go_num,Y ?_,e2,e3⟩;rw[bW E1.out,<-List.append_assoc,ζ];exact e1
       case measure=>simp[intOf];omega
     ·have hke:k=l.length:=by omega
      subst hke;rw[Zg,<-OG.out]at HR;clear hlk
      go_wp2_with fail
      go_roundw
      case rel=>exact⟨j+1,by omega,by go_num,HR,G,hlr⟩
      case measure=>simp[intOf];omega
   ·have hje:j=2:=by omega
    subst hje;obtain⟨sc,ln,hSb,t,T,h2⟩:=HR.out.2.1;have Jf:wr.heap[rb]?=U (Ψ #[(),(),(),()] 56 (0,0)):=(HR.out.1.block rb (by rw[J];exact D)).trans HOB.out;have HF:=Y<|Z t<|Z T<|Z h2 Jf;obtain⟨y0,y1,y2,y3,_,_,_,_⟩:=km t;obtain⟨z0,z1,z2,z3,v0,v1,v2,v3⟩:=km Jf;have hfin:ψ rb w wr:=by rw[<-hrb];exact HB1.out.trans<|HR.out.1.mono (by rw[J,hrb];exact Nat.le_of_lt D)
    obtain⟨Wr,Ws,rfl,_⟩:=aF T;clear t T h2 Jf G
    go_wp2_with fail
    obtain⟨hk,L,hbl,_⟩:=Kh (.slice Wr ln.length Ws) (.slice a4 RL.length m4) (.slice a6 N.length m6) (.slice a8 P.length m8) HF.out.2.2.2;have W:=hfin.trans<|hbl rb .refl;clear hbl;generalize ((((wr.setCell rb<|.slice Wr ln.length Ws).setCell (rb,1)<|.slice a4 RL.length m4).setCell (rb,2)<|.slice a6 N.length m6).setCell (rb,3)<|.slice a8 P.length m8)=f at hk L W⊢;obtain⟨x0,x1,x2,x3,_,_,_,_⟩:=km hk;refine Zm (v:=.agg #[.slice Wr ln.length Ws,.slice a4 RL.length m4,.slice a6 N.length m6,.slice a8 P.length m8]) (by simp[Zi,results119,go_sem,x0,x1,x2,x3]) rfl ⟨⟨_,rfl,?_⟩,W⟩;obtain⟨g1,g2,g3,g4⟩:=HF.out;obtain⟨p1,p2,p3,p4,p5⟩:=HR.out;obtain rfl:=hRL.out;obtain rfl:=hWV.out;obtain rfl:=hDV.out;exact⟨_,_,_,_,rfl,N5.reads ⟨ln,hZ g2 g4 (by decide) L,lA g3 g4 (by decide) L⟩,OV.reads (B:=S)<|hZ p3 g4 (by decide) L,OI.reads (B:=S)<|hZ p4 g4 (by decide) L,OI.reads (B:=S)<|hZ p5 g4 (by decide) L⟩
end
def Qs(p x w)(c:w p=U x)(d:w.frozen? p=κ):
 CallsD prog 135 #[ZH (U p)] .returning w λe g w'=>e=.returned (.tuple #[])/\g=.returning/\∃w1,ψ w w w1/\w'=w1.setCell p (Δ Γ 0):=by
 have b:=block_lt_of_cell c;refine callsD_of_wpS (fU func135 rfl) rfl λa cs f=>?_;apply wpS_region;simp[wpOpsS,go_sem,recoverD,f,ntmps135,Exit.thenS];refine(Ad w).mono ?_;rintro e w1 ⟨rfl,hb⟩;have i:=(hb.cell b).trans c;have h:=(hb.frozen b).trans d;cases a
 simp_all [go_sem,bodyPostS,Zi,results135]
 exact⟨w1,hb,rfl⟩
def pS.reads{w B v h}(a:pS w B v h):tH w v h:=by obtain⟨c,r,b,d,e,g,f,h3,h4⟩:=a;exact⟨c,r,b,d,e,g.reads,f.reads,h3.reads,h4.reads⟩
def pS.blocks{w w' B v h}(A:pS w B v h)(s:∀(g:Nat) c t fr,w.heap[g]?=U (Ψ c t fr) ->t≠56->w'.heap[g]?=w.heap[g]?):pS w' B v h:=by
 have row:∀{e size n:Nat} {v:Z8} {xs:List Z8},e≠56->w.ownsRow B e size v n xs->w'.ownsRow B e size v n xs:=λC m=>aS m λg b=>by
  obtain⟨_,⟨rfl,_⟩|⟨D,y,z,rfl,E,a,_⟩⟩:=m;cases b
  cases b
  exact s _ _ _ _ a C
 obtain⟨c,r,p,d,e,⟨l,u,h5,o⟩,q,h3,h4⟩:=A;exact⟨c,r,p,d,e,⟨l,row (by simp) u,h5,λi k x j f e1 e2=>⟨(o i k x j f e1 e2).1,row (by simp) (o i k x j f e1 e2).2⟩⟩,row (by decide) q,row (by decide) h3,row (by decide) h4⟩
def pS.below{w w' B v h}(a:pS w B v h)(d:ψ w w w'):pS w' B v h:=a.blocks λg c t fr b _=>d.block g (Ω.1 b).1
def pS.less{w B B' v h}(b:pS w B v h)(a:B'<=B):pS w B' v h:=by obtain⟨c,r,f,d,e,i,g,h3,h4⟩:=b;exact⟨c,r,f,d,e,i.less a,eV g a,eV h3 a,eV h4 a⟩
def SP.at_(h:PH):Rg.SP:=⟨λv w=>∃b,v=.pointer (b:Nat)/\qw w b h,λ_ _ _ hb ⟨b,e,hp⟩=>⟨b,e,hp.below hb⟩⟩
def SP.ph(B:Nat)(h:PH):Rg.SP:=⟨λv w=>pS w B v h,λ_ _ _ hb hp=>hp.below hb⟩
def aeA(w v1 v2 h k)(h1:tH w v1 h)(h2:tH w v2 k)(hh:Xh h)(hk:Xh k)(he:normal h=normal k):
 ZU prog 71 #[v1,v2] w λe w'=>e=.returned (.tuple #[.bool Zn,Δ Γ 0])/\ψ w w w':=by
 have hmf:∀(fn:Fn) (first cap:Array Z8) (w:ε),(Instr.makeFunc fn first cap).run prog w=.ok (.func fn first cap) w:=λ_ _ _ _=>rfl;have H1:=Y h1;have H2:=Y h2;have HH:=Y hh;have HK:=Y hk;have HE:=Y he;obtain⟨c,r,D,d,rfl,-⟩:=h1;obtain⟨H,E,n,G,rfl,-⟩:=h2;clear hh hk he
 go_enter_defers (fU func71 rfl),ntmps71
 go_wp2_with fail
 have z:=((af w<|Ψ #[c,r,D,d] 56).alloc (by simp)<|Ψ #[H,E,n,G] 56).alloc (by simp;omega)<|Ψ #[Δ Γ 0] 34;have z1:(((w.alloc<|Ψ #[c,r,D,d] 56).alloc<|Ψ #[H,E,n,G] 56).alloc<|Ψ #[Δ Γ 0] 34).heap[w.heap.size]?=U (Ψ #[c,r,D,d] 56):=(Z2 _ _ _ (by simp;omega)).trans<|(Z2 _ _ _<|by simp).trans<|Θ w _;have z2:(((w.alloc<|Ψ #[c,r,D,d] 56).alloc<|Ψ #[H,E,n,G] 56).alloc<|Ψ #[Δ Γ 0] 34).heap[w.heap.size+1]?=U (Ψ #[H,E,n,G] 56):=(Z2 _ _ _<|by simp).trans (by simpa using Θ (w.alloc<|Ψ #[c,r,D,d] 56) (Ψ #[H,E,n,G] 56));have z3:(((w.alloc<|Ψ #[c,r,D,d] 56).alloc<|Ψ #[H,E,n,G] 56).alloc<|Ψ #[Δ Γ 0] 34).heap[w.heap.size+1+1]?=U (Ψ #[Δ Γ 0] 34):=by simpa using Θ ((w.alloc<|Ψ #[c,r,D,d] 56).alloc<|Ψ #[H,E,n,G] 56) (Ψ #[Δ Γ 0] 34)
 have P:(((w.alloc<|Ψ #[c,r,D,d] 56).alloc<|Ψ #[H,E,n,G] 56).alloc<|Ψ #[Δ Γ 0] 34).heap.size=w.heap.size+3:=by simp
 generalize ((w.alloc _).alloc _).alloc _=J at z z1 z2 z3 P⊢;have H1':=Y<|H1.out.below z;have H2':=Y<|H2.out.below z;have B:=Y<|Z z1<|Z z2<|Z z3<|Z P z;clear z1 z2 z3 P z;refine Rg.Py [.eq (.agg #[c,r,D,d]),SP.at_ h,SP.ph J<|normal h,.eq<|.agg #[H,E,n,G],SP.at_ k,SP.ph J<|normal k,SP.aey J,SP.aey J] (λi=>i==6||i==7) (by kernel_rfl) (by kernel_rfl) (by rfl) ?_ ?_
 ·refine⟨?_,?_,?_,?_,?_,?_,?_,?_,trivial⟩
  all_goals intro a2 w2 hb2 a j
  all_goals have S:ψ J J w2:=(ο _ J).drew.trans hb2
  ·have b2:=a 2 rfl;simp at b2;obtain⟨q0,q1,q2,q3⟩:=(dT<|(S.block w (by have:=B.out.2.2.2.1;omega)).trans B.out.1).1;clear a j;go_simp;exact⟨_,rfl,.refl _ _,rfl⟩
  ·have d0:=Rg.lT (j 0 _ rfl rfl) rfl;clear a j;go_simp;refine(PY _ _ h (H1'.out.below S) HH.out).mono ?_;rintro e w3 ⟨⟨b,rfl,N⟩,m⟩;exact⟨_,rfl,m,b,rfl,N.reads⟩
  ·obtain⟨b,d0,hp⟩:∃b,(a2.tmps[10]?).getD undef=.pointer (b:Nat)/\qw w2 b h:=j 1 _ rfl rfl;clear a j;go_simp;refine(Qp _ b h hp HH.out).mono ?_;rintro e w3 ⟨⟨r,rfl,N⟩,m⟩;exact⟨_,rfl,m,N.less S.size⟩
  ·have b2:=a 3 rfl;simp at b2;obtain⟨q0,q1,q2,q3⟩:=(dT<|(S.block (w.heap.size+1) (by have:=B.out.2.2.2.1;omega)).trans B.out.2.1).1;clear a j;go_simp;exact⟨_,rfl,.refl _ _,rfl⟩
  ·have d0:=Rg.lT (j 3 _ rfl rfl) rfl;clear a j;go_simp;refine(PY _ _ k (H2'.out.below S) HK.out).mono ?_;rintro e w3 ⟨⟨b,rfl,N⟩,m⟩;exact⟨_,rfl,m,b,rfl,N.reads⟩
  ·obtain⟨b,d0,hp⟩:∃b,(a2.tmps[13]?).getD undef=.pointer (b:Nat)/\qw w2 b k:=j 4 _ rfl rfl;clear a j;go_simp;refine(Qp _ b k hp HK.out).mono ?_;rintro e w3 ⟨⟨r,rfl,N⟩,m⟩;exact⟨_,rfl,m,N.less S.size⟩
  all_goals
   clear a j;have hz:=S.size;go_simp;exact⟨_,rfl,af _ _,⟨_,rfl,Θ _ _,hz⟩,by simp[Rg.d6]⟩
 ·rintro fl w3 m ⟨s0,s1,s2,s3,s4,s5,⟨C,s6,e6,l6⟩,⟨A,s7,e7,l7⟩,-⟩ hdd;have hne:C≠A:=by have:=hdd 6 7 (by simp) (by simp) (by simp) rfl rfl;simp only[Nat.reduceAdd]at s6 s7;rw[s6,s7]at this;simpa[Rg.d6]using this
  have s0:=s0;have s3:=s3;have s2:=s2;have s5:=s5;rw[HE.out]at s2;have B3:=B.out.2.2.2.2.trans<|((ο _ J).drew.trans m).mono B.out.2.2.2.2.size;have z3:=(m.block (w.heap.size+1+1) (by have:=B.out.2.2.2.1;omega)).trans B.out.2.2.1;have n6:w.heap.size+1+1<C:=by have:=B.out.2.2.2.1;omega
  have n7:w.heap.size+1+1<A:=by have:=B.out.2.2.2.1;omega
  obtain⟨⟨t0,t1,t2,t3⟩,tf⟩:=dT e6;obtain⟨⟨u0,u1,u2,u3⟩,uf⟩:=dT e7;have f0:=tf 0;have f1:=tf 1;have f2:=tf 2;have f3:=tf 3;have f4:=uf 0;have f5:=uf 1;have f6:=uf 2;have f7:=uf 3;have S2:=Y s2;have S5:=Y s5;obtain⟨x1,x2,x3,x4,v2,p1,p2,p3,p4⟩:=s2.reads;obtain⟨y1,y2,y3,y4,v5,r1,r2,r3,r4⟩:=s5.reads;simp[go_sem,s0,s3,s6,s7,v2,v5];rw[v2]at S2;rw[v5]at S5;obtain⟨ax1,mx1,rfl,-⟩:=p1;obtain⟨ax2,mx2,rfl,-⟩:=p2;obtain⟨ax3,mx3,rfl,-⟩:=p3;obtain⟨ax4,mx4,rfl,-⟩:=p4;obtain⟨ay1,my1,rfl,-⟩:=r1;obtain⟨ay2,my2,rfl,-⟩:=r2;obtain⟨ay3,my3,rfl,-⟩:=r3;obtain⟨ay4,my4,rfl,-⟩:=r4;have Z3:=Y z3;have E6:=Y e6;have E7:=Y e7;clear s0 s1 s2 s3 s4 s5 s6 s7 v2 v5 hdd tf uf e6 e7 z3
  go_wp2_with fail
  obtain⟨c6,k6,B6,z6⟩:=Kh (.slice ax1 (normal k).cells.length mx1) (.slice ax2 (normal k).roots.length mx2) (.slice ax3 (normal k).aA.length mx3) (.slice ax4 (normal k).done.length mx4) E6.out;have C6:=S2.out.blocks λg c t fr y L=>k6 g λe=>L (by subst e;rw[E6.out]at y;cases y;rfl);have C5:=S5.out.blocks λg c t fr y L=>k6 g λe=>L (by subst e;rw[E6.out]at y;cases y;rfl);have x:=(k6 A<|ZY hne).trans E7.out;have Z6:=(k6 (w.heap.size+1+1)<|by omega).trans Z3.out;have O:=B3.trans<|B6 w<|by omega
  generalize (((w3.setCell C<|.slice ax1 (normal k).cells.length mx1).setCell (C,1)<|.slice ax2 (normal k).roots.length mx2).setCell (C,2)<|.slice ax3 (normal k).aA.length mx3).setCell (C,3) (.slice ax4 (normal k).done.length mx4)=w6 at c6 C6 C5 x Z6 O⊢;obtain⟨W,k7,B7,z7⟩:=Kh (.slice ay1 (normal k).cells.length my1) (.slice ay2 (normal k).roots.length my2) (.slice ay3 (normal k).aA.length my3) (.slice ay4 (normal k).done.length my4) x;have D6:=C6.blocks λg c t fr y L=>k7 g λe=>L (by subst e;rw[x]at y;cases y;rfl);have D5:=C5.blocks λg c t fr y L=>k7 g λe=>L (by subst e;rw[x]at y;cases y;rfl);have q:=(k7 C hne).trans c6;have Z7:=(k7 (w.heap.size+1+1)<|by omega).trans Z6;have Q:=O.trans<|B7 w<|by omega
  clear t0 t1 t2 t3 u0 u1 u2 u3 f0 f1 f2 f3 f4 f5 f6 f7 c6 C6 C5 Z6 O;generalize (((w6.setCell A<|.slice ay1 (normal k).cells.length my1).setCell (A,1)<|.slice ay2 (normal k).roots.length my2).setCell (A,2)<|.slice ay3 (normal k).aA.length my3).setCell (A,3) (.slice ay4 (normal k).done.length my4)=w7 at W D6 D5 q Z7 Q⊢;clear k6 k7 B6 B7 x z6 z7;obtain⟨_,_,_,_,e,p1,p2,p3,p4⟩:=D6.reads;simp only[Value.agg.injEq,Array.mk.injEq,List.cons.injEq,and_true]at e;obtain⟨rfl,rfl,rfl,rfl⟩:=e;obtain⟨_,_,_,_,e,r1,r2,r3,r4⟩:=D5.reads;simp only[Value.agg.injEq,Array.mk.injEq,List.cons.injEq,and_true]at e;obtain⟨rfl,rfl,rfl,rfl⟩:=e;refine(XF _ _ _ _ p1 r1).mono ?_;rintro e w8 ⟨rfl,u⟩;obtain⟨⟨-,m1,m2,m3⟩,-⟩:=dT<|(u.block C (Ω.1 q).1).trans q;obtain⟨⟨-,o1,o2,o3⟩,-⟩:=dT<|(u.block A (Ω.1 W).1).trans W
  go_wp2_with fail
  refine(Qq _ _ _ _ (p2.below u)<|r2.below u).mono ?_;rintro e w9 ⟨rfl,o⟩;replace o:=u.trans<|o.mono u.size;clear m1 m2 m3 o1 o2 o3;obtain⟨⟨-,-,m2,m3⟩,-⟩:=dT<|(o.block C (Ω.1 q).1).trans q;obtain⟨⟨-,-,o2,o3⟩,-⟩:=dT<|(o.block A (Ω.1 W).1).trans W
  go_wp2_with fail
  refine(Qr _ _ _ _ (p3.below o)<|r3.below o).mono ?_;rintro e w10 ⟨rfl,l⟩;replace l:=o.trans<|l.mono o.size;clear m2 m3 o2 o3;obtain⟨⟨-,-,-,m3⟩,-⟩:=dT<|(l.block C (Ω.1 q).1).trans q;obtain⟨⟨-,-,-,o3⟩,-⟩:=dT<|(l.block A (Ω.1 W).1).trans W
  go_wp2_with fail
  refine(Qr _ _ _ _ (p4.below l)<|r4.below l).mono ?_;rintro e T ⟨rfl,s⟩;replace s:=l.trans<|s.mono l.size;clear m3 o3;have F:=(s.block _ (Ω.1 Z7).1).trans Z7;have ze:T (w.heap.size+1+1:Nat)=U (Δ Γ 0):=by simp[Ξ,F]
  have fe:T.frozen? (w.heap.size+1+1:Nat)=κ:=by simp[φ,F]
  have ZZ:=Y F;clear F
  go_wp2_with fail
  have k2:=heap_setCell_same (i:=0) (v:=Δ Γ 0) ZZ.out;have X:=(Q.trans<|s.mono Q.size).setCell (p:=⟨w.heap.size+1+1,0,M⟩) (by omega:w.heap.size<=w.heap.size+1+1)<|Δ Γ 0;generalize T.setCell (w.heap.size+1+1:Nat) (Δ Γ 0)=pl at k2 X⊢;clear ze fe;refine leaves_cons (f:=135) (args:=#[.pointer (w.heap.size+1+1:Nat)]) (by simp) (by simp[go_sem]) ?_;refine(Qs (w.heap.size+1+1:Nat) (Δ Γ 0) _ (by simp[Ξ,k2])<|by simp[φ,k2]).mono ?_;rintro e u' w'' ⟨rfl,rfl,w13,K,rfl⟩;have n2:=heap_setCell_same (i:=0) (v:=Δ Γ 0)<|(K.block _ (Ω.1 k2).1).trans k2;have B13:=(X.trans<|K.mono X.size).setCell (p:=⟨w.heap.size+1+1,0,M⟩) (by omega:w.heap.size<=w.heap.size+1+1)<|Δ Γ 0;generalize w13.setCell (w.heap.size+1+1:Nat) (Δ Γ 0)=w14 at n2 B13⊢;have r9:w14 (w.heap.size+1+1:Nat)=U (Δ Γ 0):=by simp[Ξ,n2]
  simp[Leaves,settle,Zi,results71,go_sem,r9];exact B13
section
section
variable{g:GH}(h:VG g)
include h
def Rl{n:Nat}{c}(hc:(plain g).cells[n]?=U c):c.1≠3:=by
 obtain⟨d,hd,rfl⟩:=ξ.1<|μ hc;have a:d∈g.new++g.old:=by simp at hd⊢;exact hd.symm
 have:=(h.cells d a).1;show d.1≠3;omega
def Kz{v}(d:zH g v):Ik (plain g) (cp g.old.length v).2=0:=by
 have f:=G7 g;have b:0<=(cp g.old.length v).2/\(cp g.old.length v).2<((plain g).cells.length:Int):=by
  unfold cp;obtain⟨c,e,h3⟩|⟨c,e,h3⟩:=d
  rw[if_pos c];dsimp only;omega
  grind
 generalize (cp g.old.length v).2=n at b;obtain⟨k,rfl⟩:=η b.1;have a:k<(plain g).cells.length:=by omega
 unfold Ik;rw[if_neg (by omega),if_neg<|by simpa[ZQ,a]using (Rl h<|υ a)]
def PD{v}(a:ta g v):uI (plain g) (cp g.old.length v)=0:=by
 obtain a|a:=a
 have e:cp g.old.length v=v:=by unfold cp;rw[if_neg (by obtain h|h:=a<;>omega),if_neg (by obtain h|h:=a<;>omega)]
 rw[e];unfold uI;obtain⟨b,c,h3⟩|⟨b,c⟩:=a
 rw[if_pos b,if_neg<|by omega];omega;have e1:(cp g.old.length v).1=1:=by unfold cp;obtain a|a:=a<;>simp[a.1]
 unfold uI;rw[if_neg (by omega),if_pos e1];exact Kz h a
omit h in
def KE{l:List HV}(d:∀v∈l,zH g v)(h:l.Nodup):((l.map<|cp g.old.length).map (·.2)).Nodup:=by rw[Y',List.Nodup,Zj];exact h.imp_of_mem λ{a b} f hb c e=>c<|OO (d a f) (d b hb) e
def PF(f:g.old.length+g.new.length<=40):Xh (plain g) where
 kinds:=λc hc=>by obtain⟨d,hd,rfl⟩:=ξ.1 hc;have:=(h.cells d (by simp at hd⊢;exact hd.symm)).1;simpa[Bz]using this
 eT:=λc hc v a=>by obtain⟨d,hd,rfl⟩:=ξ.1 hc;obtain⟨u,b,rfl⟩:=ξ.1 a;exact PD h<|(h.cells d (by simp at hd⊢;exact hd.symm)).2 u b
 many:=by rw[G7];exact f
 four:=by simpa[plain]using h.four
 roots:=λv a=>by obtain⟨u,b,rfl⟩:=ξ.1 a;exact PD h<|h.roots u b
 aA:=λn e=>by obtain⟨v,a,rfl⟩:=ξ.1 e;obtain⟨u,b,rfl⟩:=ξ.1 a;exact Kz h<|h.aA.cells u b
 Ko:=KE h.aA.cells h.aA.nodup
 NG:=by have:=h.aA.wW;simpa[plain]using this
 done:=λn e=>by obtain⟨v,a,rfl⟩:=ξ.1 e;obtain⟨u,b,rfl⟩:=ξ.1 a;exact Kz h<|h.done.cells u b
 Pq:=KE h.done.cells h.done.nodup
 Pz:=by have:=h.done.wW;simpa[plain]using this
end
end
section
variable{g:GH}
def Pc{v}(h:zH g v):eO g v=0:=by
 unfold eO;obtain⟨a,b,h3⟩|⟨a,b,h3⟩:=h
 omega;omega
def Qw{v}(h:ta g v):mh g v=0:=by
 unfold mh;obtain(⟨a,h2,h3⟩|⟨a,h2⟩)|h:=h
 omega;omega;have b:=Pc h;obtain⟨a,_⟩|⟨a,_⟩:=h
 omega;omega
def KF{l}(h:∀e∈l,e=0):cU l=0:=by have:=jZ (r:=[]) h;rwa[List.append_nil]at this
def V'{c}(h:RJ g c):zj g c=0:=by
 obtain⟨i,b⟩:=h;unfold zj;have f:¬c.2.length<(if c.1=0 then 0 else if c.1=1 then 1 else 2):=by grind
 have h3:¬(if c.1=0 then 4 else if c.1=1 then 1 else 2)<c.2.length:=by
  split
  omega;split<;>omega
 rw[if_neg (by omega),if_neg f,if_neg h3];refine KF λe d=>?_;obtain⟨v,a,rfl⟩:=ξ.1 d;exact Qw<|b v a
def PG{l}(h:Oi g l):BF g l:=by
 refine⟨h.wW,λi v e=>⟨(h.cells v<|μ e).cell,Pc<|h.cells v<|μ e,?_⟩⟩;obtain⟨hi,rfl⟩:=χ.1 e;rw[Bool.eq_false_iff];intro hc;obtain⟨j,b⟩:=List.mem_iff_getElem?.1<|Zq.1 hc;rw[List.getElem?_take]at b;split at b
 rename_i c;obtain⟨a,e2⟩:=χ.1 b;exact absurd e2<|Zu.1 h.nodup j i a hi c
 grind
def VG.look(h:VG g):eC g:=⟨λc hc=>V'<|h.cells c hc,h.news,h.bw,h.four,λv a=>Qw<|h.roots v a,PG h.aA,PG h.done⟩
def VG.aeP(h:VG g):im g where
 cells:=h.Kx
 cJ:=λv a=>(h.JZ v a).VQ
 news:=by have:=h.news;omega
 bw:=by have:=h.bw;omega
 roots:=by have:=h.four;omega
 aA:=by have:=h.aA.wW;omega
 done:=by have:=h.done.wW;omega
 eT:=λc hc=>by have:=(h.cells c hc).1;omega
 marks:=h.marks
 marked:=by have:=h.By;omega
theorem VG.cN{g:GH}(h:VG g):cN g=0:=by
 unfold Kn.cN;refine KF λe a=>?_;obtain a|a:=Ze.1 a
 obtain⟨i,hi,rfl⟩:=ξ.1 a;have hi:=Zx.1 hi;unfold jt;have d:=h.marks _<|List.getElem_mem hi;dsimp only;rw[(by simp[ZQ,υ hi]:g.marked.getD i 0=g.marked[i]),if_neg<|by omega,if_neg];split
 omega;have:=Zu.1 h.order (i-1) i (by omega) hi (by omega);rw[(by simp[ZQ,υ (by omega:i-1<g.marked.length)]:g.marked.getD (i-1) 0=g.marked[i-1])];omega;obtain⟨n,b,rfl⟩:=ξ.1 a;unfold ju at b;obtain⟨i,hi,rfl⟩:=ξ.1 b;obtain⟨hi,c⟩:=List.mem_filter.1 hi;have:=h.ju i _ (by simp[ZQ,υ<|Zx.1 hi]) c;rw[if_pos (Zq.2 this)]
def VG.collect(h:VG g)(a:g.new.length+g.old.length<=32):Md.collect .minor g=U ((hE g).length,sX g):=by have b:=wb h;show(if 32<g.old.length+(hE g).length then M else _)=_;rw[if_neg (by omega)];rfl
end
section
variable{w:ε}
structure Jn(g:GH)(N R:Nat):Prop where
 small:Small g
 ir:ν (plain g)
 afA:wK (plain g).cells (plain g).roots N R
 Ct:Md.lu (plain g)=⟨oX (plain g).cells (plain g).roots N R,(plain g).roots,[],[]⟩
 res:I' (Md.lu (plain g))
def RC.less{B B' v l}(h:RC w B v l)(d:B'<=B):RC w B' v l:=by
 obtain⟨a,m,rfl,b,c,h3,h⟩:=h;refine⟨a,m,rfl,b,c,h3,λh0=>?_⟩
 grind
def dm.less{w B B' b g}(h:dm w B b g)(a:B'<=B):dm w B' b g:=by obtain⟨n,o,m,row,c,hb,f,e,h3,h4⟩:=h;exact⟨n,o,m,row,Nat.le_trans a c,hb,f.less a,e.less a,eV h3 a,λk d=>eV (h4.1 k d) a,h4.2⟩
def dm.Jo{B b g}(h:dm w B b g):∃a m,w (b,1)=U (.slice a g.old.length m):=by obtain⟨n,o,m,row,i,hb,f,⟨d,e,c,_⟩,_⟩:=h;rw[aT]at c;refine⟨d,e,?_⟩;rw[<-c];simp[Ξ,hb]
def tH.form{v h}(f:tH w v h):∃a mc ar e aw b ad md,v=.agg #[.slice a h.cells.length mc,.slice ar h.roots.length e,.slice aw h.aA.length b,.slice ad h.done.length md]:=by obtain⟨c,r,g,d,rfl,⟨a,mc,rfl,_⟩,⟨ar,e,rfl,_⟩,⟨aw,b,rfl,_⟩,⟨ad,md,rfl,_⟩⟩:=f;exact⟨_,_,_,_,_,_,_,_,rfl⟩
def OD(w B b g N a)(z:dm w B b g)(hs:Jn g N a):
 ZU prog 190 #[.pointer b] w λe w'=>(∃T,e=.returned (.pointer (T:Nat))/\dm w' w T (Md.iF g))/\ψ w w w':=by
 have HG:=Y z;have u:=Y hs;obtain⟨hBb,C,_⟩:=z.obj;obtain⟨ao,mo,r⟩:=z.Jo;have D:g.old.length<=1000000:=by have:=hs.small.bw;omega
 have L:((0:Int) !=0)=κ:=rfl;clear z hs
 go_enter (fU func190 rfl),ntmps190
 go_wp2_with fail
 refine(DB _ b g HG.out.reads u.out.small).mono ?_;rintro e w1 ⟨⟨r1,rfl,P⟩,o⟩;have S:=Y P;clear P
 go_wp2_with fail
 refine(Rk _ r1 (plain g) N a S.out u.out.ir u.out.afA).mono ?_;rintro e f ⟨⟨r2,rfl,y⟩,i⟩;rw[<-u.out.Ct]at y;have m:=o.trans<|i.mono o.size;have G:=Y y;obtain⟨k,mc,ar,n,aw,l,ad,j,rfl⟩:=y.form;clear y o i S;generalize W:Md.lu (plain g)=c at G⊢;have X:=Y W;clear W
 go_wp2_with fail
 ((with_reducible refine(cd _ _).mono ?_))
 rintro e w' ⟨rfl,rfl⟩
 go_wp2_with fail
 have p:=af f<|Ψ #[.slice k c.cells.length mc,.slice ar c.roots.length n,.slice aw c.aA.length l,.slice ad c.done.length j] 56;have v:(f.alloc<|Ψ #[.slice k c.cells.length mc,.slice ar c.roots.length n,.slice aw c.aA.length l,.slice ad c.done.length j] 56) f.heap.size=U (.slice k c.cells.length mc):=by go_simp
 have q1:(f.alloc<|Ψ #[.slice k c.cells.length mc,.slice ar c.roots.length n,.slice aw c.aA.length l,.slice ad c.done.length j] 56) (f.heap.size,1)=U (.slice ar c.roots.length n):=by go_simp
 have J:(f.alloc<|Ψ #[.slice k c.cells.length mc,.slice ar c.roots.length n,.slice aw c.aA.length l,.slice ad c.done.length j] 56) (f.heap.size,2)=U (.slice aw c.aA.length l):=by go_simp
 have E:(f.alloc<|Ψ #[.slice k c.cells.length mc,.slice ar c.roots.length n,.slice aw c.aA.length l,.slice ad c.done.length j] 56) (f.heap.size,3)=U (.slice ad c.done.length j):=by go_simp
 have d:=m.trans<|p.mono m.size;have O:=Y<|G.out.below p;generalize f.alloc _=K at v q1 J E d O⊢;have Q:=cG d r C;clear G m p r;generalize f.heap.size=A at v q1 J E⊢;have h:=az v
 go_region_held3 (λx=>x A=U (.slice k c.cells.length mc)/\x (A,1)=U (.slice ar c.roots.length n)/\x (A,2)=U (.slice aw c.aA.length l)/\x (A,3)=U (.slice ad c.done.length j)/\x (b,1)=U (.slice ao g.old.length mo))
  ((refine⟨?_,?_,?_,?_,?_⟩<;>(repeat (first|with_reducible assumption|with_reducible refine dO ?_))))
  ((go_at_call 226;(with_reducible refine(On _ _ c g.old.length (O.out.below (ο _ _).drew) (X.out▸u.out.res) D).mono ?_);rintro e w5 ⟨⟨b5,rfl,s⟩,t⟩;have H:=Y s;clear s;have F:ψ w w w5:=d.trans<|((ο _ _).drew.trans t).mono d.size;have q:ψ K K w5:=(ο _ _).drew.trans t;have p0:=cG q v h;have p1:=cG q q1 h;have p2:=cG q J h;have p3:=cG q E h;have p4:=cG q Q<|az Q))
 go_wp2_with fail
 go_ret;refine⟨⟨b5,rfl,?_⟩,F⟩;have:=H.out.less d.size;rw[<-X.out]at this;exact this
end
def cR.less{w B B' b g J}(h:cR w B b g J)(a:B'<=B):cR w B' b g J:=by obtain⟨n,o,m,row,c,hb,f,e,h3,h4,h5⟩:=h;exact⟨n,o,m,row,Nat.le_trans a c,hb,f.less a,e.less a,eV h3 a,⟨λk d=>eV (h4.1 k d) a,h4.2⟩,h5⟩
def dm.six{w B b g c}(h:dm w B b g)(hc:w.heap[b]?=U (.cells c 114 (0,0))):c.size=6:=by
 obtain⟨n,o,m,row,a,hb,_⟩:=h;rw[hb]at hc;cases hc
 rfl
def Wp{w:ε}{b:Nat}{c}(h:w.heap[b]?=U (.cells c 114 (0,0)))(hc:c.size=6):∃a e g f x4 i,w b=U a/\w (b,1)=U e/\w (b,2)=U g/\w (b,3)=U f/\w (b,4)=U x4/\w (b,5)=U i:=by
 obtain⟨l⟩:=c;have d:=hc;obtain _|⟨a,_|⟨e,_|⟨g,_|⟨f,_|⟨x4,_|⟨i,_|⟨x6,l⟩⟩⟩⟩⟩⟩⟩:=l
 all_goals first
  |(exfalso;simp at d;done)
  |exact⟨a,e,g,f,x4,i,by simp[Ξ,h],by simp[Ξ,h],by simp[Ξ,h],by simp[Ξ,h],by simp[Ξ,h],by simp[Ξ,h]⟩
def sP(w:ε)(B b g){J:Nat->Prop}(hJ:∀j,J j->j<w)(hg:cR w B b g J)(N a)(hsw:Jn g N a)(hp:im (Md.iF g))(hB:B<=w):
 ZU prog 144 #[.pointer b,.iface 120<|.agg #[]] w (cq J B b g .major w):=by
 have W:=Y hg;have s:=Y hp;have HW:=Y hsw;obtain⟨aiC,K,c0',t⟩:=hg.own.obj;have hbx:=K;have L:=Y t;clear hg hp hsw t;have hta:=IW;have hmp:=IZ
 go_enter (fU func144 rfl),ntmps144
 go_wp2_with fail
 clear hta;have r:=af w<|Ψ #[] 120;refine(OD _ B b g N a (W.out.own.below r) HW.out).mono ?_;rintro e w2 ⟨⟨x,rfl,m⟩,P⟩;have arY:=m.obj.1;replace m:=m.less r.size;have X:=Y m;have A:=r.trans<|P.mono r.size;clear m P
 go_wp2_with fail
 clear hmp;refine(zP _ w x (Md.iF g) X.out s.out).mono ?_;rintro e w3 ⟨⟨bs,bm,so,rfl,hs⟩,Q⟩;have arZ:=hs.1;obtain⟨order,k⟩:∃o,o=bV (Md.iF g) co []:=⟨_,rfl⟩;rw[<-k]at hs;have z:c9 (Md.iF g) co order:=by rw[k];exact c9.bV (.inr rfl) s.out.cells s.out.cJ (λv hv=>by cases hv)
 have d:=A.trans<|Q.mono A.size;obtain⟨H,T,hso,hsm,aar,_⟩:=aF hs.2.2.2.1;have S:w3 bs=U (.slice H order.length T):=by simp[Ξ,hs.2.2.1,hso]
 have hol:=z.len;have hn1:=s.out.news;have hn2:=s.out.bw;have HO:=Y k;have HK:=Y z;have HS:=Y hs;have O:=(cR.wC (J:=J) X.out hJ).below Q;have HG3:=Y O;clear k z hs hso O;by_cases y:32<order.length
 ·have C:(32:Int)<(order.length:Int):=by omega
  go_wp2_with fail
  go_ret2
  have hm:Md.collect .major g=M:=by rw[mI,<-HO.out,if_pos y]
  unfold cq;rw[hm];exact⟨rfl,W.out.below d,d.mono hB,qb.bK d,λj _ q=>d.block j q⟩
 ·have C:¬(32:Int)<(order.length:Int):=by omega
  go_wp2_with fail
  refine(BM w3 w x _ bs bm so (Md.iF g) co order 0 HG3.out HS.out HK.out (.inr rfl) d.size (by omega) (λc hc=>by have:=s.out.eT c hc;omega) (by have:=s.out.roots;omega) (by have:=s.out.aA;omega) (by have:=s.out.done;omega)).mono ?_;rintro e w4 ⟨rfl,hg4,F,G,hfr,hfj⟩;have hcs:w4 bs=U (.slice H order.length T):=by have:=S;simp only[Ξ]at this⊢;rw[G];exact this
  have u:=d.trans F;have n:=(u.block b hbx).trans L.out;have h:=aiC;obtain⟨a0,n0,m0,a1,n1,m1,a2,n2,m2,a3,n3,m3,a4,n4,m4,a5,n5,m5,D,l⟩:=(hg4.less hB).copy (λj hj=>W.out.ne hj) n h;have e0:w4 x=U (.slice a0 n0 m0):=by simp[Ξ,D]
  have e1:w4 (x,1)=U (.slice a1 n1 m1):=by simp[Ξ,D]
  have e2:w4 (x,2)=U (.slice a2 n2 m2):=by simp[Ξ,D]
  have e3:w4 (x,3)=U (.slice a3 n3 m3):=by simp[Ξ,D]
  have e4:w4 (x,4)=U (.slice a4 n4 m4):=by simp[Ξ,D]
  have e5:w4 (x,5)=U (.slice a5 n5 m5):=by simp[Ξ,D]
  have f:∀i,w4.frozen? ⟨b,i,M⟩=κ:=λi=>by simp[φ,n]
  have E:=W.out.own.six L.out;obtain⟨x0,x1,x2,x3,x4,x5,y0,y1,y2,y3,y4,y5⟩:=Wp n E;have f0:=f 0;have f1:=f 1;have f2:=f 2;have f3:=f 3;have f4:=f 4;have f5:=f 5;have hne:bs≠b:=by have:=A.size;omega
  have HC:=Y l;have HFR:=Y<|(qb.bK d).trans hfr;have HFJ:=Y hfj;clear hfr hfj;have H2:=Y<|Z n E;have H4:=Y F;clear f l D n E u hg4 F G S
  go_wp2_with fail
  go_ret2
  obtain⟨k1,k2⟩:=wD (v0:=.slice a0 n0 m0) (v1:=.slice a1 n1 m1) (v2:=.slice a2 n2 m2) (v3:=.slice a3 n3 m3) (v4:=.slice a4 n4 m4) (v5:=.slice a5 n5 m5) H2.out.1 H2.out.2;have hm:Md.collect .major g=U (order.length,Md.move (Md.iF g) order 0):=by rw[mI,<-HO.out,if_neg y]
  unfold cq;rw[hm];exact⟨rfl,HC.out _ k1 k2,(d.mono hB).trans<|((((((H4.out.mono hB).setCell (p:=⟨b,0,M⟩) h _).setCell (p:=⟨b,1,M⟩) h _).setCell (p:=⟨b,2,M⟩) h _).setCell (p:=⟨b,3,M⟩) h _).setCell (p:=⟨b,4,M⟩) h _).setCell (p:=⟨b,5,M⟩) h _,HFR.out.trans<|qb.IT H2.out.1 k2,λj hj q=>(k2 j<|W.out.ne hj).trans<|(HFJ.out j hj<|Nat.lt_of_lt_of_le q d.size).trans<|d.block j q⟩
end Kn
