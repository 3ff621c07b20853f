/- A part of the proof of GcBack; no conditions. -/
import Derived.Test.YtbnmpafbfoaggaaGreatDoorK0
import Derived.Test.YtbnmpafbfoaggaaGreatDoorK1
import Derived.Deep.Cut
import Derived.Deep.DeepCutAuto
import Derived.BigRegion
import Derived.ScopeJumps
import Derived.WalkMore
import Derived.LoopNIn
import Derived.Maps.RangeWalk
import Derived.Maps.OwnSet
import Derived.Defers
import Derived.Recover
import Derived.Laws.Pointers
import Derived.Deep.RegionWith
import Derived.LaidEql
import Derived.Stop.Asserts
import Derived.RowKitTokens
set_option linter.defProp false
set_option linter.unusedVariables false
set_option linter.unusedSimpArgs false
set_option maxRecDepth 100000
set_option maxHeartbeats 16000000
noncomputable section
open Array renaming getElem?_eq_some_iff->Ω,replicate_succ->Zm,replicate_zero->Zl,toList_setIfInBounds->Y2,getElem?_modify->YT
open Go.Lib renaming hid->Y
open Go.World renaming cell?->Z,frozen?->φ,putObj_heap_other->ZS,setCell->ZL,grownBy_alloc->ZH,size_alloc->Zx,cell?_alloc_lt->YO
open Option renaming some->U,none->M
open Go.Obj renaming cells->Ψ,map->Yx
open And renaming intro->Ξ
open Go.IntKind renaming i64->Θ
open Go.Value renaming int->Δ,slice->Z8,pointer->ZJ,map->YA
open Go renaming heap_alloc_new->Γ,Value->υ,World->ο,Calls->Z9,bodyPost_ret->ZT,callsIn_wide->ZQ,TypeId->ZO,block_lt_of_cell->ZF,results->ZE,wpOp_step->Zy,callsD_of_wpS->Zp,results_none->Zj,step_scope->Zi,info_parts->Y7,wpS_region->Y6,wpList->YW,bodyPostS->YV,Addr->YP,recoverD->YL,run_underlying->YK,step_inScope->YB,callFunc->Yw,wpList_append_own_at->Yt,wpIn_rangeFunc_ownH->Yr,wpOpsS->Yp
open List renaming mem_of_getElem?->ω,getElem?_eq_some_iff->ψ,mem_cons_of_mem->χ,length_map->μ,mem_append->κ,mem_cons_self->ι,getElem?_set_self->θ,take_of_length_le->ε,contains_iff_mem->Z4,getElem?_eq_getElem->Z2,mem_append_left->Z1,map_append->ZY,mem_map->ZX,getElem?_set_ne->ZW,ext_getElem?->ZV,mem_filter->ZU,nodup_nil->ZR,setIfInBounds_toArray->ZP,set_cons_succ->ZN,mem_singleton->ZM,range->ZK,mem_cons->ZI,map_congr_left->ZG,set_cons_zero->ZD,pairwise_map->ZA,getElem?_map->Zz,length_cons->Zw,getD->Zv,drop_eq_nil_of_le->Zt,map_map->Zs,length_nil->Zr,nodup_cons->Zq,mem_append_right->Zo,getElem?_eq_none->Zn,take_succ_cons->Zh,drop_succ_cons->Zg,append_toArray->Zf,map_cons->Ze,size_toArray->Zc,push_toArray->Zb,cons_append->Y8,nil_append->Y5,length_set->Y4,take_zero->Y0,drop_zero->YZ,Nodup->YY,drop_eq_getElem_cons->YX,length_eq_one_iff->YS,sublist_cons_self->YR,mem_iff_getElem?->YQ,take_append_drop->YN,length->YJ,mem_erase_of_ne->YI,length_flatMap->YH,length_append->YG,getElem?_take->YF,append_assoc->YE,nodup_append->YD,idxOf_append->Yz,take_length->Yy,range_succ->Yv,append_nil->Yu,take_set->Yq,map_nil->Yo
open Bool renaming false->ξ,true->ZB
open Option.some renaming inj->η
open Int renaming eq_ofNat_of_zero_le->ζ
open Ne renaming symm->Z0
open Go.Result renaming andThen_ok->ZC
open Go.Fence renaming wide->Zu
open Go.Addr renaming add->Zk
open Go.Exit renaming thenS->Zd,jump->YU,noGoto_ret->Ys
open List.Sublist renaming append_left->Za
open Go.CallsIn renaming inRound->Y'
open Go.Sem renaming run_bind->Y9,run_pure->YM
namespace Go.Proofs.YtbnmpafbfoaggaaGreatDoor
open Go.Proofs.Tryz hiding prog
open Go.Proofs.aD
namespace Kn
open Go Go.RowKit Md
section
variable{r d:υ}{b:Nat}{ln:List (Int×υ)}{wi:υ}{cs:List HC}{w':ο}{l:List (Int×υ)}{S0:Nat}{lo:List (Int×υ)}{w:ο}{B:Nat}
def I5{g n o m}(hB:B<=b)(hb:w.heap[b]?=U (Ψ #[n,o,r,wi,d,m] 114 (0,0)))(hn:OC w B n ln)(G:df w B ln g.new)(X:OC w B o lo)(F:df w B lo g.old)(hr:OV w B r g.roots)(hw:OV w B wi g.aA)(hd:OV w B d g.done)(hm:OI w B m g.marked)(K:∀p∈ln,∀q∈lo,Apart p.2 q.2)(S:∀p∈ln,Apart p.2 r/\Apart p.2 wi/\Apart p.2 d)(W:∀p∈lo,Apart p.2 r/\Apart p.2 wi/\Apart p.2 d)(L:Apart r wi)(O:Apart r d)(b3:Apart wi d):dm w B b g:=by
 have c3:cellsOf (dp ln lo r wi d) 3 g.new=ln:=by simpa using iY (ln:=ln) (lo:=lo) (r:=r) (wi:=wi) (d:=d) (kind:=3) (.inl rfl) (by simpa using G)
 have Q:cellsOf (dp ln lo r wi d) 4 g.old=lo:=by simpa using iY (ln:=ln) (lo:=lo) (r:=r) (wi:=wi) (d:=d) (kind:=4) (.inr rfl) (by simpa using F)
 have l:∀i:Nat,i<g.new.length->∃p c,ln[i]?=U p/\g.new[i]?=U c/\dp ln lo r wi d (3,(i:Int))=p.2:=by intro i hi;obtain⟨p,q,e⟩:=cQ hi;have:=bH (row:=dp ln lo r wi d) (kind:=3) e;rw[c3]at this;exact⟨_,_,this,e,rfl⟩
 have f:∀i:Nat,i<g.old.length->∃p c,lo[i]?=U p/\g.old[i]?=U c/\dp ln lo r wi d (4,(i:Int))=p.2:=by intro i hi;obtain⟨p,q,e⟩:=cQ hi;have:=bH (row:=dp ln lo r wi d) (kind:=4) e;rw[Q]at this;exact⟨_,_,this,e,rfl⟩
 have s:∀k,IsKey g k->(∃i:Nat,i<g.new.length/\k=(3,(i:Int)))\/(∃i:Nat,i<g.old.length/\k=(4,(i:Int)))\/k=(0,0)\/k=(0,1)\/k=(0,2):=by
  rintro⟨a,c⟩ (⟨v,C,h3⟩|⟨v,C,h3⟩|⟨v,C,h3⟩);dsimp only at v C h3;subst v;have:c=0\/c=1\/c=2:=by omega
  obtain rfl|rfl|rfl:=this<;>simp
  dsimp only at v C h3;subst v;exact .inl ⟨c.toNat,by omega,by simp;omega⟩;dsimp only at v C h3;subst v;exact .inr<|.inl ⟨c.toNat,by omega,by simp;omega⟩
 refine⟨n,o,m,dp ln lo r wi d,hB,hb,by rw[c3];exact hn.rc,by rw[Q];exact X.rc,hm,λk J=>?_,λk T J H u=>?_⟩;obtain⟨i,hi,rfl⟩|⟨i,hi,rfl⟩|rfl|rfl|rfl:=s k J
 ·obtain⟨p,c,e1,e2,e3⟩:=l i hi;rw[e3,(JX e2).2];exact(G.2.1 i p.1 p.2 c.1 c.2 e1 e2).2
 obtain⟨p,c,e1,e2,e3⟩:=f i hi;rw[e3,(j6 e2).2];exact(F.2.1 i p.1 p.2 c.1 c.2 e1 e2).2;exact hr;exact hw;exact hd;have z:∀i:Nat,i<g.new.length->Apart (dp ln lo r wi d (3,(i:Int))) r/\Apart (dp ln lo r wi d (3,(i:Int))) wi/\Apart (dp ln lo r wi d (3,(i:Int))) d:=λi hi=>by obtain⟨p,c,e1,e2,e3⟩:=l i hi;rw[e3];exact S p<|ω e1
 have A:∀i:Nat,i<g.old.length->Apart (dp ln lo r wi d (4,(i:Int))) r/\Apart (dp ln lo r wi d (4,(i:Int))) wi/\Apart (dp ln lo r wi d (4,(i:Int))) d:=λi hi=>by obtain⟨p,c,e1,e2,e3⟩:=f i hi;rw[e3];exact W p<|ω e1
 have D:∀i j:Nat,i<g.new.length->j<g.old.length->Apart (dp ln lo r wi d (3,(i:Int))) (dp ln lo r wi d (4,(j:Int))):=λi j hi t=>by obtain⟨p,c,e1,e2,e3⟩:=l i hi;obtain⟨y,N,x,P,E⟩:=f j t;rw[e3,E];exact K p (ω e1) y<|ω x
 obtain⟨i,hi,rfl⟩|⟨i,hi,rfl⟩|rfl|rfl|rfl:=s k J<;>obtain⟨j,t,rfl⟩|⟨j,t,rfl⟩|rfl|rfl|rfl:=s T H
 obtain⟨p,c,e1,e2,e3⟩:=l i hi;obtain⟨y,N,x,P,E⟩:=l j t;rw[e3,E];obtain h|h|h:=Nat.lt_trichotomy i j
 exact G.2.2 i j p y h e1 x;subst h;exact absurd rfl u;exact Apart.symm<|G.2.2 j i y p h x e1;exact D i j hi t;exact(z i hi).1;exact(z i hi).2.1;exact(z i hi).2.2;exact(D j i t hi).symm;obtain⟨p,c,e1,e2,e3⟩:=f i hi;obtain⟨y,N,x,P,E⟩:=f j t;rw[e3,E];obtain h|h|h:=Nat.lt_trichotomy i j
 exact F.2.2 i j p y h e1 x;subst h;exact absurd rfl u;exact Apart.symm<|F.2.2 j i y p h x e1;exact(A i hi).1;exact(A i hi).2.1;exact(A i hi).2.2;exact(z j t).1.symm;exact(A j t).1.symm;exact absurd rfl u;exact L;exact O;exact(z j t).2.1.symm;exact(A j t).2.1.symm;exact L.symm;exact absurd rfl u;exact b3;exact(z j t).2.2.symm;exact(A j t).2.2.symm;exact O.symm;exact b3.symm;exact absurd rfl u
def eJ{e size n v xs c t fr}(h:w.ownsRow B e size v n xs)(hb:w.heap[b]?=U (.cells c t fr))(j:t≠e):v.ownBlock≠U b:=λa=>by
 obtain⟨e1,_⟩|⟨i,d,f,e1,_,g,_⟩:=h.2
 rw[e1]at a;cases a;rw[e1]at a;cases a
 grind
def Ol(w:ο)(B b S0:Nat)(r wi d:υ)(news bw:List HC):Prop:=∃sn so ln lo,B<=b/\w.heap[b]?=U (Ψ #[sn,so,r,wi,d,Z8 M 0 0] 114 (0,0))/\OC w B sn ln/\df w S0 ln news/\OC w B so lo/\df w S0 lo bw/\Apart sn so/\∀p∈ln,∀q∈lo,Apart p.2 q.2
def uW{e size n v s xs}(h:w.ownsRow B e size v n xs)(c:Apart v s)(b:w.grownBy w' s.ownBlock):w'.ownsRow B e size v n xs:=aS h λg a=>b.block g (h.lt g a).2 λd=>c g a d.symm
def kj{l2 s}(h:df w S0 l cs)(hs:OC w B s l2)(c:w.grownBy w' s.ownBlock):df w' S0 l cs:=⟨h.1,λi k x a b e1 e2=>⟨(h.2.1 i k x a b e1 e2).1,fy (h.2.1 i k x a b e1 e2).2 hs (by simp) c⟩,h.2.2⟩
def lA{c t fr}(h:df w S0 l cs)(hb:w.heap[b]?=U (.cells c t fr))(f:t≠50)(e:∀k,k≠b->w'.heap[k]?=w.heap[k]?):df w' S0 l cs:=⟨h.1,λi k x d a e1 e2=>⟨(h.2.1 i k x d a e1 e2).1,bp (h.2.1 i k x d a e1 e2).2 hb f e⟩,h.2.2⟩
def lY(h:df w S0 l cs){p}(c:p∈l){g}(e:p.2.ownBlock=U g):S0<=g/\g<w:=by
 obtain⟨i,hi⟩:=YQ.1 c;have a:i<cs.length:=by rw[<-h.1];exact(ψ.1 hi).1
 obtain⟨b,d,e3⟩:=cQ a;exact(h.2.1 i p.1 p.2 b d hi e3).2.lt g e
def I6{w2 m u so s' news bw k x vs}(E:B<=b)(hb:w.heap[b]?=U (Ψ #[u,so,r,wi,d,Z8 M 0 0] 114 (0,0)))(F:OC w B u ln)(C:df w S0 ln news)(h3:OC w B so lo)(h4:df w S0 lo bw)(h5:Apart u so)(H:∀p∈ln,∀q∈lo,Apart p.2 q.2)(v:B<=w)(J:S0<=w)(j:Below w w w2)(A:OV w2 w x vs)(n:w2.grownBy m u.ownBlock)(G:OC m B s' (ln++[(k,x)]))(y:s'.ownBlock=u.ownBlock\/∀g,s'.ownBlock=U g->w2.heap.size<=g):
 Ol (m.setCell b s') B b S0 r wi d (news++[(k,vs)]) bw/\Below B w (m.setCell b s'):=by
 have f:=F.below j;have t:=h3.below j;have l:=(j.block b (Ω.1 hb).1).trans hb;have a:=(n.block b (Ω.1 l).1 (λe=>by have:=eJ f l (by decide);exact this e.symm)).trans l
 have c:∀k,k≠b->(m.setCell b s').heap[k]?=m.heap[k]?:=λk h=>aq h;refine⟨⟨s',so,ln++[(k,x)],lo,E,?_,bp G a (by decide) c,?_,bp (uW t h5.symm n) a (by decide) c,lA (kj (h4.below j) f n) a (by decide) c,?_,?_⟩,?_⟩;rw[aB a];simp;refine(lA (kj (C.below j) f n) a (by decide) c).snoc (OV.less (bp (fy A f (by decide) n) a (by decide) c) J) λi p hi g z s=>?_;have:=(lY C (ω hi) z).2;have:=(A.lt g s).1;omega;intro g e1 e2;obtain y|y:=y
 rw[y]at e1;exact h5 g e1 e2;have:=y g e1;have:=(t.lt g e2).2;omega;intro p o q D;obtain o|o:=κ.1 o
 exact H p o q D;simp at o;subst o;intro g e1 e2;have:=(A.lt g e1).1;have:=(lY h4 D e2).2;omega;exact((j.mono v).grown n (Nat.le_trans v j.size) λk e=>(f.lt k e).1).setCell (p:=⟨b,0,M⟩) E _
def I7{w2 m y so s' news bw k x vs}(E:B<=b)(hb:w.heap[b]?=U (Ψ #[y,so,r,wi,d,Z8 M 0 0] 114 (0,0)))(F:OC w B y ln)(C:df w S0 ln news)(h3:OC w B so lo)(h4:df w S0 lo bw)(h5:Apart y so)(H:∀p∈ln,∀q∈lo,Apart p.2 q.2)(u:B<=w)(J:S0<=w)(j:Below w w w2)(A:OV w2 w x vs)(n:w2.grownBy m so.ownBlock)(G:OC m B s' (lo++[(k,x)]))(v:s'.ownBlock=so.ownBlock\/∀g,s'.ownBlock=U g->w2.heap.size<=g):
 Ol (m.setCell (b,1) s') B b S0 r wi d news (bw++[(k,vs)])/\Below B w (m.setCell (b,1) s'):=by
 have t:=F.below j;have f:=h3.below j;have l:=(j.block b (Ω.1 hb).1).trans hb;have a:=(n.block b (Ω.1 l).1 (λe=>by have:=eJ f l (by decide);exact this e.symm)).trans l
 have c:∀k,k≠b->(m.setCell (b,1) s').heap[k]?=m.heap[k]?:=λk h=>aq h;refine⟨⟨y,s',ln,lo++[(k,x)],E,?_,bp (uW t h5 n) a (by decide) c,lA (kj (C.below j) f n) a (by decide) c,bp G a (by decide) c,?_,?_,?_⟩,?_⟩;rw[aB a];simp;refine(lA (kj (h4.below j) f n) a (by decide) c).snoc (OV.less (bp (fy A f (by decide) n) a (by decide) c) J) λi p hi g z s=>?_;have:=(lY h4 (ω hi) z).2;have:=(A.lt g s).1;omega;intro g e1 e2;obtain v|v:=v
 rw[v]at e2;exact h5 g e1 e2;have:=v g e2;have:=(t.lt g e1).2;omega;intro p D q o;obtain o|o:=κ.1 o
 exact H p D q o;simp at o;subst o;intro g e1 e2;have:=(A.lt g e2).1;have:=(lY C D e1).2;omega;exact((j.mono u).grown n (Nat.le_trans u j.size) λk e=>(f.lt k e).1).setCell (p:=⟨b,1,M⟩) E _
end
section
def HO(w:ο)(B:Nat)(l:List (Int×υ))(cs:List HC):Prop:=l.length=cs.length/\∀(i:Nat) k x k' vs,l[i]?=U (k,x) ->cs[i]?=U (k',vs) ->k=k'/\OV w B x vs
def OX(w:ο)(B:Nat)(v:υ)(cs:List HC):Prop:=∃l,OC w B v l/\HO w B l cs
def kE(B:Nat)(w w':ο):Prop:=∀j,B<=j->j<w->w'.heap[j]?=w.heap[j]?
section
variable{w w':ο}{B:Nat}{v:υ}
def kE.below(h:Below w w w'):kE B w w':=λj _ a=>h.block j a
def kE.B1{c m}(h:ka w c m w')(hc:c<B):kE B w w':=λj hb a=>h.2.block j a (by grind)
def kE.set{b i:Nat}{u}(hb:b<B):kE B w (w.setCell (b,i) u):=λj a _=>aq (by omega)
def kE.trans{w2}(h:kE B w w')(k:kE B w' w2)(hs:w.heap.size<=w'):kE B w w2:=λj hb a=>(k j hb<|by omega).trans<|h j hb a
def fd{e size n xs}(h:w.ownsRow B e size v n xs)(b:kE B w w'):w'.ownsRow B e size v n xs:=aS h λg a=>b g (h.lt g a).1 (h.lt g a).2
def HO.keep{l cs}(h:HO w B l cs)(c:kE B w w'):HO w' B l cs:=⟨h.1,λi k x a b e1 e2=>⟨(h.2 i k x a b e1 e2).1,fd (h.2 i k x a b e1 e2).2 c⟩⟩
def OX.keep{cs}(h:OX w B v cs)(a:kE B w w'):OX w' B v cs:=by obtain⟨l,b,c⟩:=h;exact⟨l,fd b a,c.keep a⟩
def HO.less{B' l cs}(h:HO w B l cs)(c:B'<=B):HO w B' l cs:=⟨h.1,λi k x a b e1 e2=>⟨(h.2 i k x a b e1 e2).1,(h.2 i k x a b e1 e2).2.less c⟩⟩
def OX.less{B' cs}(h:OX w B v cs)(a:B'<=B):OX w B' v cs:=by obtain⟨l,b,c⟩:=h;exact⟨l,b.less a,c.less a⟩
def OX.reads{cs}(h:OX w B v cs):sa w v cs:=by obtain⟨l,d,a⟩:=h;exact d.reads ⟨a.1,λi k x c b e1 e2=>⟨(a.2 i k x c b e1 e2).1,(a.2 i k x c b e1 e2).2.reads⟩⟩
def OX.nil(w B):OX w B () []:=⟨[],OC.nil _ _,rfl,λi k x a b e1=>by simp at e1⟩
def HO.snoc{l cs k x vs}(h:HO w B l cs)(f:OV w B x vs):HO w B (l++[(k,x)]) (cs++[(k,vs)]):=by
 obtain⟨a,d⟩:=h;refine⟨by simp[a],λi b e c v2 e1 e2=>?_⟩
 grind
def HO.types{l l2 cs s}(h:HO w B l cs)(hs:OC w B s l2)(c:w.grownBy w' s.ownBlock):HO w' B l cs:=⟨h.1,λi k x a b e1 e2=>⟨(h.2 i k x a b e1 e2).1,fy (h.2 i k x a b e1 e2).2 hs (by simp) c⟩⟩
end
structure aav(n:Nat)(h:PH):Prop where
 len:h.cells.length=n
 cells:∀c∈h.cells,aau n c
 four:h.roots.length=4
 roots:∀v∈h.roots,NH n v.1 v.2
 aA:I3 n h.aA/\h.aA.length<=6
 done:I3 n h.done/\h.done.length<=6
def pV(w:ο)(B:Nat)(r:υ)(h:PH):Prop:=∃c ro wi d,r=.agg #[c,ro,wi,d]/\OX w B c h.cells/\OV w B ro h.roots/\OI w B wi h.aA/\OI w B d h.done
def dx{w:ο}{b:Nat}{x y z u t}(h:w.heap[b]?=U (Ψ #[x,y,z,u] t (0,0))):(w b=U x/\w (b,1)=U y/\w (b,2)=U z/\w (b,3)=U u)/\∀i,w.frozen? ⟨b,i,M⟩=ξ:=⟨⟨by simp[Z,h],by simp[Z,h],by simp[Z,h],by simp[Z,h]⟩,λi=>by simp[φ,h]⟩
def JZ(w:ο)(b a):((w.alloc b).alloc a).heap[w.heap.size]?=U b/\((w.alloc b).alloc a).heap[w.heap.size+1]?=U a/\Below w w ((w.alloc b).alloc a)/\((w.alloc b).alloc a).heap.size=w.heap.size+2:=by refine⟨(Below.heap_alloc _ _ _<|by simp).trans<|Γ _ _,?_,(af w _).alloc (by simp) _,by simp⟩;have:=Γ (w.alloc b) a;simpa using this
def aaw(w)(c m tG:Nat)(p)(h:ml w c m)(hm:m<=500000000)(hmo:tG<=1000):
 Z9 prog 66 #[.pointer (c:Nat),tG,.bool p] w λe w'=>(∃r n h',e=.returned r/\pV w' w r h'/\aav n h'/\n<=tG)/\ka w c (m+100000) w':=by
 have T:=h.lt;obtain⟨z0,z1,hb0,hs0⟩:=JZ w (Ψ #[(),(),(),()] 56)<|Ψ #[(),(),(),()] 56;have h0:=h.B1.below hb0
 go_enter (fU func66 rfl),ntmps66
 go_wp2_with fail
 generalize (w.alloc _).alloc _=w1 at z0 z1 hb0 hs0 h0⊢;refine(Xq _ c m tG h0.1 (by omega) (by omega)<|by omega).mono ?_;rintro e w2 ⟨⟨n,rfl,hn0,hn⟩,J⟩;obtain⟨n,rfl⟩:=ζ hn0;have hn1:n<=1000:=by omega
 have hnm:n<=tG:=by omega
 have y0:=(J.2.block w (by omega) (by simp;omega)).trans z0;have y1:=(J.2.block (w.heap.size+1) (by omega) (by simp;omega)).trans z1;replace J:=h0.trans J;clear z0 z1 hb0 hs0 h0
 go_wp2_with fail
 go_loopw [9] (λi wr=>∃(xc:υ) (cs:List HC),cs.length<=n/\i=Δ Θ cs.length/\OX wr (w.heap.size+2) xc cs/\(∀v∈cs,aau n v)/\wr.heap[w.heap.size+1]?=U (Ψ #[xc,(),(),()] 56 (0,0))/\wr.heap[w.heap.size]?=U (Ψ #[(),(),(),()] 56 (0,0))/\ka w c (m+1+20*cs.length) wr) (λi _=>n-(intOf i).toNat)
 case atStart=>exact⟨_,[],Nat.zero_le _,rfl,OX.nil _ _,(λv hv=>by cases hv),y1,y0,J⟩
 case round=>
  obtain⟨xc,cs,hk,rfl,O,hv,e1,e0,hw⟩:=hrel;clear y0 y1 J;have X:=(Ω.1 e1).1;by_cases hlt:cs.length<n
  ·obtain⟨⟨d1,_⟩,_⟩:=dx e1
   go_wp2_with fail
   refine Rg.aaH 5 2 (λu=>u.cell? ⟨w.heap.size+1,0,M⟩=U xc) (by kernel_rfl) (by kernel_rfl) (λc a d v w h=>by cases d<;>exact h) d1 ?_;simp only[Nat.reduceAdd,Zh,Y0,Zg,YZ]
   iterate 5
    (refine Rg.fp.step (v:=?_) (by rfl) (λu hu=>?_) ?_
     rotate_left
     (go_simp
      try rfl))
   refine Rg.fp.nil<|Rg.pA.succ ?_;simp only[Act.put,ZP,ZD,ZN];refine Zy rfl λK hK=>?_;go_simp;have hd:=(Below.refl wr.heap.size wr).drew;have hwd:=hw.below hd;refine(Ru _ c _ n p hwd.1 (by omega) (by omega)<|by omega).mono ?_;rintro e w5 ⟨⟨k,x,vs,rfl,ho,hok⟩,l⟩;have b1:=(l.2.block (w.heap.size+1) X (by simp;omega)).trans e1;have b0:=(l.2.block w (by omega:w.heap.size<wr) (by simp;omega)).trans e0;have hx5:=O.keep<|(kE.below hd).trans (kE.B1 l<|by omega) .refl;have H:=hwd.trans l;have hg5:=(Ω.1 b1).1;obtain⟨⟨d5,_⟩,f5⟩:=dx b1;have hzw:=l.2.size;obtain⟨ax,mx,rfl,_⟩:=aF ho;refine hK _ _ ⟨d5,Rg.pA.succ ?_⟩;clear hK K;refine Zy rfl λK hK=>?_;go_simp;have t:=af w5<|Ψ #[k,.slice ax vs.length mx] 76;refine hK _ _ ⟨cG t d5 hg5,Rg.pA.zero ?_⟩;clear hK K d1 O hw hwd l;obtain⟨l5,hoc,hoe⟩:=hx5;have hxk:=hoc.below t
   go_wp2_with (at_builtin;refine wh rfl _ _ rfl (w.heap.size+2) _ _ rfl hxk w5.heap.size _ (k,.slice ax vs.length mx) rfl rfl (by simp[go_sem,Zk]) (by have:=hoe.1;omega) (by simp;omega) ?_;intro v' B E G Qn;obtain⟨a6,m6,rfl,_⟩:=aF E;have t1:=(G.block (w.heap.size+1)<|by omega).trans<|(t.block (w.heap.size+1) hg5).trans b1;obtain⟨⟨s1,_⟩,sf⟩:=dx t1)
   have aje:HO B (w.heap.size+2) (l5++[(k,.slice ax vs.length mx)]) (cs++[(k,vs)]):=((hoe.snoc<|ho.less (by omega:w.heap.size+2<=wr)).keep<|kE.below t).types hxk Qn;have L:(l5++[(k,Z8 ax vs.length mx)]).length=l5.length+1:=by simp
   rw[L]at E;have hz6:=G.size;have ajf:OX (B.setCell (w.heap.size+1:Nat)<|.slice a6 (l5.length+1) m6) (w.heap.size+2) (.slice a6 (l5.length+1) m6) (cs++[(k,vs)]):=OX.keep ⟨_,E,aje⟩<|kE.set<|by omega
   have hw7:ka w c (m+1+20*(cs.length+1)) (B.setCell (w.heap.size+1:Nat)<|.slice a6 (l5.length+1) m6):=H.upto T<|((t.mono<|by omega).trans<|G.mono<|by omega).setCell (p:=((w.heap.size+1:Nat):YP)) (by show w.heap.size<=w.heap.size+1;omega) _;have t0:=(G.block w<|by omega).trans<|(t.block w<|by omega).trans b0;exact⟨⟨_,cs++[(k,vs)],by simp;omega,by rw[YG,List.length_singleton];go_num,ajf,λv hv'=>(κ.1 hv').elim (hv v) λh=>by simp at h;subst h;exact hok,heap_setCell_same (i:=0) t1,(aq<|by omega).trans t0,by simpa using hw7⟩,by simp[intOf];omega⟩
  ·go_wp2_with fail
   have HCN:=Y (by omega:cs.length=n);generalize hM:m+1+20*cs.length=f at hw;have hM1:f<=m+30000:=by omega
   generalize hg:w.heap.size+1=g at e1 X⊢;rw[show w.heap.size+2=g+1 by omega]at O;obtain⟨wA,hwA⟩:∃x,x=wr:=⟨_,rfl⟩;subst hwA
   go_loopw [10] (λi wr=>∃(xr:υ) (s:List HV),s.length<=4/\i=Δ Θ s.length/\(kE (g+1) wA wr/\wA.heap.size<=wr)/\OV wr wA xr s/\(∀v∈s,NH n v.1 v.2)/\wr.heap[g]?=U (Ψ #[xc,xr,(),()] 56 (0,0))/\wr.heap[w.heap.size]?=U (Ψ #[(),(),(),()] 56 (0,0))/\ka w c (f+5*s.length) wr) (λi _=>4-(intOf i).toNat)
   case atStart=>exact⟨_,[],Nat.zero_le _,rfl,⟨λj _ _=>rfl,.refl⟩,OV.nil _ _,(λv hv=>by cases hv),e1,e0,hw⟩
   case round=>
    clear e1 e0 hw;obtain⟨xr,s,hk,rfl,⟨hkA,hzA⟩,hr,hrv,e1,e0,hw⟩:=hrel;have X:g<wr:=(Ω.1 e1).1;by_cases hlt:s.length<4
    ·go_wp2_with fail
     refine(Pj _ c _ n hw.1 (by omega) (by omega)<|by omega).mono ?_;rintro e w3 ⟨⟨p',q,rfl,ho⟩,o⟩
     go_wp2_with fail
     have z:=af w3<|Ψ #[p',Δ Θ q] 50;have A:=(hw.trans o).below z;have hz3:=o.2.size;refine(Rs _ c _ 3 A.1 (by omega) (by omega)<|by omega).mono ?_;rintro e w5 ⟨⟨b,rfl⟩,l⟩;have hk5:kE (g+1) wr w5:=((kE.B1 o<|by omega).trans (kE.below z) hz3).trans (kE.B1 l<|by omega) (by simp;omega);have f1:w5.heap[g]?=U (Ψ #[xc,xr,(),()] 56 (0,0)):=(l.2.block g (by simp;omega) (by simp;omega)).trans<|(z.block g<|by omega).trans<|(o.2.block g X (by simp;omega)).trans e1;have f0:=(l.2.block w (by simp;omega) (by simp;omega)).trans<|(z.block w<|by omega).trans<|(o.2.block w (by omega) (by simp;omega)).trans e0;have x5:=(l.2.block w3 (by simp) (by have:=A.1.lt;simp;have:=o.1.lt;omega)).trans<|Γ w3 _;have H:=A.trans l;have KU:=l.2.size;have hg3:g+1<=w3:=by omega
     have hl3:w3.heap.size<w5:=by simp at KU;omega
     generalize w3.heap.size=b3 at x5 hg3 hl3 hz3⊢;clear o z A l hw e1 e0 KU
     go_upto_if 37 with(fail)
     go_cut [11]from 29 to 45 λv wx=>∃p q:Int,v=.pointer b3/\NH n p q/\wx.heap[b3]?=U (Ψ #[Δ Θ p,Δ Θ q] 50 (0,0))/\Below b3 w5 wx/\(∀j,j≠b3->wx.heap[j]?=w5.heap[j]?)
     case first=>
      obtain⟨c0,c1,g0,g1⟩:=fl x5;have hi4:IntKind.i64.wrap (s.length:Int)=s.length:=wrap_small _ (by omega) (by omega);have t:Below b3 w5 ((w5.setCell b3<|Δ Θ 0).setCell (b3,1) s.length):=((Below.refl b3 w5).setCell (p:=(⟨b3,0,M⟩:YP)) .refl _).setCell (p:=(⟨b3,1,M⟩:YP)) .refl _
      go_wp2_with fail
      all_goals go_meet
      exact⟨0,s.length,rfl,.inr<|.inr ⟨rfl,by omega,by omega⟩,heap_setCell_same (i:=1)<|heap_setCell_same (i:=0) x5,t,λj Q=>(aq Q).trans<|aq Q⟩;exact⟨p',q,rfl,ho,x5,.refl _ _,λj _=>rfl⟩
     case rest=>
      obtain⟨p2,q2,rfl,S,x6,t,D⟩:=hcut;generalize wc=B at x6 t D⊢;obtain⟨⟨_,d1,_⟩,ff⟩:=dx<|(D g<|by omega).trans f1;obtain⟨c0,c1,g0,g1⟩:=fl x6;have hk:kE (g+1) wr B:=λj hb Q=>(D j<|by omega).trans<|hk5 j hb Q;have hr6:OV B wA.heap.size xr s:=fd hr λj hb Q=>hk j (by omega) Q;have C:=H.upto T<|t.mono<|by omega
      have hz6:=t.size;have h0:=(D w.heap.size<|by omega).trans f0;have h1':=(D g<|by omega).trans f1;have hb7:=af B<|Ψ #[p2,q2] 50;clear hr hk5 D H f0 f1 x5 x6 t
      go_wp2_with (at_builtin;refine fO rfl _ _ rfl wA _ _ rfl (hr6.alloc _) B.heap.size _ (p2,q2) rfl (by simp[go_sem,Zk]) (by omega) (by simp;omega) ?_;intro v' w8 F P hg8;obtain⟨a8,m8,rfl,_⟩:=aF F;have t1:=(P.block g<|by omega).trans<|(hb7.block g<|by omega).trans h1';obtain⟨⟨_,s1,_⟩,sf⟩:=dx t1)
      have hz8:=P.size;have L:(s++[(p2,q2)]).length=s.length+1:=by simp
      rw[L]at F;have ajh:kE (g+1) wA (w8.setCell (g,1)<|.slice a8 (s.length+1) m8):=λj hb Q=>(aq<|by omega).trans<|(P.block j Q).trans<|(hb7.block j<|by omega).trans<|(hk j hb<|by omega).trans<|hkA j hb Q;have hw9:ka w c (f+5*(s.length+1)) (w8.setCell (g,1)<|.slice a8 (s.length+1) m8):=C.upto T<|((hb7.mono<|by omega).trans<|P.mono<|by omega).setCell (p:=((g,1):YP)) (by show w.heap.size<=g;omega) _;have ht0:=(P.block w<|by omega).trans<|(hb7.block w<|by omega).trans h0
      go_roundw
      case rel=>exact⟨_,s++[(p2,q2)],by rw[L];omega,by rw[L];go_num,⟨ajh,by simp at hz8⊢;omega⟩,fd F<|kE.set<|by omega,λv hv'=>(κ.1 hv').elim (hrv v) λh=>by simp at h;subst h;exact S,heap_setCell_same (i:=1) t1,(aq<|by omega).trans ht0,by rw[L];exact hw9⟩
      case measure=>simp[intOf];omega
    ·have hxr:=O.keep hkA;have hr4:=Y (by omega:s.length=4);have hrr:=hr.less (B':=g+1) (by omega);clear O hkA hr
     go_upto_if 47 with(fail)
     go_cut []from 46 to 58 λwx=>∃wi d N ld,wx.heap[g]?=U (Ψ #[xc,xr,wi,d] 56 (0,0))/\OI wx (g+1) wi N/\OI wx (g+1) d ld/\(I3 n N/\N.length<=6)/\(I3 n ld/\ld.length<=6)/\kE (g+1) wr wx/\wx.heap[w.heap.size]?=U (Ψ #[(),(),(),()] 56 (0,0))/\ka w c (m+90000) wx
     case first=>
      go_wp2_with fail
      ·refine(Qm _ c _ n hw.1 (by omega) hn1).mono ?_;rintro e w3 ⟨⟨r3,l3,rfl,ho3,hl3⟩,o⟩
       go_wp2_with fail
       have z:=af w3<|Ψ #[Δ Θ 0,Δ Θ 0,Δ Θ n] 3;have A:=(hw.trans o).below z;have hc3:=o.1.lt;refine(Qj _ c _ _ _ [0,0,(n:Int)] A.1 (by omega) (NG w3 _ _ 3 rfl rfl<|by omega) (by omega) (by simp)<|by simp).mono ?_;rintro e w5 ⟨⟨y,rfl,hy⟩,l⟩;have hy:0<=y/\y<=n:=by simp at hy;omega
       obtain⟨y,rfl⟩:=ζ hy.1
       go_wp2_with fail
       refine(Qm _ c _ y (A.trans l).1 (by omega)<|by omega).mono ?_;rintro e B ⟨⟨r6,l6,rfl,Jb,hl6⟩,C⟩;have hz3:=o.2.size;have hz4:w3.heap.size<=w5:=by have:=l.2.size;simp at this;omega
       have D:kE (g+1) wr B:=(((kE.B1 o<|by omega).trans (kE.below z) hz3).trans (kE.B1 l<|by omega) (by simp;omega)).trans (kE.B1 C<|by omega) (by omega);have f1:B.heap[g]?=U (Ψ #[xc,xr,(),()] 56 (0,0)):=(C.2.block g (by omega) (by simp;omega)).trans<|(l.2.block g (by simp;omega) (by simp;omega)).trans<|(z.block g<|by omega).trans<|(o.2.block g X (by simp;omega)).trans e1;have f0:=(C.2.block w (by omega) (by simp;omega)).trans<|(l.2.block w.heap.size (by simp;omega) (by simp;omega)).trans<|(z.block w.heap.size<|by omega).trans<|(o.2.block w.heap.size (by omega) (by simp;omega)).trans e0;have ajj:OI B (g+1) r3 l3:=fd (fd (fd (ho3.less (B':=g+1)<|by omega)<|kE.below z)<|kE.B1 l<|by omega)<|kE.B1 C<|by omega
       obtain⟨⟨_,_,s2,s3⟩,sf⟩:=dx f1;obtain⟨a3,m3,rfl,_⟩:=aF ho3;obtain⟨a6,m6,rfl,_⟩:=aF Jb;have ajk:I3 n l6/\l6.length<=6:=⟨⟨hl6.1.1,λx O=>by have:=hl6.1.2 x O;omega⟩,hl6.2⟩;have ajl:=((A.trans l).trans C).upto T<|((Below.refl w.heap.size B).setCell (p:=((g,2):YP)) (by show w.heap.size<=g;omega)<|.slice a3 l3.length m3).setCell (p:=((g,3):YP)) (by show w.heap.size<=g;omega)<|.slice a6 l6.length m6;clear e1 e0 hw o z A l C
       go_wp2_with fail
       go_meet
       exact⟨_,_,l3,l6,heap_setCell_same (i:=3)<|heap_setCell_same (i:=2) f1,fd (fd ajj<|kE.set<|by omega)<|kE.set<|by omega,fd (fd (Jb.less (B':=g+1)<|by omega)<|kE.set<|by omega)<|kE.set<|by omega,hl3,ajk,λj hb Q=>(aq<|by omega).trans<|(aq<|by omega).trans<|D j hb Q,(aq<|by omega).trans<|(aq<|by omega).trans f0,ajl.more<|by omega⟩
      ·go_meet
       exact⟨_,_,[],[],e1,OI.nil _ _,OI.nil _ _,⟨⟨ZR,λx O=>by cases O⟩,Nat.zero_le _⟩,⟨⟨ZR,λx O=>by cases O⟩,Nat.zero_le _⟩,λj _ _=>rfl,e0,hw.more<|by omega⟩
     case rest=>
      obtain⟨wi,d,N,ld,f1,ho1,S,hl1,hl2,hk,f0,hw⟩:=hcut;generalize wc=B at f1 ho1 S hk f0 hw⊢;have hx6:=hxr.keep hk;have hr6:OV B (g+1) xr s:=fd hrr hk;clear e1 e0 hxr hrr hk;obtain⟨⟨s0,s1,s2,s3⟩,_⟩:=dx f1;obtain⟨⟨r0,r1,r2,r3⟩,rf⟩:=dx f0;have rf0:=rf 0;have rf1:=rf 1;have rf2:=rf 2;have rf3:=rf 3;obtain⟨lc,hlc,hle⟩:=hx6;obtain⟨ac,mc,rfl,_⟩:=aF hlc;obtain⟨ar,mr,rfl,_⟩:=aF hr6;obtain⟨aw,mw,rfl,_⟩:=aF ho1;obtain⟨ad,md,rfl,_⟩:=aF S
      go_wp2_with fail
      have hf:=heap_setCell_same (i:=3) (v:=.slice ad ld.length md)<|heap_setCell_same (i:=2) (v:=.slice aw N.length mw)<|heap_setCell_same (i:=1) (v:=.slice ar s.length mr)<|heap_setCell_same (i:=0) (v:=.slice ac lc.length mc) f0;have W:kE (g+1) B ((((B.setCell ⟨w.heap.size,0,M⟩<|.slice ac lc.length mc).setCell ⟨w.heap.size,1,M⟩<|.slice ar s.length mr).setCell ⟨w.heap.size,2,M⟩<|.slice aw N.length mw).setCell ⟨w.heap.size,3,M⟩<|.slice ad ld.length md):=λj hb _=>(aq<|by omega).trans<|(aq<|by omega).trans<|(aq<|by omega).trans<|aq<|by omega
      have hwf:=(hw.upto T<|((((Below.refl w B).setCell (p:=(w.heap.size:YP)) .refl<|.slice ac lc.length mc).setCell (p:=((w.heap.size,1):YP)) .refl<|.slice ar s.length mr).setCell (p:=((w.heap.size,2):YP)) .refl<|.slice aw N.length mw).setCell (p:=((w.heap.size,3):YP)) .refl<|.slice ad ld.length md).more (by omega:m+90000<=m+100000);generalize (((B.setCell w.heap.size<|.slice ac lc.length mc).setCell (w.heap.size,1)<|.slice ar s.length mr).setCell (w.heap.size,2)<|.slice aw N.length mw).setCell (w.heap.size,3) (.slice ad ld.length md)=w7 at hf W hwf⊢;obtain⟨⟨k0,k1,k2,k3⟩,_⟩:=dx hf;have hok:aav n ⟨cs,s,N,ld⟩:=⟨HCN.out,hv,hr4.out,hrv,hl1,hl2⟩;have hown:pV w7 w (.agg #[.slice ac lc.length mc,.slice ar s.length mr,.slice aw N.length mw,.slice ad ld.length md]) ⟨cs,s,N,ld⟩:=⟨_,_,_,_,rfl,OX.less (OX.keep ⟨lc,hlc,hle⟩ W)<|by omega,eV (fd hr6 W)<|by omega,eV (fd ho1 W)<|by omega,eV (fd S W)<|by omega⟩;exact ZT (v:=.agg #[.slice ac lc.length mc,.slice ar s.length mr,.slice aw N.length mw,.slice ad ld.length md]) (by simp[ZE,results66,go_sem,k0,k1,k2,k3]) rfl ⟨⟨_,n,_,rfl,hown,hok,hnm⟩,hwf⟩
end
section
variable{k:Nat}{t:ZO}{w:ο}
def eW{ty}{B bx:Nat}{s l k x fr}(h:OC w B s l)(r:w.heap[bx]?=U (Ψ #[Δ Θ k,x] t fr))(v:x.oneCell'=ZB)(C:l.length<=1000000)(A:B<=w):
 ∃a w',(Builtin.append_ #[22,22] ty #[s,.slice bx 1 1]).run prog w=.ok a w'/\(OC w' B a (l++[(k,x)])/\w.grownBy w' s.ownBlock/\(a.ownBlock=s.ownBlock\/∀g,a.ownBlock=U g->w.heap.size<=g)/\∃g m,a=.slice (g:Nat) (l.length+1) m):=by
 obtain⟨y,hi,d,i,n⟩:=Y7 ni;have b:∀j u,(dW (k,x))[j]?=U u->w ((bx:YP).add j)=U u:=by
  intro j u c
  match j,c with
  |0,c=>cases c;simp[Z,r,Zk]
  |1,c=>cases c;simp[Z,r,Zk]
  |j+2,c=>simp[dW]at c
 have o:∀u∈dW (k,x),u.oneCell'=ZB:=by
  intro u q;simp[dW]at q;obtain rfl|rfl:=q
  rfl;exact v
 obtain⟨a,w',z,r1,r2,_,r4⟩:=run_append_own_at (P:=prog) w B 22 ty 76 y _ 2 32 mF hi d i n rfl (by decide) s l.length (l.flatMap dW) h bx 1 1 (dW (k,x)) rfl b o (by unfold maxLen;omega) (by omega) A;refine⟨a,w',z,?_,r2,?_,?_⟩;unfold OC;rw[List.flatMap_append,YG];simpa using r1;obtain e|e:=r4
 ·exact .inl e
 right;intro g p;rw[e]at p;cases p
 exact .refl;obtain⟨g,f,e,_⟩:=r1.form (by omega);exact⟨g,f,e⟩
def I8{cs:List HC}{bw c}(h:cs[k]?=U c)(d:k<bw):(cs.take<|k+1).take bw=(cs.take k).take bw++[c]/\(cs.take<|k+1).drop bw=(cs.take k).drop bw:=by
 rw[bW h];refine⟨?_,?_⟩;have a:(cs.take k++[c]).length<=bw:=by simp;omega
 have b:(cs.take k).length<=bw:=by simp;omega
 rw[ε a,ε b];have a:(cs.take k++[c]).length<=bw:=by simp;omega
 have b:(cs.take k).length<=bw:=by simp;omega
 rw[Zt a,Zt b]
def I9{cs:List HC}{bw c}(h:cs[k]?=U c)(b:bw<=k):(cs.take<|k+1).take bw=(cs.take k).take bw/\(cs.take<|k+1).drop bw=(cs.take k).drop bw++[c]:=by have a:=(ψ.1 h).1;rw[bW h];refine⟨?_,?_⟩;rw[List.take_append_of_le_length (by simp;omega)];rw[List.drop_append_of_le_length (by simp;omega)]
def DA{c:Array υ}{a b:υ}(h:w.heap[k]?=U (.cells c t (0,0)))(hc:c=#[a,b]:=by rfl):w k=U a/\w (k,1)=U b/\w.frozen? k=ξ/\w.frozen? (k,1)=ξ:=by subst hc;simp[Z,φ,h]
def cr{g i j:Nat}{u v}(h:k≠g):((w.setCell (g,i) u).setCell (g,j) v).heap[k]?=w.heap[k]?:=by rw[Below.heap_setCell _ _ _ _ h,Below.heap_setCell _ _ _ _ h]
def Om{a b}(h:w.heap[k]?=U (Ψ #[a,b] t (0,0))):w k=U a/\w (k,1)=U b/\w.frozen? k=ξ/\w.frozen? (k,1)=ξ:=by simp[Z,φ,h]
def SP.ov(B:Nat)(l:List HV):Rg.SP:=⟨λv w=>OV w B v l,λ_ _ _ hb h=>OV.below h hb⟩
def SP.oi(B:Nat)(l:List Int):Rg.SP:=⟨λv w=>OI w B v l,λ_ _ _ hb h=>OI.below h hb⟩
def SP.aax(B:Nat)(a:List HV)(b c:List Int):Rg.SP:=⟨λv w=>∃x y z,v=.agg #[(),x,y,z]/\OV w B x a/\OI w B y b/\OI w B z c,λ_ _ _ hb ⟨x,y,z,e,h1,h2,h3⟩=>⟨x,y,z,e,OV.below h1 hb,OI.below h2 hb,OI.below h3 hb⟩⟩
def SP.aaG(B:Nat):Rg.SP:=⟨λv w=>∃g,v=.pointer (g:Nat)/\w.heap[g]?=U (Ψ #[(),(),(),()] 56 (0,0))/\B<=g,λ_ _ _ hb ⟨g,h1,h2,h3⟩=>⟨g,h1,(hb.block g (Ω.1 h2).1).trans h2,h3⟩⟩
def SP.cell(B:Nat)(p:Int)(vs:List HV):Rg.SP:=⟨λv w=>∃x,v=.agg #[p,x]/\OV w B x vs,λ_ _ _ hb ⟨x,h1,h2⟩=>⟨x,h1,h2.below hb⟩⟩
def SP.ajm(B:Nat):Rg.SP:=⟨λv w=>∃g,v=.pointer (g:Nat)/\w.heap[g]?=U (Ψ #[Δ Θ 0,()] 76 (0,0))/\B<=g,λ_ _ _ hb ⟨g,h1,h2,h3⟩=>⟨g,h1,(hb.block g (Ω.1 h2).1).trans h2,h3⟩⟩
structure I'(h:PH):Prop where
 cells:∀c∈h.cells,c.2.length<=1000/\∀v∈c.2,Sm v.2
 many:h.cells.length<=1000
 roots:h.roots.length<=1000/\∀v∈h.roots,Sm v.2
 aA:h.aA.length<=1000/\∀v∈h.aA,Sm v
 done:h.done.length<=1000/\∀v∈h.done,Sm v
def aes(w v h)(bw:Nat)(hv:tH w v h)(hs:I' h)(hol:bw<=1000000):
 Z9 prog 226 #[v,bw] w λe w'=>(∃b,e=.returned (.pointer (b:Nat))/\dm w' w b (Ij h bw))/\Below w w w':=by
 have HS:=Y hs;obtain⟨c,r,wi,d,rfl,C,H,h3,h4⟩:=hv;have H1:=Y C;have H2:=Y H;have H3:=Y h3;have H4:=Y h4;obtain⟨ac,mc,rfl,_,_,hac⟩:=C;obtain⟨ar,mr,rfl,_,_,_⟩:=H;obtain⟨aw,mw,rfl,_,_,_⟩:=h3;obtain⟨ad,md,rfl,_,_,_⟩:=h4;have HC:=Y hac;have hoi:(0:Int)<=(bw:Int)/\(bw:Int)<=1000000:=by omega
 have hb1:=af w<|Ψ #[.slice ac h.cells.length mc,.slice ar h.roots.length mr,.slice aw h.aA.length mw,.slice ad h.done.length md] 56;have hrl:h.roots.length<=1000000:=by have:=hs.roots.1;omega
 have hwl:h.aA.length<=1000000:=by have:=hs.aA.1;omega
 have hdl:h.done.length<=1000000:=by have:=hs.done.1;omega
 have Oo:(h.aA.map λn=>((1,n):HV)).length<=1000000:=by rw[μ];exact hwl
 have Oq:(h.done.map λn=>((1,n):HV)).length<=1000000:=by rw[μ];exact hdl
 have hws:∀x∈h.aA.map λn=>((1,n):HV),Sm x.2:=λx hx=>by obtain⟨n,hn,rfl⟩:=ZX.1 hx;exact hs.aA.2 n hn
 have hds:∀x∈h.done.map λn=>((1,n):HV),Sm x.2:=λx hx=>by obtain⟨n,hn,rfl⟩:=ZX.1 hx;exact hs.done.2 n hn
 clear hs hac
 go_enter (fU func226 rfl),ntmps226
 go_wp2_with fail
 have f0:(w.alloc<|Ψ #[.slice ac h.cells.length mc,.slice ar h.roots.length mr,.slice aw h.aA.length mw,.slice ad h.done.length md] 56).drew.cell? w.heap.size=U (.slice ac h.cells.length mc):=by go_simp
 have f1:(w.alloc<|Ψ #[.slice ac h.cells.length mc,.slice ar h.roots.length mr,.slice aw h.aA.length mw,.slice ad h.done.length md] 56).drew.cell? (w.heap.size,1)=U (.slice ar h.roots.length mr):=by go_simp
 have f2:(w.alloc<|Ψ #[.slice ac h.cells.length mc,.slice ar h.roots.length mr,.slice aw h.aA.length mw,.slice ad h.done.length md] 56).drew.cell? (w.heap.size,2)=U (.slice aw h.aA.length mw):=by go_simp
 have f3:(w.alloc<|Ψ #[.slice ac h.cells.length mc,.slice ar h.roots.length mr,.slice aw h.aA.length mw,.slice ad h.done.length md] 56).drew.cell? (w.heap.size,3)=U (.slice ad h.done.length md):=by go_simp
 have hd1:=hb1.drew;have W:w.heap.size<(w.alloc<|Ψ #[.slice ac h.cells.length mc,.slice ar h.roots.length mr,.slice aw h.aA.length mw,.slice ad h.done.length md] 56).drew.heap.size:=by simp
 go_region_held3 (λx=>x (w.heap.size,1)=U (.slice ar h.roots.length mr)/\x (w.heap.size,2)=U (.slice aw h.aA.length mw)/\x (w.heap.size,3)=U (.slice ad h.done.length md))
  (first|(refine⟨?_,?_,?_⟩<;>assumption)|go_keep)
  (first
    |(go_at_call 262;(with_reducible refine(zo _ (.slice ar h.roots.length mr) h.roots _ (H2.out.below hd1) hrl HS.out.roots.2 hoi).mono ?_);rintro e w4 ⟨⟨r4,rfl,Ja⟩,O⟩;have hB4:Below w w w4:=hd1.trans<|O.mono hd1.size;have Fx:=Y Ja;obtain⟨a4,m4,rfl,_⟩:=aF Ja;clear Ja;simp only[μ]at Fx;have q40:=cG O f0 W;have q41:=cG O f1 W;have q42:=cG O f2 W;have q43:=cG O f3 W;have T:=Nat.lt_of_lt_of_le W O.size)
    |(go_at_call 132;(with_reducible refine(Ip _ (.slice aw h.aA.length mw) h.aA (H3.out.below hB4) hwl).mono ?_);rintro e w5 ⟨⟨r5,rfl,Ro⟩,m⟩;have K:Below w w w5:=hB4.trans<|m.mono hB4.size;have E:=Y Ro;obtain⟨J,G,rfl,_⟩:=aF Ro;clear Ro;simp only[μ]at E;have Wk:=cG m q40 T;have Wl:=cG m q41 T;have OE:=cG m q42 T;have q53:=cG m q43 T;have S:=Nat.lt_of_lt_of_le T m.size)
    |(go_at_call 262;(with_reducible refine(zo _ (.slice J h.aA.length G) (h.aA.map λn=>((1,n):HV)) _ E.out.reads Oo hws hoi).mono ?_);rintro e w6 ⟨⟨r6,rfl,Jb⟩,z⟩;have hB6:Below w w w6:=K.trans<|z.mono K.size;have Jc:=Y Jb;obtain⟨a6,m6,rfl,_⟩:=aF Jb;clear Jb;simp only[μ]at Jc;have q60:=cG z Wk S;have q61:=cG z Wl S;have q62:=cG z OE S;have q63:=cG z q53 S;have Q:=Nat.lt_of_lt_of_le S z.size)
    |(go_at_call 132;(with_reducible refine(Ip _ (.slice ad h.done.length md) h.done (H4.out.below hB6) hdl).mono ?_);rintro e w7 ⟨⟨r7,rfl,Jd⟩,o⟩;have Wm:Below w w w7:=hB6.trans<|o.mono hB6.size;have Je:=Y Jd;obtain⟨a7,m7,rfl,_⟩:=aF Jd;clear Jd;simp only[μ]at Je;have q70:=cG o q60 Q;have q71:=cG o q61 Q;have rJ:=cG o q62 Q;have q73:=cG o q63 Q;have X:=Nat.lt_of_lt_of_le Q o.size)
    |(go_at_call 262;(with_reducible refine(zo _ (.slice a7 h.done.length m7) (h.done.map λn=>((1,n):HV)) _ Je.out.reads Oq hds hoi).mono ?_);rintro e w8 ⟨⟨r8,rfl,DF⟩,a⟩;have Wn:Below w w w8:=Wm.trans (a.mono Wm.size);have Or:=Y DF;obtain⟨a8,m8,rfl,_⟩:=aF DF;clear DF;simp only[μ]at Or;have Eh:=cG a q70 X;have yq:=cG a q71 X;have q82:=cG a rJ X;have q83:=cG a q73 X;have hs8:=Nat.lt_of_lt_of_le X a.size))
 clear f1 f2 f3 q40 q41 q42 q43 Wk Wl OE q53 q60 q61 q62 q63 q70 q71 rJ q73 yq q82 q83;have hk8:=Γ w8<|Ψ #[(),(),.slice a4 h.roots.length m4,.slice a6 h.aA.length m6,.slice a8 h.done.length m8,()] 114;have BP:=af w8<|Ψ #[(),(),.slice a4 h.roots.length m4,.slice a6 h.aA.length m6,.slice a8 h.done.length m8,()] 114;have Dv:=Wn.trans<|BP.mono Wn.size;have t4:OV w8 w (.slice a4 h.roots.length m4) (h.roots.map<|ed (bw:Int)):=(((((Fx.out.below m).below z).below o).below a).less hd1.size);have t6:OV w8 w5 (.slice a6 h.aA.length m6) ((h.aA.map λn=>((1,n):HV)).map<|ed (bw:Int)):=(Jc.out.below o).below a;have t8:OV w8 w7 (.slice a8 h.done.length m8) ((h.done.map λn=>((1,n):HV)).map<|ed (bw:Int)):=Or.out;have t4':=(((Fx.out.below m).below z).below o).below a;have l4:∀g,(Z8 a4 h.roots.length m4).ownBlock=U g->g<w4:=λg hg=>(Fx.out.lt g hg).2;have l6:∀g,(Z8 a6 h.aA.length m6).ownBlock=U g->w5.heap.size<=g/\g<w6:=λg hg=>Jc.out.lt g hg;have l8:∀g,(Z8 a8 h.done.length m8).ownBlock=U g->w7.heap.size<=g/\g<w8:=λg hg=>Or.out.lt g hg;have afe:Apart (.slice a4 h.roots.length m4) (.slice a6 h.aA.length m6):=λg C H=>by have:=l4 g C;have:=(l6 g H).1;have:=m.size;omega
 have aff:Apart (.slice a4 h.roots.length m4) (.slice a8 h.done.length m8):=λg C H=>by have:=l4 g C;have:=(l8 g H).1;have:=m.size;have:=z.size;have:=o.size;omega
 have afg:Apart (.slice a6 h.aA.length m6) (.slice a8 h.done.length m8):=λg C H=>by have:=(l6 g C).2;have:=(l8 g H).1;have:=o.size;omega
 have hlow:∀g,((Z8 a4 h.roots.length m4).ownBlock=U g\/(Z8 a6 h.aA.length m6).ownBlock=U g\/(Z8 a8 h.done.length m8).ownBlock=U g) ->g<w8:=by
  rintro g (C|C|C);have:=l4 g C;have:=m.size;have:=z.size;have:=o.size;have:=a.size;omega
  have:=(l6 g C).2;have:=o.size;have:=a.size;omega
  exact(l8 g C).2
 have F:=Wn.size;have h58:w5.heap.size<=w8/\w.heap.size<=w5/\w.heap.size<=w7:=⟨by have:=z.size;have:=o.size;have:=a.size;omega,K.size,Wm.size⟩;have HT:=Y<|Ξ t4<|Ξ (t6.less h58.2.1)<|Ξ (t8.less h58.2.2)<|Ξ afe<|Ξ aff<|Ξ afg hlow;have htw:Ol (w8.alloc<|Ψ #[(),(),.slice a4 h.roots.length m4,.slice a6 h.aA.length m6,.slice a8 h.done.length m8,()] 114) w8 w8 w8 (.slice a4 h.roots.length m4) (.slice a6 h.aA.length m6) (.slice a8 h.done.length m8) [] []:=⟨_,_,[],[],.refl,hk8,OC.nil _ _,⟨rfl,λi k x k' s e1 _=>by simp at e1,λi j p q _ e1 _=>by simp at e1⟩,OC.nil _ _,⟨rfl,λi k x k' s e1 _=>by simp at e1,λi j p q _ e1 _=>by simp at e1⟩,λg e=>(by cases e),λp L=>(by cases L)⟩
 have f9:=cG BP Eh hs8;have HW:=Y<|Ξ htw<|Ξ BP Wn;have Wo:w8.heap.size<(w8.alloc<|Ψ #[(),(),.slice a4 h.roots.length m4,.slice a6 h.aA.length m6,.slice a8 h.done.length m8,()] 114).heap.size:=by simp
 generalize w8.alloc _=w9 at HW f9 Wo⊢;clear t4 t6 t8 t4' l4 l6 l8 afe aff afg hlow htw hk8 BP Dv Eh O m z o a hB4 K hB6 Wm Wn Fx E Jc Je Or W T S Q X hs8 f0 hd1 hb1;obtain⟨y,hS0⟩:∃y,y=w8.heap.size:=⟨_,rfl⟩;rw[<-hS0]at HW HT Wo F⊢;replace hS0:=Y hS0;clear h58
 go_wp2_with fail
 clear f9
 go_loopw [29] (λi wr=>∃k:Nat,k<=h.cells.length/\i=Δ Θ k/\Hid (Ol wr y y y (.slice a4 h.roots.length m4) (.slice a6 h.aA.length m6) (.slice a8 h.done.length m8) (((h.cells.take k).drop bw).map<|qO (bw:Int))<|((h.cells.take k).take bw).map<|qO (bw:Int))/\Below y w8 wr/\y<wr.heap.size) (λi _=>h.cells.length-(intOf i).toNat)
 case atStart=>exact⟨0,Nat.zero_le _,rfl,Y<|by simpa using HW.out.1,HW.out.2.1,Wo⟩
 case round=>
  have HB8:=Y HW.out.2.2;clear HW;obtain⟨k,hk,rfl,HK,h8r,A⟩:=hrel;have hbw:Below w.heap.size w wr:=HB8.out.trans<|h8r.mono F;have hsz:=hbw.size;by_cases hlt:k<h.cells.length
  ·obtain⟨ba,oa,e,hba,hat⟩:=HC.out (by omega);cases e
   obtain⟨B,s,e1⟩:=cQ hlt;obtain⟨d1,x,d2,hx⟩:=(hat.below hbw hba) k B s e1;have hsc:=HS.out.cells _<|ω e1;dsimp only at hsc;have HX:=Y hx;obtain⟨ax,mx,rfl,_,_,_⟩:=hx;have E1:=Y e1;have hvl:s.length<=1000000:=by omega
   clear hat e1
   go_wp2_with fail
   have hb0:=af wr<|Ψ #[B,.slice ax s.length mx] 76;have n0:(wr.alloc<|Ψ #[B,.slice ax s.length mx] 76).cell? ⟨wr.heap.size,0,M⟩=U (Δ Θ B):=by go_simp
   have n1:(wr.alloc<|Ψ #[B,.slice ax s.length mx] 76).cell? (wr.heap.size,1)=U (.slice ax s.length mx):=by go_simp
   have hn1:wr.heap.size<(wr.alloc<|Ψ #[B,.slice ax s.length mx] 76).heap.size:=by simp
   generalize wr.alloc _=w1 at hb0 n0 n1 hn1⊢;have hd0:=hb0.drew;have hv1:=HX.out.below hb0;refine Rg.kl [.eq (.pointer wr.heap.size),.eq B,.eq<|.pointer (wr.heap.size,1),.eq<|.slice ax s.length mx,.eq bw,SP.ov w1<|s.map<|ed (bw:Int),SP.cell w1 B<|s.map<|ed (bw:Int),SP.ajm w1] (by kernel_rfl) (by kernel_rfl) (by rfl) ?_ ?_
   ·refine⟨?_,?_,?_,?_,?_,?_,?_,?_,trivial⟩
    all_goals intro a2 w2 hb2 t l
    all_goals have hB:Below w1 w1 w2:=(Below.refl _ w1).drew.trans hb2
    all_goals have y0:=cG hB n0 hn1
    all_goals have y1:=cG hB n1 hn1
    all_goals first|(have k0:=t 1 rfl;have k1:=t 7 rfl;simp at k0 k1;(try have q0:=Rg.ir (l 0 _ rfl rfl) rfl);(try have q1:=Rg.ir (l 2 _ rfl rfl) rfl);clear t l;go_simp;exact⟨_,rfl,.refl _ _,rfl⟩)|skip
    ·have d0:=Rg.ir (l 3 _ rfl rfl) rfl;have d1:=Rg.ir (l 4 _ rfl rfl) rfl;clear t l;go_simp;refine(zo _ _ s _ (hv1.below hB) hvl hsc.2 hoi).mono ?_;rintro e w3 ⟨⟨r,rfl,ho⟩,hb3⟩;exact⟨_,rfl,hb3,OV.less ho hB.size⟩
    ·have d0:=Rg.ir (l 1 _ rfl rfl) rfl;obtain⟨v1,d1,hv1⟩:∃v,(a2.tmps[39]?).getD undef=v/\OV w2 w1 v _:=⟨_,rfl,l 5 _ rfl rfl⟩;obtain⟨_,_,rfl,_⟩:=aF hv1;simp only[μ]at hv1;clear t l;go_simp;exact⟨_,rfl,.refl _ _,_,rfl,hv1⟩
    ·clear t l;go_simp;exact⟨_,rfl,af _ _,_,rfl,Γ _ _,hB.size⟩
   ·rintro vs0 w5 m ⟨s0,s1,s2,s3,s4,s5,⟨x5,s6,E⟩,⟨P,s7,xo,a⟩,-⟩;have s6:vs0 6=_:=s6;have s7:vs0 7=_:=s7;obtain⟨J,G,rfl,_⟩:=aF E;have K:Below w1 w1 w5:=(Below.refl _ w1).drew.trans m;simp only[μ]at E s6;simp[go_sem,s6,s7];obtain⟨xc0,xc1,xf0,xf1⟩:=Om xo;clear s0 s1 s2 s3 s4 s5 s6 s7 n0 n1 m
    go_upto_region 6 with fail
    have hk9:=aB (aB xo 0 B) 1<|.slice J s.length G;have Dv:Below w1 w1 ((w5.setCell P B).setCell (P,1)<|.slice J s.length G):=(K.setCell (p:=⟨P,0,M⟩) a _).setCell (p:=⟨P,1,M⟩) a _;have HO9:Hid (OV ((w5.setCell P B).setCell (P,1)<|.slice J s.length G) w1 (.slice J s.length G)<|s.map<|ed (bw:Int)):=Y<|bp (w':=(w5.setCell ⟨P,0,M⟩<|Δ Θ B).setCell ⟨P,1,M⟩<|.slice J s.length G) E xo (by decide) λk hk=>cr hk;have hl9:P<((w5.setCell P B).setCell (P,1)<|.slice J s.length G).heap.size:=(Ω.1 hk9).1;generalize hw9:((w5.setCell P B).setCell (P,1)<|.slice J s.length G)=u at hk9 Dv HO9 hl9⊢;clear hw9 E xo xc0 xc1 xf0 xf1 K a;have f:Below wr wr u:=hb0.trans<|Dv.mono hb0.size;obtain⟨sn,so,ln,lo,hSb,af8,C,H,h3,h4,h5,h6⟩:=HK.out;have HPT:=Y<|Ξ hSb<|Ξ af8<|Ξ C<|Ξ H<|Ξ h3<|Ξ h4<|Ξ h5 h6;have D:=(f.block y A).trans af8;replace C:=C.below f;replace h3:=h3.below f;have hln:ln.length<=1000000/\lo.length<=1000000:=by have e1:=H.1;have e2:=h4.1;have:=HS.out.many;simp at e1 e2;omega
    obtain⟨an,mn,rfl,_⟩:=aF C;obtain⟨ao,mo,rfl,_⟩:=aF h3;have c8a:u P=U (Δ Θ B):=(DA hk9).1;have c8b:u (P,1)=U (.slice J s.length G):=(DA hk9).2.1;have cs0:u (y:Nat)=U (.slice an ln.length mn):=by simp[Z,D]
    have cs1:u ⟨y,1,M⟩=U (.slice ao lo.length mo):=by simp[Z,D]
    have fs0:u.frozen? ⟨y,0,M⟩=ξ:=by simp[φ,D]
    have fs1:u.frozen? ⟨y,1,M⟩=ξ:=by simp[φ,D]
    have hSl:y<u.heap.size:=(Ω.1 D).1;have anj:w.heap.size<=u.heap.size:=Nat.le_trans hsz f.size;have ahj:(Z8 an ln.length mn).ownBlock≠U y:=eJ C D (by decide);have afN:(Z8 ao lo.length mo).ownBlock≠U y:=eJ h3 D (by decide);have HN:=Y<|Ξ ahj afN;clear D af8 C H h3 h4 h5 h6 ahj afN hk9;by_cases hko:k<bw
    ·have hki:(k:Int)<(bw:Int):=by omega
     go_wp2_with fail
     go_region_law ((refine aX rfl _ _ 22 (by rfl) (.slice ao lo.length mo) (Z8 (U ⟨u.heap.size,0,M⟩) 1 1) (by rfl) (by rfl) _ (eW (k:=B) (x:=.slice J s.length G) ((HPT.out.2.2.2.2.1.below f).below<|by first|exact(af u _).drew|exact(af u _)) (Γ u _) (by rfl) (by omega) (by simp;omega)) ?_;intro v' w2 H;obtain⟨hoc,N,hnb,gg,mg,rfl⟩:=H;have gc:=(N.cell_far ⟨y,1,M⟩ (by simp;omega)<|Z0 HN.out.2).trans<|(((af u _).drew).cell (p:=⟨y,1,M⟩) hSl).trans cs1;have gf:=(N.frozen_far ⟨y,1,M⟩ (by simp;omega)<|Z0 HN.out.2).trans<|(((af u _).drew).frozen (p:=⟨y,1,M⟩) hSl).trans fs1))
     all_goals
      go_wp2_with fail
      have hx2:=OV.less (B':=wr.heap.size) (HO9.out.below<|(af u<|Ψ #[B,.slice J s.length G] 76).drew) (by omega);obtain⟨p1,p2,p3,p4,p5,p6,p7,p8⟩:=HPT.out;obtain⟨e1,e2⟩:=I7 (w2:=(u.alloc<|Ψ #[B,.slice J s.length G] 76).drew) p1 p2 p3 p4 p5 p6 p7 p8 (Nat.le_of_lt A) (Nat.le_of_lt A) (f.trans<|(af u _).drew.mono f.size) hx2 N hoc (hnb.imp_right λhh g hg=>by have:=hh g hg;exact this);have htk:=I8 (bw:=bw) E1.out hko
      go_roundw
      case rel=>refine⟨k+1,by omega,by go_num,Y ?_,h8r.trans e2,Nat.lt_of_lt_of_le A e2.size⟩;rw[htk.1,htk.2,ZY];exact e1
      case measure=>simp[intOf];omega
    ·have hki:¬(k:Int)<(bw:Int):=by omega
     go_wp2_with fail
     go_region_law ((refine aX rfl _ _ 22 (by rfl) (.slice an ln.length mn) (Z8 (U ⟨u.heap.size,0,M⟩) 1 1) (by rfl) (by rfl) _ (eW (k:=B) (x:=.slice J s.length G) ((HPT.out.2.2.1.below f).below<|by first|exact(af u _).drew|exact(af u _)) (Γ u _) (by rfl) (by omega) (by simp;omega)) ?_;intro v' w2 H;obtain⟨hoc,N,hnb,gg,mg,rfl⟩:=H;have gc:=(N.cell_far ⟨y,0,M⟩ (by simp;omega)<|Z0 HN.out.1).trans<|(((af u _).drew).cell (p:=⟨y,0,M⟩) hSl).trans cs0;have gf:=(N.frozen_far ⟨y,0,M⟩ (by simp;omega)<|Z0 HN.out.1).trans<|(((af u _).drew).frozen (p:=⟨y,0,M⟩) hSl).trans fs0))
     all_goals
      go_wp2_with fail
      have hx2:=OV.less (B':=wr.heap.size) (HO9.out.below<|(af u<|Ψ #[B,.slice J s.length G] 76).drew) (by omega);obtain⟨p1,p2,p3,p4,p5,p6,p7,p8⟩:=HPT.out;obtain⟨e1,e2⟩:=I6 (w2:=(u.alloc<|Ψ #[B,.slice J s.length G] 76).drew) p1 p2 p3 p4 p5 p6 p7 p8 (Nat.le_of_lt A) (Nat.le_of_lt A) (f.trans<|(af u _).drew.mono f.size) hx2 N hoc (hnb.imp_right λhh g hg=>by have:=hh g hg;exact this);have htk:=I9 (bw:=bw) E1.out (by omega)
      go_roundw
      case rel=>refine⟨k+1,by omega,by go_num,Y ?_,h8r.trans e2,Nat.lt_of_lt_of_le A e2.size⟩;rw[htk.1,htk.2,ZY];exact e1
      case measure=>simp[intOf];omega
  ·have hke:k=h.cells.length:=by omega
   subst hke;clear hlt;have h8':Below w8.heap.size w8 wr:=hS0.out▸h8r;have HE:Hid (dm wr w.heap.size y (Ij h bw)):=Y (by
    obtain⟨sn,so,ln,lo,q1,q2,q3,q4,q5,q6,q7,q8⟩:=HK.out;obtain⟨t1,t2,t3,t4,t5,t6,t7⟩:=HT.out;rw[Yy]at q4 q6;have wl:∀p,(p∈ln\/p∈lo) ->∀g,p.2.ownBlock=U g->y<=g:=λp L g hg=>by
     obtain L|L:=L
     exact(lY q4 L hg).1;exact(lY q6 L hg).1
    have fr:∀p,(p∈ln\/p∈lo) ->Apart p.2 (.slice a4 h.roots.length m4)/\Apart p.2 (.slice a6 h.aA.length m6)/\Apart p.2 (.slice a8 h.done.length m8):=λp L=>⟨λg e1 e2=>Nat.lt_irrefl _<|Nat.lt_of_lt_of_le (t7 g<|.inl e2)<|wl p L g e1,λg e1 e2=>Nat.lt_irrefl _<|Nat.lt_of_lt_of_le (t7 g<|.inr<|.inl e2)<|wl p L g e1,λg e1 e2=>Nat.lt_irrefl _<|Nat.lt_of_lt_of_le (t7 g<|.inr<|.inr e2)<|wl p L g e1⟩
    exact I5 F q2 (q3.less F) (q4.less F) (q5.less F) (q6.less F) (t1.below h8') (t2.below h8') (t3.below h8') (OI.nil _ _) q8 (λp L=>fr p (.inl L)) (λp L=>fr p (.inr L)) t4 t5 t6)
   have hfin:Below w.heap.size w wr:=HB8.out.trans<|h8r.mono F;clear h8' HT HK
   go_wp2_with fail
   go_ret;exact⟨⟨_,rfl,HE.out⟩,hfin⟩
end
section
variable{x:υ}{B:Nat}{t:ZO}{w:ο}
def km{k:Nat}{a b c d}(h:w.heap[k]?=U (Ψ #[a,b,c,d] t (0,0))):w k=U a/\w (k,1)=U b/\w (k,2)=U c/\w (k,3)=U d/\
 w.frozen? k=ξ/\w.frozen? (k,1)=ξ/\w.frozen? (k,2)=ξ/\w.frozen? (k,3)=ξ:=by simp[Z,φ,h]
def dB{o a}(h:w a=U x):(w.alloc o) a=U x:=by simp[World.cell?_alloc_some,h]
def dO{a}(h:w a=U x):w.drew.cell? a=U x:=h
def da{i b j:Nat}{v}(a:¬B=b)(h:w (b,j)=U x):(w.setCell (B,i) v) (b,j)=U x:=(World.cell?_setCell_far w (B,i) (b,j) v a).trans h
structure Small(g:GH):Prop where
 cells:∀c∈g.old++g.new,c.2.length<=1000/\∀v∈c.2,Sm v.2
 roots:g.roots.length<=1000/\∀v∈g.roots,Sm v.2
 aA:g.aA.length<=1000/\∀v∈g.aA,Sm v.2
 done:g.done.length<=1000/\∀v∈g.done,Sm v.2
 bw:g.old.length<=1000
 news:g.new.length<=1000
def uX(g:GH)(j:Nat):List HC:=if j=0 then []else if j=1 then g.old else g.old++g.new
def qx(w V:ο)(S B:Nat)(s4 s6 s8:υ)(l4:List HV)(l6 l8:List Int)(cs:List HC):Prop:=Below S w V/\sK V S B 56 [s4,s6,s8] cs/\OV V S s4 l4/\OI V S s6 l6/\OI V S s8 l8
def wR{g:Nat}{y z u}(a b c d)(h:w.heap[g]?=U (Ψ #[x,y,z,u] t (0,0))):
 ((((w.setCell g a).setCell (g,1) b).setCell (g,2) c).setCell (g,3) d).heap[g]?=U (Ψ #[a,b,c,d] t (0,0))/\
 (∀j,j≠g->((((w.setCell g a).setCell (g,1) b).setCell (g,2) c).setCell (g,3) d).heap[j]?=w.heap[j]?)/\
 (∀B,B<=g->Below B w ((((w.setCell g a).setCell (g,1) b).setCell (g,2) c).setCell (g,3) d))/\
 ((((w.setCell g a).setCell (g,1) b).setCell (g,2) c).setCell (g,3) d).heap.size=w:=
 ⟨heap_setCell_same (i:=3) (heap_setCell_same (i:=2) (heap_setCell_same (i:=1) (heap_setCell_same (i:=0) h))),
   λj f=>(aq f).trans<|(aq f).trans<|(aq f).trans<|aq f,
   λB e=>((((Below.refl B w).setCell (p:=⟨g,0,M⟩) e _).setCell (p:=⟨g,1,M⟩) e _).setCell (p:=⟨g,2,M⟩) e _).setCell (p:=⟨g,3,M⟩) e _,by simp[ZL]⟩
def jD{w8 S s4 b c f l h}(r:Below S w w8)(g:S<=B)(d:w8.heap[B]?=U (Ψ #[(),(),(),()] 56 (0,0)))(h4:OV w8 S s4 f)(o:OI w8 S b l)(n:OI w8 S c h):
 qx w ((((w8.setCell B ()).setCell (B,1) s4).setCell (B,2) b).setCell (B,3) c) S B s4 b c f l h []:=by
 obtain⟨m,a,e,_⟩:=wR () s4 b c d;exact⟨r.trans<|e S g,⟨_,[],g,m,OC.nil _ _,⟨rfl,λi k x t s e1 _=>by simp at e1,λi j p q _ e1 _=>by simp at e1⟩⟩,bp h4 d (by decide) a,bp o d (by decide) a,bp n d (by decide) a⟩
def qx.below{w a e S B s4 d f c g i cs}(h:qx w a S B s4 d f c g i cs)(hs:S<=a)(b:Below a a e):qx w e S B s4 d f c g i cs:=⟨h.1.trans<|b.mono hs,h.2.1.below b,h.2.2.1.below b,h.2.2.2.1.below b,h.2.2.2.2.below b⟩
def tQ{b e size n v xs c fr}(h:w.ownsRow B e size v n xs)(hb:w.heap[b]?=U (.cells c t fr))(d:t≠e):v.ownBlock≠U b:=λa=>cF h hb d a
def qx.step{a w2 j}{S bx:Nat}{s4 o p q s' so v u y t cs l k vs}(h:qx w a S B s4 o p u y t cs)(hs:S<=a)(G:S<=B)(hb:a.heap[B]?=U (Ψ #[q,s4,o,p] 56 (0,0)))(s:OC a S q l)(z:df a S l cs)(n:a.heap[bx]?=U (Ψ #[so,v] 22 (0,0)))(f:Below a a w2)(F:OV w2 a x vs)(m:w2.grownBy j q.ownBlock)(D:OC j S s' (l++[(k,x)])):
 qx w (j.setCell B s') S B s4 o p u y t (cs++[(k,vs)])/\(j.setCell B s').heap[bx]?=U (Ψ #[so,v] 22 (0,0)):=by
 obtain⟨q1,H,A,E,C⟩:=h;obtain⟨r1,r2⟩:=Ok (rest:=[s4,o,p]) G hb s z hs (by decide) f F m D;have b:OC w2 S q l:=s.below f;have g:=(f.block B (Ω.1 hb).1).trans hb;have d:=(f.block bx (Ω.1 n).1).trans n;have i:=(m.block B (Ω.1 g).1 λe=>cF b g (by decide) e.symm).trans g;have r:=(m.block bx (Ω.1 d).1 λe=>cF b d (by decide) e.symm).trans d;have c:∀k,k≠B->(j.setCell B s').heap[k]?=j.heap[k]?:=λk h=>aq h;refine⟨⟨q1.trans r2,r1,bp (fy (A.below f) b (by decide) m) i (by decide) c,bp (fy (E.below f) b (by decide) m) i (by decide) c,bp (fy (C.below f) b (by decide) m) i (by decide) c⟩,?_⟩;rw[c bx (λe=>by subst e;rw[hb]at n;injection n with n;injection n with _ h4 _;exact absurd h4<|by decide)];exact r
def DB(w b g)(h:mi w b g)(hs:Small g):
 Z9 prog 119 #[.pointer b] w λe w'=>(∃r,e=.returned r/\tH w' r (plain g))/\Below w w w':=by
 have HS:=Y hs;obtain⟨n,o,r,wi,d,m,c0,c1,c2,c3,c4,c5,T,h2,h3,h4,h5,h6⟩:=h;have hb:=az c0;have H1:=Y T;have H2:=Y h2;have H3:=Y h3;have H4:=Y h4;have H5:=Y h5;obtain⟨an,mn,rfl,_,_,_⟩:=T;obtain⟨ao,mo,rfl,_,_,_⟩:=h2;obtain⟨ar,mr,rfl,_,_,_⟩:=h3;obtain⟨aw,mw,rfl,_,_,_⟩:=h4;obtain⟨ad,md,rfl,_,_,_⟩:=h5;have hol:(0:Int)<=(g.old.length:Int)/\(g.old.length:Int)<=1000000:=by have:=hs.bw;omega
 have y:=af w<|Ψ #[(),(),(),()] 56;have C:=Y<|Ξ c0<|Ξ c1<|Ξ c2<|Ξ c3 c4;clear hs h6 c0 c5
 go_enter (fU func119 rfl),ntmps119
 go_upto_region 2 with fail
 have hob:=Γ w<|Ψ #[(),(),(),()] 56;have D:w.heap.size<(w.alloc<|Ψ #[(),(),(),()] 56).heap.size:=by simp
 generalize w.alloc _=z at y hob D⊢;replace H1:=Y<|H1.out.below y;replace H2:=Y<|H2.out.below y;replace H3:=Y<|H3.out.below y;replace H4:=Y<|H4.out.below y;replace H5:=Y<|H5.out.below y;replace C:=Y<|Ξ (cG y C.out.1 hb)<|cG y C.out.2.1 hb;replace c2:=cG y c2 hb;replace c3:=cG y c3 hb;replace c4:=cG y c4 hb;clear c1;replace hb:b<z:=Nat.lt_of_lt_of_le hb y.size;have HB1:=Y y;have HOB:=Y hob;clear y hob;generalize hrb:w.heap.size=rb at HOB D⊢;have hrl:g.roots.length<=1000000:=by have:=HS.out.roots.1;omega
 have hwl:g.aA.length<=1000000:=by have:=HS.out.aA.1;omega
 have hdl:g.done.length<=1000000:=by have:=HS.out.done.1;omega
 obtain⟨RL,hRL⟩:∃x,Hid (x=g.roots.map (cp (g.old.length:Int))):=⟨_,Y rfl⟩;obtain⟨N,hWV⟩:∃x,Hid (x=g.aA.map (cp (g.old.length:Int))):=⟨_,Y rfl⟩;obtain⟨P,hDV⟩:∃x,Hid (x=g.done.map (cp (g.old.length:Int))):=⟨_,Y rfl⟩;have hwv:N.length<=1000000:=by rw[hWV.out,μ];exact hwl
 have hdv:P.length<=1000000:=by rw[hDV.out,μ];exact hdl
 refine Rg.kl [.eq (.pointer b),.eq<|.pointer b,.eq<|.pointer b,.eq<|.pointer (b,2),.eq<|.slice ar g.roots.length mr,.eq g.old.length,SP.ov z RL,.eq<|.pointer b,.eq<|.pointer b,.eq<|.pointer b,.eq<|.pointer (b,3),.eq<|.slice aw g.aA.length mw,.eq g.old.length,SP.ov z N,SP.oi z<|N.map (·.2),.eq<|.pointer b,.eq<|.pointer b,.eq<|.pointer b,.eq<|.pointer (b,4),.eq<|.slice ad g.done.length md,.eq g.old.length,SP.ov z P,SP.oi z<|P.map (·.2),SP.aax z RL (N.map (·.2))<|P.map (·.2),SP.aaG z] (by kernel_rfl) (by kernel_rfl) (by rfl) ?_ ?_
 ·refine⟨?_,?_,?_,?_,?_,?_,?_,?_,?_,?_,?_,?_,?_,?_,?_,?_,?_,?_,?_,?_,?_,?_,?_,?_,?_,trivial⟩
  all_goals intro a2 w2 hb2 s q
  all_goals have Q:Below z z w2:=(Below.refl _ z).drew.trans hb2
  all_goals have y2:=cG Q c2 hb
  all_goals have y3:=cG Q c3 hb
  all_goals have y4:=cG Q c4 hb
  all_goals first|(have k0:=s 0 rfl;have k1:=s 3 rfl;simp at k0 k1;(try have q0:=Rg.ir (q 0 _ rfl rfl) rfl);(try have q1:=Rg.ir (q 1 _ rfl rfl) rfl);(try have q2:=Rg.ir (q 2 _ rfl rfl) rfl);(try have q3:=Rg.ir (q 3 _ rfl rfl) rfl);(try have q4:=Rg.ir (q 7 _ rfl rfl) rfl);(try have q5:=Rg.ir (q 8 _ rfl rfl) rfl);(try have q6:=Rg.ir (q 9 _ rfl rfl) rfl);(try have q7:=Rg.ir (q 10 _ rfl rfl) rfl);(try have q8:=Rg.ir (q 15 _ rfl rfl) rfl);(try have q9:=Rg.ir (q 16 _ rfl rfl) rfl);(try have q10:=Rg.ir (q 17 _ rfl rfl) rfl);(try have q11:=Rg.ir (q 18 _ rfl rfl) rfl);clear s q;go_simp;exact⟨_,rfl,.refl _ _,rfl⟩)|skip
  ·have d0:=Rg.ir (q 4 _ rfl rfl) rfl;have d1:=Rg.ir (q 5 _ rfl rfl) rfl;clear s q;go_simp;refine(gz _ _ g.roots _ (H3.out.below Q) hrl HS.out.roots.2 hol).mono ?_;rintro e w3 ⟨⟨r,rfl,O⟩,F⟩;rw[<-hRL.out]at O;exact⟨_,rfl,F,OV.less O Q.size⟩
  ·have d0:=Rg.ir (q 11 _ rfl rfl) rfl;have d1:=Rg.ir (q 12 _ rfl rfl) rfl;clear s q;go_simp;refine(gz _ _ g.aA _ (H4.out.below Q) hwl HS.out.aA.2 hol).mono ?_;rintro e w3 ⟨⟨r,rfl,O⟩,F⟩;rw[<-hWV.out]at O;exact⟨_,rfl,F,OV.less O Q.size⟩
  ·obtain⟨v,d0,hv⟩:∃v,(a2.tmps[28]?).getD undef=v/\OV w2 z v _:=⟨_,rfl,q 13 _ rfl rfl⟩;clear s q;go_simp;refine(lV _ _ _ hv.reads hwv).mono ?_;rintro e w3 ⟨⟨r,rfl,O⟩,F⟩;exact⟨_,rfl,F,OI.less O Q.size⟩
  ·have d0:=Rg.ir (q 19 _ rfl rfl) rfl;have d1:=Rg.ir (q 20 _ rfl rfl) rfl;clear s q;go_simp;refine(gz _ _ g.done _ (H5.out.below Q) hdl HS.out.done.2 hol).mono ?_;rintro e w3 ⟨⟨r,rfl,O⟩,F⟩;rw[<-hDV.out]at O;exact⟨_,rfl,F,OV.less O Q.size⟩
  ·obtain⟨v,d0,hv⟩:∃v,(a2.tmps[36]?).getD undef=v/\OV w2 z v _:=⟨_,rfl,q 21 _ rfl rfl⟩;clear s q;go_simp;refine(lV _ _ _ hv.reads hdv).mono ?_;rintro e w3 ⟨⟨r,rfl,O⟩,F⟩;exact⟨_,rfl,F,OI.less O Q.size⟩
  ·obtain⟨v1,d1,hv1⟩:∃v,(a2.tmps[21]?).getD undef=v/\OV w2 z v _:=⟨_,rfl,q 6 _ rfl rfl⟩;obtain⟨v2,d2,hv2⟩:∃v,(a2.tmps[29]?).getD undef=v/\OI w2 z v _:=⟨_,rfl,q 14 _ rfl rfl⟩;obtain⟨v3,d3,hv3⟩:∃v,(a2.tmps[37]?).getD undef=v/\OI w2 z v _:=⟨_,rfl,q 22 _ rfl rfl⟩;obtain⟨_,_,rfl,_⟩:=aF hv1;obtain⟨_,_,rfl,_⟩:=aF hv2;obtain⟨_,_,rfl,_⟩:=aF hv3;simp only[μ]at hv2 hv3;clear s q;go_simp;exact⟨_,rfl,.refl _ _,_,_,_,rfl,hv1,hv2,hv3⟩
  ·clear s q;go_simp;exact⟨_,rfl,af _ _,_,rfl,Γ _ _,Q.size⟩
 ·rintro vs0 w8 hb8 ⟨s0,s1,s2,s3,s4,s5,s6,s7,s8,s9,s10,s11,s12,s13,s14,s15,s16,s17,s18,s19,s20,s21,s22,⟨x4,x6,x8,s23,S4,S6,S8⟩,⟨B,s24,xo,hlB⟩,-⟩;have s23:vs0 23=_:=s23;have s24:vs0 24=_:=s24;obtain⟨a4,m4,rfl,_⟩:=aF S4;obtain⟨a6,m6,rfl,_⟩:=aF S6;obtain⟨a8,m8,rfl,_⟩:=aF S8;simp only[μ]at S4 S6 S8 s23;simp[go_sem,s23,s24];have H:Below z z w8:=(Below.refl _ z).drew.trans hb8;have HP:=Y<|jD H hlB xo S4 S6 S8;obtain⟨xc0,xc1,xc2,xc3,xf0,xf1,xf2,xf3⟩:=km xo;clear S4 S6 S8 s0 s1 s2 s3 s4 s5 s6 s7 s8 s9 s10 s11 s12 s13 s14 s15 s16 s17 s18 s19 s20 s21 s22 s23 s24 hb8 H xo c2 c3 c4
  go_wp2_with fail
  generalize ((((w8.setCell B ()).setCell (B,1)<|.slice a4 RL.length m4).setCell ⟨B,2,M⟩<|.slice a6 N.length m6).setCell ⟨B,3,M⟩<|.slice a8 P.length m8)=v9 at HP⊢;clear xc0 xc1 xc2 xc3 xf0 xf1 xf2 xf3;obtain⟨S,J⟩:∃S,S=z.heap.size:=⟨_,rfl⟩;rw[<-J]at HP hlB;have H:Below z.heap.size z v9:=by rw[<-J];exact HP.out.1
  have hlS:S<=v9.heap.size:=by rw[J];exact H.size
  have d0:=(H.cell (p:=⟨b,0,M⟩) hb).trans C.out.1;have d1:=(H.cell (p:=⟨b,1,M⟩) hb).trans C.out.2
  go_region_held3 (λx=>x.cell? ⟨b,1,M⟩=U (.slice ao g.old.length mo)/\x.cell? ⟨b,0,M⟩=U (.slice an g.new.length mn)) ((refine⟨?_,?_⟩<;>(repeat (first|with_reducible assumption|with_reducible refine dB ?_|with_reducible refine dO ?_)))) (fail)
  go_wp2_with fail
  have hx0:((v9.alloc<|Ψ #[.slice ao g.old.length mo,.slice an g.new.length mn] 22).drew).heap[v9.heap.size]?=U (Ψ #[.slice ao g.old.length mo,.slice an g.new.length mn] 22 (0,0)):=Γ v9 _;have HPX:=Y<|HP.out.below hlS<|(af v9<|Ψ #[.slice ao g.old.length mo,.slice an g.new.length mn] 22).drew;have hlx:S<=((v9.alloc<|Ψ #[.slice ao g.old.length mo,.slice an g.new.length mn] 22).drew).heap.size:=by simp;omega
  clear HP d0 d1 H hlS;generalize (v9.alloc _).drew=u9 at hx0 HPX hlx⊢;generalize v9.heap.size=bx at hx0⊢;have HL:∀j:Nat,j<2->∃ax mx l,(#[Z8 ao g.old.length mo,.slice an g.new.length mn]:Array υ)[j]?=U (.slice ax l.length mx)/\sa z (.slice ax l.length mx) l/\uX g (j+1)=uX g j++l/\(∀c∈l,c∈g.old++g.new)/\l.length<=1000:=by
   intro j hj
   match j,hj with
   |0,_=>exact⟨ao,mo,g.old,rfl,H2.out,rfl,λc hc=>Z1 _ hc,HS.out.bw⟩
   |1,_=>exact⟨an,mn,g.new,rfl,H1.out,rfl,λc hc=>Zo _ hc,HS.out.news⟩
  replace HL:=Y HL
  go_loopw [51] (λi wr=>∃j:Nat,j<=2/\i=Δ Θ j/\Hid (qx z wr S B (.slice a4 RL.length m4) (.slice a6 N.length m6) (.slice a8 P.length m8) RL (N.map (·.2)) (P.map (·.2))<|(uX g j).map<|Bz (g.old.length:Int))/\wr.heap[bx]?=U (Ψ #[.slice ao g.old.length mo,.slice an g.new.length mn] 22 (0,0))/\S<=wr.heap.size) (λi _=>2-(intOf i).toNat)
  case atStart=>exact⟨0,by omega,rfl,HPX,hx0,hlx⟩
  case round=>
   clear HPX hx0 hlx;obtain⟨j,hj,rfl,HR,G,hlr⟩:=hrel;by_cases hlt:j<2
   ·obtain⟨ax,mx,l,hax,hvl,hpt,hin,hll⟩:=HL.out j hlt;have hcx:wr.cell? ⟨bx,j,M⟩=U (.slice ax l.length mx):=by simp only[Z,G];exact hax
    have HV:=Y hvl;obtain⟨ax',mx',he,hmx,N4,haz⟩:=hvl;cases he
    have HZ:=Y haz;have HIN:=Y hin;have HPT:=Y hpt;clear hax haz hin hpt;have HXR:=Y G;clear G
    go_wp2_with fail
    clear hcx
    go_loopw [57] (λi wr=>∃k:Nat,k<=l.length/\i=Δ Θ k/\Hid (qx z wr S B (.slice a4 RL.length m4) (.slice a6 N.length m6) (.slice a8 P.length m8) RL (N.map (·.2)) (P.map (·.2))<|(uX g j++l.take k).map<|Bz (g.old.length:Int))/\wr.heap[bx]?=U (Ψ #[.slice ao g.old.length mo,.slice an g.new.length mn] 22 (0,0))/\S<=wr.heap.size) (λi _=>l.length-(intOf i).toNat)
    case atStart=>exact⟨0,by omega,rfl,by simpa using HR,HXR.out,hlr⟩
    case round=>
     clear HR HXR hlr;obtain⟨k,hk,rfl,HR,G,hlr⟩:=hrel;by_cases hlk:k<l.length
     ·obtain⟨ba,oa,e,hba,hat⟩:=HZ.out (by omega);cases e
      obtain⟨kd,X,e1⟩:=cQ hlk;have hbr:Below z.heap.size z wr:=by rw[<-J];exact HR.out.1
      obtain⟨f1,x,f2,hx⟩:=(hat.below hbr hba) k kd X e1;have hsc:=HS.out.cells _<|HIN.out _<|ω e1;dsimp only at hsc;have HX:=Y hx;obtain⟨av,mv,rfl,_,_,_⟩:=hx;have E1:=Y e1;have hvn:X.length<=1000000:=by omega
      obtain⟨sc,ln,hSb,t,T,h2⟩:=HR.out.2.1;have HXR:=Y G;have HPP:=Y<|Ξ t<|Ξ T h2;have hln:ln.length<=1000000:=by
       have e1:=h2.1;have:=HS.out.bw;have:=HS.out.news;have e2:(uX g j).length<=g.old.length+g.new.length:=by unfold uX;split<;>(try split)<;>simp
       simp at e1;omega
      obtain⟨an1,mn1,rfl,_⟩:=aF T;have hBl:B<wr.heap.size:=(Ω.1 t).1;have cs0:wr.cell? ⟨B,0,M⟩=U (.slice an1 ln.length mn1):=by simp[Z,t]
      have fs0:wr.frozen? ⟨B,0,M⟩=ξ:=by simp[φ,t]
      have HN:=Y<|tQ T t<|by decide
      have HN2:Hid ((Z8 an1 ln.length mn1).ownBlock≠U wr.heap.size):=Y λe=>Nat.lt_irrefl _ (T.lt _ e).2;have hsz:=hbr.size;clear hat e1 G t T h2
      go_wp2_with fail
      have A:=af wr<|Ψ #[kd,.slice av X.length mv] 76;have n0:(wr.alloc<|Ψ #[kd,.slice av X.length mv] 76).cell? ⟨wr.heap.size,0,M⟩=U (Δ Θ kd):=by go_simp
      have n1:(wr.alloc<|Ψ #[kd,.slice av X.length mv] 76).cell? (wr.heap.size,1)=U (.slice av X.length mv):=by go_simp
      have D:wr.heap.size<(wr.alloc<|Ψ #[kd,.slice av X.length mv] 76).heap.size:=by simp
      have cs1:=cG A cs0 hBl;have fs1:=(A.frozen (p:=⟨B,0,M⟩) hBl).trans fs0;generalize wr.alloc _=u1 at A n0 n1 D cs1 fs1⊢;have hd0:=A.drew;have Wq:B<u1:=Nat.lt_of_lt_of_le hBl A.size;have hneb:¬B=wr:=by omega
      clear cs0 fs0 f1 f2;refine Rg.aaH 7 4 (λx=>x wr.heap.size=U (Δ Θ kd)/\x ⟨wr.heap.size,1,M⟩=U (.slice av X.length mv)/\x.cell? ⟨B,0,M⟩=U (.slice an1 ln.length mn1)) (by kernel_rfl) (by kernel_rfl) (λc a d v w h=>by cases d<;>exact h) ⟨n0,n1,cs1⟩ ?_;simp only[Nat.reduceAdd,Zh,Y0,Zg,YZ]
      iterate 7
       (refine Rg.fp.step (v:=?_) (by rfl) (λu hu=>?_) ?_
        rotate_left
        (obtain⟨hu0,hu1,hu2⟩:=hu
         go_simp
         try rfl))
      refine Rg.fp.nil<|Rg.pA.succ ?_;simp only[Act.put,ZP,ZD,ZN];refine Zy rfl λK hK=>?_;go_simp
      with_reducible refine(gz _ (.slice av X.length mv) X _ ((HX.out.below A).below<|(Below.refl _ _).drew) hvn hsc.2 hol).mono ?_
      rintro e w5 ⟨⟨r5,rfl,Ro⟩,hb5⟩;have E:Below u1 u1 w5:=((Below.refl u1 u1).drew).trans hb5;have HO5:=Y Ro;obtain⟨a5,m5,rfl,_⟩:=aF Ro;clear Ro;simp only[μ]at HO5;have Wk:=cG E n0 D;have Wl:=cG E n1 D;have OE:=cG E cs1 Wq;have q53:=(E.frozen (p:=⟨B,0,M⟩) Wq).trans fs1;have afj:B<w5:=Nat.lt_of_lt_of_le Wq E.size;have hn5:wr.heap.size<w5:=Nat.lt_of_lt_of_le D E.size;refine hK _ _ ⟨⟨Wk,Wl,OE⟩,Rg.pA.succ ?_⟩;clear hK K;refine Zy rfl λK hK=>?_;go_simp;refine hK _ _ ⟨⟨Wk,Wl,OE⟩,Rg.pA.succ ?_⟩;clear hK K;refine Zy rfl λK hK=>?_;go_simp;refine hK _ _ ⟨⟨dB Wk,dB Wl,dB OE⟩,Rg.pA.succ ?_⟩;clear hK K;refine Zy rfl λK hK=>?_;refine aX rfl _ _ 22 (by rfl) (.slice an1 ln.length mn1) (.slice w5.heap.size 1 1) (by rfl) (by rfl) _ (eW (k:=kd) (x:=.slice a5 X.length m5) ((HPP.out.2.1.below<|A.trans<|E.mono A.size).below<|by first|exact(af w5 _).drew|exact(af w5 _)) (Γ w5 _) (by rfl) (by omega) (by simp;omega)) ?_;intro v' w6 h2;obtain⟨hoc,hgr,hnb,gg,mg,rfl⟩:=h2;have gc:=(hgr.cell_far B (by simp;omega)<|Z0 HN.out).trans<|(((af w5 _).drew).cell (p:=⟨B,0,M⟩) afj).trans OE;have gf:=(hgr.frozen_far B (by simp;omega)<|Z0 HN.out).trans<|(((af w5 _).drew).frozen (p:=⟨B,0,M⟩) afj).trans q53;have gn0:=(hgr.cell_far wr.heap.size (by simp;omega)<|Z0 HN2.out).trans<|(((af w5 _).drew).cell (p:=⟨wr.heap.size,0,M⟩) hn5).trans Wk;have gn1:=(hgr.cell_far ⟨wr.heap.size,1,M⟩ (by simp;omega)<|Z0 HN2.out).trans<|(((af w5 _).drew).cell (p:=⟨wr.heap.size,1,M⟩) hn5).trans Wl;refine hK _ _ ⟨⟨gn0,gn1,gc⟩,Rg.pA.zero ?_⟩;clear hK K
      all_goals
       go_wp2_with fail
       obtain⟨p1,p2,p3⟩:=HPP.out;obtain⟨e1,e2⟩:=qx.step HR.out hlr hlB p1 p2 p3 HXR.out (by first|exact A.trans ((E.trans<|(af w5 _).mono E.size).mono A.size)|exact A.trans<|(E.trans<|(af w5 _).drew.mono E.size).mono A.size) (by first|exact OV.less (B':=wr.heap.size) (HO5.out.below<|af w5 _) (Nat.le_of_lt D)|exact OV.less (B':=wr.heap.size) (HO5.out.below (af w5 _).drew)<|Nat.le_of_lt D) hgr hoc;have e3:S<=((w6.setCell B<|.slice gg (ln.length+1) mg)).heap.size:=by have:=e1.1.size;rw[J];exact this
       go_roundw
       case rel=>refine⟨k+1,by omega,by go_num,Y ?_,e2,e3⟩;rw[bW E1.out,<-YE,ZY];exact e1
       case measure=>simp[intOf];omega
     ·have hke:k=l.length:=by omega
      subst hke;rw[Yy,<-HPT.out]at HR;clear hlk
      go_wp2_with fail
      go_roundw
      case rel=>exact⟨j+1,by omega,by go_num,HR,G,hlr⟩
      case measure=>simp[intOf];omega
   ·have hje:j=2:=by omega
    subst hje;obtain⟨sc,ln,hSb,t,T,h2⟩:=HR.out.2.1;have Jf:wr.heap[rb]?=U (Ψ #[(),(),(),()] 56 (0,0)):=(HR.out.1.block rb (by rw[J];exact D)).trans HOB.out;have HF:=Y<|Ξ t<|Ξ T<|Ξ h2 Jf;obtain⟨y0,y1,y2,y3,_,_,_,_⟩:=km t;obtain⟨z0,z1,z2,z3,v0,v1,v2,v3⟩:=km Jf;have hfin:Below rb w wr:=by rw[<-hrb];exact HB1.out.trans<|HR.out.1.mono (by rw[J,hrb];exact Nat.le_of_lt D)
    obtain⟨Wr,Ws,rfl,_⟩:=aF T;clear t T h2 Jf G
    go_wp2_with fail
    obtain⟨hk,L,hbl,_⟩:=wR (.slice Wr ln.length Ws) (.slice a4 RL.length m4) (.slice a6 N.length m6) (.slice a8 P.length m8) HF.out.2.2.2;have W:=hfin.trans<|hbl rb .refl;clear hbl;generalize ((((wr.setCell rb<|.slice Wr ln.length Ws).setCell (rb,1)<|.slice a4 RL.length m4).setCell (rb,2)<|.slice a6 N.length m6).setCell (rb,3)<|.slice a8 P.length m8)=f at hk L W⊢;obtain⟨x0,x1,x2,x3,_,_,_,_⟩:=km hk;refine ZT (v:=.agg #[.slice Wr ln.length Ws,.slice a4 RL.length m4,.slice a6 N.length m6,.slice a8 P.length m8]) (by simp[ZE,results119,go_sem,x0,x1,x2,x3]) rfl ⟨⟨_,rfl,?_⟩,W⟩;obtain⟨g1,g2,g3,g4⟩:=HF.out;obtain⟨p1,p2,p3,p4,p5⟩:=HR.out;obtain rfl:=hRL.out;obtain rfl:=hWV.out;obtain rfl:=hDV.out;exact⟨_,_,_,_,rfl,N5.reads ⟨ln,bp g2 g4 (by decide) L,lA g3 g4 (by decide) L⟩,OV.reads (B:=S)<|bp p3 g4 (by decide) L,OI.reads (B:=S)<|bp p4 g4 (by decide) L,OI.reads (B:=S)<|bp p5 g4 (by decide) L⟩
end
structure Qo(k:Int)(T F G:Nat)(lo hi:Int):Prop where
 cellOf:∀w a n m,Z9 prog 181 #[.agg #[Δ Θ k,.slice a n m]] w λe w'=>e=.returned (.iface T (.agg #[Δ Θ k,.slice a n m]))/\Below w w w'
 m1:∀w s,(method 463 T (.agg #[Δ Θ k,s]) "caracole/heap.least").run prog w=.ok (F,.agg #[Δ Θ k,s]) w
 m2:∀w s,(method 463 T (.agg #[Δ Θ k,s]) "caracole/heap.most").run prog w=.ok (G,.agg #[Δ Θ k,s]) w
 e1:∀w args,(Yw F args).run prog w=.ok (.enter F args) w
 e2:∀w args,(Yw G args).run prog w=.ok (.enter G args) w
 c1:∀w a n m,Z9 prog F #[.agg #[Δ Θ k,.slice a n m]] w λe w'=>e=.returned lo/\Below w w w'
 c2:∀w a n m,Z9 prog G #[.agg #[Δ Θ k,.slice a n m]] w λe w'=>e=.returned hi/\Below w w w'
def aho:Qo 0 264 317 319 0 4:=⟨sI,λw s=>Oc w s _ 317<|.inl ⟨rfl,rfl⟩,λw s=>Oc w s _ 319<|.inr<|.inl ⟨rfl,rfl⟩,λw a=>KE 317 a w rfl,λw a=>KE 319 a w rfl,Oe,Wf⟩
def ahp:Qo 1 265 323 325 1 1:=⟨sJ,λw s=>Od w s _ 323<|.inl ⟨rfl,rfl⟩,λw s=>Od w s _ 325<|.inr<|.inl ⟨rfl,rfl⟩,λw a=>KE 323 a w rfl,λw a=>KE 325 a w rfl,Of,Wh⟩
def ahq:Qo 2 266 327 329 2 2:=by
 refine⟨λw a n m=>?_,λw s=>by kernel_rfl,λw s=>by kernel_rfl,λw b=>by kernel_rfl,λw b=>by kernel_rfl,λw a n m=>?_,λw a n m=>?_⟩
 ·go_enter (fU func181 rfl),ntmps181
  go_wp2
  go_ret;exact⟨rfl,((Below.refl _ _).alloc .refl _)⟩
 ·go_enter (fU func327 rfl),ntmps327
  go_wp2
  go_ret;exact⟨rfl,((Below.refl _ _).alloc .refl _)⟩
 ·go_enter (fU func329 rfl),ntmps329
  go_wp2
  go_ret;exact⟨rfl,((Below.refl _ _).alloc .refl _)⟩
def ahr:Qo 3 267 331 333 0 0:=by
 refine⟨λw a n m=>?_,λw s=>by kernel_rfl,λw s=>by kernel_rfl,λw b=>by kernel_rfl,λw b=>by kernel_rfl,λw a n m=>?_,λw a n m=>?_⟩
 ·go_enter (fU func181 rfl),ntmps181
  go_wp2
  go_ret;exact⟨rfl,((Below.refl _ _).alloc .refl _)⟩
 ·go_enter (fU func331 rfl),ntmps331
  go_wp2
  go_ret;exact⟨rfl,((Below.refl _ _).alloc .refl _)⟩
 ·go_enter (fU func333 rfl),ntmps333
  go_wp2
  go_ret;exact⟨rfl,((Below.refl _ _).alloc .refl _)⟩
def aet{k}{n:Nat}(h:(k=0/\n<=4)\/(k=1/\n=1)\/(k=2/\n=2)\/(k=3/\n=0)):∃T F G lo hi,Qo k T F G lo hi/\lo<=n/\(n:Int)<=hi:=by
 obtain⟨rfl,h⟩|⟨rfl,h⟩|⟨rfl,h⟩|⟨rfl,h⟩:=h
 exact⟨_,_,_,_,_,aho,by omega,by omega⟩;exact⟨_,_,_,_,_,ahp,by omega,by omega⟩;exact⟨_,_,_,_,_,ahq,by omega,by omega⟩;exact⟨_,_,_,_,_,ahr,by omega,by omega⟩
structure Ny(h:PH):Prop where
 kinds:∀c∈h.cells,(c.1=0/\c.2.length<=4)\/(c.1=1/\c.2.length=1)\/(c.1=2/\c.2.length=2)\/(c.1=3/\c.2.length=0)
 eT:∀c∈h.cells,∀v∈c.2,uI h v=0
 many:h.cells.length<=40
 four:h.roots.length=4
 roots:∀v∈h.roots,uI h v=0
 aA:∀n∈h.aA,Ik h n=0
 yZ:h.aA.Nodup
 vY:h.aA.length<=40
 done:∀n∈h.done,Ik h n=0
 G5:h.done.Nodup
 oX:h.done.length<=40
def By.take{w a m k l}(h:By w (.slice a l.length m) l)(d:k<=l.length):By w (.slice a k m) (l.take k):=by
 obtain⟨g,p,e,j,f,h3⟩:=h;cases e
 refine⟨a,m,by simp[Nat.min_eq_left d],by simp;omega,f,λh0=>?_⟩;obtain⟨b,o,e,hb,c⟩:=h3 (by simp at h0;omega);refine⟨b,o,e,hb,λi n hi=>c i n ?_⟩;rw[YF]at hi;split at hi
 exact hi;cases hi
def Rv{l:List Int}{j n}(h:l.Nodup)(e:l[j]?=U n):(l.take j).contains n=ξ:=by
 cases hc:(l.take j).contains n with
 |false=>rfl
 |true=>
  obtain⟨i,hi⟩:=YQ.1<|Z4.1 hc;rw[YF]at hi;split at hi
  rename_i a;obtain⟨b,c⟩:=ψ.1 hi;obtain⟨h3,h4⟩:=ψ.1 e;exact absurd (c.trans h4.symm)<|List.pairwise_iff_getElem.1 h i j b h3 a;cases hi
def Qp(w b h)(hp:qw w b h)(O:Ny h):Z9 prog 175 #[.pointer b] w λe w'=>e=.returned (.tuple #[])/\Below w w w':=by
 have H:=Y hp;have K:=Y O;obtain⟨c,r,wi,d,c0,c1,c2,c3,h1,h2,h3,h4⟩:=hp;have hb:=az c0;have HWI:=Y h3;have HDO:=Y h4;obtain⟨ac,mc,rfl,hmc,am9,hac⟩:=h1;obtain⟨ar,mr,rfl,hmr,aeW,har⟩:=h2;have HC:=Y hac;have HR:=Y har;have h40:¬((40:Int)<h.cells.length):=by have:=O.many;omega
 have hr4:decide ((h.roots.length:Int)<4)=ξ:=by have:=O.four;simp;omega
 have hr5:decide ((4:Int)<h.roots.length)=ξ:=by have:=O.four;simp;omega
 have hl:h.cells.length<=1000000:=by have:=O.many;omega
 have C1:=Y c1;have C2:=Y c2;have C3:=Y c3;clear O hac har c1 c2 c3 h3 h4
 go_enter (fU func175 rfl),ntmps175
 go_wp2_with fail
 ((with_reducible refine(dq _ _).mono ?_))
 rintro e w' ⟨rfl,rfl⟩
 go_wp2_with fail
 clear c0 h40
 go_loopw [27] (λi wr=>∃k:Nat,k<=h.cells.length/\i=Δ Θ k/\Below w' w' wr) (λi _=>h.cells.length-(intOf i).toNat)
 case atStart=>exact⟨0,Nat.zero_le _,rfl,Below.refl _ _⟩
 case round=>
  obtain⟨k,O,rfl,a⟩:=hrel;by_cases hlt:k<h.cells.length
  ·obtain⟨ba,oa,e,hba,C⟩:=HC.out (by omega);cases e
   obtain⟨kd,v,e1⟩:=cQ hlt;obtain⟨d1,x,d2,hx⟩:=(C.below a hba) k kd v e1;have y:=ω e1;have VQ:=Y<|K.out.eT _ y;obtain⟨T,F,G,lo,hi,hK,ha,t⟩:=aet<|K.out.kinds _ y;have hkd:decide (kd<0)=ξ/\decide (3<kd)=ξ:=by have:=K.out.kinds _ y;simp;omega
   obtain⟨hkd,ajr⟩:=hkd;have HXV:=Y hx;obtain⟨J,A,rfl,hmx,N4,hax⟩:=hx;have z:=a.size;clear C e1 y hax;have hB0:=af wr<|Ψ #[Δ Θ kd,.slice J v.length A] 76;have m1:=hK.m1;have m2:=hK.m2;have ce1:=hK.e1;have ce2:=hK.e2;have t1:decide ((v.length:Int)<lo)=ξ:=by simp<;>omega
   have t2:decide (hi<(v.length:Int))=ξ:=by simp<;>omega
   clear ha t
   go_wp2_with fail
   ((with_reducible refine(dq _ _).mono ?_))
   rintro e w1 ⟨rfl,rfl⟩
   go_wp2_with fail
   refine(hK.cellOf _ _ _ _).mono ?_;rintro e w1 ⟨rfl,hb1⟩;have n2:w1 (wr.heap.size,1)=U (.slice J v.length A):=(hb1.cell (p:=⟨wr.heap.size,1,M⟩)<|by simp).trans (by go_simp);have q1:Below wr wr w1:=hB0.trans<|hb1.mono<|by simp
   have L:wr.heap.size<w1:=by have:=hb1.size;simp at this;omega
   clear hb1 hB0
   go_wp2_with fail
   refine Rg.kl [.eq (.pointer (wr.heap.size,1)),.eq<|.slice J v.length A,.eq v.length,.eq<|.iface T<|.agg #[Δ Θ kd,.slice J v.length A],.eq lo] (by kernel_rfl) (by kernel_rfl) (by rfl) ?_ ?_
   ·refine⟨?_,?_,?_,?_,?_,trivial⟩
    all_goals intro a2 w2 hb2 f m
    all_goals have n3:=cG hb2 n2 L
    all_goals first|(have k0:=f 3 rfl;have k1:=f 4 rfl;simp at k0 k1;(try have q0:=Rg.ir (m 0 _ rfl rfl) rfl);(try have q1:=Rg.ir (m 1 _ rfl rfl) rfl);clear f m;go_simp;exact⟨_,rfl,.refl _ _,rfl⟩)|skip
    have d0:=Rg.ir (m 3 _ rfl rfl) rfl;clear f m;go_simp;refine(hK.c1 _ _ _ _).mono ?_;rintro e w3 ⟨rfl,g⟩;exact⟨_,rfl,g,rfl⟩
   ·rintro s w3 g ⟨P,s1,X,W,Q,-⟩;have P:s 0=_:=P;have s1:s 1=_:=s1;have X:s 2=_:=X;have W:s 3=_:=W;have Q:s 4=_:=Q;simp[go_sem,P,s1,X,W,Q];clear P s1 X W Q;replace g:=(Below.refl _ w1).drew.trans g;have hn3:=Nat.lt_of_lt_of_le L g.size;have n3:=cG g n2 L;have q3:=q1.trans<|g.mono q1.size;clear n2 q1 g
    go_wp2_with fail
    ((with_reducible refine(dq _ _).mono ?_))
    rintro e w4 ⟨rfl,rfl⟩
    go_wp2_with fail
    refine Rg.kl [.eq (.pointer (wr.heap.size,1)),.eq<|.slice J v.length A,.eq v.length,.eq<|.iface T<|.agg #[Δ Θ kd,.slice J v.length A],.eq hi] (by kernel_rfl) (by kernel_rfl) (by rfl) ?_ ?_
    ·refine⟨?_,?_,?_,?_,?_,trivial⟩
     all_goals intro a2 w2 hb2 f m
     all_goals have n5:=cG hb2 n3 hn3
     all_goals first|(have k0:=f 3 rfl;have k1:=f 4 rfl;simp at k0 k1;(try have q0:=Rg.ir (m 0 _ rfl rfl) rfl);(try have q1:=Rg.ir (m 1 _ rfl rfl) rfl);clear f m;go_simp;exact⟨_,rfl,.refl _ _,rfl⟩)|skip
     have d0:=Rg.ir (m 3 _ rfl rfl) rfl;clear f m;go_simp;refine(hK.c2 _ _ _ _).mono ?_;rintro e w3 ⟨rfl,g⟩;exact⟨_,rfl,g,rfl⟩
    ·rintro s w3 g ⟨P,s1,X,W,Q,-⟩;have P:s 0=_:=P;have s1:s 1=_:=s1;have X:s 2=_:=X;have W:s 3=_:=W;have Q:s 4=_:=Q;simp[go_sem,P,s1,X,W,Q];clear P s1 X W Q;replace g:=(Below.refl _ w4).drew.trans g;have n5:=cG g n3 hn3;have q4:=q3.trans<|g.mono q3.size;clear n3 q3 g hn3 L
     go_wp2_with fail
     ((with_reducible refine(dq _ _).mono ?_))
     rintro e w5 ⟨rfl,rfl⟩
     go_wp2_with fail
     clear n5 t1 t2 m1 m2 ce1 ce2 hK hkd ajr;have HX5:=Y<|HXV.out.below q4;have hw5:=a.trans<|q4.mono z
     go_loopw [59] (λi wr=>∃j:Nat,j<=v.length/\i=Δ Θ j/\Below w5 w5 wr) (λi _=>v.length-(intOf i).toNat)
     case atStart=>exact⟨0,Nat.zero_le _,rfl,Below.refl _ _⟩
     case round=>
      obtain⟨j,hj,rfl,o⟩:=hrel;clear q4;have E:=hw5.trans<|o.mono hw5.size;have ahs:=E.size;have amU:=o.size;by_cases D:j<v.length
      ·obtain⟨a9,m9,e9,_,_,B⟩:=HX5.out.below o;cases e9
       obtain⟨ba2,oa2,e,afb,u⟩:=B (by omega);cases e
       obtain⟨p,q,e1⟩:=ep D;obtain⟨f1,f2⟩:=u j p q e1;have hv0:=Y<|VQ.out _<|ω e1;clear u e1 B
       go_wp2_with fail
       refine(pq _ b h p q (H.out.below<|E.alloc ahs _) hl hv0.out).mono ?_;rintro e w6 ⟨rfl,S⟩
       go_wp2_with fail
       exact⟨⟨j+1,by omega,by go_num,(o.alloc amU _).trans<|S.mono (by simp;omega)⟩,by simp[intOf];omega⟩
      ·go_wp2_with fail
       exact⟨⟨k+1,by omega,by go_num,E⟩,by simp[intOf];omega⟩
  ·have d1:=cG a C1.out hb
   go_wp2_with fail
   ((with_reducible refine(dq _ _).mono ?_))
   rintro e w1 ⟨rfl,rfl⟩
   go_wp2_with fail
   ((with_reducible refine(dq _ _).mono ?_))
   rintro e w1 ⟨rfl,rfl⟩
   go_wp2_with fail
   clear d1 hr4 hr5
   go_loopw [90] (λi wr=>∃k:Nat,k<=h.roots.length/\i=Δ Θ k/\Below w' w' wr) (λi _=>h.roots.length-(intOf i).toNat)
   case atStart=>exact⟨0,Nat.zero_le _,rfl,a⟩
   case round=>
    clear a;obtain⟨k2,hk2,rfl,a⟩:=hrel;have z:=a.size;by_cases D:k2<h.roots.length
    ·obtain⟨ba,oa,e,hba,C⟩:=HR.out (by omega);cases e
     obtain⟨p,q,e1⟩:=ep D;obtain⟨f1,f2⟩:=(C.below a hba) k2 p q e1;have hv0:=Y<|K.out.roots _<|ω e1;clear C e1
     go_wp2_with fail
     refine(pq _ b h p q (H.out.below<|a.alloc z _) hl hv0.out).mono ?_;rintro e w3 ⟨rfl,g⟩
     go_wp2_with fail
     exact⟨⟨k2+1,by omega,by go_num,(a.alloc z _).trans<|g.mono (by simp;omega)⟩,by simp[intOf];omega⟩
    ·obtain⟨aw,mw,rfl,-⟩:=id HWI.out;obtain⟨ad,md,rfl,-⟩:=id HDO.out;have e2:=cG a C2.out hb;have e3:=cG a C3.out hb
     go_wp2_with fail
     go_region_held3 (λw'=>w' (b,2)=U (.slice aw h.aA.length mw)/\w' (b,3)=U (.slice ad h.done.length md)) (go_keep) (fail)
     go_wp2_with fail
     have t:Below w' w' ((wr.alloc<|Ψ #[.slice aw h.aA.length mw,.slice ad h.done.length md] 24).drew):=(a.alloc z _).drew;have N:((wr.alloc<|Ψ #[.slice aw h.aA.length mw,.slice ad h.done.length md] 24).drew) wr.heap.size=U (.slice aw h.aA.length mw):=by go_simp
     have hx1:((wr.alloc<|Ψ #[.slice aw h.aA.length mw,.slice ad h.done.length md] 24).drew) (wr.heap.size,1)=U (.slice ad h.done.length md):=by go_simp
     have hbx:wr.heap.size<((wr.alloc<|Ψ #[.slice aw h.aA.length mw,.slice ad h.done.length md] 24).drew).heap.size:=by simp
     generalize (wr.alloc _).drew=w9 at t N hx1 hbx⊢;generalize wr.heap.size=bx at N hx1 hbx z⊢;have hL:∀k:Nat,k<2->∃l J A,w9 (bx,k)=U (.slice J l.length A)/\By w9 (.slice J l.length A) l/\(∀n∈l,Ik h n=0)/\l.Nodup/\l.length<=40:=by
      intro k O
      match k,O with
      |0,_=>exact⟨_,_,_,N,HWI.out.below t,K.out.aA,K.out.yZ,K.out.vY⟩
      |1,_=>exact⟨_,_,_,hx1,HDO.out.below t,K.out.done,K.out.G5,K.out.oX⟩
     have HL:=Y hL;clear hL N hx1 e2 e3 a
     go_loopw [110] (λi wr=>∃k:Nat,k<=2/\i=Δ Θ k/\Below w9 w9 wr) (λi _=>2-(intOf i).toNat)
     case atStart=>exact⟨0,by omega,rfl,Below.refl _ _⟩
     case round=>
      obtain⟨k3,hk3,rfl,a⟩:=hrel;by_cases hlt3:k3<2
      ·obtain⟨l,J,A,hc,hv,hin,hnd,h40⟩:=HL.out k3 hlt3;have hcw:=cG a hc hbx;have t40:decide ((40:Int)<l.length)=ξ:=by simp;omega
       have HV:=Y hv;have HN:=Y hin;have HD:=Y hnd;clear hc hin hnd
       go_wp2_with fail
       ((with_reducible refine(dq _ _).mono ?_))
       rintro e w1 ⟨rfl,rfl⟩
       go_wp2_with fail
       clear hcw t40
       go_loopw [120] (λi wr=>∃j:Nat,j<=l.length/\i=Δ Θ j/\Below w9 w9 wr) (λi _=>l.length-(intOf i).toNat)
       case atStart=>exact⟨0,Nat.zero_le _,rfl,a⟩
       case round=>
        clear a;obtain⟨j,hj,rfl,o⟩:=hrel;by_cases hlt4:j<l.length
        ·obtain⟨a9,m9,e9,hm9,aht,B⟩:=HV.out.below o;cases e9
         obtain⟨ba2,oa2,e,afb,u⟩:=B (by omega);cases e
         obtain⟨n,e1⟩:=ot hlt4;have f1:=u j n e1;have hn0:=Y<|HN.out _<|ω e1;have hct:=Y<|Rv HD.out e1;have hwj:=t.trans<|o.mono t.size;clear u e1 B
         go_wp2_with fail
         refine(I2 _ b h n (H.out.below hwj) hl hn0.out).mono ?_;rintro e w6 ⟨rfl,S⟩;have hs1:(j:Int)<=(A:Int):=by omega
         go_wp2_with fail
         refine(sj _ _ (l.take j) n<|(HV.out.below<|o.trans<|S.mono o.size).take<|by omega).mono ?_;rw[hct.out];rintro e w7 ⟨rfl,rfl⟩
         go_wp2_with fail
         ((with_reducible refine(dq _ _).mono ?_))
         rintro e w8 ⟨rfl,rfl⟩
         go_wp2_with fail
         exact⟨⟨j+1,by omega,by go_num,o.trans<|S.mono o.size⟩,by simp[intOf];omega⟩
        ·go_wp2_with fail
         exact⟨⟨k3+1,by omega,by go_num,o⟩,by simp[intOf];omega⟩
      ·go_wp2_with fail
       go_end0;exact⟨rfl,t.trans<|a.mono t.size⟩
section
def J0(w:ο)(B b:Nat)(cs:List HC)(roots:List HV)(wi d:List Int):Prop:=∃c r vw vd l,B<=b/\w.heap[b]?=U (Ψ #[c,r,vw,vd] 159 (0,0))/\OI w B vw wi/\OI w B vd d/\
 OC w B c l/\df w B l cs/\OV w B r roots/\(∀(i:Nat) p,l[i]?=U p->∀g,p.2.ownBlock=U g->r.ownBlock≠U g)/\∀g,vd.ownBlock=U g->vw.ownBlock≠U g
section
variable{w w2:ο}{B b gg mg:Nat}{cs:List HC}{roots vs:List HV}{wi d:List Int}{k:Int}{c r x vw vd:υ}{l:List (Int×υ)}
def J0.reads(h:J0 w B b cs roots wi d):qw w b ⟨cs,roots,wi,d⟩:=by obtain⟨c,r,f,g,l,i,hb,e,a,h3,h4,h5,_⟩:=h;exact⟨c,r,f,g,by simp[Z,hb],by simp[Z,hb],by simp[Z,hb],by simp[Z,hb],h3.reads h4.hold,h5.reads,e.reads,a.reads⟩
def J0.below(h:J0 w B b cs roots wi d)(a:Below w w w2):J0 w2 B b cs roots wi d:=by obtain⟨c,r,j,k,l,i,hb,g,f,h3,h4,h5,e⟩:=h;exact⟨c,r,j,k,l,i,(a.block b (Ω.1 hb).1).trans hb,g.below a,f.below a,h3.below a,h4.below a,h5.below a,e⟩
def aaK(o:B<=b)(hb:w.heap[b]?=U (Ψ #[c,r,vw,vd] 159 (0,0)))(K:OI w B vw wi)(J:OI w B vd d)
 (h4:df w B l cs) (h5:OV w B r roots) (P:∀(i:Nat) p,l[i]?=U p->∀g,p.2.ownBlock=U g->r.ownBlock≠U g) (L:∀g,vd.ownBlock=U g->vw.ownBlock≠U g)
 (m:Below w w w2) (s:OC w2 w (.slice gg (l.length+1) mg) (l++[(k,x)])) (A:OV w2 w x vs) (C:B<=w):
 J0 (w2.setCell b<|.slice gg (l.length+1) mg) B b (cs++[(k,vs)]) roots wi d/\Below B w (w2.setCell b<|.slice gg (l.length+1) mg):=by
 have q:=(m.block b<|(Ω.1 hb).1).trans hb;have a:∀{e:ZO} {z n:Nat} {y:υ} {xs:List υ} {B0:Nat},e≠159->w2.ownsRow B0 e z y n xs->(w2.setCell b<|.slice gg (l.length+1) mg).ownsRow B0 e z y n xs:=λQ E=>aS E λg j=>aq λe=>by subst e;exact cF E q Q.symm j
 have h:=h4.below m;refine⟨⟨.slice gg (l.length+1) mg,r,vw,vd,l++[(k,x)],o,?_,a (by decide)<|K.below m,a (by decide)<|J.below m,a (by decide)<|s.less C,?_,a (by decide)<|h5.below m,?_,L⟩,(m.mono C).setCell (p:=⟨b,0,M⟩) o _⟩;rw[heap_setCell_same (i:=0) (v:=.slice gg (l.length+1) mg) q];rfl;have u:df (w2.setCell b<|.slice gg (l.length+1) mg) B l cs:=⟨h.1,λi k y D G e1 e2=>⟨(h.2.1 i k y D G e1 e2).1,a (by decide) (h.2.1 i k y D G e1 e2).2⟩,h.2.2⟩;refine u.snoc (OV.less (a (by decide) A) C) λi p hi g j t=>?_;have f:i<cs.length:=by rw[<-h4.1];exact(ψ.1 hi).1
 obtain⟨H,N,e3⟩:=cQ f;have:=((h4.2.1 i p.1 p.2 H N hi e3).2.lt g j).2;have:=(A.lt g t).1;omega;intro i p hi g j F;obtain f|f:=Nat.lt_or_ge i l.length
 rw[List.getElem?_append_left f]at hi;exact P i p hi g j F;rw[List.getElem?_append_right f]at hi;have O:p=(k,x):=by
  obtain h0|h0:=Nat.eq_zero_or_pos<|i-l.length
  rw[h0]at hi;simpa using hi.symm;rw[Zn (by simp;omega)]at hi;cases hi
 subst O;have:=(A.lt g j).1;have:=(h5.lt g F).2;omega
end
def af9(w B b cs roots wi d k v vs)(h:J0 w B b cs roots wi d)(hv:eI w v vs)(hB:B<=w)(hl:cs.length<=1000)(hvl:vs.length<=1000):
 Z9 prog 176 #[.pointer b,Δ Θ k,v] w λe w'=>e=.returned (Δ Θ (cs.length:Int))/\J0 w' B b (cs++[(k,vs)]) roots wi d/\Below B w w':=by
 obtain⟨a,m,rfl,hm,hm2,ha⟩:=hv;obtain⟨c,r,vw,vd,l,Q,hb,H,h2,h3,h4,h5,h6,h7⟩:=h;obtain⟨i0,hi,J,C,T⟩:=Y7 nh;have N:=Y h4.1;have hll:l.length<=1000:=by have:=h4.1;omega
 obtain⟨S,mc,rfl,hmc,am9,_⟩:=aF h3;have s:=(Ω.1 hb).1;have z:w b=U (.slice S l.length mc):=by simp[Z,hb]
 have hmk:=λW=>BC vs.length vs.length .refl (by omega) W;have HA:=Y ha;have HI:=Y hi;have F:=Y C;have H3:=Y h3;have HF:Hid (w.frozen? b=ξ):=Y (by simp[φ,hb]);have HE:=Y λG X mg (O:Below w w G) (q:OC G w (.slice (X:Nat) (l.length+1) mg) (l++[(k,.slice w.heap.size vs.length vs.length)])) (hx:OV G w (.slice w.heap.size vs.length vs.length) vs)=>aaK Q hb H h2 h4 h5 h6 h7 O q hx hB;clear ha hi J C T H h2 h3 hb h4 h5 h6
 go_enter (fU func176 rfl),ntmps176
 go_wp2_with (with_reducible refine iW rfl (.tmp 11) (.tmp 12) 23 23 rfl 50 i0 2 w vs.length vs.length a m _ 50 (vs.flatMap lU) lx HI.out F.out rfl rfl (Γ w _) (fx vs) (λh0=>?H) (by rw[fx,jz];omega) (V1 vs) ?_)
 case H=>obtain⟨bb,o,e,hb2,L⟩:=HA.out h0;refine⟨_,e,λj u hu=>(YO w _ _ ?_).trans<|zt L j u hu⟩;rw[show(((bb,o):YP).add j).block=bb by unfold Zk;split<;>rfl];exact hb2
 ·intro n t D;rw[<-YH]at t;have f:=(af w _).grown D (by simp) (λk O=>by cases O;exact .refl);have E:=zR rfl .refl t (by omega);have y:=cG f z s;have i:=Nat.lt_of_lt_of_le s f.size;have hf1:=(f.frozen (p:=⟨b,0,M⟩) s).trans HF.out;have HX:=Y E;clear t D hmk HI F z E;have hl0:(0:Int)<=(l.length:Int):=by omega
  have hl1:(l.length:Int)<=(mc:Int):=by omega
  go_wp2_with fail
  have hd:=(Below.refl n n).drew;refine Rg.aaH 22 2 (λx=>x b=U (.slice S l.length mc)) (by kernel_rfl) (by kernel_rfl) (λc a d v w h=>by cases d<;>exact h) y ?_;simp only[Nat.reduceAdd,Zh,Y0,Zg,YZ]
  iterate 22
   (refine Rg.fp.step (v:=?_) (by rfl) (λx hx=>?_) ?_
    rotate_left
    (go_simp
     try rfl))
  refine Rg.fp.nil<|Rg.pA.succ ?_;simp only[Act.put,ZP,ZD,ZN];refine Zy rfl λK A=>?_;go_simp;have hb6:=af n<|Ψ #[Δ Θ k,.slice w.heap.size vs.length vs.length] 76;refine A _ _ ⟨(((hd.trans<|af n.drew _).cell (p:=⟨b,0,M⟩) i).trans y),Rg.pA.succ ?_⟩;clear A K;refine Zy rfl λK A=>?_;refine aX rfl _ _ 22 (by rfl) (.slice S l.length l.length) (.slice n.heap.size 1 1) (by rfl) (by rfl) _ (tP (k:=k) (x:=.slice w.heap.size vs.length vs.length) ((H3.out.below f).below<|hd.trans<|af n.drew _) (Γ n.drew _) (by rfl)<|by omega) ?_;rintro v' G ⟨q,P,X,mg,rfl⟩;have g:=(hd.trans<|af n.drew _).trans<|P.mono<|by simp
  have gc:=cG g y i;have gf:=(g.frozen (p:=⟨b,0,M⟩) i).trans hf1;refine A _ _ ⟨gc,Rg.pA.zero ?_⟩;clear A K;simp only[Act.put,ZP,ZD,ZN]
  go_wp2_with fail
  go_ret;obtain⟨e1,e2⟩:=HE.out G X mg (f.trans<|g.mono f.size) (q.less (by have:=f.size;simp;omega))<|HX.out.below g;exact⟨by rw[<-N.out];simp,e1,e2⟩
def PP(w v h)(hv:tH w v h)(G:Ny h):Z9 prog 122 #[v] w λe w'=>(∃b,e=.returned (.pointer (b:Nat))/\J0 w' w b h.cells h.roots h.aA h.done)/\Below w w w':=by
 have K:=Y G;obtain⟨c,r,wi,d,rfl,h1,h2,h3,h4⟩:=hv;have H1:=Y h1;have H2:=Y h2;have H3:=Y h3;have H4:=Y h4;obtain⟨H,mc,rfl,hmc,am9,T⟩:=h1;obtain⟨ar,z,rfl,hmr,aeW,_⟩:=h2;obtain⟨aw,E,rfl,hmw,aeX,_⟩:=h3;obtain⟨ad,C,rfl,hmd,aeY,_⟩:=h4;have HC:=Y T;have hb1:=af w<|Ψ #[.slice H h.cells.length mc,.slice ar h.roots.length z,.slice aw h.aA.length E,.slice ad h.done.length C] 56;have f:=hb1.alloc (by simp)<|Ψ #[.slice H h.cells.length mc,.slice ar h.roots.length z,.slice aw h.aA.length E,.slice ad h.done.length C] 159;have hP:qw ((w.alloc<|Ψ #[.slice H h.cells.length mc,.slice ar h.roots.length z,.slice aw h.aA.length E,.slice ad h.done.length C] 56).alloc<|Ψ #[.slice H h.cells.length mc,.slice ar h.roots.length z,.slice aw h.aA.length E,.slice ad h.done.length C] 159) (w.heap.size+1) h:=⟨_,_,_,_,by go_simp,by go_simp,by go_simp,by go_simp,H1.out.below f,H2.out.below f,H3.out.below f,H4.out.below f⟩
 have HP:=Y hP;have HB2:=Y f;have L:h.roots.length<=1000000:=by have:=G.four;omega
 have Q:h.aA.length<=1000000:=by have:=G.vY;omega
 have N:h.done.length<=1000000:=by have:=G.oX;omega
 have WA:=Y L;have HL2:=Y Q;have HL3:=Y N;clear G T hb1 f hP L Q N
 go_enter (fU func122 rfl),ntmps122
 go_wp2_with fail
 refine(Qp _ _ h HP.out K.out).mono ?_;rintro e m ⟨rfl,a⟩;have u:=HB2.out.trans<|a.mono (by simp;omega);have f0:m w.heap.size=U (.slice H h.cells.length mc):=(a.cell (p:=⟨w.heap.size,0,M⟩) (by simp;omega)).trans (by go_simp);have f1:m (w.heap.size,1)=U (.slice ar h.roots.length z):=(a.cell (p:=⟨w.heap.size,1,M⟩) (by simp;omega)).trans (by go_simp);have f2:m (w.heap.size,2)=U (.slice aw h.aA.length E):=(a.cell (p:=⟨w.heap.size,2,M⟩) (by simp;omega)).trans (by go_simp);have f3:m (w.heap.size,3)=U (.slice ad h.done.length C):=(a.cell (p:=⟨w.heap.size,3,M⟩) (by simp;omega)).trans (by go_simp);have hs3:w.heap.size<m:=by have:=a.size;simp at this;omega
 clear a
 go_wp2_with fail
 have hd3:=zp<|(Below.refl m m).drew;have hs4:m.drew.heap.size=m:=rfl
 go_region_held3 (λx=>x w.heap.size=U (.slice H h.cells.length mc)/\x (w.heap.size,1)=U (.slice ar h.roots.length z)/\x (w.heap.size,2)=U (.slice aw h.aA.length E)/\x (w.heap.size,3)=U (.slice ad h.done.length C))
  (go_keep)
  (first
    |(go_at_call 148;(with_reducible refine(JU _ (.slice ar h.roots.length z) h.roots (H2.out.below u.drew) WA.out).mono ?_);rintro e w6 ⟨⟨r6,rfl,B⟩,D⟩;have A:=u.drew.trans<|D.mono u.size;have P:=zp D;have Jc:=Y B;obtain⟨a6,m6,rfl,_⟩:=B.reads;clear B;have hs6:=D.size;simp only[World.size_drew]at hs6 P;have ht6:w.heap.size<w6:=by omega)
    |(go_at_call 149;(with_reducible refine(wj _ (.slice aw h.aA.length E) h.aA (H3.out.below A) HL2.out).mono ?_);rintro e w7 ⟨⟨r7,rfl,y⟩,o⟩;have F:=A.trans<|o.mono A.size;have hc7:=zp o;have O:=Y y;obtain⟨a7,m7,rfl,_⟩:=y.reads;clear y;have hs7:=o.size;have ht7:w.heap.size<w7:=by omega)
    |(go_at_call 149;(with_reducible refine(wj _ (.slice ad h.done.length C) h.done (H4.out.below F) HL3.out).mono ?_);rintro e w8 ⟨⟨r8,rfl,t⟩,l⟩;have Wn:=F.trans (l.mono F.size);have hc8:=zp l;have J:=Y t;obtain⟨a8,m8,rfl,_⟩:=t.reads;clear t;have hs8:=l.size;have V9:w.heap.size<w8:=by omega))
 clear f1 f2 f3 P hc7 hc8 hd3;have s:J0 (w8.alloc<|Ψ #[Z8 M 0 0,.slice a6 h.roots.length m6,.slice a7 h.aA.length m7,.slice a8 h.done.length m8] 159) w w8.heap.size [] h.roots h.aA h.done:=⟨_,_,_,_,[],by omega,Γ w8 _,((O.out.below l).less<|by omega).alloc _,(J.out.less<|by omega).alloc _,OC.nil _ _,⟨rfl,λi k x k' vs e1 _=>by simp at e1,λi j p q _ e1 _=>by simp at e1⟩,(((Jc.out.below o).below l).less (by simp;omega)).alloc _,λi p e1=>by simp at e1,λg e1 e2=>by have:=(J.out.lt g e1).1;have:=(O.out.lt g e2).2;omega⟩
 have X:=Wn.alloc (by omega)<|Ψ #[Z8 M 0 0,.slice a6 h.roots.length m6,.slice a7 h.aA.length m7,.slice a8 h.done.length m8] 159;have hs9:w.heap.size<(w8.alloc<|Ψ #[Z8 M 0 0,.slice a6 h.roots.length m6,.slice a7 h.aA.length m7,.slice a8 h.done.length m8] 159).heap.size:=by simp;omega
 have HO:=Y<|Ξ s X;clear s X
 go_wp2_with fail
 go_loopw [27] (λi wr=>∃k:Nat,k<=h.cells.length/\i=Δ Θ k/\Hid (J0 wr w w8 (h.cells.take k) h.roots h.aA h.done)/\Below w w wr) (λi _=>h.cells.length-(intOf i).toNat)
 case atStart=>exact⟨0,Nat.zero_le _,rfl,Y HO.out.1,HO.out.2⟩
 case round=>
  clear HO;obtain⟨k,G,rfl,HO,n⟩:=hrel;have hsz:=n.size;by_cases hlt:k<h.cells.length
  ·obtain⟨ba,oa,e,hba,W⟩:=HC.out (by omega);cases e
   obtain⟨kd,vs,e1⟩:=cQ hlt;obtain⟨d1,x,d2,hx⟩:=(W.below n hba) k kd vs e1;have hvl:vs.length<=1000:=by have:=K.out.kinds _<|ω e1;dsimp only at this;omega
   have hcl:(h.cells.take k).length<=1000:=by have:=K.out.many;simp;omega
   have HX:=Y hx;obtain⟨ax,mx,rfl,hmx,N4,hax⟩:=hx;have E1:=Y e1;clear W e1 hax
   go_wp2_with fail
   refine(af9 _ w w8 (h.cells.take k) h.roots h.aA h.done kd _ vs (HO.out.below<|af wr _) (HX.out.below<|af wr _) (by simp;omega) hcl hvl).mono ?_;rintro e w9 ⟨rfl,S,BP⟩;have HO9:=Y S;clear S
   go_wp2_with fail
   exact⟨⟨k+1,by omega,by go_num,Y (by rw[bW E1.out];exact HO9.out),(n.alloc hsz _).trans BP⟩,by simp[intOf];omega⟩
  ·have hke:k=h.cells.length:=by omega
   subst hke
   go_wp2_with fail
   go_ret;have:=HO.out;rw[ε .refl]at this;exact⟨⟨_,rfl,this⟩,n⟩
end
section
variable(w:ο){bm:Nat}(B bq:Nat)(s:υ)
def EY(h:zS w B bq s []):
 Z9 prog 260 #[.pointer bq] w λe w'=>e=.returned (.tuple #[Δ Θ 0,.bool ξ])/\w'=w:=by
 obtain⟨hb,b⟩:=h;obtain⟨a,m,rfl,c,h3,h4,h5⟩:=b;have c0:w bq=U (.slice a 0 m):=by simp[Z,hb]
 go_enter (fU func260 rfl),ntmps260
 go_wp2
 go_ret2
 exact⟨rfl,rfl⟩
def zU{w B bq g o b m a n l}(hb:w.heap[bq]?=U (Ψ #[.slice (g,o) (l.length+1) m] 305 (0,0)))(y:l.length+1<=m)(h3:m<=9223372036854775807)(H:B<=g/\w.heap[g]?=U (.cells a 3 (0,0))/\o+m<=a.size/\∀i p,(n::l)[i]?=U p->a[o+i]?=U (Δ Θ p))(r:b=o+1\/(b=o/\m=1)):
 ∃s',zS (w.setCell bq<|.slice (g,b) l.length<|m-1).drew B bq s' l/\JY w (w.setCell bq<|.slice (g,b) l.length<|m-1).drew bq bm (.slice (g,o) (l.length+1) m) s':=by
 obtain⟨d,h,s,j⟩:=H;have f:g≠bq:=λe=>by subst e;rw[hb]at h;cases h
 refine⟨.slice (g,b) l.length<|m-1,⟨?_,U (g,b),m-1,rfl,by omega,by omega,⟨λe=>(by cases e),λad e=>?_⟩⟩,⟨rfl,rfl,rfl,by simp[ZL],λk t q v u=>Below.heap_setCell _ _ _ _ q,λk e=>.inl ?_⟩⟩;exact aB hb 0 _;cases e
 refine⟨g,b,a,rfl,d,(Below.heap_setCell _ _ _ _ f).trans h,by omega,λi x c=>?_⟩;obtain rfl|⟨rfl,rfl⟩:=r
 have:=j (i+1) x (by simpa using c);rw[show o+1+i=o+(i+1) by omega];exact this;have:=(ψ.1 c).1;omega;exact e
def EZ(bm s n l)(h:zS w B bq s (n::l))(G:l.length<=1000000):
 Z9 prog 260 #[.pointer bq] w λe w'=>e=.returned (.tuple #[Δ Θ n,.bool ZB])/\∃s',zS w' B bq s' l/\JY w w' bq bm s s':=by
 obtain⟨hb,v⟩:=h;have x:=Y v;obtain⟨a,m,rfl,k,h3,h4,h5⟩:=v;have c0:w.drew.cell? bq=U (.slice a (n::l).length m):=by show w _=_;simp[Z,hb]
 have p:w bq=U (.slice a (n::l).length m):=c0;have F:w.frozen? bq=ξ:=by simp[φ,hb]
 have t:=Y hb;obtain _|ad:=a
 have:=h4 rfl;subst this;simp at k;obtain⟨g,o,c,rfl,r,q,f,b⟩:=h5 _ rfl;have h0:=b 0 n rfl;have d0:w (g,o)=U (Δ Θ n):=by simpa[Z,q]using h0
 have H5:=Y (⟨r,q,f,b⟩:B<=g/\w.heap[g]?=U (.cells c 3 (0,0))/\o+m<=c.size/\∀i u,(n::l)[i]?=U u->c[o+i]?=U (Δ Θ u));have j:(n::l).length=l.length+1:=rfl;rw[j]at c0 p k t x⊢;have A:(1:Int)<=(m:Int):=by omega
 have C:(l.length:Int)+1<=(m:Int):=by omega
 have D:(1:Int)<=(l.length:Int)+1:=by omega
 have y:(0:Int)<(l.length:Int)+1:=by omega
 clear h5 b q f h4 hb c0 h0 j;by_cases z:m=1
 ·subst z;have d:=List.eq_nil_of_length_eq_zero (by omega:l.length=0);subst d
  go_enter (fU func260 rfl),ntmps260
  go_wp2
  go_region
  all_goals go_wp2
  go_ret2
  exact⟨rfl,zU t.out k h3 H5.out<|.inr ⟨rfl,rfl⟩⟩
 ·have E:¬m-1=0:=by omega
  go_enter (fU func260 rfl),ntmps260
  go_wp2
  go_region
  all_goals go_wp2
  go_ret2
  exact⟨rfl,zU t.out k h3 H5.out<|.inl rfl⟩
def JY.ye{w w' bq s s'}(h:JY w w' bq bq s s'):JY w w' bq bm s s':=⟨h.os,h.tape,h.output,h.size,λk c a _ b=>h.block k c a a b,h.own⟩
def JY.sC{w w' bq s}(h:w.grownBy w' (U bm)):JY w w' bq bm s s:=⟨h.os,h.tape,h.output,h.size,λk a _ b _=>h.block k a λe=>b<|η e,λk e=>.inl e⟩
def iG(x:List Int×List Int)(n:Int):List Int×List Int:=if x.2.contains n then x else(x.1++[n],x.2++[n])
def DC(b3 bq bm r:Nat)(s q met n)(f:zS w B bq s q)(o:bk w bm met)(hc:w r=U (.map<|U bm))(h3:w b3=U (Δ Θ<|-1))(Q:0<=n)(S:B<=w)(O:q.length<=1000000):
 Z9 prog 257 #[Δ Θ n,.pointer r,.pointer b3,.pointer bq] w λe w'=>e=.returned (.tuple #[])/\
  ∃s',zS w' B bq s' (iG (q,met) n).1/\bk w' bm (iG (q,met) n).2/\JY w w' bq bm s s':=by
 have J:=Y f;have G:=Y o;have u:=λW=>ke (w:=W) (b:=bm) (l:=met) n;have i:=ke n o;by_cases m:n∈met
 ·have d:iG (q,met) n=(q,met):=by unfold iG;rw[if_pos (by simpa using m)]
  rw[d];have hd:decide (n∈met)=ZB:=by simpa using m
  rw[hd]at i;clear f o m d hd u
  go_enter (fU func257 rfl),ntmps257
  go_wp2
  go_end0;exact⟨rfl,s,J.out,G.out,JY.bK<|Below.refl _ _⟩
 ·have d:iG (q,met) n=(q++[n],met++[n]):=by unfold iG;rw[if_neg (by simpa using m)]
  rw[d];have hd:decide (n∈met)=ξ:=by simpa using m
  rw[hd]at i;have H:(n==-1)=ξ:=by simp;omega
  obtain⟨F,K,k,h,N⟩:=ki n o;have j:nb met n=met++[n]:=by unfold nb;rw[if_neg (by simpa using m)]
  rw[j]at k;have c:bq≠bm:=λe=>by obtain⟨P,y,hb,_⟩:=o;subst e;rw[f.1]at hb;cases hb
  have a:d6 s≠U bm:=λe=>by obtain⟨P,y,hb,_⟩:=o;obtain⟨_,_,L,x⟩:=f.2.lt e;rw[x]at hb;cases hb
  have p:zS F B bq s q:=⟨(h.block bq (Ω.1 f.1).1 λe=>c<|η e).trans f.1,f.2.of_block λg E=>h.block g (f.2.lt E).2.1 λe=>a<|by rw[E,e]⟩;have A:=Y p;have v:=Y k;have C:=Y h;have z:=Y<|Ξ c a;clear f o m d hd u j k h p c a
  go_enter (fU func257 rfl),ntmps257
  go_wp2_with fail
  refine(afd _ B bq bq s q n A.out (by omega) O).mono ?_;rintro e T ⟨rfl,s',D,t⟩
  go_wp2_with fail
  go_end0;obtain⟨c,a⟩:=z.out;exact⟨rfl,s',D,v.out.of_block<|t.block bm v.out.lt c.symm c.symm a,(JY.sC C.out).trans t.ye⟩
end
end Kn
namespace Kn
open Go Go.RowKit Go.Shelf Md
section
variable(w:ο)(b n:Nat)
attribute [local go_sem] Oper.semAt_some
def Jg:Z9 prog 259 #[.pointer b] w λe w'=>e=.returned (.func (.func 276) #[] #[.pointer w.heap.size])/\w'=w.alloc (Ψ #[.pointer b] 155):=by
 go_enter (fU func259 rfl),ntmps259
 go_wp2
 go_ret;exact⟨rfl,rfl⟩
def refsOf(l:List HV):List Int:=(l.filter λv=>v.1==1).map (·.2)
def lB(l v):refsOf (l++[v])=if v.1=1 then refsOf l++[v.2]else refsOf l:=by
 unfold refsOf
 grind
def sL{l:List HV}{k:Nat}{n}(h:l[k]?=U (1,n)):(refsOf<|l.take k).length<(refsOf l).length:=by
 have a:l.drop k=(1,n)::l.drop (k+1):=by
  rw[YX ((ψ.1 h).1)]
  grind
 rw[(by rw[YN]:refsOf l=refsOf (l.take k++l.drop k)),a];unfold refsOf;simp
def qD(h:PH):List Int:=refsOf h.roots++h.done
def stV(x:Nat×Nat):υ:=.agg #[(x.1:Int),.slice x.2 1 1]
def KT(x:Nat×Nat):Int:=(x.1:Int)
def uY(n0 bg:Nat)(W W':ο):Prop:=Below n0 W W'/\W'.heap[bg]?=W.heap[bg]?
def uY.trans{c d X a b}(h:uY c d X a)(k:uY c d a b):uY c d X b:=⟨h.1.trans k.1,k.2.trans h.2⟩
def uY.refl(a b X):uY a b X X:=⟨Below.refl _ _,rfl⟩
def uY.book{b a:Nat}{w:ο}(e:b<=w)(hb:a<w)(W l o c)(d:w.heap.size<=l)(h:W.heap[l]?=U o)(hc:o.isCells=ξ)(hw:o.isWalk=ξ):uY b a W (W.putObj l c):=⟨belowK_b e W l o c d h hc hw,ZS<|by omega⟩
def uY.alloc{c b X a}(h:uY c b X a)(d:c<=a)(hb:b<a)(o):uY c b X (a.alloc o):=⟨h.1.alloc d o,(Below.heap_alloc a o b hb).trans h.2⟩
def E0(hn:1<=n)(l b L:Nat)(h)(J Jx:List (Nat×Nat) ->ο->Prop)(W0 W:ο)(hJ:AbidesFrom W J) (hY:∀a x W1,J a W1->a.length<(qD h).length->YieldAt Zu (n-1) prog l #[stV x] W1 λe P=>
 (e=.returned (.bool ZB)/\J (a++[x]) P/\uY W0 L W1 P)\/(e=.returned (.bool ξ)/\Jx (a++[x]) P)) (o:W.heap[L]?=U (Ψ #[.pointer b] 155 (0,0))) (hg:qw W0 b h) (X:∀v∈h.roots,v.1=1->0<=v.2) (hdp:∀n∈h.done,0<=n) (hW:Below W0 W0 W) (h0:J [] W):
 CallsIn Zu n prog 276 #[.func (.yield l) #[] #[],.pointer L] W λe P=>(∃v,e=.returned v)/\
  ((∃ys,ys.map KT=qD h/\J ys P)\/(∃a,True/\Jx a P)):=by
 obtain⟨c,r,wi,d,c0,c1,c2,c3,_,h2,_,h4⟩:=hg;obtain⟨ar,mr,rfl,_,_,S⟩:=h2;obtain⟨ad,md,rfl,_,_,had⟩:=h4;have hb:=az c0;have hbg:W L=U (.pointer b):=by simp[Z,o]
 have C:=(Ω.1 o).1;have f1:=cG hW c1 hb;have C3:=Y c3;have HBG:=Y o;have HA:=Y S;have HY:=Y hY;have HD:=Y had;clear hY c0 c1 c2 c3 S had o;refine callsIn_of_wp (fU func276 rfl) rfl trivial ?_ rfl;simp only[ntmps276,Zc,Zw,Zr,Nat.reduceAdd,Nat.reduceSub,Zm,Zl,Zb,Zf,Y5,Y8]
 gi_wp2_with fail
 clear hbg
 gi_loopw [13] (λi wr=>∃k:Nat,∃a,k<=h.roots.length/\i=Δ Θ k/\a.map KT=refsOf (h.roots.take k)/\J a wr/\uY W0 L W wr) (λi _=>h.roots.length-(intOf i).toNat)
 case atStart=>exact⟨0,[],Nat.zero_le _,rfl,rfl,h0,uY.refl _ _ _⟩
 case round=>
  obtain⟨k,a,hk,rfl,K,A,m⟩:=hrel;clear h0 f1;have g:=Nat.lt_of_lt_of_le C m.1.size;have j:=hW.trans m.1;have y:=j.size;by_cases E:k<h.roots.length
  ·obtain⟨ba,oa,e,F,s⟩:=HA.out (by omega);cases e
   obtain⟨p,q,e1⟩:=ep E;obtain⟨d1,d2⟩:=(s.below j F) k p q e1;have E1:=Y e1;have HP:=Y K;by_cases D:p=1
   ·subst D;obtain⟨q,rfl⟩:=ζ<|X _ (ω e1) rfl;have f:a.length<(qD h).length:=by have:=sL e1;rw[<-K]at this;unfold qD;simp at this⊢;omega
    have Q:=hJ _ _ (wr.alloc<|Ψ #[Δ Θ 1,q] 50) M A (ZH wr _ M) (λr e=>by cases e);have t:=hJ _ _ ((wr.alloc<|Ψ #[Δ Θ 1,q] 50).alloc<|Ψ #[Δ Θ k] 3) M Q (ZH _ _ M) (λr e=>by cases e);obtain⟨fn,tmps,B,body,hy,hR⟩:=HY.out _ (q,wr.heap.size+1) _ t f;unfold stV at hy;dsimp only at hy;clear s e1 f Q t K
    gi_wp2_with fail
    refine hR.mono ?_;rintro e W3 (⟨rfl,N,O⟩|⟨rfl,z⟩)
    ·gi_wp2_with fail
     go_roundw
     case rel=>exact⟨k+1,a++[(q,wr.heap.size+1)],by omega,by go_num,by rw[bW E1.out,lB,if_pos rfl,ZY,HP.out];rfl,N,((m.alloc y g _).alloc (by simp;omega) (by simp;omega) _).trans O⟩
     case measure=>simp[intOf];omega
    ·gi_wp2_with fail
     refine ZT (Zj rfl _ _ _) rfl ?_;exact⟨⟨_,rfl⟩,.inr ⟨_,trivial,z⟩⟩
   ·have hp1':(p==1)=ξ:=by simp[D]
    clear s e1 K
    gi_wp2_with fail
    refine⟨λ_ h=>(by cases h),?_⟩
    gi_wp2_with fail
    go_roundw
    case rel=>exact⟨k+1,a,by omega,by go_num,by rw[bW E1.out,lB,if_neg D];exact HP.out,hJ _ _ (wr.alloc<|Ψ #[p,q] 50) M A (ZH wr _ M) (λr e=>by cases e),m.alloc y g _⟩
    case measure=>simp[intOf];omega
  ·have H:k=h.roots.length:=by omega
   subst H;rw[ε .refl]at K;have f3:=cG j C3.out hb;have fg:wr L=U (.pointer b):=by simp[Z,m.2.trans HBG.out]
   gi_wp2_with fail
   have HPR:=Y K;clear K
   gi_loopw [38] (λi wr'=>∃(k:Nat) (a:List (Nat×Nat)),k<=h.done.length/\i=Δ Θ k/\a.map KT=refsOf h.roots++h.done.take k/\J a wr'/\uY W0 L W wr') (λi _=>h.done.length-(intOf i).toNat)
   case atStart=>exact⟨0,a,Nat.zero_le _,rfl,by simpa using HPR.out,A,m⟩
   case round=>
    clear A m f3 fg j g y;obtain⟨k,u,hk2,rfl,w,T,G⟩:=hrel;have j:=hW.trans G.1;have y:=j.size;have g:=Nat.lt_of_lt_of_le C G.1.size;by_cases E:k<h.done.length
    ·obtain⟨ba,oa,e,F,s⟩:=HD.out (by omega);cases e
     obtain⟨q,e1⟩:=ot E;have d1:=(s.below j F) k q e1;have E1:=Y e1;have HP:=Y w;obtain⟨q,rfl⟩:=ζ<|hdp _<|ω e1;have f:u.length<(qD h).length:=by have:=congrArg YJ w;unfold qD;simp at this⊢;omega
     have t:=hJ _ _ (wr.alloc<|Ψ #[Δ Θ (wrap64<|4+k)] 3) M T (ZH _ _ M) (λr e=>by cases e);obtain⟨fn,tmps,B,body,hy,hR⟩:=HY.out _ (q,wr.heap.size) _ t f;unfold stV at hy;dsimp only at hy;clear s e1 f t w
     gi_wp2_with fail
     refine hR.mono ?_;rintro e W3 (⟨rfl,N,O⟩|⟨rfl,z⟩)
     ·gi_wp2_with fail
      go_roundw
      case rel=>exact⟨k+1,u++[(q,wr.heap.size)],by omega,by go_num,by rw[bW E1.out,ZY,HP.out,YE];rfl,N,(G.alloc y g _).trans O⟩
      case measure=>simp[intOf];omega
     ·gi_wp2_with fail
      refine ZT (Zj rfl _ _ _) rfl ?_;exact⟨⟨_,rfl⟩,.inr ⟨_,trivial,z⟩⟩
    ·have H:k=h.done.length:=by omega
     subst H;rw[ε .refl]at w
     gi_wp2_with fail
     go_end0;exact⟨⟨_,rfl⟩,.inl ⟨u,w,T⟩⟩
def wH(o:1<=n)(b a:Nat)(h)(w0 w:ο)(hb:Below w0 w0 w)(c:w.heap[a]?=U (Ψ #[.pointer b] 155 (0,0)))(k:qw w0 b h)(d:∀v∈h.roots,v.1=1->0<=v.2)(e:∀n∈h.done,0<=n):
 SeqStopsK Zu n prog 276 #[.pointer a] (λx=>#[stV x]) (uY w0 a) (λg=>g.map KT=qD h) (λ_=>True) (qD h).length w:=λl J m W f j p i h0=>
 E0 n o l b a h J m w0 W j i ((f.block a (Ω.1 c).1).trans c) k d e (hb.trans<|f.mono hb.size) h0
def BR (t f:Int) (w:ο) (e:Ending) (w':ο):Prop:=∃bt bf,e=.returned (.func (.func 321) #[] #[.pointer (bt:Nat),.pointer (bf:Nat)])/\
    w'.heap[bt]?=U (Ψ #[t] 3 (0,0))/\w'.heap[bf]?=U (Ψ #[f] 3 (0,0))/\w.heap.size<=bt/\w.heap.size<=bf/\Below w w w'
def zV(f t:Int):Z9 prog 320 #[f,t] w λe w'=>BR t f w e w':=by
 go_enter (fU func320 rfl),ntmps320
 go_wp2
 go_ret;refine⟨w.heap.size+1,w.heap.size,by simp,by simpa using (Γ (w.alloc<|Ψ #[f] 3)<|Ψ #[t] 3),(heap_alloc_old (w.alloc<|Ψ #[f] 3) (Ψ #[t] 3)<|by simp).trans<|Γ w<|Ψ #[f] 3,Nat.le_succ _,.refl,(af w _).alloc (by simp) _⟩
def tR(k1 k2:Nat)(W W':ο):Prop:=W'.heap[k1]?=W.heap[k1]?/\W'.heap[k2]?=W.heap[k2]?
def tR.trans{c d X a b}(h:tR c d X a)(k:tR c d a b):tR c d X b:=⟨k.1.trans h.1,k.2.trans h.2⟩
def tR.refl(a b X):tR a b X X:=⟨rfl,rfl⟩
def tR.book{a b:Nat}{w:ο}(f:a<w)(e:b<w)(W l o c)(d:w.heap.size<=l)(h:W.heap[l]?=U o)(hc:o.isCells=ξ)(hw:o.isWalk=ξ):tR a b W (W.putObj l c):=⟨ZS<|by omega,ZS<|by omega⟩
def tR.bK{b c:Nat}{X a:ο}(h:Below X X a)(d:b<X)(e:c<X):tR b c X a:=⟨h.block b d,h.block c e⟩
def inV{m:Nat}(f:Nat)(x:Fin m):υ:=Δ Θ<|(f:Int)+((x.val:Nat):Int)
def E3(T:1<=n)(l q c m f)(J z:List (Fin m) ->ο->Prop)(W) (B:∀a x t,J a t->a.length<m->YieldAt Zu (n-1) prog l #[inV f x] t λe d=>
 (e=.returned (.bool ZB)/\J (a++[x]) d/\tR q c t d)\/(e=.returned (.bool ξ)/\z (a++[x]) d)) (j:W.heap[q]?=U (Ψ #[Δ Θ (f+m)] 3 (0,0))) (b:W.heap[c]?=U (Ψ #[Δ Θ f] 3 (0,0))) (X:m<=1000000) (S:f<=1000) (h0:J [] W):
 CallsIn Zu n prog 321 #[.func (.yield l) #[] #[],.pointer q,.pointer c] W λe d=>(∃v,e=.returned v)/\
  ((∃D,D.map Fin.val=ZK m/\J D d)\/(∃a,True/\z a d)):=by
 have K:W q=U (Δ Θ<|(f:Int)+m):=by simp[Z,j]
 have F:W c=U (Δ Θ (f:Int)):=by simp[Z,b]
 have E:=Y b;have L:=Y B;clear B j b;refine callsIn_of_wp (fU func321 rfl) rfl trivial ?_ rfl;simp only[ntmps321,Zc,Zw,Zr,Nat.reduceAdd,Nat.reduceSub,Zm,Zl,Zb,Zf,Y5,Y8]
 gi_wp2_with fail
 clear K F
 gi_loopw [8] (λi wr=>∃k:Nat,∃a:List (Fin m),k<=m/\i=Δ Θ k/\a.map Fin.val=ZK k/\J a wr/\tR q c W wr) (λi _=>m-(intOf i).toNat)
 case atStart=>exact⟨0,[],Nat.zero_le _,rfl,rfl,h0,tR.refl _ _ _⟩
 case round=>
  obtain⟨k,a,O,rfl,s,h,p⟩:=hrel;clear h0;by_cases g:k<m
  ·have P:wr c=U (Δ Θ (f:Int)):=by simp[Z,p.2.trans E.out]
   obtain⟨fn,A,r,body,C,N⟩:=L.out _ ⟨k,g⟩ _ h (by have:=congrArg YJ s;simp at this;omega);unfold inV at C;dsimp only at C;have H:=Y s;clear s;have G:(k:Int)<(m:Int):=by omega
   gi_wp2_with fail
   refine N.mono ?_;rintro e Q (⟨rfl,w,y⟩|⟨rfl,o⟩)
   ·gi_wp2_with fail
    go_roundw
    case rel=>exact⟨k+1,a++[⟨k,g⟩],by omega,by go_num,by rw[Yv,ZY,H.out];rfl,w,p.trans y⟩
    case measure=>simp[intOf];omega
   ·gi_wp2_with fail
    refine ZT (Zj rfl _ _ _) rfl ?_;exact⟨⟨_,rfl⟩,.inr ⟨_,trivial,o⟩⟩
  ·have u:k=m:=by omega
   subst u
   gi_wp2_with fail
   go_end0;exact⟨⟨_,rfl⟩,.inl ⟨a,s,h⟩⟩
def oy(o:1<=n)(d b m f:Nat)(w)(c:w.heap[d]?=U (Ψ #[Δ Θ (f+m)] 3 (0,0)))(a:w.heap[b]?=U (Ψ #[Δ Θ f] 3 (0,0)))(g:m<=1000000)(h:f<=1000):
 SeqStopsK Zu n prog 321 #[.pointer d,.pointer b] (λx:Fin m=>#[inV f x]) (tR d b) (λi=>i.map Fin.val=ZK m) (λ_=>True) m w:=λl J j W e q p k h0=>
 E3 n o l d b m f J j W k ((e.block d (Ω.1 c).1).trans c) ((e.block b (Ω.1 a).1).trans a) g h h0
def Ou(a n m b):Z9 prog 316 #[.agg #[Δ Θ 0,.slice a n m],.map<|U b] w λe w'=>BR n 0 w e w':=by
 go_enter (fU func316 rfl),ntmps316
 go_wp2_with fail
 refine(zV _ _ _).mono ?_;rintro e w' ⟨g,f,rfl,c,d,h3,h4,h5⟩
 go_wp2_with fail
 go_ret;simp at h3 h4;exact⟨g,f,rfl,c,d,by omega,by omega,(af w _).trans<|h5.mono<|by simp⟩
def Ov(a n m b):Z9 prog 322 #[.agg #[Δ Θ 1,.slice a n m],.map<|U b] w λe w'=>BR ((0:Nat):Int) 0 w e w':=by
 go_enter (fU func322 rfl),ntmps322
 go_wp2_with fail
 refine(zV _ _ _).mono ?_;rintro e w' ⟨g,f,rfl,c,d,h3,h4,h5⟩
 go_wp2_with fail
 go_ret;simp at h3 h4;exact⟨g,f,rfl,c,d,by omega,by omega,(af w _).trans<|h5.mono<|by simp⟩
end
end Kn
namespace Kn
open Go Go.RowKit Md
structure ahv(k:Int)(vs:List HV)(A:List Int)(f T F:Nat):Prop where
 cellOf:∀w a n m,Z9 prog 181 #[.agg #[Δ Θ k,.slice a n m]] w λe w'=>e=.returned (.iface T (.agg #[Δ Θ k,.slice a n m]))/\Below w w w'
 mt:∀w s,(method 463 T (.agg #[Δ Θ k,s]) "caracole/heap.keeps").run prog w=.ok (F,.agg #[Δ Θ k,s]) w
 ent:∀w args,(Yw F args).run prog w=.ok (.enter F args) w
 keeps:∀w a m b,bk w b A->eI w (.slice a vs.length m) vs->Z9 prog F #[.agg #[Δ Θ k,.slice a vs.length m],.map (U b)] w λe w'=>BR ((f:Int)+(Md.keeps (k,vs) A).length) f w e w'
 le:f+(Md.keeps (k,vs) A).length<=vs.length+1
 low:f<=1
 eT:0<(Md.keeps (k,vs) A).length->(∀j,j<(Md.keeps (k,vs) A).length->f+j<vs.length/\(Md.keeps (k,vs) A)[j]?=vs[f+j]?)/\∀w a n m,Z9 prog 261 #[.iface T (.agg #[Δ Θ k,.slice a n m])] w λe w'=>e=.returned (.slice a n m)/\Below w w w'
def agb{k}(vs A)(h:k=0\/k=1):∃f T F,ahv k vs A f T F:=by
 obtain rfl|rfl:=h
 refine⟨0,264,316,sI,λw s=>Oc w s _ 316<|.inr<|.inr<|.inl ⟨rfl,rfl⟩,λw c=>KE 316 c w rfl,λw a m b _ _=>?_,by simp[Md.keeps],by omega,λ_=>⟨λj d=>?_,I1⟩⟩
 ·simpa[Md.keeps]using Ou w a vs.length m b
 simp only[Md.keeps,if_pos]at d⊢;exact⟨by omega,by simp⟩;refine⟨0,265,322,sJ,λw s=>Od w s _ 322<|.inr<|.inr<|.inl ⟨rfl,rfl⟩,λw c=>KE 322 c w rfl,λw a m b _ _=>?_,by simp[Md.keeps],by omega,λh=>by simp[Md.keeps]at h⟩;simpa[Md.keeps]using Ov w a vs.length m b
end Kn
namespace Md
section
def iZ(o:List Int)(l:List HV):List Int:=l.foldl (λo v=>if v.1=1 then nb o v.2 else o) o
def cellP(h:PH)(n:Int):HC:=h.cells.getD n.toNat (0,[])
def J1(h:PH):Nat->Nat->List Int->List Int
 |0,_,o=>o
 |f+1,k,o=>match o[k]? with
  |none=>o
  |some n=>J1 h f (k+1)<|iZ o (cellP h n).2
def tT(n:Int):HV:=(1,n)
def Fe(h:PH):List HV:=h.roots++h.done.map tT++h.aA.map tT
def dT(h:PH):List Int:=J1 h (h.cells.length+1) 0<|iZ []<|Fe h
def yA(N:List Int)(v:HV):HV:=if v.1=1 then(1,((N.idxOf v.2:Nat):Int))else v
def oZ(N:List Int)(n:Int):Int:=((N.idxOf n:Nat):Int)
def normal(h:PH):PH:=⟨(dT h).map λn=>((cellP h n).1,(cellP h n).2.map<|yA<|dT h),h.roots.map<|yA<|dT h,h.aA.map<|oZ<|dT h,h.done.map<|oZ<|dT h⟩
def vZ(o v l):iZ o (v::l)=iZ (if v.1=1 then nb o v.2 else o) l:=rfl
def tU{l n x}:x∈nb l n↔x∈l\/x=n:=by
 unfold nb
 grind
def NI{l n}(h:l.Nodup):(nb l n).Nodup:=by
 unfold nb
 grind
structure Ren(h h':PH)(p:Int->Int)(N:Int->Prop):Prop where
 rng:∀n,N n->0<=n/\n<h.cells.length/\0<=p n/\p n<h'.cells.length
 inj:∀n m,N n->N m->p n=p m->n=m
 cell:∀n,N n->cellP h' (p n)=((cellP h n).1,(cellP h n).2.map λv=>if v.1=1 then(1,p v.2)else v)
 eT:∀n,N n->∀v∈(cellP h n).2,v.1=1->N v.2
 roots:h'.roots=h.roots.map λv=>if v.1=1 then(1,p v.2)else v
 aaL:∀v∈h.roots,v.1=1->N v.2
 aA:h'.aA=h.aA.map p
 yZ:∀n∈h.aA,N n
 done:h'.done=h.done.map p
 G5:∀n∈h.done,N n
section
variable{h h':PH}{p:Int->Int}{N:Int->Prop}
def PQ(p:Int->Int)(v:HV):HV:=if v.1=1 then(1,p v.2)else v
def aaM(hi:∀n m,N n->N m->p n=p m->n=m){o n}(b:∀x∈o,N x)(a:N n):nb (o.map p) (p n)=(nb o n).map p:=by
 have e:(o.map p).contains (p n)=o.contains n:=by grind
 unfold nb
 grind
theorem J2(hi:∀n m,N n->N m->p n=p m->n=m):∀(l:List HV) (o:List Int),(∀x∈o,N x) ->(∀v∈l,v.1=1->N v.2) ->iZ (o.map p) (l.map<|PQ p)=(iZ o l).map p
 |[],o,_,_=>rfl
 |v::l,o,ho,hl=>by
  rw[Ze,vZ,vZ];by_cases a:v.1=1
  have b:=hl v ι a;have e:PQ p v=(1,p v.2):=by simp[PQ,a]
  rw[e,if_pos a,aaM hi ho b];exact J2 hi l _ (λx c=>(tU.1 c).elim (ho x) λe=>e▸b) λw hw=>hl w<|χ _ hw;have e:PQ p v=v:=by simp[PQ,a]
  rw[e,if_neg a,if_neg a];exact J2 hi l _ ho λw hw=>hl w<|χ _ hw
def Ff{l}:∀{o},(∀x∈o,N x) ->(∀v∈l,v.1=1->N v.2) ->∀x∈iZ o l,N x:=by
 induction l with
 |nil=>exactλa _=>a
 |cons v l d=>
  intro o a b;rw[vZ];refine d ?_ λw hw=>b w<|χ _ hw;split
  rename_i c
  exactλx f=>(tU.1 f).elim (a x) λe=>e▸b v ι c
  omega
theorem sR:∀(l:List HV) {o:List Int},o.Nodup->(iZ o l).Nodup
 |[],o,h=>h
 |v::l,o,h=>by
  rw[vZ];refine sR l ?_;split
  exact NI h;exact h
def PR(h:∀n,N n->0<=p n/\p n<(h'.cells.length:Int))(hi:∀n m,N n->N m->p n=p m->n=m){o:List Int}(f:∀x∈o,N x)(d:o.Nodup):o.length<=h'.cells.length:=by
 have:=j8 h'.cells.length (o.map λn=>(p n).toNat) ?_ ?_
 grind
 rw[YY,ZA];refine d.imp_of_mem λ{a b} g hb c e=>c ?_
 grind
 grind
def Ren.Dm(a:Ren h h' p N):∀f b k o,(∀x∈o,N x) ->o.Nodup->h.cells.length<k+f->h'.cells.length<k+b->J1 h' b k (o.map p)=(J1 h f k o).map p/\(∀x∈J1 h f k o,N x)/\(J1 h f k o).Nodup:=by
 intro f
 induction f with
 |zero=>
  intro b k o d c q l;have j:=PR (h':=h) (p:=id) (λn c=>⟨(a.rng n c).1,(a.rng n c).2.1⟩) (λ_ _ _ _ e=>e) d c;refine⟨?_,d,c⟩;cases b with
  |zero=>rfl
  |succ b=>unfold J1;rw[(List.getElem?_eq_none_iff.2 (by simp;omega))]
 |succ f i=>
  intro b k o d c q l;unfold J1;cases hk:o[k]? with
  |none=>
   have e:(o.map p)[k]?=M:=by rw[Zz,hk];rfl
   refine⟨?_,d,c⟩;cases b with
   |zero=>rfl
   |succ b=>dsimp only;rw[e]
  |some n=>
   have e:(o.map p)[k]?=U (p n):=by rw[Zz,hk];rfl
   have g:=d n<|ω hk;have j:=PR (h':=h') (p:=p) (λn c=>(a.rng n c).2.2) a.inj d c;have m:=(ψ.1 hk).1;cases b with
   |zero=>omega
   |succ b=>dsimp only;rw[e];dsimp only;rw[a.cell n g];have e2:=J2 a.inj (cellP h n).2 o d<|a.eT n g;unfold PQ at e2;dsimp only;rw[e2];exact i b (k+1) _ (Ff d<|a.eT n g) (sR _ c) (by omega) (by omega)
def Ren.cJ(a:Ren h h' p N):Fe h'=(Fe h).map (PQ p):=by unfold Fe;rw[a.roots,a.done,a.aA];simp;rfl
def Ren.VZ(a:Ren h h' p N):∀v∈Fe h,v.1=1->N v.2:=by
 intro v b d;obtain b|b:=κ.1 b
 obtain b|b:=κ.1 b
 ·exact a.aaL v b d
 obtain⟨n,c,rfl⟩:=ZX.1 b;exact a.G5 n c;obtain⟨n,c,rfl⟩:=ZX.1 b;exact a.yZ n c
def Ren.order(a:Ren h h' p N):dT h'=(dT h).map p/\(∀x∈dT h,N x)/\(dT h).Nodup:=by unfold dT;rw[a.cJ,show []=[].map p from rfl,J2 a.inj _ _ (λx b=>by cases b) a.VZ];exact a.Dm _ _ 0 _ (Ff (λx b=>by cases b) a.VZ) (sR _ ZR) (by omega) (by omega)
theorem PS(hi:∀n m,N n->N m->p n=p m->n=m){n:Int}(b:N n):∀(o:List Int),(∀x∈o,N x) ->(o.map p).idxOf (p n)=o.idxOf n
 |[],_=>rfl
 |x::o,ho=>by
  rw[Ze,List.idxOf_cons,PS hi b o λy a=>ho y<|χ _ a]
  grind
theorem Ren.normal(a:Ren h h' p N):normal h'=normal h:=by
 obtain⟨e,d,_⟩:=a.order;have er:∀v:HV,(v.1=1->N v.2) ->yA (dT h') (PQ p v)=yA (dT h) v:=λv c=>by
  unfold yA PQ;by_cases f:v.1=1
  simp only[f,if_true,e,PS a.inj (c f) _ d];simp only[f,if_false]
 have g:∀n:Int,N n->oZ (dT h') (p n)=oZ (dT h) n:=λn b=>by unfold oZ;rw[e,PS a.inj b _ d]
 unfold Md.normal;rw[PH.mk.injEq];refine⟨?_,?_,?_,?_⟩;have i:∀n∈dT h,((cellP h'<|p n).1,(cellP h'<|p n).2.map<|yA<|dT h')=((cellP h n).1,(cellP h n).2.map<|yA<|dT h):=λn b=>by rw[a.cell n (d n b)];dsimp only;rw[Zs];exact congrArg (Prod.mk _)<|ZG λv c=>er v<|a.eT n (d n b) v c
 simp_all
 ·rw[a.roots,Zs];exact ZG λv c=>er v<|a.aaL v c
 rw[a.aA,Zs];exact ZG λn b=>g n<|a.yZ n b
 ·rw[a.done,Zs];exact ZG λn b=>g n<|a.G5 n b
end
end
section
def PU(v:HV):Prop:=(v.1=0/\-99<=v.2/\v.2<=99)\/(v.1=2/\v.2=0)
def G6(g:GH)(v:HV):Prop:=PU v\/zH g v
def aaN(g:GH)(c:HC):Prop:=((c.1=0/\c.2.length<=4)\/(c.1=1/\c.2.length=1)\/(c.1=2/\c.2.length=2))/\∀v∈c.2,G6 g v
structure Qq(g:GH)(l:List HV):Prop where
 nodup:l.Nodup
 cells:∀v∈l,zH g v
 wW:l.length<=40
structure VG(g:GH):Prop where
 cells:∀c∈g.new++g.old,aaN g c
 news:g.new.length<=8
 bw:g.old.length<=32
 four:g.roots.length=4
 roots:∀v∈g.roots,G6 g v
 aA:Qq g g.aA
 done:Qq g g.done
 marks:∀n∈g.marked,0<=n/\n<g.old.length
 order:g.marked.Pairwise (·<·)
 ju:∀(i:Nat) c,g.old[i]?=U c->jW c=ZB->(i:Int)∈g.marked
def zH.cell{g v}(h:zH g v):co v=ZB:=by unfold co;obtain h|h:=h<;>simp[h.1]
def VG.Fh{g}(h:VG g):g.marked.length<=32:=by
 have:=j8 g.old.length (g.marked.map Int.toNat) ?_ ?_;have:=h.bw
 grind
 rw[YY,ZA];refine h.order.imp_of_mem λ{a b} c hb d e=>?_;have:=h.marks a c;omega;intro x f;obtain⟨n,i,rfl⟩:=ZX.1 f;have:=h.marks n i;omega
section
variable{g:GH}(h:VG g)
include h
end
def PW{d g:Type}{f:d->g}{l:List d}(i:l.Nodup)(hi:∀a∈l,∀b∈l,f a=f b->a=b):(l.map f).Nodup:=by rw[YY,ZA];exact i.imp_of_mem λ{a b} h hb c e=>c<|hi a h b hb e
section
variable{g:GH}(h:VG g)
include h
omit h in
end
end
section
def Pk(g):(plain g).cells.length=g.old.length+g.new.length:=by simp[plain]
section
variable{g:GH}(h:VG g)
include h
omit h in
def Rw{u v}(k:zH g u)(j:zH g v)(e:(cp g.old.length u).2=(cp g.old.length v).2):u=v:=by unfold cp at e;obtain⟨a,b⟩:=u;obtain⟨c,d⟩:=v;obtain⟨f,i,h3⟩|⟨f,i,h3⟩:=k<;>obtain⟨h4,h5,h⟩|⟨h4,h5,h⟩:=j<;>dsimp only at f i h3 h4 h5 h<;>subst f<;>subst h4<;>simp at e⊢<;>omega
omit h in
omit h in
end
end
section
structure WG(g:GH):Prop where
 cells:∀c∈g.new++g.old,∀v∈c.2,G6 g v
 roots:∀v∈g.roots,G6 g v
 aA:∀v∈g.aA,zH g v
 done:∀v∈g.done,zH g v
def ahw(g:GH):List HV:=bV g co []
def Al(g:GH):GH:=move g (ahw g) 0
def Xt{o v}(h:PU v):cp o v=v/\v.1≠1/\co v=ξ:=by
 have h3:v.1≠3/\v.1≠4/\v.1≠1:=by obtain h|h:=h<;>omega
 simp[cp,co,h3]
section
variable{g:GH}
end
end
def BJ(h:PH)(n:Int):Prop:=0<=n/\n<h.cells.length
structure WP(h:PH):Prop where
 shape:∀c∈h.cells,c.1=0\/(c.1=1/\c.2.length=1)\/(c.1=2/\c.2.length=2)\/c.2=[]
 cells:∀c∈h.cells,∀v∈c.2,v.1=1->BJ h v.2
 roots:∀v∈h.roots,v.1=1->BJ h v.2
 aA:∀n∈h.aA,BJ h n
 done:∀n∈h.done,BJ h n
def B2{h n}(a:BJ h n):cellP h n∈h.cells:=by have:=a.1;have:=a.2;unfold cellP;rw[Zv,Z2<|by omega];exact List.getElem_mem _
structure n'(h:PH)(A B:List Int):Prop where
 VX:∀v∈VX h,v.2∈B
 keeps:∀n∈B,∀v∈keeps (cellP h n) A,v.1=1->v.2∈B
def Qr{A B}(hs:∀n∈A,n∈B){v}(h:has A v=ZB):has B v=ZB:=by unfold has at h⊢;simp at h⊢;exact h.imp_right<|hs _
def pU{c A B}(hs:∀n∈A,n∈B){v}(h:v∈keeps c A):v∈keeps c B:=by
 unfold Md.keeps at h⊢;split
 rename_i h0;rwa[if_pos h0]at h;rename_i h0;rw[if_neg h0]at h;split
 rename_i a;rw[if_pos a]at h;split at h
 rename_i b;rwa[if_pos (Qr hs b)];cases h
 rename_i a;rwa[if_neg a]at h
def Xu{c A v}(h:v∈keeps c A)(a:v.1=1):v∈c.2:=by
 unfold Md.keeps at h;split at h
 exact h;split at h
 ·split at h
  ·have:=ZM.1 h;subst this;rw[Zv]at a⊢;cases e:c.2[1]? with
   |none=>rw[e]at a;simp at a
   |some x=>exact ω e
  cases h
 cases h
def lF:∀l q met,∃t,Dn l q met=(q++t,met++t)/\(∀v∈l,v.1=1->v.2∈met++t)/\(∀x∈t,∃v∈l,v.1=1/\v.2=x)/\(met.Nodup->(met++t).Nodup)
 |[],q,met=>⟨[],by simp[Dn],by simp,by simp,by simp⟩
 |v::l,q,met=>by
  by_cases j:v.1=1
  by_cases k:met.contains v.2=ZB
  ·obtain⟨t,e,a,b,c⟩:=lF l q met;have f:=Z4.1 k;refine⟨t,?_,?_,λx g=>?_,c⟩;rw[<-e];simp[Dn,j,f];intro u d i;obtain rfl|d:=ZI.1 d
   exact Z1 _ f;exact a u d i;obtain⟨u,d,r⟩:=b x g;exact⟨u,χ _ d,r⟩
  obtain⟨t,e,a,b,c⟩:=lF l (q++[v.2])<|met++[v.2];have f:v.2∉met:=λh=>k<|Z4.2 h;refine⟨v.2::t,?_,?_,λx g=>?_,λn=>?_⟩;rw[show q++v.2::t=(q++[v.2])++t by simp,show met++v.2::t=(met++[v.2])++t by simp,<-e];simp[Dn,j,f];intro u d i;obtain rfl|d:=ZI.1 d
  simp;have:=a u d i;simpa using this;obtain rfl|g:=ZI.1 g
  ·exact⟨v,ι,j,rfl⟩
  obtain⟨u,d,r⟩:=b x g;exact⟨u,χ _ d,r⟩;have:=c (by rw[YD];exact⟨n,by simp,λx g y m=>by simp at m;subst m;rintro rfl;exact f g⟩);simpa using this;obtain⟨t,e,a,b,c⟩:=lF l q met;refine⟨t,?_,?_,λx g=>?_,c⟩;rw[<-e];simp[Dn,j];intro u d i;obtain rfl|d:=ZI.1 d
  exact absurd i j;exact a u d i;obtain⟨u,d,r⟩:=b x g;exact⟨u,χ _ d,r⟩
def Rx{h}{l:List Int}(a:l.Nodup)(b:∀n∈l,BJ h n):l.length<=h.cells.length:=PR (h':=h) (p:=id) (N:=BJ h) (λn a=>⟨a.1,a.2⟩) (λ_ _ _ _ e=>e) b a
def Qs{h}(hw:WP h)(A):∀f b q met alive,met=b++q->met.Nodup->(∀n∈met,BJ h n) ->(∀n∈b,n∈alive) ->(∀n∈A,n∈alive) ->(∀n∈alive,n∈A\/n∈b) ->
 (∀n∈b,∀v∈keeps (cellP h n) A,v.1=1->v.2∈met) ->f+b.length=h.cells.length+1->alive.Nodup->
 ∃P:List Int,(∀n∈met,n∈P)/\(∀n∈P,BJ h n)/\(∀n∈P,∀v∈keeps (cellP h n) A,v.1=1->v.2∈P)/\(∀n,n∈zk h f q met alive↔n∈A\/n∈P)/\(zk h f q met alive).Nodup
 |0,b,q,met,alive,e,hn,hr,hpa,hA,ha,hk,hf,had=>by have:=Rx hn hr;rw[e]at this;simp at this;omega
 |f+1,b,q,met,alive,e,hn,hr,hpa,hA,ha,hk,hf,had=>by
  obtain _|⟨n,q⟩:=q
  rw[Yu]at e;subst e;exact⟨met,λ_ h=>h,hr,hk,λn=>⟨ha n,λh=>h.elim (hA n)<|hpa n⟩,had⟩;unfold zk;dsimp only;have i:=hr n (by rw[e];simp);obtain⟨t,e1,a1,m,c1⟩:=lF (keeps (h.cells.getD n.toNat (0,[]))<|nb alive n) q met;rw[e1];dsimp only;have c:∀x∈alive,x∈nb alive n:=λx a=>tU.2<|.inl a;have q1:∀x∈met++t,BJ h x:=λx a=>by
   obtain a|a:=κ.1 a
   exact hr x a;obtain⟨v,g,d,rfl⟩:=m x a;exact hw.cells _ (B2 i) v (Xu g d) d
  have w:∀x∈b++[n],x∈nb alive n:=λx a=>by
   obtain a|a:=κ.1 a
   exact c x<|hpa x a;exact tU.2<|.inr<|ZM.1 a
  have p:∀x∈nb alive n,x∈A\/x∈b++[n]:=λx a=>by
   obtain a|rfl:=tU.1 a
   exact(ha x a).imp_right λa=>Z1 _ a;exact .inr (by simp)
  have s:∀x∈b++[n],∀v∈keeps (cellP h x) A,v.1=1->v.2∈met++t:=λx a v g d=>by
   obtain a|a:=κ.1 a
   exact Z1 _<|hk x a v g d;rw[ZM.1 a]at g;exact a1 v (pU (λy u=>c y<|hA y u) g) d
  obtain⟨P,r,o,j,l,k⟩:=Qs hw A f (b++[n]) (q++t) (met++t) (nb alive n) (by rw[e];simp) (c1 hn) q1 w (λx a=>c x<|hA x a) p s (by simp;omega)<|NI had;exact⟨P,λx a=>r x<|Z1 _ a,o,j,l,k⟩
def E0{h}(hw:WP h):∀v∈VX h,v.1=1/\BJ h v.2:=λv a=>by
 obtain a|a:=κ.1 a
 obtain⟨c,b⟩:=ZU.1 a;have b:v.1=1:=by simpa using b
 exact⟨b,hw.roots v c b⟩
 ·obtain⟨n,d,rfl⟩:=ZX.1 a;exact⟨rfl,hw.done n d⟩
def Ry{h}(hw:WP h){A}(j:A.Nodup):∃P,n' h A P/\(∀n∈P,BJ h n)/\(∀n,n∈BA h A↔n∈A\/n∈P)/\(BA h A).Nodup:=by
 unfold BA;obtain⟨t,e1,a1,g,c1⟩:=lF (VX h) [] [];rw[e1];dsimp only;obtain⟨P,f,i,c,e,d⟩:=Qs hw A (h.cells.length+1) [] ([]++t) ([]++t) A (by simp) (c1 ZR) (λx a=>by obtain⟨v,b,k,rfl⟩:=g x (by simpa using a);exact(E0 hw v b).2) (λx a=>by cases a) (λx a=>a) (λx a=>.inl a) (λx a=>by cases a) (by simp) j
 exact⟨P,⟨λv b=>f _<|a1 v b (E0 hw v b).1,c⟩,i,e,d⟩
def Pl{h A B}(c:n' h A B):∀f q met alive,(∀n∈q,n∈B) ->(∀n∈zk h f q met alive,n∈A) ->(∀n∈alive,n∈B) ->∀n∈zk h f q met alive,n∈B
 |0,q,met,alive,hq,hr,ha=>ha
 |f+1,q,met,alive,hq,hr,ha=>by
  obtain _|⟨n,q⟩:=q
  exact ha;unfold zk at hr⊢;dsimp only at hr⊢;obtain⟨t,e1,a1,d,c1⟩:=lF (keeps (h.cells.getD n.toNat (0,[]))<|nb alive n) q met;rw[e1]at hr⊢;dsimp only at hr⊢;have b:∀x∈nb alive n,x∈A:=λx a=>hr x<|V' h f _ _ _ x a;refine Pl c f (q++t) (met++t) (nb alive n) (λx a=>?_) hr λx a=>?_;obtain a|a:=κ.1 a
  ·exact hq x<|χ _ a
  obtain⟨v,e,g,rfl⟩:=d x a;exact c.keeps n (hq n ι) v (pU b e) g;obtain a|rfl:=tU.1 a
  ·exact ha x a
  exact hq x ι
where V' (h:PH):∀(f:Nat) (q met alive:List Int),∀n∈alive,n∈zk h f q met alive
 |0,q,met,alive,n,hn=>hn
 |f+1,q,met,alive,n,hn=>by
  cases q with
  |nil=>exact hn
  |cons m q=>unfold zk;dsimp only;exact V' h f _ _ _ n (tU.2 (.inl hn))
def Qt{h A b B}(a:n' h b B)(e:∀n∈A,n∈B)(h':∀n∈BA h A,n∈b):∀n∈BA h A,n∈B:=by unfold BA at h'⊢;obtain⟨t,e1,a1,c,c1⟩:=lF (VX h) [] [];rw[e1]at h'⊢;dsimp only at h'⊢;refine Pl a _ _ _ _ (λn f=>?_) h' e;obtain⟨v,d,g,rfl⟩:=c n (by simpa using f);exact a.VX v d
def Wp{h B}(c:n' h B B):∀f q met alive,(∀n∈q,n∈B) ->(∀n∈alive,n∈B) ->∀n∈zk h f q met alive,n∈B
 |0,q,met,alive,hq,ha=>ha
 |f+1,q,met,alive,hq,ha=>by
  obtain _|⟨n,q⟩:=q
  exact ha;unfold zk;dsimp only;obtain⟨t,e1,a1,d,c1⟩:=lF (keeps (h.cells.getD n.toNat (0,[]))<|nb alive n) q met;rw[e1];have b:∀x∈nb alive n,x∈B:=λx a=>(tU.1 a).elim (ha x) λe=>e▸hq n ι;refine Wp c f (q++t) (met++t) (nb alive n) (λx a=>?_) b;obtain a|a:=κ.1 a
  exact hq x<|χ _ a;obtain⟨v,g,i,rfl⟩:=d x a;exact c.keeps n (hq n ι) v (pU b g) i
def yE{h A B}(a:n' h B B)(d:∀n∈A,n∈B):∀n∈BA h A,n∈B:=by unfold BA;obtain⟨t,e1,a1,b,c1⟩:=lF (VX h) [] [];rw[e1];refine Wp a _ _ _ _ (λn e=>?_) d;obtain⟨v,c,f,rfl⟩:=b n (by simpa using e);exact a.VX v c
def WE:∀{l m:List Int},l.Nodup->(∀x∈l,x∈m) ->m.Nodup->m.length<=l.length->∀x∈m,x∈l
 |[],m,_,_,_,hl,x,hx=>by cases m with|nil=>cases hx|cons=>simp at hl
 |a::l,m,b,hs,hm,hl,x,hx=>by
  have b:=Zq.1 b;by_cases e:x=a
  subst e;exact ι;have d:=hs a ι;refine χ _<|WE (m:=m.erase a) b.2 (λy c=>(YI (by rintro rfl;exact b.1 c)).2<|hs y<|χ _ c) (hm.erase a) ?_ x<|(YI e).2 hx;rw[List.length_erase_of_mem d];simp at hl;omega
def Qu{h}(hw:WP h):∀f A,A.Nodup->(∀n∈A,BJ h n) ->(∀B,n' h A B->∀n∈A,n∈B) ->h.cells.length<f+A.length->
 ∃a,a=zl h f A/\n' h a a/\(∀n∈a,BJ h n)/\a.Nodup/\∀B,n' h B B->(∀n∈A,n∈B) ->∀n∈a,n∈B
 |0,A,hA,hr,hi,hf=>by have:=Rx hA hr;omega
 |f+1,A,hA,hr,hi,hf=>by
  obtain⟨P,s,u,t,m⟩:=Ry hw hA;have p:=hi P s;have d:∀n,n∈BA h A↔n∈P:=λn=>(t n).trans ⟨λh=>h.elim (p n) id,.inr⟩;have l:∀n∈A,n∈BA h A:=λn c=>(t n).2<|.inl c;have i:∀n∈BA h A,BJ h n:=λn c=>u n<|(d n).1 c;unfold zl;dsimp only;split
  rename_i o;have q:∀B,n' h (BA h A) B->∀n∈BA h A,n∈B:=λB g=>by have b:∀n∈A,n∈B:=hi B ⟨g.VX,λn c v k r=>g.keeps n c v (pU l k) r⟩;exact Qt g b λn c=>c
  obtain⟨a,e,r1,r2,r3,r4⟩:=Qu hw f (BA h A) m i q (by omega);refine⟨a,e,r1,r2,r3,λB g b=>r4 B g ?_⟩;exact yE g b;rename_i o;have j:=WE hA l m (by omega);refine⟨_,rfl,⟨λv k=>(d _).2<|s.VX v k,λn c v k r=>(d _).2<|s.keeps n ((d n).1 c) v (pU j k) r⟩,i,m,λB g b n c=>b n<|j n c⟩
def pl{h}(hw:WP h):n' h (alive h) (alive h)/\(∀n∈alive h,BJ h n)/\(alive h).Nodup/\∀B,n' h B B->∀n∈alive h,n∈B:=by obtain⟨a,e,r1,r2,r3,r4⟩:=Qu hw (h.cells.length+1) [] ZR (λn b=>by cases b) (λB _ n b=>by cases b) (by simp);rw[show alive h=a from e.symm];exact⟨r1,r2,r3,λB c=>r4 B c λn b=>by cases b⟩
end Md
namespace Kn
open Go Go.RowKit Go.Shelf Md
section
def yw(l:List Int)(x:List Int×List Int):List Int×List Int:=l.foldl iG x
def dJ(l:List HV)(x:List Int×List Int):List Int×List Int:=yw (refsOf l) x
structure Sr where
 q:List Int
 met:List Int
 al:List Int
def zW(h:PH)(x:Sr):Sr:=
 match x.q with
 |[]=>x
 |n::q=>
  let al:=nb x.al n
  let y:=dJ (keeps (cellP h n) al) (q,x.met)
  ⟨y.1,y.2,al⟩
def dP(h:PH):Nat->Sr->Sr
 |0,x=>x
 |k+1,x=>zW h<|dP h k x
def gD(h:PH)(al:List Int):Sr:=⟨(yw (qD h) ([],[])).1,(yw (qD h) ([],[])).2,al⟩
def Wt(h:PH)(N:Nat)(al:List Int):List Int:=(dP h N<|gD h al).al
def jE(h:PH)(N:Nat):Nat->List Int
 |0=>[]
 |r+1=>Wt h N<|jE h N r
structure lZ(h:PH)(N R:Nat):Prop where
 fin:∀r,r<=R->(dP h N (gD h (jE h N r))).q=[]
 refs:∀r,r<=R->∀k,k<=N->∀n∈(dP h k (gD h (jE h N r))).q,0<=n/\n<h.cells.length
 short:∀r,r<=R->∀k,k<=N->(dP h k (gD h (jE h N r))).q.length<=1000
 grow:∀r,r<R->(jE h N r).length<(jE h N (r+1)).length
 stop:¬(jE h N R).length<(jE h N (R+1)).length
 sM:(qD h).length<=1000
 pos:∀v∈h.roots,v.1=1->0<=v.2
 agd:∀n∈h.done,0<=n
 Wu:∀c∈h.cells,∀v∈c.2,v.1=1->0<=v.2
 kinds:∀c∈h.cells,c.1=0\/c.1=1
 wW:∀c∈h.cells,c.2.length<=1000
def sN(l n x):yw (l++[n]) x=iG (yw l x) n:=by simp[yw]
def E4(x n):(iG x n).1.length<=x.1.length+1:=by unfold iG;split<;>simp
theorem pt:∀(l:List Int) (x:List Int×List Int),(yw l x).1.length<=x.1.length+l.length
 |[],x=>by simp[yw]
 |n::l,x=>by
  have a:=pt l<|iG x n;have b:=E4 x n;show(yw l<|iG x n).1.length<=_
  grind
theorem sO{h:PH}{x:Sr}{k:Nat}(b:(dP h k x).q=[]):∀N,k<=N->dP h N x=dP h k x
 |0,hk=>by grind
 |N+1,hk=>by
  obtain a|a:=Nat.lt_or_ge N k
  grind
  have c:=sO b N a;show zW h (dP h N x)=_;rw[c];unfold zW;rw[b]
def BS{h x k n q}(a:(dP h k x).q=n::q):dP h (k+1) x=⟨(dJ (keeps (cellP h n)<|nb (dP h k x).al n) (q,(dP h k x).met)).1,(dJ (keeps (cellP h n)<|nb (dP h k x).al n) (q,(dP h k x).met)).2,nb (dP h k x).al n⟩:=by show zW h (dP h k x)=_;unfold zW;rw[a]
def zX(l v x):dJ (l++[v]) x=if v.1=1 then iG (dJ l x) v.2 else dJ l x:=by
 unfold dJ;rw[lB];split
 rw[sN];rfl
def BT(l):(refsOf l).length<=l.length:=by
 unfold refsOf
 grind
def BU{F n P Q a w c}(I:Nat->Act->ο->Prop)(N)(h0:I 0 a w)(round:∀k a w,k<=N->I k a w->c.wpIn F n P (Exit.then (λa' w'=>k<N/\I (k+1) a' w') Q) a w):(Code.loop c).wpIn F n P Q a w:=by
 have d:∀m k a w,k+m=N+1->k<=N->I k a w->Code.roundsIn F n P c Q m a w:=by
  intro m
  induction m with
  |zero=>intro k a w f b _;omega
  |succ m i=>
   intro k a w f b g;refine wpIn_mono (round k a w b g) λe a' w' h=>?_;cases e with
   |normal=>exact i (k+1) a' w' (by omega) (by have:=h.1;omega) h.2
   |_=>exact h
 exact wpIn_loop_rounds (N+1)<|d (N+1) 0 a w (by omega) (Nat.zero_le _) h0
def qy{P a w Q c rest}(l)(J:Nat->Act->ο->Prop)(N)(E:findLabel c l=U (.seq .skip rest))(first:(∀a w,J 0 a w->rest.wp P (YU l (λa' w'=>0<N/\J 1 a' w') Q) a w) ->c.wp P (YU l (λa' w'=>0<N/\J 1 a' w') Q) a w)(t:∀k a w,k<=N->J k a w->rest.wp P (YU l (λa' w'=>k<N/\J (k+1) a' w') Q) a w):(Code.scope c).wp P Q a w:=by
 intro b k cs;have p:∀k a w,k<=N->J k a w->(Code.seq .skip rest).wp P (YU l (λa' w'=>k<N/\J (k+1) a' w') Q) a w:=λk a w v z=>wp_seq<|wp_skip<|t k a w v z;have C:gotoIn l (.inScope c::k)=U (.code (.seq .skip rest)::.inScope c::k):=by simp[gotoIn,E]
 have A:∀m j a w,j+m=N->J j a w->∃e a' w',Q e a' w'/\Arrives P (lone (b.at a (.code (.seq .skip rest)::.inScope c::k)) cs w) b k cs e a' w':=by
  intro m
  induction m with
  |zero=>
   intro j a w F z;obtain⟨e,g,d,n,f⟩:=p j a w (by omega) z b (.inScope c::k) cs;cases e with
   |normal=>exact⟨.normal,g,d,n,Steps.trans f<|.one YB⟩
   |exit id=>exact⟨.exit id,g,d,n,λy v=>f y<|by simp[exitTo,v]⟩
   |goto D=>obtain⟨_,x,_⟩:=n;omega
   |ret=>exact⟨_,g,d,n,f⟩
   |panic B=>exact⟨_,g,d,n,f⟩
   |outgrown=>exact⟨_,g,d,n,f⟩
  |succ m G=>
   intro j a w F z;obtain⟨e,g,d,n,f⟩:=p j a w (by omega) z b (.inScope c::k) cs;cases e with
   |normal=>exact⟨.normal,g,d,n,Steps.trans f<|.one YB⟩
   |exit id=>exact⟨.exit id,g,d,n,λy v=>f y<|by simp[exitTo,v]⟩
   |goto D=>obtain⟨rfl,x,u⟩:=n;obtain⟨q,r,s,o,i⟩:=G (j+1) g d (by omega) u;exact⟨q,r,s,o,.of_steps (f _ C) i⟩
   |ret=>exact⟨_,g,d,n,f⟩
   |panic B=>exact⟨_,g,d,n,f⟩
   |outgrown=>exact⟨_,g,d,n,f⟩
 obtain⟨e,g,d,n,f⟩:=first (λa w h=>t 0 a w (Nat.zero_le _) h) b (.inScope c::k) cs
 cases e with
 |normal=>exact⟨.normal,g,d,n,.head Zi<|Steps.trans f<|.one YB⟩
 |exit id=>exact⟨.exit id,g,d,n,λy v=>.head Zi<|f y<|by simp[exitTo,v]⟩
 |goto D=>obtain⟨rfl,x,u⟩:=n;obtain⟨q,r,s,o,i⟩:=A (N-1) 1 g d (by omega) u;exact⟨q,r,s,o,.of_steps (.head Zi<|f _ C) i⟩
 |ret=>exact⟨_,g,d,n,.of_steps (.one Zi) f⟩
 |panic B=>exact⟨_,g,d,n,.of_steps (.one Zi) f⟩
 |outgrown=>exact⟨_,g,d,n,.of_steps (.one Zi) f⟩
def Jh(D:Nat):Deferred:={target:=.collected D,args:=#[]}
def Marks(W:ο)(lo:Nat)(Ds:List Nat):Prop:=Ds.Nodup/\∀D∈Ds,lo<=D/\W.heap[D]?=U (.deferred<|U [])
def Marks.nil(W lo):Marks W lo []:=⟨ZR,λD h=>by cases h⟩
def Marks.of_block{W c lo b}(h:Marks W lo b)(d:∀D∈b,W.heap[D]?=U (.deferred<|U []) ->c.heap[D]?=W.heap[D]?):Marks c lo b:=⟨h.1,λD a=>⟨(h.2 D a).1,(d D a (h.2 D a).2).trans (h.2 D a).2⟩⟩
def Marks.lt{W lo a}(h:Marks W lo a){D}(b:D∈a):D<W:=(Ω.1 (h.2 D b).2).1
theorem oz{F:Fence}{n:Nat}{P:Program}{fn:Func}{b:Array υ}{a:Ending->ο->Prop}:∀(d:List Nat) (W:ο) (lo:Nat),Marks W lo d->
 (∀c,c.heap.size=W.heap.size->c.os=W.os->c.tape=W.tape->c.output=W.output->(∀k,k∉d->c.heap[k]?=W.heap[k]?) ->LeavesInM F n P fn b a [] .returning c) ->
 LeavesInM F n P fn b a (d.map Jh) .returning W
 |[],W,lo,hm,h=>h W rfl rfl rfl rfl λ_ _=>rfl
 |D::d,W,lo,hm,h=>by have m:=Zq.1 hm.1;refine⟨by simp,.inl ⟨D,_,rfl,run_takeDeferred<|(hm.2 D ι).2,?_⟩⟩;refine oz d _ lo ⟨m.2,λg f=>⟨(hm.2 g<|χ _ f).1,?_⟩⟩ λc l j h3 h4 h5=>?_;rw[ZS (by grind)];exact(hm.2 g<|χ _ f).2;refine h c (by rw[l];simp[World.putObj]) j h3 h4 λk i=>?_;rw[h5 k (λe=>i<|χ _ e),ZS<|by grind]
def OQ.Q7{w B B' s l}(h:OQ w B s l)(f:B'<=B):OQ w B' s l:=by obtain⟨a,m,rfl,d,h3,h4,h5⟩:=h;refine⟨a,m,rfl,d,h3,h4,λad e=>?_⟩;obtain⟨g,o,b,e2,c,r⟩:=h5 ad e;exact⟨g,o,b,e2,Nat.le_trans f c,r⟩
def hdI(l:List Int):Int:=l.headD 0
def isI(l:List Int):Bool:=!l.isEmpty
def Ow:hdI []=0:=rfl
def Ox:isI []=ξ:=rfl
def Ji(n l):hdI (n::l)=n:=rfl
def Jj(n l):isI (n::l)=ZB:=rfl
def BV(w B bq bm s l)(h:zS w B bq s l)(c:l.length<=1000000):
 Z9 prog 260 #[.pointer bq] w λe w'=>e=.returned (.tuple #[(hdI l),.bool<|isI l])/\∃s',zS w' B bq s' l.tail/\JY w w' bq bm s s':=by
 obtain _|⟨n,l⟩:=l
 exact(EY w B bq s h).mono λe w' ⟨b,a⟩=>⟨b,s,by rw[a];exact h,by rw[a];exact JY.bK<|Below.refl _ _⟩;exact EZ w B bq bm s n l h (by grind)
structure AO(w W:ο)(A:List Int)(Ds:List Nat):Prop where
 c3:W.heap[w.heap.size]?=U (Ψ #[Δ Θ (-1)] 3 (0,0))
 al:bk W (w.heap.size+1) A
 E5:Marks W (w.heap.size+2) Ds
 below:Below w w W
structure AQ(w W:ο)(q0:Nat)(A:List Int)(s:υ)(q met:List Int)(Ds:List Nat):Prop extends AO w W A Ds where
 lo:w.heap.size+1<q0
 qa:zS W q0 q0 s q
 mt:bk W (q0+1) met
 mc:W.heap[q0+1+1]?=U (Ψ #[.map (U (q0+1))] 205 (0,0))
 me:W.heap[q0+1+1+1]?=U (Ψ #[.func (.func 257) #[] #[.pointer (q0+1+1:Nat),.pointer w.heap.size,.pointer q0]] 256 (0,0))
section
variable{w W W':ο}{q0:Nat}{A A':List Int}{s s':υ}{q q' met met':List Int}{Ds:List Nat}
def AQ.keep(h:AQ w W q0 A s q met Ds)(f:JY W W' q0 (q0+1) s s'){k o}(b:W.heap[k]?=U o)(d:k≠q0)(c:k≠q0+1)(h3:q0<=k->∀a fr,o≠.cells a 3 fr):W'.heap[k]?=U o:=by
 refine(f.block k (Ω.1 b).1 d c λe=>?_).trans b;obtain⟨g,_,a,hc⟩:=h.qa.2.lt e
 grind
def AQ.to(h:AQ w W q0 A s q met Ds)(l:zS W' q0 q0 s' q')(k:bk W' (q0+1) met')(a:JY W W' q0 (q0+1) s s'):AQ w W' q0 A s' q' met' Ds:=by
 have g:=h.lo;refine⟨⟨h.keep a h.c3 (by omega) (by omega) λe=>by omega,?_,?_,?_⟩,g,l,k,h.keep a h.mc (by omega) (by omega) (λ_ b fr e=>by cases e),h.keep a h.me (by omega) (by omega) λ_ b fr e=>by cases e⟩;obtain⟨j,d,hb,r⟩:=h.al;exact⟨j,d,h.keep a hb (by omega) (by omega) λe=>by omega,r⟩;refine h.E5.of_block λD m hb=>?_;have i:D≠q0:=λe=>by subst e;rw[h.qa.1]at hb;cases hb
 have f:D≠q0+1:=λe=>by subst e;obtain⟨j,d,c,_⟩:=h.mt;rw[hb]at c;cases c
 rw[h.keep a hb i f (λ_ b fr e=>by cases e),hb];exact h.below.trans<|a.below (B:=w) (h.qa.2.Q7<|by omega) (by omega) (by omega) h.below.size
def AQ.low(h:AQ w W q0 A s q met Ds)(a:Below W W W'):AQ w W' q0 A s q met Ds:=h.to ⟨(a.block q0 (Ω.1 h.qa.1).1).trans h.qa.1,h.qa.2.below a⟩ (h.mt.below a) (JY.bK a)
def AQ.grown(h:AQ w W q0 A s q met Ds){row c}(x:q0+1+1+1<c)(v:∀D∈Ds,D<c)(i:W.grownBy W' row)(p:∀r,row=U r->c<=r/\∃o,W.heap[r]?=U o/\o.isCells=ξ):AQ w W' q0 A s q met Ds:=by
 have d:=h.lo;have b:∀k,k<c->k<W->W'.heap[k]?=W.heap[k]?:=λk y u=>i.block k u λe=>by grind
 have a:∀{k:Nat} {o:Obj},W.heap[k]?=U o->k<W:=λe=>(Ω.1 e).1;refine⟨⟨(b _ (by omega) (a h.c3)).trans h.c3,h.al.of_block (b _ (by omega) h.al.lt),h.E5.of_block λD m hb=>b D (v D m) (a hb),h.below.grown i h.below.size (λk e=>by have:=(p k e).1;omega)⟩,d,
  ⟨(b _ (by omega) (a h.qa.1)).trans h.qa.1,h.qa.2.of_block λg l=>?_⟩,h.mt.of_block (b _ (by omega) h.mt.lt),(b _ (by omega) (a h.mc)).trans h.mc,(b _ (by omega) (a h.me)).trans h.me⟩
 obtain⟨_,j,t,hc⟩:=h.qa.2.lt l;refine i.block g j λe=>?_;obtain⟨_,o,n,f⟩:=p g e.symm;rw[hc]at n;cases n
 cases f
def AQ.alive(h:AQ w W q0 A s q met Ds)(d:bk W' (w.heap.size+1) A')(l:W.grownBy W' (U<|w.heap.size+1)):AQ w W' q0 A' s q met Ds:=by
 have c:=h.lo;have b:∀k,k≠w.heap.size+1->k<W->W'.heap[k]?=W.heap[k]?:=λk n m=>l.block k m λe=>n<|η e;have a:∀{k:Nat} {o:Obj},W.heap[k]?=U o->k<W:=λe=>(Ω.1 e).1;refine⟨⟨(b _ (by omega) (a h.c3)).trans h.c3,d,h.E5.of_block λD j hb=>b D (by have:=(h.E5.2 D j).1;omega) (a hb),h.below.grown l h.below.size (λk e=>by have:=η e;omega)⟩,c,
  ⟨(b _ (by omega) (a h.qa.1)).trans h.qa.1,h.qa.2.of_block λg i=>?_⟩,h.mt.of_block (b _ (by omega) h.mt.lt),(b _ (by omega) (a h.mc)).trans h.mc,(b _ (by omega) (a h.me)).trans h.me⟩
 obtain⟨p,f,_⟩:=h.qa.2.lt i;exact b g (by omega) f
def AQ.mark(h:AQ w W q0 A s q met Ds){D}(e:W.heap[D]?=U (.deferred<|U []))(c:D∉Ds)(b:w.heap.size+2<=D):AQ w W q0 A s q met (D::Ds):=
 ⟨⟨h.c3,h.al,⟨Zq.2 ⟨c,h.E5.1⟩,λd a=>by
   obtain rfl|a:=ZI.1 a
   grind
   exact h.E5.2 d a⟩,h.below⟩,h.lo,h.qa,h.mt,h.mc,h.me⟩
def AQ.keeps(h:AQ w W q0 A s q met Ds)(a:JY W W' q0 (q0+1) s s'){B}(f:q0+1<B):KeepsFrom B W W':=⟨a.size,λk o d c hc=>h.keep a c (by omega) (by omega) (λ_ b fr e=>by subst e;cases hc)⟩
def AQ.kpb(h:AQ w W q0 A s q met Ds)(b:JY W W' q0 (q0+1) s s'){a cs t fr}(hb:W.heap[a]?=U (.cells cs t fr))(f:a≠q0)(d:a≠q0+1)(h3:t≠3):uY w a W W':=⟨b.below (h.qa.2.Q7 (by have:=h.lo;omega)) (by have:=h.lo;omega) (by have:=h.lo;omega) h.below.size,(h.keep b hb f d (λ_ c fr e=>by cases e;exact h3 rfl)).trans hb.symm⟩
def AO.low(h:AO w W A Ds)(a:Below W W W'):AO w W' A Ds:=⟨(a.block _ (Ω.1 h.c3).1).trans h.c3,h.al.below a,h.E5.of_block λD b hb=>a.block D (Ω.1 hb).1,h.below.trans<|a.mono h.below.size⟩
def AO.round(h:AO w W A Ds):AQ w ((((W.alloc<|Ψ #[()] 305).alloc<|.map #[] 0).alloc<|Ψ #[.map (U<|W.heap.size+1)] 205).alloc<|Ψ #[.func (.func 257) #[] #[.pointer (W.heap.size+1+1:Nat),.pointer w.heap.size,.pointer W.heap.size]] 256) W A () [] [] Ds:=by have a:=Γ (W.alloc<|Ψ #[()] 305)<|.map #[] 0;have h3:=Γ ((W.alloc<|Ψ #[()] 305).alloc<|.map #[] 0)<|Ψ #[.map (U<|W.heap.size+1)] 205;have h4:=Γ (((W.alloc<|Ψ #[()] 305).alloc<|.map #[] 0).alloc<|Ψ #[.map (U<|W.heap.size+1)] 205)<|Ψ #[.func (.func 257) #[] #[.pointer (W.heap.size+1+1:Nat),.pointer w.heap.size,.pointer W.heap.size]] 256;simp only[Zx]at a h3 h4;have push:∀(w:ο) (o:Obj) (k:Nat),k<w->(w.alloc o).heap[k]?=w.heap[k]?:=λw o k h=>Below.heap_alloc w o k h;refine⟨h.low<|(((af W _).alloc (by simp) _).alloc (by simp;omega) _).alloc (by simp;omega) _,h.al.lt,⟨?_,OQ.nil _ _⟩,⟨#[],0,?_,⟨rfl,ZR,λe b=>by simp at b⟩⟩,?_,h4⟩;rw[push _ _ _ (by simp;omega),push _ _ _ (by simp;omega),push _ _ _<|by simp];exact Γ W<|Ψ #[()] 305;rw[push _ _ _ (by simp),push _ _ _<|by simp];exact a;rw[push _ _ _ (by simp)];exact h3
def Jk(w):AO w ((w.alloc<|Ψ #[Δ Θ (-1)] 3).alloc<|.map #[] 0) [] []:=by have a:=Γ (w.alloc<|Ψ #[Δ Θ (-1)] 3)<|.map #[] 0;simp only[Zx]at a;exact⟨(Below.heap_alloc _ _ _<|by simp).trans<|Γ w _,⟨#[],0,a,⟨rfl,ZR,λe b=>by simp at b⟩⟩,Marks.nil _ _,(af w _).alloc (by simp) _⟩
end
structure Fit(h:PH):Prop where
 ok:∃N R,lZ h N R/\jE h N (R+1)=alive h
 nodup:(alive h).Nodup
 cells:h.cells.length<=1000
end
end Kn
namespace Kn
end Kn
namespace Kn
open Go Go.RowKit Go.Shelf Md
section
attribute [local go_sem] Oper.semAt_some
def BW(w b h N g)(hg:qw w b h)(ho:lZ h N g):
 Z9 prog 222 #[.pointer b,Δ Θ<|-1] w λe w'=>(∃m,e=.returned (.map<|U m)/\w.heap.size<=m/\bk w' m (jE h N<|g+1))/\Below w w w':=by
 have hmm:=@run_makeMap prog;have HG:=Y hg;have HO:=Y ho;clear hg ho;refine(ZQ (n:=9)).1 ?_;refine callsIn_of_wp_marks (fU func222 rfl) rfl trivial ?_ rfl;simp only[ntmps222,Zc,Zw,Zr,Nat.reduceAdd,Nat.reduceSub,Zm,Zl,Zb,Zf,Y5,Y8];refine wpIn_wide.2 ?_
 go_wp2_with fail
 refine qy 0 (λr a' W=>∃(Ds:List Nat) (u6 u7 u8 u9 u10 u11 u12 u13 u14 u15 u16 u17 u18 u19 u20 u21 u22 u23 u24 u25 u26 u27 u28 u29 u30 u31 u32 u33 u34 u35 u36 u37 u38 u39 u40 u41 u42 u43 u44 u45 u46 u47 u48 u49 u50 u51 u52 u53 u54 u55 u56 u57 u58 u59 u60 u61 u62 u63 u64 u65 u66 u67 u68:υ),a'={tmps:=#[.pointer b,Δ Θ<|-1,undef,.pointer w.heap.size,.map M,.map<|U<|w.heap.size+1,u6,u7,u8,u9,u10,u11,u12,u13,u14,u15,u16,u17,u18,u19,u20,u21,u22,u23,u24,u25,u26,u27,u28,u29,u30,u31,u32,u33,u34,u35,u36,u37,u38,u39,u40,u41,u42,u43,u44,u45,u46,u47,u48,u49,u50,u51,u52,u53,u54,u55,u56,u57,u58,u59,u60,u61,u62,u63,u64,u65,u66,u67,u68],defers:=Ds.map Jh}/\AO w W (jE h N r) Ds) g (by rfl) ?first ?pass
 case first=>
  intro hrest
  go_wp2_with fail
  go_step3
  rename_i hK;exact hK _ _<|hrest _ _ ⟨[],_,_,_,_,_,_,_,_,_,_,_,_,_,_,_,_,_,_,_,_,_,_,_,_,_,_,_,_,_,_,_,_,_,_,_,_,_,_,_,_,_,_,_,_,_,_,_,_,_,_,_,_,_,_,_,_,_,_,_,_,_,_,_,rfl,Jk w⟩
 case pass=>
  rintro r a' W hr ⟨Ds,u6,u7,u8,u9,u10,u11,u12,u13,u14,u15,u16,u17,u18,u19,u20,u21,u22,u23,u24,u25,u26,u27,u28,u29,u30,u31,u32,u33,u34,u35,u36,u37,u38,u39,u40,u41,u42,u43,u44,u45,u46,u47,u48,u49,u50,u51,u52,u53,u54,u55,u56,u57,u58,u59,u60,u61,u62,u63,u64,u65,u66,u67,u68,rfl,hA⟩;have HA:=Y hA;have hlen:=uV 3 hA.al;refine(wpIn_wide (n:=9)).1 ?_;have arK:=hA.below;clear hA
  gi_wp2_with (refine⟨trivial,?_⟩;gi_at_call 259;refine(ZQ.2<|Jg _ b).mono ?_;rintro e w' ⟨rfl,rfl⟩)
  clear hmm hlen;have hq0:=HA.out.round;have hD0:=λD (hD:D∈Ds)=>HA.out.E5.lt hD;have KU:(((((W.alloc<|Ψ #[Z8 M 0 0] 305).alloc<|Yx #[] 0).alloc<|Ψ #[YA (U<|W.heap.size+1)] 205).alloc<|Ψ #[.func (.func 257) #[] #[.pointer (W.heap.size+1+1:Nat),.pointer w.heap.size,.pointer W.heap.size]] 256).alloc<|Ψ #[ZJ (U {block:=b,off:=0})] 155).heap.size=W.heap.size+1+1+1+1+1:=by simp
  have hq5:=hq0.low<|af _<|Ψ #[ZJ (U {block:=b,off:=0})] 155;have hbh:(((((W.alloc<|Ψ #[Z8 M 0 0] 305).alloc<|Yx #[] 0).alloc<|Ψ #[YA (U<|W.heap.size+1)] 205).alloc<|Ψ #[.func (.func 257) #[] #[.pointer (W.heap.size+1+1:Nat),.pointer w.heap.size,.pointer W.heap.size]] 256).alloc<|Ψ #[ZJ (U {block:=b,off:=0})] 155).heap[W.heap.size+1+1+1+1]?=U (Ψ #[.pointer b] 155 (0,0)):=by have:=Γ ((((W.alloc<|Ψ #[Z8 M 0 0] 305).alloc<|Yx #[] 0).alloc<|Ψ #[YA (U<|W.heap.size+1)] 205).alloc<|Ψ #[.func (.func 257) #[] #[.pointer (W.heap.size+1+1:Nat),.pointer w.heap.size,.pointer W.heap.size]] 256)<|Ψ #[ZJ (U {block:=b,off:=0})] 155;simpa using this
  generalize ((((W.alloc _).alloc<|Yx #[] 0).alloc _).alloc _).alloc _=W5 at hbh KU hq5⊢;have hsA:=HA.out.al.lt;generalize ann:W.heap.size=u at KU hbh hq5 hD0 hsA⊢;have Z5:=Y KU;have HD0:=Y hD0;clear hq0 KU hD0 ann;have hW5:=hq5.below;have hb5:=hW5.size;have hq3:u+1+1+1<W5:=by rw[Z5.out];omega
  refine Yr rfl (by omega) (gf:=276) (lb:=#[.pointer (u+1+1+1+1:Nat)]) rfl trivial (enters_of (fU func276 rfl) (by kernel_rfl) rfl)
   (wH 8 (by omega) b (u+1+1+1+1) h w W5 hW5 hbh HG.out HO.out.pos HO.out.agd) uY.trans (uY.book hb5 (by rw[Z5.out];omega)) (Below.refl _ _) (λ_=>rfl)
   (λv W=>(∃s,AQ w W u (jE h N r) s (yw (v.map KT) ([],[])).1 (yw (v.map KT) ([],[])).2 Ds)/\W.heap[u+1+1+1+1]?=U (Ψ #[.pointer b] 155 (0,0))) (λ_ _ _=>False)
   (λs A C row hs' J hr=>by
     obtain⟨⟨P,h⟩,h2⟩:=hs';refine⟨⟨P,h.grown hq3 (λD hD=>by have:=HD0.out D hD;rw[Z5.out];omega) J hr⟩,(J.block _ (Ω.1 h2).1 λe=>?_).trans h2⟩;obtain⟨_,o,ho,hc'⟩:=hr _ e.symm;rw[h2]at ho;cases ho
     cases hc') (λ_ _ _ _ _ h _ _=>h) ⟨⟨_,hq5⟩,hbh⟩
   (λx a' W=>∃Bx,W.heap[Bx]?=U (Ψ #[Δ Θ (x.1:Int),.slice x.2 1 1] 310 (0,0))/\a'={tmps:=#[.pointer b,Δ Θ<|-1,undef,.pointer w.heap.size,.map M,.map<|U<|w.heap.size+1,Δ Θ ((jE h N r).length:Int),.pointer u,.pointer (u+1+1:Nat),.pointer (u+1+1+1:Nat),.pointer (Bx:Nat),u11,u12,u13,u14,u15,u16,.map<|U<|w.heap.size+1,Δ Θ ((jE h N r).length:Int),.map<|U<|u+1,.func (.func 257) #[] #[.pointer (u+1+1:Nat),.pointer w.heap.size,.pointer u],.pointer b,.func (.func 276) #[] #[.pointer (u+1+1+1+1:Nat)],stV x,u24,u25,u26,u27,u28,u29,u30,u31,u32,u33,u34,u35,u36,u37,u38,u39,u40,u41,u42,u43,u44,u45,u46,u47,u48,u49,u50,u51,u52,u53,u54,u55,u56,u57,u58,u59,u60,u61,u62,u63,u64,u65,u66,u67,u68],defers:=[]})
   (λx a' s A C row hs' J hr=>by
     obtain⟨Bx,h1,h2⟩:=hs';refine⟨Bx,(J.block Bx (Ω.1 h1).1 λe=>?_).trans h1,h2⟩;obtain⟨_,o,ho,hc'⟩:=hr Bx e.symm;rw[h1]at ho;cases ho
     cases hc') ?assign ?body ?done ?stop
  case assign=>
   rintro l v ⟨p,q⟩ L K ⟨⟨P,G⟩,y⟩ hK;unfold stV
   gi_wp2
   have hbb:=af L<|Ψ #[Δ IntKind.i64 (p:Int),Z8 (U {block:=q,off:=0}) 1 1] 310;exact hK _ _ ((KeepsOthers.alloc _ _).from _) (uY.alloc (uY.refl _ _ _) G.below.size (Ω.1 y).1 _) ⟨⟨P,G.low hbb⟩,(hbb.block _ (Ω.1 y).1).trans y⟩ ⟨L.heap.size,Γ L _,rfl⟩
  case body=>
   rintro l v ⟨p,q⟩ a' L hl ⟨rr,hrr⟩ ⟨⟨P,G⟩,y⟩ ⟨Bx,hx,rfl⟩ hlt;have cf:L (u+1+1+1:Nat)=U (.func (.func 257) #[] #[.pointer (u+1+1:Nat),.pointer w.heap.size,.pointer u]):=by simp[Z,G.me]
   have x0:L (Bx:Nat)=U (Δ Θ (p:Int)):=by simp[Z,hx]
   have B:=Y G;have HI2:=Y y;have hbl:=HO.out.sM;have hvl:=pt (v.map KT) ([],[]);simp only[Zr,Nat.zero_add,μ]at hvl;clear hrr hx G y;unfold stV
   gi_wp2_with fail
   refine⟨trivial,?_⟩;refine(Y' l<|ZQ.2<|DC L u w u (u+1) (u+1+1) P _ _ (p:Int) B.out.qa B.out.mt (by simp[Z,B.out.mc]) (by simp[Z,B.out.c3]) (by omega) (by have:=(Ω.1 B.out.qa.1).1;omega)<|by omega).mono ?_;rintro e W3 ⟨rfl,so3,O,Fw,ht3⟩
   gi_wp2_with fail
   have hmx:iG ((yw (v.map KT) ([],[])).1,(yw (v.map KT) ([],[])).2) (p:Int)=yw ((v++[(p,q)]).map KT) ([],[]):=by rw[ZY];exact(sN _ _ _).symm
   rw[hmx]at O Fw;exact⟨B.out.keeps ht3<|by omega,B.out.kpb ht3 HI2.out (by omega) (by omega)<|by decide,⟨so3,B.out.to O Fw ht3⟩,(B.out.keep ht3 HI2.out (by omega) (by omega) λ_ cur fr e=>by cases e)⟩
  case done=>
   rintro D xs L hD hxs ⟨⟨P,G⟩,_⟩ hK;rw[hxs]at G;clear hxs;have hDn:D∉Ds:=λe=>by have:=HD0.out D e;have:=Z5.out;omega
   have z:=Y<|G.mark hK hDn (by have:=G.lo;omega);have hsh:(yw (qD h) ([],[])).1.length<=1000:=HO.out.short r hr 0<|Nat.zero_le _;clear G hK
   gi_wp2_with (refine⟨trivial,?_⟩;gi_at_call 260;refine(ZQ.2<|BV L u u u P _ z.out.qa<|by omega).mono ?_;rintro e W1 ⟨rfl,so1,hq1,ht1⟩)
   have hI1:=Y (z.out.to hq1 (z.out.mt.of_block (ht1.block _ z.out.mt.lt (by omega) (by omega) (λe=>by obtain⟨_,_,cur,hc⟩:=z.out.qa.2.lt e;obtain⟨es,clk,hb,_⟩:=z.out.mt;rw[hc]at hb;cases hb))) ht1.ye)
   clear z hq1 ht1;refine BU (λk a W=>∃(S:List Nat) (s:υ) (u10 u13 u14 u15 u16 u23 u24 u25 u26 u27 u28 u29 u30 u31 u32 u33 u34 u35 u36 u37 u38 u39 u40 u41 u42 u43 u44 u45 u46 u47 u48 u49 u50 u51 u52 u53 u54 u55 u56 u57 u58 u59 u60 u61 u62 u63 u64 u65 u66 u67 u68:υ),a={tmps:=#[.pointer b,Δ Θ<|-1,undef,.pointer w.heap.size,.map M,.map<|U<|w.heap.size+1,Δ Θ ((jE h N r).length:Int),.pointer u,.pointer (u+1+1:Nat),.pointer (u+1+1+1:Nat),u10,Δ Θ<|hdI (dP h k<|gD h<|jE h N r).q,.bool<|isI (dP h k<|gD h<|jE h N r).q,u13,u14,u15,u16,.map<|U<|w.heap.size+1,Δ Θ ((jE h N r).length:Int),.map<|U<|u+1,.func (.func 257) #[] #[.pointer (u+1+1:Nat),.pointer w.heap.size,.pointer u],.pointer b,.func (.func 276) #[] #[.pointer (u+1+1+1+1:Nat)],u23,u24,u25,u26,u27,u28,u29,u30,u31,u32,u33,u34,u35,u36,u37,u38,u39,u40,u41,u42,u43,u44,u45,u46,u47,u48,u49,u50,u51,u52,u53,u54,u55,u56,u57,u58,u59,u60,u61,u62,u63,u64,u65,u66,u67,u68],defers:=S.map Jh}/\AQ w W u (dP h k<|gD h<|jE h N r).al s (dP h k<|gD h<|jE h N r).q.tail (dP h k<|gD h<|jE h N r).met S) N ?atStart ?loop
   case atStart=>exact⟨D::Ds,so1,_,_,_,_,_,_,_,_,_,_,_,_,_,_,_,_,_,_,_,_,_,_,_,_,_,_,_,_,_,_,_,_,_,_,_,_,_,_,_,_,_,_,_,_,_,_,_,_,_,_,_,rfl,hI1.out⟩
   case loop=>
    rintro k a1 W2 hkN ⟨S,s2,u10,u13,u14,u15,u16,u23,u24,u25,u26,u27,u28,u29,u30,u31,u32,u33,u34,u35,u36,u37,u38,u39,u40,u41,u42,u43,u44,u45,u46,u47,u48,u49,u50,u51,u52,u53,u54,u55,u56,u57,u58,u59,u60,u61,u62,u63,u64,u65,u66,u67,u68,rfl,y⟩;have B:=Y y;clear hI1 y;rcases hqk:(dP h k<|gD h<|jE h N r).q with _|⟨n,q⟩
    ·have hfin:=sO hqk N hkN;have Wv:jE h N (r+1)=(dP h k<|gD h<|jE h N r).al:=by show(dP h N<|gD h<|jE h N r).al=_;rw[hfin]
     have hln:=uV 3 B.out.al;rw[<-Wv]at hln;have HH:=Y Wv;clear hfin Wv;rw[Ow,Ox];by_cases hgr:(jE h N r).length<(jE h N<|r+1).length
     ·have hrR:r<g:=by
       obtain h1|h1:=Nat.lt_or_ge r g
       exact h1
       ·have:r=g:=by omega
        subst this;exact absurd hgr HO.out.stop
      have hgi:decide (((jE h N r).length:Int)<((jE h N<|r+1).length:Int))=ZB:=by simpa using hgr
      have hao:=B.out.toAO;rw[<-HH.out]at hao;have HAO:=Y hao;clear hao
      gi_wp2_with fail
      refine wpIn_goto ?_;exact⟨rfl,hrR,S,_,_,_,_,_,_,_,_,_,_,_,_,_,_,_,_,_,_,_,_,_,_,_,_,_,_,_,_,_,_,_,_,_,_,_,_,_,_,_,_,_,_,_,_,_,_,_,_,_,_,_,_,_,_,_,_,_,_,_,_,_,_,_,rfl,HAO.out⟩
     ·have hrR:r=g:=by
       obtain h1|h1:=Nat.lt_or_ge r g
       exact absurd (HO.out.grow r h1) hgr;omega
      subst hrR;have hgi:decide (((jE h N r).length:Int)<((jE h N<|r+1).length:Int))=ξ:=by simpa using hgr
      gi_wp2_with fail
      refine oz S W2 (w.heap.size+2) B.out.E5 λW9 e1 e2 e3 e4 e5=>?_;have hkeys:=B.out.al.of_block (w':=W9) (e5 _ λe=>by have:=(B.out.E5.2 _ e).1;omega);rw[<-HH.out]at hkeys;exact⟨_,results_tmp rfl _ _ _,⟨w.heap.size+1,rfl,by omega,hkeys⟩,B.out.below.trans ⟨e2,e3,e4,by omega,λk hk=>e5 k λe=>by have:=(B.out.E5.2 _ e).1;omega⟩⟩
    ·obtain⟨hn0,hn1⟩:=HO.out.refs r hr k hkN n (by rw[hqk];exact ι);obtain⟨i,rfl⟩:=ζ hn0;have hi:i<h.cells.length:=by omega
     obtain⟨kd,vs,ec⟩:=cQ hi;have hmem:=ω ec;have hkind:=HO.out.kinds _ hmem;have hcp:=Y<|HO.out.Wu _ hmem;have hfew:=HO.out.wW _ hmem;have afk:=HO.out.short r hr k hkN;rw[hqk]at afk;simp only[Zw]at afk;dsimp only at hkind hfew;have hkl:k<N:=by
      obtain h1|h1:=Nat.lt_or_ge k N
      exact h1;have:k=N:=by omega
      subst this;have:=HO.out.fin r hr;rw[hqk]at this;cases this
     have hst:=BS hqk;have hgd:cellP h (i:Int)=(kd,vs):=by simp[cellP,Zv,ec]
     rw[hgd]at hst;have y:=B.out;rw[hqk]at y;generalize hx0:dP h k (gD h<|jE h N r)=X at hst y;clear hx0 hqk hgd hmem;simp only[List.tail_cons]at y;obtain⟨W3,hup,hal3,hg3,hs3⟩:=ki (i:Int) y.al;have hI3:=y.alive hal3 hg3;obtain⟨c,r0,wi,d,c0,_,_,_,hcs,_⟩:=HG.out;obtain⟨ac,mc,rfl,_,_,hac⟩:=hcs;have hb:=az c0;obtain⟨bc0,oc,e,afl,hat⟩:=hac (by omega);subst e;have hbw3:=hI3.below;have e0:=cG hbw3 c0 hb;obtain⟨f1,xv,f2,hxv⟩:=(hat.below hbw3 afl) i kd vs ec;have hxw:eI w xv vs:=by
      obtain⟨_,xv',f2',anp⟩:=hat i kd vs ec;have:=(hbw3.cell (p:=⟨bc0,oc+i*2+1,M⟩) afl).symm.trans f2;rw[show(Z w (bc0,oc+i*2+1))=U xv' from f2']at this;cases this
      exact anp
     obtain⟨ax,mx,rfl,_,_,_⟩:=id hxv;have HXW:=Y hxw;have HI3:=Y hI3;have hi0:(0:Int)<=(i:Int):=by omega
     have hi1:(i:Int)<(h.cells.length:Int):=by omega
     rw[Ji,Jj];clear B y hal3 hg3 hI3 hac hat hxv hxw hn0 hn1 c0 ec;obtain⟨f,T,F,Q⟩:=agb vs (nb X.al (i:Int)) hkind;obtain⟨us,hus⟩:∃x,x=keeps (kd,vs) (nb X.al (i:Int)):=⟨_,rfl⟩;have hle:=Q.le;have hlow:=Q.low;have VQ:=Y Q.eT;rw[<-hus]at hst hle VQ;have hmt:=λw=>Q.mt w<|.slice ax vs.length mx;have hent:=Q.ent
     gi_wp2_with fail
     clear hup;refine⟨trivial,?_⟩;refine(ZQ.2<|Q.cellOf _ _ _ _).mono ?_;rintro e W4 ⟨rfl,hb4⟩
     gi_wp2_with fail
     refine⟨trivial,?_⟩;refine(ZQ.2<|Q.keeps _ _ _ _ (HI3.out.al.below<|hb4.trans<|(af W4 _).mono hb4.size)<|(HXW.out.below HI3.out.below).below<|hb4.trans<|(af W4 _).mono hb4.size).mono ?_;rintro e W6 ⟨bt,bf,rfl,hbt,hbf,lbt,lbf,hb6⟩;rw[<-hus]at hbt;replace hus:=Y hus
     gi_wp2_with fail
     have hz4:=hb4.size;have age:Below W3.heap.size W3 W6:=hb4.trans<|((af W4 _).trans<|hb6.mono<|by simp).mono hz4;have hcI:W6.heap[W4.heap.size]?=U (Ψ #[.iface T (.agg #[Δ Θ kd,.slice ax vs.length mx])] 208 (0,0)):=(hb6.block _<|by simp).trans<|Γ W4 _;obtain⟨bc,hbc⟩:∃bc,bc=W4.heap.size:=⟨_,rfl⟩;have hI6:=HI3.out.low age;have hz6:=age.size;simp only[Zx]at lbt lbf;have hq0:=(Ω.1 HI3.out.me).1;have Ww:=(Ω.1 hbt).1;have Wx:=(Ω.1 hbf).1;have Wy:=(Ω.1 hcI).1;have hn1:d6 s2≠U bt:=λe=>by have:=(HI3.out.qa.2.lt e).2.1;omega
     have hn2:d6 s2≠U bf:=λe=>by have:=(HI3.out.qa.2.lt e).2.1;omega
     have hDl:=Y λD hD=>hI6.E5.lt (D:=D) hD;rw[<-hbc]at hcI Wy⊢;have anq:W3.heap.size<=bc:=by omega
     have anr:W3.heap.size<=bt:=by omega
     have ant:W3.heap.size<=bf:=by omega
     clear hbc age hb4 hb6 lbt lbf hz4;refine Yr rfl (by omega) (gf:=321) (lb:=#[ZJ (U ⟨bt,0,M⟩),ZJ<|U ⟨bf,0,M⟩]) rfl trivial (enters_of (fU func321 rfl) (by kernel_rfl) rfl)
      (oy 8 (by omega) bt bf us.length f W6 hbt hbf (by omega)<|by omega) tR.trans (tR.book Ww Wx) (Below.refl _ _) (λ_=>rfl)
      (λv W=>(∃s,AQ w W u (nb X.al (i:Int)) s (dJ (v.map λx=>us.getD x.val (0,0)) (q,X.met)).1 (dJ (v.map λx=>us.getD x.val (0,0)) (q,X.met)).2 S/\d6 s≠U bt/\d6 s≠U bf)/\
        W.heap[bc]?=U (Ψ #[.iface T (.agg #[Δ Θ kd,.slice ax vs.length mx])] 208 (0,0))/\(∃x,W.heap[bt]?=U (.cells x 3 (0,0)))/\(∃x,W.heap[bf]?=U (.cells x 3 (0,0)))) (λ_ _ _=>False)
      (λs A C row hs' J hr=>by
        obtain⟨⟨P,h,h1,h2⟩,h3,⟨x4,h4⟩,⟨x5,h5⟩⟩:=hs';have key:∀{k:Nat} {x:Array υ} {t:ZO} {fr:Nat×Nat},A.heap[k]?=U (.cells x t fr) ->C.heap[k]?=U (.cells x t fr):=λ{k x t fr} hk=>(J.block k (Ω.1 hk).1 λe=>by
         obtain⟨_,o,ho,hc'⟩:=hr _ e.symm;rw[hk]at ho;cases ho
         cases hc').trans hk
        exact⟨⟨P,h.grown (by omega) hDl.out J hr,h1,h2⟩,key h3,⟨x4,key h4⟩,⟨x5,key h5⟩⟩) (λ_ _ _ _ _ h _ _=>h) ⟨⟨s2,hI6,hn1,hn2⟩,hcI,⟨_,hbt⟩,⟨_,hbf⟩⟩
      (λx a' W=>∃(u10 u15 u16 u23 u24 u25 u26 u27 u28 u29 u30 u31 u32 u33 u34 u35 u36 u37 u38 u39 u40 u41 u42 u43 u44 u45 u46 u47 u48 u49 u50 u51 u52 u53 u54 u55 u56 u57 u58 u59 u60 u61 u62 u63 u64 u65 u66 u67 u68:υ),a'={tmps:=#[ZJ (U ⟨b,0,M⟩),Δ Θ<|-1,undef,ZJ<|U ⟨w.heap.size,0,M⟩,.map M,.map<|U<|w.heap.size+1,Δ Θ ((jE h N r).length:Int),.pointer u,.pointer (u+1+1:Nat),.pointer (u+1+1+1:Nat),u10,Δ Θ (i:Int),.bool ZB,.pointer (bc:Nat),inV f x,u15,u16,.map<|U<|w.heap.size+1,Δ Θ ((jE h N r).length:Int),.map<|U<|u+1,.func (.func 257) #[] #[.pointer (u+1+1:Nat),.pointer w.heap.size,.pointer u],.pointer b,.func (.func 276) #[] #[.pointer (u+1+1+1+1:Nat)],u23,u24,u25,u26,u27,u28,u29,u30,u31,u32,u33,u34,u35,u36,u37,u38,u39,u40,u41,u42,u43,u44,u45,u46,u47,u48,u49,u50,u51,u52,u53,u54,u55,u56,u57,u58,u59,u60,u61,u62,u63,u64,u65,u66,u67,u68],defers:=[]})
      (λx a' s A C row hs' J hr=>hs') ?assign2 ?body2 ?done2 ?stop2
     case assign2=>
      rintro l v x L K G hK
      gi_wp2
      exact hK _ _ ((KeepsOthers.refl _).from _) (tR.refl _ _ _) G ⟨_,_,_,_,_,_,_,_,_,_,_,_,_,_,_,_,_,_,_,_,_,_,_,_,_,_,_,_,_,_,_,_,_,_,_,_,_,_,_,_,_,_,_,_,_,_,_,_,_,rfl⟩
     case body2=>
      rintro l v x a' L hl ⟨rr,hrr⟩ ⟨⟨P,G,hs1,hs2⟩,hcW,⟨x4,h4⟩,⟨x5,h5⟩⟩ ⟨u10,u15,u16,u23,u24,u25,u26,u27,u28,u29,u30,u31,u32,u33,u34,u35,u36,u37,u38,u39,u40,u41,u42,u43,u44,u45,u46,u47,u48,u49,u50,u51,u52,u53,u54,u55,u56,u57,u58,u59,u60,u61,u62,u63,u64,u65,u66,u67,u68,rfl⟩ hlt;have cI:L.cell? ⟨bc,0,M⟩=U (.iface T<|.agg #[Δ Θ kd,.slice ax vs.length mx]):=by simp[Z,hcW]
      have B:=Y G;have HC:=Y<|Ξ hcW<|Ξ h4 h5;have HS:=Y<|Ξ hs1 hs2;obtain⟨xv,Wz⟩:=x;obtain⟨hv1,hval⟩:=VQ.out (by omega);obtain⟨hv2,hv3⟩:=hv1 xv Wz;clear hrr G hcW h4 h5 hs1 hs2 hv1;unfold inV;dsimp only;obtain⟨j,hj⟩:∃j:Nat,j=f+xv:=⟨_,rfl⟩;rw[show((f:Int)+(xv:Int))=(j:Int) by omega];rw[<-hj]at hv2 hv3;have HJ:=Y hv3;clear hv3 hj
      gi_wp2_with fail
      refine⟨trivial,?_⟩;refine(Y' l<|ZQ.2<|hval L ax vs.length mx).mono ?_;rintro e W7 ⟨rfl,hb7⟩;have hI7:=B.out.low hb7;obtain⟨a9,m9,e9,_,_,hh9⟩:=HXW.out.below hI7.below;cases e9
      obtain⟨ba2,oa2,e,afb,afq⟩:=hh9 (by omega);cases e
      obtain⟨p,nn,e1⟩:=ep hv2;obtain⟨g1,g2⟩:=afq j p nn e1;have hx0:(0:Int)<=(j:Int):=by omega
      have hx1:(j:Int)<(vs.length:Int):=by omega
      have hgd:us.getD xv (0,0)=(p,nn):=by rw[Zv,HJ.out,e1];rfl
      have hmv:=zX (v.map λx:Fin us.length=>us.getD x.val (0,0)) (p,nn) (q,X.met);have hpm:((v++[(⟨xv,Wz⟩:Fin us.length)]).map λx:Fin us.length=>us.getD x.val (0,0))=(v.map λx:Fin us.length=>us.getD x.val (0,0))++[(p,nn)]:=by
       rw[ZY]
       congr 1
       simp only[Ze,Yo];rw[hgd]
      have hml:=pt (refsOf (v.map λx:Fin us.length=>us.getD x.val (0,0))) (q,X.met);have hrl:=BT (v.map λx:Fin us.length=>us.getD x.val (0,0));rw[μ]at hrl;dsimp only at hml;have afr:(dJ (v.map λx:Fin us.length=>us.getD x.val (0,0)) (q,X.met)).1.length<=1000000:=by show(yw _ _).1.length<=_;omega
      have KV:=Y hI7;have HML:=Y afr;have HPM:=Y hpm;have HE:=Y e1;clear hI7 hh9 afq hgd hml hrl afr hpm e1;have cf:W7 (u+1+1+1:Nat)=U (.func (.func 257) #[] #[.pointer (u+1+1:Nat),.pointer w.heap.size,.pointer u]):=by simp[Z,KV.out.me]
      have Dv:=af W7<|Ψ #[Δ Θ p,Δ Θ nn] 50;have E:=hb7.trans<|Dv.mono hb7.size;have cf9:=cG Dv cf<|az cf;obtain⟨k3,k4,k5⟩:=HC.out;have l3:=(Ω.1 k3).1;have l4:=(Ω.1 k4).1;have l5:=(Ω.1 k5).1;by_cases hp1:p=1
      ·subst hp1;obtain⟨nm,rfl⟩:=ζ<|hcp.out _ (ω HE.out) rfl;rw[if_pos rfl]at hmv;have HMV:=Y hmv;clear hmv
       gi_wp2_with fail
       refine⟨trivial,?_⟩;have H:=KV.out.low Dv;refine(Y' l<|ZQ.2<|DC _ u w u (u+1) (u+1+1) P _ _ (nm:Int) H.qa H.mt (by simp[Z,H.mc]) (by simp[Z,H.c3]) (by omega) (by have:=(Ω.1 H.qa.1).1;omega) HML.out).mono ?_;rintro e W10 ⟨rfl,so3,O,Fw,ht3⟩
       gi_wp2_with fail
       have hmx:iG ((dJ (v.map λx:Fin us.length=>us.getD x.val (0,0)) (q,X.met)).1,(dJ (v.map λx:Fin us.length=>us.getD x.val (0,0)) (q,X.met)).2) (nm:Int)=dJ ((v++[(⟨xv,Wz⟩:Fin us.length)]).map λx:Fin us.length=>us.getD x.val (0,0)) (q,X.met):=by rw[HPM.out,HMV.out]
       rw[hmx]at O Fw;obtain⟨s1,s2'⟩:=HS.out;have sz9:=E.size;have htt:=(JY.bK (bq:=u) (bm:=u+1) (s:=P) E).trans ht3;have kp4:=htt.block bt l4 (by omega) (by omega) s1;have kp5:=htt.block bf l5 (by omega) (by omega) s2';refine⟨B.out.keeps htt<|by omega,⟨kp4,kp5⟩,⟨so3,H.to O Fw ht3,λe=>?_,λe=>?_⟩,B.out.keep htt k3 (by omega) (by omega) (λ_ cur fr e=>by cases e),⟨_,kp4.trans k4⟩,⟨_,kp5.trans k5⟩⟩;obtain e|e:=htt.own _ e
       ·exact s1 e
       omega;obtain e|e:=htt.own _ e
       ·exact s2' e
       omega
      ·have hp1':(p==1)=ξ:=by simp[hp1]
       rw[if_neg hp1,<-HPM.out]at hmv;have HMV:=Y hmv;clear hmv
       gi_wp2_with fail
       have H:=KV.out.low Dv;rw[<-HMV.out]at H;refine⟨B.out.keeps (JY.bK (bq:=u) (bm:=u+1) (s:=P) E)<|by omega,tR.bK E l4 l5,⟨P,H,HS.out.1,HS.out.2⟩,(E.block _ l3).trans k3,⟨_,(E.block _ l4).trans k4⟩,⟨_,(E.block _ l5).trans k5⟩⟩
     case done2=>
      rintro D2 xs L hD2 hxs ⟨⟨P,G,_,_⟩,_,_,_⟩ hK;have hvs:(xs.map λx=>us.getD x.val (0,0))=us:=by
       have:=congrArg (List.map λj=>us.getD j (0,0)) hxs;rw[Zs]at this;refine Eq.trans this ?_;refine ZV λj=>?_;by_cases hj:j<us.length
       rw[Zz,List.getElem?_range hj];simp[Zv,Z2 hj];rw[Zn (by simp;omega),Zn<|by omega]
      rw[hvs]at G;have z:=Y<|G.mark hK (λe=>by have:=hDl.out D2 e;omega) (by have:=G.lo;omega);have afO:=HO.out.short r hr (k+1) hkl;rw[hst]at afO;dsimp only at afO;clear G hK hvs hxs
      gi_wp2_with (refine⟨trivial,?_⟩;gi_at_call 260;refine(ZQ.2<|BV L u u u P _ z.out.qa<|by omega).mono ?_;rintro e W8 ⟨rfl,so8,hq8,V9⟩)
      have hI8:=z.out.to hq8 (z.out.mt.of_block (V9.block _ z.out.mt.lt (by omega) (by omega) (λe=>by obtain⟨_,_,cur,hc⟩:=z.out.qa.2.lt e;obtain⟨es,clk,hb,_⟩:=z.out.mt;rw[hc]at hb;cases hb))) V9.ye
      refine⟨hkl,?_⟩;rw[hst];exact⟨D2::S,so8,_,_,_,_,_,_,_,_,_,_,_,_,_,_,_,_,_,_,_,_,_,_,_,_,_,_,_,_,_,_,_,_,_,_,_,_,_,_,_,_,_,_,_,_,_,_,_,_,_,_,_,rfl,hI8⟩
     case stop2=>rintro D2 c2 v L _ _ hx _;exact hx.elim
  case stop=>rintro D c v L _ _ hx _;exact hx.elim
end
end Kn
namespace Kn
open Go Go.RowKit Md
section
def DD(w b h)(j:qw w b h)(c:Fit h):
 Z9 prog 179 #[.pointer b] w λe w'=>(∃m,e=.returned (.map<|U m)/\w.heap.size<=m/\bk w' m (alive h))/\Below w w w':=by
 obtain⟨N,a,d,f⟩:=c.ok;rw[<-f]
 go_enter (fU func179 rfl),ntmps179
 go_wp2
 refine(BW _ b h _ a (Y j).out d).mono ?_;rintro e w' ⟨⟨m,rfl,i,g⟩,h3⟩
 go_wp2
 go_ret;exact⟨⟨m,rfl,i,g⟩,h3⟩
def gN(t:ZO)(w:ο)(B b:Nat)(c vw vd:υ)(cs:List HC)(roots:List HV)(wi d:List Int):Prop:=∃r l,B<=b/\w.heap[b]?=U (Ψ #[c,r,vw,vd] t (0,0))/\OI w B vw wi/\OI w B vd d/\
 OC w B c l/\df w B l cs/\OV w B r roots/\(∀(i:Nat) p,l[i]?=U p->∀g,p.2.ownBlock=U g->r.ownBlock≠U g)/\t≠3/\t≠50/\t≠76
abbrev dQ:=gN 159
section
variable{t:ZO}{w w':ο}{B b:Nat}{c vw vd:υ}{cs:List HC}{roots:List HV}{wi d:List Int}
def J0.named(h:J0 w B b cs roots wi d):∃c a e,dQ w B b c a e cs roots wi d/\∀g,e.ownBlock=U g->a.ownBlock≠U g:=by have⟨c,r,a,e,l,m,hb,j,i,h3,h4,h5,f,k⟩:=h;exact⟨c,a,e,⟨r,l,m,hb,j,i,h3,h4,h5,f,by decide⟩,k⟩
def gN.reads(h:gN t w B b c vw vd cs roots wi d):qw w b ⟨cs,roots,wi,d⟩:=by have⟨r,l,f,hb,a,e,h3,h4,h5,_⟩:=h;exact⟨c,r,vw,vd,by simp[Z,hb],by simp[Z,hb],by simp[Z,hb],by simp[Z,hb],h3.reads h4.hold,h5.reads,a.reads,e.reads⟩
def gN.below(h:gN t w B b c vw vd cs roots wi d)(a:Below w w w'):gN t w' B b c vw vd cs roots wi d:=by have⟨r,l,i,hb,g,f,h3,h4,h5,e⟩:=h;exact⟨r,l,i,(a.block b (Ω.1 hb).1).trans hb,g.below a,f.below a,h3.below a,h4.below a,h5.below a,e⟩
def PY{s a}(h:OI w B s a)(b:∀g,s.ownBlock=U g->w'.heap[g]?=w.heap[g]?):OI w' B s a:=aS h b
def OI.G'{s f}(h:OI w B s f){g}(b:s.ownBlock=U g):B<=g/\g<w/\∃a,w.heap[g]?=U (.cells a 3 (0,0)):=by
 refine⟨(h.lt g b).1,(h.lt g b).2,?_⟩;obtain⟨c,_⟩|⟨i,e,a,c,_,d,_⟩:=h.2
 rw[c]at b;cases b;rw[c]at b;cases b;exact⟨a,d⟩
def gN.aex(h:gN t w B b c vw vd cs roots wi d){o J}(a:w.grownBy w' vd.ownBlock)(Q:∀g,vd.ownBlock=U g->vw.ownBlock≠U g)(O:OI w' B o J):gN t (w'.setCell (b,3) o) B b c vw o cs roots wi J:=by
 have⟨r,l,S,hb,F,K,h3,h4,h5,m⟩:=h;have u:∀(k:Nat) (x:Array υ) (t:ZO) (fr:Nat×Nat),w.heap[k]?=U (.cells x t fr) ->t≠3->w'.heap[k]?=w.heap[k]?:=λk x t fr D L=>a.block k (Ω.1 D).1 λe=>by
  have⟨_,_,q,hc⟩:=K.G' e.symm;rw[D]at hc;cases hc
  exact L rfl
 have v:=(u b _ _ _ hb m.2.1).trans hb;have f:∀{e:ZO} {z n:Nat} {y:υ} {xs:List υ},e≠3->e≠t->w.ownsRow B e z y n xs->(w'.setCell (b,3) o).ownsRow B e z y n xs:=λP C H=>aS H λg a=>by
  obtain⟨A,_⟩|⟨T,N,q,A,_,j,_⟩:=H.2
  rw[A]at a;cases a;rw[A]at a;cases a;rw[aq λe=>by subst e;rw[hb]at j;cases j;exact C rfl];exact u _ _ _ _ j P
 have zQ:∀{s:υ} {ls:List Int},OI w' B s ls->OI (w'.setCell (b,3) o) B s ls:=λhs=>PY hs λg a=>aq λe=>by have⟨_,_,q,hc⟩:=hs.G' a;subst e;rw[v]at hc;cases hc;exact m.2.1 rfl
 refine⟨r,l,S,?_,zQ<|PY F λg p=>a.block g (F.lt g p).2 λe=>Q g e.symm p,zQ O,f nofun m.2.2.2.symm h3,⟨h4.1,λi k x G E e1 e2=>⟨(h4.2.1 i k x G E e1 e2).1,f nofun m.2.2.1.symm (h4.2.1 i k x G E e1 e2).2⟩,h4.2.2⟩,f nofun m.2.2.1.symm h5,m⟩;rw[aB v];rfl
def gN.Jl(h:gN t w B b c vw vd cs roots wi d){j m}(G:OI w B j m):gN t (w.setCell (b,2) j) B b c j vd cs roots m d/\Below B w (w.setCell (b,2) j):=by
 have⟨r,l,C,hb,H,D,h3,h4,h5,f⟩:=h;have a:∀{e:ZO} {z n:Nat} {y:υ} {xs:List υ},e≠t->w.ownsRow B e z y n xs->(w.setCell (b,2) j).ownsRow B e z y n xs:=λs A=>aS A λg p=>aq λe=>by
  obtain⟨q,_⟩|⟨J,E,F,q,_,o,_⟩:=A.2
  rw[q]at p;cases p;rw[q]at p;cases p;subst e;rw[hb]at o;cases o;exact s rfl
 refine⟨⟨r,l,C,?_,a f.2.1.symm G,a f.2.1.symm D,a f.2.2.2.symm h3,⟨h4.1,λi k x v u e1 e2=>⟨(h4.2.1 i k x v u e1 e2).1,a f.2.2.1.symm (h4.2.1 i k x v u e1 e2).2⟩,h4.2.2⟩,a f.2.2.1.symm h5,f⟩,(Below.refl B w).setCell C _⟩;rw[aB hb];rfl
def gN.cells(h:gN t w B b c vw vd cs roots wi d):B<=b/\b<w/\w b=U c/\(w (b,2)=U vw/\w (b,3)=U vd)/\(∀i,w.frozen? ⟨b,i,M⟩=ξ)/\∃a m,c=.slice a cs.length m/\cs.length<=m:=by have⟨r,l,g,hb,n,k,h3,h4,h5,j⟩:=h;have⟨a,m,e,f,_⟩:=aF h3;exact⟨g,(Ω.1 hb).1,by simp[Z,hb],by simp[Z,hb],λi=>by simp[φ,hb],a,m,by rw[e,h4.1],by rw[<-h4.1];exact f⟩
theorem Km(x:Int×υ):∀(l:List (Int×υ)) (k:Nat),k<l.length->(l.set k x).flatMap dW=((l.flatMap dW).set (k*2)<|Δ Θ x.1).set (k*2+1) x.2
 |[],k,h=>by simp at h
 |a::l,0,h=>by simp[dW]
 |a::l,k+1,h=>by have:=Km x l k (by grind);rw[ZN,List.flatMap_cons,this,show(k+1)*2=k*2+1+1 by omega];simp[dW]
def OC.anz{w}{B g n m k:Nat}{l x}(h:OC w B (.slice g n m) l)(b:k<l.length):
 OC ((w.setCell (g,k*2)<|Δ Θ x.1).setCell (g,k*2+1) x.2) B (.slice g n m) (l.set k x):=by
 obtain⟨e,⟨h0,_⟩|⟨q,f,a,d,i,o,p,c,hs,j⟩⟩:=h;cases h0
 cases d
 refine⟨by rw[Km x l k b];simpa using e,.inr ⟨g,m,(a.setIfInBounds (k*2)<|Δ Θ x.1).setIfInBounds (k*2+1) x.2,by simp,i,?_,by simpa using p,c,by simpa using hs,?_⟩⟩;simp[ZL,YT,o];rw[Km x l k b,<-j];simp only[Y2,Y4,Yq]
def eX{w:ο}{g i j:Nat}{u v k}(h:k≠g):((w.setCell (g,i) u).setCell (g,j) v).heap[k]?=w.heap[k]?:=by rw[Below.heap_setCell _ _ _ _ h,Below.heap_setCell _ _ _ _ h]
def uZ{w}{B g i j:Nat}{u v}(h:B<=g):Below B w ((w.setCell (g,i) u).setCell (g,j) v):=((Below.refl B w).setCell h u).setCell h v
def gN.at_(h:gN t w B b c vw vd cs roots wi d){i:Nat}{k vs}(hi:cs[i]?=U (k,vs)):∃n m x,c=.slice (n:Nat) cs.length m/\cs.length<=m/\B<=n/\w ((n:Nat),i*2)=U (Δ Θ k)/\w ((n:Nat),i*2+1)=U x/\(∀j,w.frozen? ⟨n,j,M⟩=ξ)/\eI w x vs:=by
 have⟨r,l,J,hb,H,G,h3,h4,h5,E⟩:=h;have q:i<l.length:=by rw[h4.1];exact(ψ.1 hi).1
 obtain⟨⟨D,x⟩,e⟩:∃p,l[i]?=U p:=⟨_,Z2 q⟩;obtain⟨rfl,s⟩:=h4.2.1 i D x k vs e hi;have⟨a,m,u,y,_,_⟩:=aF h3;have⟨g,A,f,o,_⟩:=h3.form (by omega);rw[u]at f;injection f with e1 e2 e3
 subst e1;subst u;have⟨C,z,F⟩:=OC.at_ h3 e;refine⟨g,m,x,by rw[h4.1],by rw[<-h4.1];exact y,o,C,z,λj=>?_,s.reads⟩;have⟨_,_,v,hc,_⟩:=OC.block h3;simp[φ,hc]
def gN.BB(h:gN t w B b c vw vd cs roots wi d){i j:Nat}{k vs}(hi:cs[i]?=U (k,vs))(hj:j<vs.length)(v):∃E m g m2,c=.slice (E:Nat) cs.length m/\w ((E:Nat),i*2+1)=U (.slice (g:Nat) vs.length m2)/\vs.length<=m2/\
 (∃u,w ((g:Nat),j*2)=U u)/\(∃u,w ((g:Nat),j*2+1)=U u)/\(∀n,w.frozen? ⟨g,n,M⟩=ξ)/\
 gN t ((w.setCell ((g:Nat),j*2)<|Δ Θ v.1).setCell ((g:Nat),j*2+1)<|Δ Θ v.2) B b c vw vd (cs.set i (k,vs.set j v)) roots wi d/\Below B w ((w.setCell ((g:Nat),j*2)<|Δ Θ v.1).setCell ((g:Nat),j*2+1)<|Δ Θ v.2):=by
 have⟨E,m,x,ec,_,_,_,S,_,_⟩:=h.at_ hi;have⟨r,l,hB,hb,h1,T,h3,h4,h5,Q⟩:=h;have D:=(ψ.1 hi).1;have P:i<l.length:=by rw[h4.1];exact D
 obtain⟨⟨k',x'⟩,e⟩:∃p,l[i]?=U p:=⟨_,Z2 P⟩;obtain⟨rfl,f⟩:=h4.2.1 i k' x' k vs e hi;subst ec;have hx:x'=x:=by have hn:=(Dz h3).1;have⟨_,A,_⟩:=OC.at_ h3 e;rw[S]at A;exact(η A).symm
 subst hx;obtain⟨g,m2,rfl,L,hgl⟩:=f.form (by omega);have⟨_,m2',e2,O,_,_⟩:=aF f;cases e2
 have⟨p,q,ej⟩:=ep hj;have⟨f1,f2,f3,_,_⟩:=OV.at_ f ej;obtain⟨W,K⟩:∃s,w.heap[g]?=U (.cells s 50 (0,0)):=by
  obtain⟨G,_⟩|⟨g',cap,s,G,_,a,_⟩:=f.2
  cases G
  cases G
  exact⟨s,a⟩
 have o:∀{k0:Nat} {cs0:Array υ} {t:ZO} {fr:Nat×Nat},w.heap[k0]?=U (.cells cs0 t fr) ->t≠50->k0≠g:=λX ht e=>by
  subst e;rw[K]at X;cases X
  exact ht rfl
 refine⟨E,m,g,m2,rfl,S,O,⟨_,f1⟩,⟨_,f2⟩,f3,⟨r,l,hB,(eX<|o hb Q.2.2.1).trans hb,aS h1 λg0 a=>eX (by have⟨_,_,_,y⟩:=h1.G' a;exact o y nofun),aS T λg0 a=>eX (by have⟨_,_,_,y⟩:=T.G' a;exact o y nofun),?_,⟨by simpa using h4.1,λF k1 x1 k2 J e1 e2=>?_,h4.2.2⟩,?_,Q⟩,uZ L⟩;have⟨_,_,s,hc,_⟩:=OC.block h3;exact aS h3 λg0 a=>eX (by cases a;exact o hc nofun);by_cases z:F=i
 ·subst z;rw[e]at e1;rw[θ D]at e2;cases e1
  cases e2
  exact⟨rfl,OV.set (x:=v) f hj⟩
 rw[ZW (Z0 z)]at e2;have⟨q1,q2⟩:=h4.2.1 F k1 x1 k2 J e1 e2;refine⟨q1,aS q2 λg0 a=>eX λN=>?_⟩;subst N;obtain H|C:=Nat.lt_or_gt_of_ne z
 exact h4.2.2 F i _ _ H e1 e _ a rfl;exact h4.2.2 i F _ _ C e e1 _ rfl a;refine aS h5 λg0 a=>eX λN=>?_;subst N;exact Q.1 i _ e _ rfl a
def gN.free(h:gN t w B b c vw vd cs roots wi d){i}(hi:i<cs.length):∃f m,c=.slice (f:Nat) cs.length m/\cs.length<=m/\(∃u,w ((f:Nat),i*2)=U u)/\(∃u,w ((f:Nat),i*2+1)=U u)/\(∀n,w.frozen? ⟨f,n,M⟩=ξ)/\
 gN t ((w.setCell ((f:Nat),i*2)<|Δ Θ 3).setCell ((f:Nat),i*2+1)<|Z8 M 0 0) B b c vw vd (cs.set i (3,[])) roots wi d/\Below B w ((w.setCell ((f:Nat),i*2)<|Δ Θ 3).setCell ((f:Nat),i*2+1)<|Z8 M 0 0):=by
 have⟨k,vs,ei⟩:=cQ hi;have⟨f,m,x,W,hm,C,d1,Q,S,_⟩:=h.at_ ei;have⟨r,l,hB,hb,L,G,h3,h4,h5,F⟩:=h;have j:i<l.length:=by rw[h4.1];exact hi
 subst W;have⟨_,_,cur,hc,_⟩:=OC.block h3;have o:∀{K:Nat} {cs0:Array υ} {t:ZO} {fr:Nat×Nat},w.heap[K]?=U (.cells cs0 t fr) ->t≠76->K≠f:=λJ X e=>by
  subst e;rw[hc]at J;cases J
  exact X rfl
 refine⟨f,m,rfl,hm,⟨_,d1⟩,⟨_,Q⟩,S,⟨r,l.set i (3,Z8 M 0 0),hB,(eX<|o hb F.2.2.2).trans hb,aS L λg0 a=>eX (by have⟨_,_,_,p⟩:=L.G' a;exact o p nofun),aS G λg0 a=>eX (by have⟨_,_,_,p⟩:=G.G' a;exact o p nofun),?_,⟨by simpa using h4.1,λN P x1 k2 A e1 e2=>?_,λy H E T z e1 e2 g0 a q=>?_⟩,?_,⟨λy E e1 g0 a hr=>?_,F.2⟩⟩,uZ C⟩;simpa using (OC.anz (x:=(3,Z8 M 0 0)) h3 j);by_cases v:N=i
 ·subst v;rw[θ j]at e1;rw[θ hi]at e2;cases e1
  cases e2
  exact⟨rfl,OV.nil _ _⟩
 rw[ZW (Z0 v)]at e1 e2;have⟨q1,O⟩:=h4.2.1 N P x1 k2 A e1 e2;refine⟨q1,aS O λg0 a=>eX λD=>?_⟩;subst D;exact cF O hc nofun a;by_cases g:y=i
 ·subst g;rw[θ j]at e1;cases e1
  cases a
 by_cases s:H=i
 ·subst s;rw[θ j]at e2;cases e2
  cases q
 rw[ZW (Z0 g)]at e1;rw[ZW (Z0 s)]at e2;exact h4.2.2 y H E T z e1 e2 g0 a q;refine aS h5 λg0 a=>eX λD=>?_;subst D;exact cF h5 hc nofun a;by_cases g:y=i
 ·subst g;rw[θ j]at e1;cases e1
  cases a
 rw[ZW (Z0 g)]at e1;exact F.1 y E e1 g0 a hr
end
end
section
def qz{w ops rest o a Q}(c:o.guard=M)(m x)(f:o.op=.call {callee:=.builtin .delete,args:=#[m,x],argTypes:=#[205,3]})(b l n)(d:a.eval m=.map (U b))(p:a.eval x=Δ Θ n)(e:bk w b l)(h:∀w',bk w' b (l.erase n) ->w.grownBy w' (U b) ->w'.heap.size=w->YW prog ops Q rest (a.put o.dst<|.tuple #[]) w'):YW prog ops Q (o::rest) a w:=by refine wpList_plain c λK j=>?_;have⟨w',i,k,g,h3⟩:=wE o.type n e;unfold Oper.wp execOp;simp only[f,resolve,invoke,builtin,Y9,YM,ZC,List.map_toArray,Ze,Yo,d,p,i];exact j _ _<|h w' k g h3
def tS(a:List Int)(c:HC):HC:=if zm c a then(c.1,c.2.map λ_=>(2,0))else c
def DE(a:List Int)(cs:List HC)(k:Nat):List HC:=(cs.take k).map (tS a)++cs.drop k
def wI(a cs k):(DE a cs k).length=cs.length:=by unfold DE;simp;omega
def Jm{a cs k}(h:k<cs.length):(DE a cs k)[k]?=cs[k]?:=by
 unfold DE
 grind
def zZ{a cs k c}(h:cs[k]?=U c):DE a cs (k+1)=(DE a cs k).set k (tS a c):=by
 have b:=(ψ.1 h).1;have hd:cs.drop k=c::cs.drop (k+1):=by
  rw[YX b]
  congr 1
  exact(ψ.1 h).2
 unfold DE;rw[bW h,hd,ZY,List.set_append_right _ _ (by simp;omega)];have:k-((cs.take k).map<|tS a).length=0:=by simp;omega
 rw[this];simp
def Aa{a cs k c}(h:cs[k]?=U c)(hc:tS a c=c):DE a cs (k+1)=DE a cs k:=by rw[zZ h];have:=Jm (a:=a)<|(ψ.1 h).1;exact ZV λi=>by grind
def Oy(a cs):DE a cs cs.length=cs.map (tS a):=by unfold DE;simp
def freed(cs:List HC)(D left:List Int):List HC:=cs.zipIdx.map λx=>if D.contains (x.2:Int)&&!left.contains (x.2:Int)then(3,[])else x.1
def Pm(cs D a):(freed cs D a).length=cs.length:=by simp[freed]
def lC(cs D a)(i:Nat):(freed cs D a)[i]?=(cs[i]?).map λc=>if D.contains (i:Int)&&!a.contains (i:Int)then(3,[])else c:=by
 unfold freed
 grind
def Ab(cs D):freed cs D D=cs:=ZV λi=>by rw[lC];simp
def BX{cs D A B}{n:Nat}(c:n<cs.length)(d:(n:Int)∈D)(a:(A++(n:Int)::B).Nodup):freed cs D (A++B)=(freed cs D (A++(n:Int)::B)).set n (3,[]):=ZV λi=>by
 have b:(n:Int)∉A++B:=by
  intro h;rw[YD]at a;obtain h|h:=κ.1 h
  exact a.2.2 _ h _ ι rfl;exact(Zq.1 a.2.1).1 h
 by_cases hi:i=n
 subst hi;rw[θ (by rw[Pm];exact c),lC,Z2 c];simp only[Option.map_some,(by simpa using d:D.contains (i:Int)=ZB),(by simpa using b:(A++B).contains (i:Int)=ξ)];rfl;rw[ZW (Z0 hi),lC,lC]
 grind
def J3(w:ο)(r m:Nat):Nat:=
 match w.heap[r]?,w.heap[m]? with
 |some (.mapIter _ _ seen _),U (.map es _)=>(leftOf es seen).size
 |_,_=>0
theorem eD.J3{w:ο}{r b:Nat}{l a:List Int}(h:eD w r b l a):J3 w r b=a.length:=by have⟨j,f,c,seen,c0,g,i,h3,h4,h5,d,e⟩:=h;unfold Kn.J3;rw[h3,g];have:=congrArg YJ e;simpa using this
section
variable{w w':ο}{B b:Nat}{c vw vd:υ}{cs:List HC}{roots:List HV}{wi d:List Int}
def gN.grown{t}(h:gN t w B b c vw vd cs roots wi d){row}(C:w.grownBy w' row)(F:∀r,row=U r->w.heap.size<=r\/∃o,w.heap[r]?=U o/\o.isCells=ξ):gN t w' B b c vw vd cs roots wi d:=by
 have j:∀{k:Nat} {x:Array υ} {t:ZO} {fr:Nat×Nat},w.heap[k]?=U (.cells x t fr) ->w'.heap[k]?=w.heap[k]?:=λs=>C.block _ (Ω.1 s).1 λe=>by
  obtain y|⟨o,m,hc⟩:=F _ e.symm
  grind
  rw[s]at m;cases m
  cases hc
 have a:∀{e:ZO} {size n:Nat} {v:υ} {xs:List υ},w.ownsRow B e size v n xs->w'.ownsRow B e size v n xs:=λm=>aS m λg f=>by
  obtain⟨p,_⟩|⟨J,D,E,p,_,q,_⟩:=m.2
  rw[p]at f;cases f
  rw[p]at f;cases f
  exact j q
 have⟨r,l,H,hb,y,A,h3,h4,h5,G⟩:=h;exact⟨r,l,H,(j hb).trans hb,a y,a A,a h3,⟨h4.1,λi k x z u e1 e2=>⟨(h4.2.1 i k x z u e1 e2).1,a (h4.2.1 i k x z u e1 e2).2⟩,h4.2.2⟩,a h5,G⟩
def bk.Ac{m l}(h:bk w m l):∃o,w.heap[m]?=U o/\o.isCells=ξ:=by have⟨b,a,hb,_⟩:=h;exact⟨_,hb,rfl⟩
def bk.BY{m l}(h:bk w m l){g i:Nat}{u}(hc:w (g,i)=U u):m≠g:=λe=>by have⟨b,a,hb,_⟩:=h;subst e;simp[Z,hb]at hc
def bk.two{m l}(h:bk w m l){g i j n:Nat}{u v x}(hc:w (g,n)=U x):bk ((w.setCell (g,i) u).setCell (g,j) v) m l:=h.of_block<|eX<|h.BY hc
def eD.two{r m l a}(h:eD w r m l a){g i j n:Nat}{u v x}(hc:w (g,n)=U x):eD ((w.setCell (g,i) u).setCell (g,j) v) r m l a:=h.of_block (eX (h.keys.BY hc)) (eX λe=>by have⟨k,c,b,seen,c0,f,d,h3,_⟩:=h;subst e;simp[Z,h3]at hc)
end
structure lD(n:Nat)(A left L:List Int):Prop where
 nodup:L.Nodup
 mem:∀x,x∈L↔((0<=x/\x<(n:Int))/\(x∈A->x∈left))
def lD.sM(n A):lD n A A ((ZK n).map λi:Nat=>(i:Int)):=by
 refine⟨?_,λx=>⟨λh=>?_,λh=>?_⟩⟩;rw[YY,ZA];exact List.nodup_range.imp λh e=>h (by omega)
 grind
 obtain⟨i,rfl⟩:=ζ h.1.1;exact ZX.2 ⟨i,List.mem_range.2<|by omega,rfl⟩
def lD.next{n A X a L x}(h:lD n A (X++x::a) L)(b:(X++x::a).Nodup)(c:x∈A):lD n A (X++a) (L.erase x):=by
 refine⟨h.nodup.erase x,λy=>?_⟩;rw[List.Nodup.mem_erase_iff h.nodup,h.mem]
 grind
def wJ(cs:List HC)(a2:List Int):List HC:=cs.zipIdx.map λx=>if a2.contains (x.2:Int)then x.1 else(3,[])
def Xv{cs A L}(h:lD cs.length A [] L):freed cs L []=wJ cs A:=ZV λi=>by
 rw[lC];unfold wJ;obtain hi|hi:=Nat.lt_or_ge i cs.length
 rw[Z2 hi];have a:=h.mem (i:Int)
 grind
 grind
end
end Kn
namespace Md
section
def J4(a:List Int)(c:HC):HC:=if zm c a then(c.1,c.2.map λ_=>(2,0))else c
def dI(h:PH):PH:=⟨h.cells.map<|J4<|alive h,h.roots,h.aA.filter ((alive h).contains ·),h.done++h.aA.filter (λn=>!(alive h).contains n)⟩
def ta(h):lu h={dI h with cells:=(dI h).cells.zipIdx.map λx=>if(alive<|dI h).contains (x.2:Int)then x.1 else(3,[])}:=rfl
def Qv{a c v}(b:v∈(J4 a c).2)(d:v.1=1):v∈c.2/\zm c a=ξ:=by
 unfold J4 at b;split at b
 obtain⟨x,_,rfl⟩:=ZX.1 b;cases d
 exact⟨b,by simp_all⟩
def Qw{h f h'}(hc:h'.cells=h.cells.map f){n}(a:BJ h n):cellP h' n=f (cellP h n):=by have:=a.1;have:=a.2;unfold cellP;rw[hc,Zv,Zz,Zv,Z2<|by omega];rfl
section
variable{h:PH}(hw:WP h)
include hw
def v7:WP (dI h) where
 shape:=λc hc=>by
  obtain⟨d,hd,rfl⟩:=ZX.1 hc;have:=hw.shape d hd;unfold J4;split
  simpa using this;exact this
 cells:=λc hc v e b=>by obtain⟨d,hd,rfl⟩:=ZX.1 hc;have:=hw.cells d hd v (Qv e b).1 b;simpa[BJ,dI]using this
 roots:=λv e b=>by simpa[BJ,dI]using hw.roots v e b
 aA:=λn a=>by simpa[BJ,dI]using hw.aA n (ZU.1 a).1
 done:=λn a=>by
  obtain a|a:=κ.1 a
  ·simpa[BJ,dI]using hw.done n a
  simpa[BJ,dI]using hw.aA n (ZU.1 a).1
omit hw in
def Jp{n}:BJ (dI h) n↔BJ h n:=by simp[BJ,dI]
omit hw in
def wX{n}:BJ (lu h) n↔BJ h n:=by simp[BJ,ta,dI]
def Fs{n}(g:n∈alive h):n∈alive (dI h):=by
 have⟨a1,p,r,k⟩:=pl hw;have⟨j,q,b3,b4⟩:=pl<|v7 hw;have d:n' h ((alive h).filter ((alive<|dI h).contains ·)) ((alive h).filter ((alive<|dI h).contains ·)):=by
  refine⟨λv b=>ZU.2 ⟨a1.VX v b,Z4.2<|j.VX v ?_⟩,λm l v b i=>?_⟩;obtain b|b:=κ.1 b
  ·exact Z1 _ b
  obtain⟨n,g,rfl⟩:=ZX.1 b;exact Zo _<|ZX.2 ⟨n,Z1 _ g,rfl⟩;have⟨m1,m2⟩:=ZU.1 l;have c:∀x∈(alive h).filter ((alive<|dI h).contains ·),x∈alive h:=λx f=>(ZU.1 f).1;refine ZU.2 ⟨a1.keeps m m1 v (pU c b) i,Z4.2<|j.keeps m (Z4.1 m2) v ?_ i⟩;rw[show cellP (dI h) m=J4 (alive h) (cellP h m)from Qw rfl<|p m m1];have e:zm (cellP h m) (alive h)=ξ:=by
   have a:=pU c b;unfold Md.keeps at a;unfold zm;split at a
   rename_i h0;simp[h0];split at a
   ·split at a
    ·rename_i o;rw[o];simp
    cases a
   cases a
  unfold J4;rw[e];exact pU (λx f=>Z4.1 (ZU.1 f).2) b
 exact Z4.1 (ZU.1<|k _ d n g).2
def Xw{n}(g:n∈alive (dI h)){v}(a:v∈(cellP (dI h) n).2)(d:v.1=1):v.2∈alive (dI h)/\(has (alive h) ((cellP (dI h) n).2.getD 0 (0,0))=ZB\/(cellP (dI h) n).1=0):=by
 have⟨i,k,b3,b4⟩:=pl<|v7 hw;have j:=Jp.1<|k n g;have e:cellP (dI h) n=J4 (alive h) (cellP h n):=Qw rfl j;rw[e]at a;have⟨a,f⟩:=Qv a d;have e2:cellP (dI h) n=cellP h n:=by rw[e];simp[J4,f]
 rw[e2];obtain h0|⟨h1,h2⟩|⟨h1,h2⟩|h0:=hw.shape _<|B2 j
 refine⟨i.keeps n g v ?_ d,.inr h0⟩;rw[e2];unfold Md.keeps;rwa[if_pos h0];have b:has (alive h) ((cellP h n).2.getD 0 (0,0))=ZB:=by unfold zm at f;simp[h1]at f;exact f
 refine⟨Fs hw ?_,.inl b⟩;have⟨x,l⟩:=YS.1 h2;rw[l]at a b;rw[ZM.1 a]at d⊢;unfold has at b;simpa[d]using b;have b:has (alive h) ((cellP h n).2.getD 0 (0,0))=ZB:=by unfold zm at f;simp[h1]at f;exact f
 refine⟨?_,.inl b⟩;obtain⟨x,y,c⟩:∃x y,(cellP h n).2=[x,y]:=by
  match hcs:(cellP h n).2,h2 with
  |[x,y],_=>exact⟨x,y,rfl⟩
 rw[c]at a;obtain rfl|a:=ZI.1 a
 rw[c]at b;unfold has at b;exact Fs hw (by simpa[d]using b);rw[ZM.1 a]at d⊢;refine i.keeps n g y ?_ d;rw[e2];unfold Md.keeps;rw[if_neg (by omega),if_pos h1,if_pos<|Qr (λ_=>Fs hw) b,c];simp;rw[h0]at a;cases a
end
end
end Md
namespace Kn
open Go Go.RowKit Md
def rs{P w ops rest o a Q}(c:o.guard=M)(it)(e:o.op=.next it ξ)(v)(hi:a.eval it=v)(r w')(b:(Instr.next v ξ o.type).run P w=.ok r w')(h:YW P ops Q rest (a.put o.dst r) w'):YW P ops Q (o::rest) a w:=by refine wpList_plain c λK d=>?_;unfold Oper.wp;simp[execOp,e,hi,b];exact d _ _ h
def If{ops rest o a w Q}(g:o.guard=M)(s x)(q:o.op=.call {callee:=.builtin .append,args:=#[s,x],argTypes:=#[24,24]})(B v l)(hs:a.eval s=v)(b:OI w B v l)(ad c u)(y:a.eval x=Z8 (U ad) 1 c)(t:w (ad.add 0)=U (Δ Θ u))(A:l.length<=1000000000)(n:B<=w)(h:∀d w',OI w' B d (l++[u]) ->Below B w w'->w.grownBy w' v.ownBlock->(d.ownBlock=v.ownBlock\/d.ownBlock=U w.heap.size) ->YW prog ops Q rest (a.put o.dst d) w'):YW prog ops Q (o::rest) a w:=by
 obtain⟨p,hi,i,k,f⟩:=Y7 Dq;refine Yt _ g s x 24 q B 3 p _ 1 8 se hi i k f rfl (by decide) v l.length _ hs b ad 1 c (eP u) y rfl (λj z e=>?_) (λz hz=>?_) (by unfold maxLen;omega) (by omega) n λd w' r m _ h4=>?_
 match j,e with
 |0,e=>cases e;exact t
 |j+1,e=>simp[eP]at e
 simp[eP]at hz;subst hz;rfl;refine h d w' ?_ (cM b m n) m h4;unfold OI;simpa using r
structure ahx(k:Int)(vs:List HV)(T F:Nat):Prop where
 cellOf:∀w a n m,Z9 prog 181 #[.agg #[Δ Θ k,.slice a n m]] w λe w'=>e=.returned (.iface T (.agg #[Δ Θ k,.slice a n m]))/\Below w w w'
 mt:∀w s,(method 463 T (.agg #[Δ Θ k,s]) "caracole/heap.loses").run prog w=.ok (F,.agg #[Δ Θ k,s]) w
 ent:∀w args,(Yw F args).run prog w=.ok (.enter F args) w
 los:∀w a m b A,bk w b A->eI w (.slice a vs.length m) vs->Z9 prog F #[.agg #[Δ Θ k,.slice a vs.length m],.map (U b)] w λe w'=>e=.returned (.bool (zm (k,vs) A))/\Below w w w'
def agf{k vs}(h:k=0\/(k=1/\vs.length=1)):∃T F,ahx k vs T F:=by
 obtain rfl|⟨rfl,h⟩:=h
 exact⟨264,318,sI,λw s=>Oc w s _ 318<|.inr<|.inr<|.inr ⟨rfl,rfl⟩,λw c=>KE 318 c w rfl,λw a m b A _ _=>Og w a vs.length m b⟩;obtain⟨x,rfl⟩:=YS.1 h;refine⟨265,324,sJ,λw s=>Od w s _ 324<|.inr<|.inr<|.inr ⟨rfl,rfl⟩,λw c=>KE 324 c w rfl,λw a m b A d f=>?_⟩;have e:zm (1,[x]) A=!has A x:=by simp[zm]
 rw[e];exact Oh w _ b A x [] d f
def qv(vs:List HV)(j:Nat):List HV:=(vs.take j).map (λ_=>((2,0):HV))++vs.drop j
def sT(vs j):(qv vs j).length=vs.length:=by unfold qv;simp;omega
def KG{vs j}(h:j<vs.length):(qv vs j).set j (2,0)=qv vs (j+1):=ZV λi=>by
 unfold qv
 grind
def Oi(vs):qv vs vs.length=vs.map λ_=>(2,0):=by simp[qv]
structure PZ(h:PH):Prop where
 first:Fit h
 second:Fit (dI h)
 shape:∀c∈h.cells,(c.1=0\/(c.1=1/\c.2.length=1))/\c.2.length<=1000
 aA:h.aA=[]
def zT{l:List Int}{k n}(p)(b:l[k]?=U n):(l.take<|k+1).filter p=(l.take k).filter p++if p n then [n]else []:=by
 rw[bW b,List.filter_append]
 congr 1
 by_cases a:p n=ZB<;>simp[a]
def BZ(w B b h)(hq:J0 w B b h.cells h.roots h.aA h.done)(hB:B<=w)(ho:PZ h):
 Z9 prog 125 #[.pointer b] w λe w'=>e=.returned (.tuple #[])/\(∃c vw vd,dQ w' B b c vw vd (lu h).cells (lu h).roots (lu h).aA (lu h).done)/\Below B w w':=by
 obtain⟨c,vw,vd,hc,ha⟩:=hq.named;have H:=Y hc;have HA:=Y ha;have HO:=Y ho;have hcl:=ho.first.cells;have hw0:=ho.aA;have hmm:=@run_makeMap prog;clear hq hc ho ha
 go_enter (fU func125 rfl),ntmps125
 go_wp2_with fail
 refine(DD _ b h H.out.reads HO.out.first).mono ?_;rintro e w1 ⟨⟨m1,rfl,hm1,hk1⟩,hb1⟩;generalize ha1:alive h=a1 at hk1;have HA1:=Y ha1;clear ha1;have hP1:=H.out.below hb1;obtain⟨hBb,hbl,q0,⟨q2,q3⟩,qf,ac,mc,rfl,hmc⟩:=hP1.cells;obtain⟨aw,mw,rfl,-⟩:∃a m,vw=.slice a (0:Nat) m/\True:=by obtain⟨_,_,_,_,h1,_⟩:=hP1;obtain⟨a,m,e,-⟩:=aF h1;rw[hw0]at e;exact⟨a,m,e,trivial⟩
 have hw1:=hb1.size;have hBw1:B<=w1.heap.size:=Nat.le_trans hB hw1;have HP1:=Y<|Ξ hP1<|Ξ hk1<|hb1.mono hB;clear hP1 hk1 hb1 qf H q0 HA
 go_wp2_with fail
 clear q2 q3;have HLD:Hid (([]:List Int)=h.aA.filter (λn=>a1.contains n)/\h.done=h.done++h.aA.filter (λn=>!a1.contains n)):=Y (by simp[hw0]);clear hw0
 go_loopw [3,21] (λv i wr=>v=Z8 M 0 0/\i=Δ Θ 0/\Hid (dQ wr B b (.slice ac h.cells.length mc) (.slice aw 0 mw) vd h.cells h.roots h.aA h.done/\bk wr m1 a1/\Below B w wr/\w1.heap.size<=wr)) (λ_ _ _=>0)
 case atStart=>exact⟨rfl,rfl,Y ⟨HP1.out.1,HP1.out.2.1,HP1.out.2.2,.refl⟩⟩
 case round=>
  clear HP1;obtain⟨rfl,rfl,HL⟩:=hrel;obtain⟨hP,hkk,hbw,hwr⟩:=HL.out;have G:B<=wr.heap.size:=Nat.le_trans hBw1 hwr;have hv3:=OI.nil wr w1;obtain⟨hP2,hb2⟩:=hP.Jl<|hv3.less hBw1;obtain⟨-,hbr,q0,⟨q2,-⟩,q2f,-⟩:=hP.cells;replace q2f:=q2f 2;have hk2:=hkk.of_block (w':=wr.setCell (b,2)<|Z8 M 0 0)<|aq<|hkk.BY q0;obtain⟨-,-,hq0,-,-,-⟩:=hP2.cells;have hB2:Below B w (wr.setCell (b,2)<|Z8 M 0 0):=hbw.trans hb2;clear hP hv3 hkk hbw hb2 HL q0
  go_wp2_with fail
  clear q2 q2f;generalize wr.setCell (b,2) (Z8 M 0 0)=w2 at hP2 hk2 hq0 hB2⊢;have HP2:=Y<|Ξ hP2<|Ξ hk2 hB2;clear hP2 hk2 hB2 hq0 hwr G hBw1 hbr
  go_loopw [57] (λi wr=>∃k:Nat,k<=h.cells.length/\i=Δ Θ k/\Hid (dQ wr B b (.slice ac h.cells.length mc) (Z8 M 0 0) vd (DE a1 h.cells k) h.roots [] h.done/\bk wr m1 a1/\Below B w wr)) (λi _=>h.cells.length-(intOf i).toNat)
  case atStart=>exact⟨0,Nat.zero_le _,rfl,by simpa[DE]using HP2⟩
  case round=>
   clear HP2;obtain⟨k,hk,rfl,HP⟩:=hrel;have W:=HP.out.2.2;have G:B<=wr:=Nat.le_trans hB W.size;by_cases hlt:k<h.cells.length
   ·obtain⟨kd,S,ec⟩:=cQ hlt;have hat:=Jm (a:=a1) hlt;rw[ec]at hat
    obtain⟨gc,m,x,e,_,_,d1,d2,_,hxv⟩:=HP.out.1.at_ hat
    obtain⟨ax,mx,rfl,_,_,_⟩:=id hxv;rw[wI]at e;cases e
    have hmem:=ω ec;obtain⟨T,F,HKL⟩:=agf (HO.out.shape _ hmem).1;have hvl:S.length<=1000:=(HO.out.shape _ hmem).2;dsimp only at HKL;have HX:=Y hxv;have HE:=Y<|Ξ ec hat
    have hb0:=af wr<|Ψ #[kd,.slice ax S.length mx] 76;have hmt:=λw=>HKL.mt w<|.slice ax S.length mx;have hent:=HKL.ent;clear hat hxv ec hmem
    go_wp2_with fail
    refine(HKL.cellOf _ _ _ _).mono ?_;rintro e w3 ⟨rfl,hb3⟩;have hz3:wr.heap.size<w3:=by have:=hb3.size;rw[Zx]at this;omega
    have K:=hb0.trans<|hb3.mono<|by simp
    go_wp2_with fail
    refine(HKL.los _ _ _ m1 a1 (HP.out.2.1.below K)<|HX.out.below K).mono ?_;rintro e w4 ⟨rfl,hb4⟩;have z:Below wr wr w4:=K.trans<|hb4.mono K.size;have n4:w4 (wr.heap.size,1)=U (.slice ax S.length mx):=(hb4.cell (p:=⟨wr.heap.size,1,M⟩) hz3).trans<|(hb3.cell (p:=⟨wr.heap.size,1,M⟩)<|by simp).trans<|by go_simp
    clear hb0 hb3 K hb4 hmt hent;cases hlo:zm (kd,S) a1
    ·have hst:=Aa (a:=a1) HE.out.1 (by unfold tS;rw[hlo];rfl);have HST:=Y hst;clear hst hlo
     go_wp2_with fail
     exact⟨⟨k+1,by omega,by go_num,Y ⟨by rw[HST.out];exact HP.out.1.below z,HP.out.2.1.below z,W.trans<|z.mono G⟩⟩,by simp[intOf];omega⟩
    ·have hst:=zZ (a:=a1) HE.out.1;rw[show tS a1 (kd,S)=(kd,S.map λ_=>(2,0)) by unfold tS;rw[hlo];rfl]at hst;have HST:=Y hst;have H4:=Y<|Ξ (HP.out.1.below z)<|Ξ (HP.out.2.1.below z)<|W.trans<|z.mono G;have hz4:=z.size;clear hst hlo HP z W HX
     go_wp2_with fail
     have hset:(DE a1 h.cells k).set k (kd,qv S 0)=DE a1 h.cells k:=by
      have:=HE.out.2;refine ZV λi=>?_;by_cases hi:i=k
      subst hi;rw[θ (by rw[wI];exact hlt),this];simp[qv];rw[ZW (Z0 hi)]
     have hlt':(k:Int)<(h.cells.length:Int):=by omega
     have hk0:(0:Int)<=(k:Int):=by omega
     clear n4 d1 d2
     go_loopw [70] (λi wr'=>∃j:Nat,j<=S.length/\i=Δ Θ j/\Hid (dQ wr' B b (.slice (gc:Nat) h.cells.length mc) (Z8 M 0 0) vd ((DE a1 h.cells k).set k (kd,qv S j)) h.roots [] h.done/\bk wr' m1 a1/\Below B w wr')) (λi _=>S.length-(intOf i).toNat)
     case atStart=>exact⟨0,Nat.zero_le _,rfl,by rw[hset];exact H4⟩
     case round=>
      clear H4 hset;obtain⟨j,hj,rfl,HJ⟩:=hrel;by_cases hlj:j<S.length
      ·have hat:((DE a1 h.cells k).set k (kd,qv S j))[k]?=U (kd,qv S j):=θ (by rw[wI];exact hlt);obtain⟨gc',m',g,m2,e1,s1,hm2,⟨u1,s2⟩,⟨u2,s3⟩,s4,hP5,Oz⟩:=HJ.out.1.BB (j:=j) hat (by rw[sT];exact hlj) (2,0);rw[Y4,wI]at e1;cases e1
       rw[sT]at s1 hm2;rw[List.set_set,KG hlj]at hP5;have s4a:=s4<|j*2;have s4b:=s4<|j*2+1;obtain⟨_,_,r0,_⟩:=HJ.out.1.cells;have hk5:=HJ.out.2.1.two (i:=j*2) (j:=j*2+1) (u:=Δ Θ 2) (v:=Δ Θ 0) s2;have HP5:=Y<|Ξ hP5<|Ξ hk5<|HJ.out.2.2.trans Oz;have hj1:(j:Int)<(S.length:Int):=by omega
       have hj0:(0:Int)<=(j:Int):=by omega
       clear hP5 Oz hk5 s4 hat HJ
       go_wp2_with fail
       exact⟨⟨j+1,by omega,by go_num,HP5⟩,by simp[intOf];omega⟩
      ·have hje:j=S.length:=by omega
       subst hje
       go_wp2_with fail
       exact⟨⟨k+1,by omega,by go_num,by rw[HST.out,<-Oi];exact HJ⟩,by simp[intOf];omega⟩
   ·have hke:k=h.cells.length:=by omega
    subst hke;obtain⟨l,hk9,-⟩:=HP.out;rw[Oy]at l;obtain⟨C,hcs1⟩:∃x,x=h.cells.map (tS a1):=⟨_,rfl⟩;have hl1:C.length=h.cells.length:=by rw[hcs1];simp
    rw[<-hcs1]at l;have hbr:(⟨C,h.roots,[],h.done⟩:PH)=dI h:=by rw[hcs1,HLD.out.1,HLD.out.2,<-HA1.out];rfl
    have HBR:=Y hbr;obtain⟨_,_,q0,_⟩:=l.cells;have HP9:=Y<|Ξ l W;have WA:=Y hl1;clear HP l hcs1 hl1 hbr hk9 HLD
    go_wp2_with fail
    have hkd:bk (wr.alloc<|.map #[] 0) wr.heap.size (((ZK 0).map λi:Nat=>(i:Int))):=bk.made wr;have hPa:=HP9.out.1.below<|af wr<|.map #[] 0;have hBa:=W.trans<|((af wr<|.map #[] 0)).mono G;have HKD:=Y<|Ξ hkd<|Ξ hPa hBa;obtain⟨m3,Fw⟩:∃m3,m3=wr.heap.size:=⟨_,rfl⟩;rw[<-Fw]at HKD⊢;have aft:B<=m3:=by omega
    clear hkd hPa hBa q0 Fw
    go_loopw [94] (λi wr=>∃k:Nat,k<=h.cells.length/\i=Δ Θ k/\Hid (bk wr m3 ((ZK k).map λi:Nat=>(i:Int))/\dQ wr B b (.slice ac h.cells.length mc) (Z8 M 0 0) vd C h.roots [] h.done/\Below B w wr)) (λi _=>h.cells.length-(intOf i).toNat)
    case atStart=>exact⟨0,Nat.zero_le _,rfl,HKD⟩
    case round=>
     clear HKD HP9 W G;obtain⟨k,hk',rfl,HK⟩:=hrel;by_cases hlt2:k<h.cells.length
     ·obtain⟨w5,hup,hk5,hg5,hs5⟩:=ki (k:Int) HK.out.1;have hadd:nb ((ZK k).map λi:Nat=>(i:Int)) (k:Int)=(ZK<|k+1).map λi:Nat=>(i:Int):=by unfold nb;rw[if_neg (by simp;omega),Yv,ZY];rfl
      rw[hadd]at hk5;have hP5:=HK.out.2.1.grown hg5 λr e=>.inr (by cases e;exact HK.out.1.Ac);have Oz:=HK.out.2.2.grown hg5 (Nat.le_trans hB HK.out.2.2.size) (λr e=>by
       cases e
       exact aft)
      have HK5:=Y<|Ξ hk5<|Ξ hP5 Oz;clear hk5 hP5 Oz hg5 hadd
      go_wp2_with fail
      exact⟨⟨k+1,by omega,by go_num,HK5⟩,by simp[intOf];omega⟩
     ·have hke:k=h.cells.length:=by omega
      subst hke;have G:=Nat.le_trans hB HK.out.2.2.size;have HND:=Y HO.out.second.nodup
      go_wp2_with fail
      refine(DD _ b (dI h) (by rw[<-HBR.out];exact HK.out.2.1.reads) HO.out.second).mono ?_;rintro e w6 ⟨⟨m4,rfl,hm4,hk4⟩,hb6⟩;obtain⟨a2,ha2⟩:∃x,x=alive (dI h):=⟨_,rfl⟩;rw[<-ha2]at hk4 HND;obtain⟨w7,hrg,o,hg7,hs7⟩:=qg hk4;have hk6:=HK.out.1.below hb6;have hk7:=hk6.of_block<|hg7.block m3 hk6.lt<|by simp
      have hP7:=(HK.out.2.1.below hb6).grown hg7 (λr e=>by cases e);have Wm:=(HK.out.2.2.trans<|hb6.mono G).grown hg7 (Nat.le_trans G hb6.size) (λr e=>by cases e);have afu:m3≠m4:=by have:=HK.out.1.lt;omega
      have WB:m3≠w6.heap.size:=by have:=hk6.lt;omega
      have HA2:=Y ha2;have KV:=Y<|Ξ o<|Ξ hk7<|Ξ hP7 Wm;obtain⟨r4,hr4⟩:∃r,r=w6.heap.size:=⟨_,rfl⟩;have anD:B<=r4:=by rw[hr4];exact Nat.le_trans G hb6.size
      rw[<-hr4]at hrg KV WB;clear hr4;clear hk4 o hg7 hk6 hk7 hP7 Wm ha2 hb6 HK
      go_wp2_with fail
      clear hrg;have WC:=lD.sM C.length a2;rw[WA.out]at WC
      go_loopw [11] (λ_ wr=>∃f LL,Hid<|eD wr r4 m4 a2 f/\bk wr m3 LL/\lD h.cells.length a2 f LL/\f.Nodup/\(∀x∈f,x∈a2)/\dQ wr B b (.slice ac h.cells.length mc) (Z8 M 0 0) vd C h.roots [] h.done/\Below B w wr) (λ_ wr=>J3 wr r4 m4)
      case atStart=>exact⟨a2,_,Y ⟨KV.out.1,KV.out.2.1,WC,HND.out,λx hx=>hx,KV.out.2.2.1,KV.out.2.2.2⟩⟩
      case round=>
       clear KV WC;obtain⟨f,LL,HL⟩:=hrel;obtain⟨o,hkl,hsk,J,q,E,A⟩:=HL.out;obtain⟨hnil,L⟩|⟨X,d,x,w8,hXY,L,s,Q,hs8,hen⟩:=sH 0 o
       ·subst hnil;have anF:=Nat.le_trans hB A.size;have HSK:=Y hsk;obtain⟨w9,afv,t,P,hs9⟩:=qg hkl;have l:=E.grown P (λr e=>by cases e);have Dv:=A.grown P anF (λr e=>by cases e);have HK9:=Y<|Ξ t<|Ξ l Dv;obtain⟨r5,hr5⟩:∃r,r=wr.heap.size:=⟨_,rfl⟩;rw[<-hr5]at afv HK9;have anH:B<=r5:=by omega
        clear hr5;clear HL o hkl hsk J q E A t P l Dv
        go_wp2_with (at_next;refine rs rfl _ rfl _ rfl _ _ L ?_)
        clear L afv
        go_loopw [12] (λ_ wr=>∃f,Hid<|eD wr r5 m3 LL f/\f.Nodup/\(∀x∈f,x∈LL)/\dQ wr B b (.slice ac h.cells.length mc) (Z8 M 0 0) vd (freed C LL f) h.roots [] h.done/\Below B w wr) (λ_ wr=>J3 wr r5 m3)
        case atStart=>exact⟨LL,Y ⟨HK9.out.1,HSK.out.nodup,λx hx=>hx,by rw[Ab];exact HK9.out.2.1,HK9.out.2.2⟩⟩
        case round=>
         clear HK9;obtain⟨f,HF⟩:=hrel;obtain⟨o,J,q,E,A⟩:=HF.out;obtain⟨hnil,L⟩|⟨X,d,x,w8,hXY,L,s,Q,hs8,hen⟩:=sH 0 o
         ·subst hnil;have hend:freed C LL []=wJ C a2:=by have h1:=HSK.out;rw[<-WA.out]at h1;rw[Xv h1]
          rw[hend]at E;have HPL:=Y<|Ξ E A;clear HF o J q E A hend
          go_wp2_with (at_next;refine rs rfl _ rfl _ rfl _ _ L ?_)
          go_end0;have hfin:lu h=⟨wJ C a2,h.roots,[],h.done⟩:=by rw[ta,<-HBR.out,HA2.out,<-HBR.out];rfl
          rw[hfin];exact⟨rfl,⟨_,_,_,HPL.out.1⟩,HPL.out.2⟩
         ·subst hXY;have hxL:=q x (by simp);obtain⟨⟨hx0,hx1⟩,_⟩:=(HSK.out.mem x).1 hxL;obtain⟨n,rfl⟩:=ζ hx0;have O:=E.grown Q (λr e=>.inr (by
           cases e
           obtain⟨es,clk,since,seen,c0,h1,h2,h3,_⟩:=o;exact⟨_,h3,rfl⟩))
          have N:=A.grown Q (Nat.le_trans hB A.size) (λr e=>by cases e;exact anH);have hfl:=Pm C LL (X++(n:Int)::d);obtain⟨gc',m',e1,_,⟨u1,s1⟩,⟨u2,s2⟩,s3,l,Dv⟩:=O.free (i:=n) (by rw[hfl,WA.out];omega);rw[hfl,WA.out]at e1;cases e1
          have afw:=BX (cs:=C) (D:=LL) (by rw[WA.out];omega) hxL J;rw[<-afw]at l;have t:=s.two (i:=n*2) (j:=n*2+1) (u:=Δ Θ 3) (v:=()) s1;have afx:(X++d).Nodup:=J.sublist<|Za (YR _ _) _;have hm1:=o.J3;have hm2:=t.J3;obtain⟨_,_,r0,_⟩:=O.cells;have s3a:=s3<|n*2;have s3b:=s3<|n*2+1;have HK9:=Y<|Ξ t<|Ξ afx<|Ξ (λy (hy:y∈X++d)=>q y (by simp at hy⊢;obtain h|h:=hy;exact .inl h;exact .inr<|.inr h))<|Ξ l<|N.trans Dv;have HM:=Y<|Ξ hm1 hm2;have hn1:(n:Int)<(h.cells.length:Int):=by omega
          have hn0:(0:Int)<=(n:Int):=by omega
          clear HF o J q E A hxL hx0 hx1 s Q hs8 O N hfl l Dv afw t afx hm1 hm2 s3
          go_wp2_with (at_next;refine rs rfl _ rfl _ rfl _ _ L ?_)
          go_roundw
          case rel=>exact⟨X++d,HK9⟩
          case measure=>rw[HM.out.1,HM.out.2];simp
       ·subst hXY;have hxa:=q x (by simp);have hne:m3≠r4:=WB;have hk8:bk w8 m3 LL:=hkl.of_block<|Q.block m3 hkl.lt λe=>hne<|η e;have O:=E.grown Q (λr e=>.inr (by
         cases e
         obtain⟨es,clk,since,seen,c0,h1,h2,h3,_⟩:=o;exact⟨_,h3,rfl⟩))
        have N:=A.grown Q (Nat.le_trans hB A.size) (λr e=>by cases e;exact anD);have aez:=hsk.next J hxa;have OA:(X++d).Nodup:=J.sublist<|Za (YR _ _) _;have hm1:=o.J3;have HK8:=Y<|Ξ s<|Ξ aez<|Ξ OA<|Ξ (λy (hy:y∈X++d)=>q y (by simp at hy⊢;obtain h|h:=hy;exact .inl h;exact .inr<|.inr h))<|Ξ O N;have HKK:=Y hk8;have HM:=Y hm1;clear HL o hkl hsk J q E A s Q hs8 hk8 O N aez OA hm1
        go_wp2_with (first|(at_next;refine rs rfl _ rfl _ rfl _ _ L ?_)|(at_delete;refine qz rfl _ _ rfl m3 LL x rfl rfl HKK.out ?_;intro w9 hk9 P hs9;go_frame))
        obtain⟨s,aez,OA,afy,O,N⟩:=HK8.out;have t:=s.of_block (w':=w9) (P.block m4 s.lt.2.1 λe=>afu (η e).symm)<|P.block r4 s.lt.1 λe=>WB (η e).symm;have l:=O.grown P λr e=>.inr (by cases e;exact HKK.out.Ac);have Dv:=N.grown P (Nat.le_trans hB N.size) (λr e=>by cases e;exact aft)
        go_roundw
        case rel=>exact⟨X++d,LL.erase x,Y ⟨t,hk9,aez,OA,afy,l,Dv⟩⟩
        case measure=>rw[HM.out,t.J3];simp
section
variable(w:ο)
def Ad:Z9 prog 121 #[.nilIface] w λe w'=>e=.returned (Δ Θ 0)/\Below w w w':=by
 have a:∀w:ο,(Instr.typeAssert .nilIface 20 174 ZB).run prog w=.ok (.tuple #[.nilIface,.bool ξ]) w:=λw=>by kernel_rfl
 go_enter (fU func121 rfl),ntmps121
 go_wp2
 go_ret;exact⟨rfl,Below.refl _ _⟩
def Ae(p x w)(c:w p=U x)(d:w.frozen? p=ξ):
 CallsD prog 124 #[ZJ (U p)] .returning w λe g w'=>e=.returned (.tuple #[])/\g=.returning/\∃w1,Below w w w1/\w'=w1.setCell p (Δ Θ 0):=by
 have b:=ZF c;refine Zp (fU func124 rfl) rfl λa cs f=>?_;apply Y6;simp[Yp,go_sem,YL,f,ntmps124,Zd];refine(Ad w).mono ?_;rintro e w1 ⟨rfl,hb⟩;have i:=(hb.cell b).trans c;have h:=(hb.frozen b).trans d;cases a
 simp_all [go_sem,YV,ZE,results124]
 exact⟨w1,hb,rfl⟩
def Rz(v h)(hv:tH w v h)(X:Ny h)(ho:PZ h):
 Z9 prog 64 #[v] w λe w'=>(∃r,e=.returned (.tuple #[r,Δ Θ 0])/\tH w' r (lu h))/\Below w w w':=by
 have hmf:∀(fn:Fn) (first cap:Array υ) (w:ο),(Instr.makeFunc fn first cap).run prog w=.ok (.func fn first cap) w:=λ_ _ _ _=>rfl;have HV:=Y hv;have HK:=Y X;have HO:=Y ho;obtain⟨c,r,wi,d,rfl,⟨ac,mc,rfl,_⟩,⟨ar,mr,rfl,_⟩,⟨aw,mw,rfl,_⟩,⟨ad,md,rfl,_⟩⟩:=hv;clear X ho
 go_enter_defers (fU func64 rfl),ntmps64
 go_wp2_with fail
 have L:Below w w (((w.alloc<|Ψ #[.slice ac h.cells.length mc,.slice ar h.roots.length mr,.slice aw h.aA.length mw,.slice ad h.done.length md] 56).alloc<|Ψ #[(),(),(),()] 56).alloc<|Ψ #[Δ Θ 0] 34):=((af w _).alloc (by simp) _).alloc (by simp;omega) _;have hz3:(((w.alloc<|Ψ #[.slice ac h.cells.length mc,.slice ar h.roots.length mr,.slice aw h.aA.length mw,.slice ad h.done.length md] 56).alloc<|Ψ #[(),(),(),()] 56).alloc<|Ψ #[Δ Θ 0] 34).heap.size=w.heap.size+1+1+1:=by simp
 have x1:(((w.alloc<|Ψ #[.slice ac h.cells.length mc,.slice ar h.roots.length mr,.slice aw h.aA.length mw,.slice ad h.done.length md] 56).alloc<|Ψ #[(),(),(),()] 56).alloc<|Ψ #[Δ Θ 0] 34).heap[w.heap.size+1]?=U (Ψ #[(),(),(),()] 56 (0,0)):=by rw[Below.heap_alloc _ _ _ (by simp)];have:=Γ (w.alloc<|Ψ #[.slice ac h.cells.length mc,.slice ar h.roots.length mr,.slice aw h.aA.length mw,.slice ad h.done.length md] 56)<|Ψ #[(),(),(),()] 56;simpa using this
 have x2:(((w.alloc<|Ψ #[.slice ac h.cells.length mc,.slice ar h.roots.length mr,.slice aw h.aA.length mw,.slice ad h.done.length md] 56).alloc<|Ψ #[(),(),(),()] 56).alloc<|Ψ #[Δ Θ 0] 34).heap[w.heap.size+1+1]?=U (Ψ #[Δ Θ 0] 34 (0,0)):=by have:=Γ ((w.alloc<|Ψ #[.slice ac h.cells.length mc,.slice ar h.roots.length mr,.slice aw h.aA.length mw,.slice ad h.done.length md] 56).alloc<|Ψ #[(),(),(),()] 56)<|Ψ #[Δ Θ 0] 34;simpa using this
 generalize ((w.alloc _).alloc _).alloc _=A at L hz3 x1 x2⊢;have HX:=Y<|Ξ x1 x2;clear x1 x2;refine(PP _ _ h (HV.out.below L) HK.out).mono ?_;rintro e w4 ⟨⟨b,rfl,T⟩,hb4⟩;have Ny:=Y T;clear T
 go_wp2_with fail
 refine(BZ w4 A b h Ny.out hb4.size HO.out).mono ?_;rintro e w5 ⟨rfl,⟨c5,vw5,vd5,r5,z,Oz,u,F,O,P,W,K,-⟩,hb5⟩;have a:=hb4.trans hb5;have hcr:(lu h).roots=h.roots:=rfl;obtain⟨N,G,rfl,_⟩:=aF P;obtain⟨o,t,rfl,_⟩:=aF K;obtain⟨q,l,rfl,_⟩:=aF F;obtain⟨s,m,rfl,_⟩:=aF O;generalize hH:lu h=H at F O P W K hcr⊢;have hl5:z.length=z.length:=rfl;have HP5:=Y<|Ξ P<|Ξ W<|Ξ K<|Ξ F O;have g0:w5 b=U (.slice N z.length G):=by simp[Z,u]
 have g1:w5 (b,1)=U (.slice o H.roots.length t):=by simp[Z,u,hH]
 have g2:w5 (b,2)=U (.slice q H.aA.length l):=by simp[Z,u,hH]
 have g3:w5 (b,3)=U (.slice s H.done.length m):=by simp[Z,u,hH]
 have HH:=Y hH;clear hH hcr hl5;have D:=(a.block (w.heap.size+1)<|by omega).trans HX.out.1;have y2:=(a.block (w.heap.size+1+1)<|by omega).trans HX.out.2;have HY:=Y<|Ξ D y2;have z0:w5 (w.heap.size+1:Nat)=U ():=by simp[Z,D]
 have z1:w5 (w.heap.size+1,1)=U ():=by simp[Z,D]
 have z2:w5 (w.heap.size+1,2)=U ():=by simp[Z,D]
 have z3:w5 (w.heap.size+1,3)=U ():=by simp[Z,D]
 have ze:w5 (w.heap.size+1+1:Nat)=U (Δ Θ 0):=by simp[Z,y2]
 have f0:w5.frozen? (w.heap.size+1:Nat)=ξ:=by simp[φ,D]
 have f1:w5.frozen? (w.heap.size+1,1)=ξ:=by simp[φ,D]
 have f2:w5.frozen? (w.heap.size+1,2)=ξ:=by simp[φ,D]
 have f3:w5.frozen? (w.heap.size+1,3)=ξ:=by simp[φ,D]
 have fe:w5.frozen? (w.heap.size+1+1:Nat)=ξ:=by simp[φ,y2]
 have HB:=Y<|Ξ L<|Ξ a<|Ξ hz3 Oz;clear L hb4 hb5 a D y2 F O P W K u Oz
 go_wp2_with fail
 have e6:=aB (aB (aB (aB HY.out.1 0<|.slice N z.length G) 1<|.slice o H.roots.length t) 2<|.slice q H.aA.length l) 3<|.slice s H.done.length m;have e7:((((w5.setCell (w.heap.size+1:Nat)<|.slice N z.length G).setCell (w.heap.size+1,1)<|.slice o H.roots.length t).setCell (w.heap.size+1,2)<|.slice q H.aA.length l).setCell (w.heap.size+1,3)<|.slice s H.done.length m).heap[w.heap.size+1+1]?=U (Ψ #[Δ Θ 0] 34 (0,0)):=by rw[aq (by omega),aq<|by omega,aq<|by omega,aq<|by omega];exact HY.out.2
 have C:∀k,A.heap.size<=k->((((w5.setCell (w.heap.size+1:Nat)<|.slice N z.length G).setCell (w.heap.size+1,1)<|.slice o H.roots.length t).setCell (w.heap.size+1,2)<|.slice q H.aA.length l).setCell (w.heap.size+1,3)<|.slice s H.done.length m).heap[k]?=w5.heap[k]?:=λk X=>by rw[aq (by omega),aq<|by omega,aq<|by omega,aq<|by omega]
 have hb6:Below w w5 ((((w5.setCell (w.heap.size+1:Nat)<|.slice N z.length G).setCell (w.heap.size+1,1)<|.slice o H.roots.length t).setCell (w.heap.size+1,2)<|.slice q H.aA.length l).setCell (w.heap.size+1,3)<|.slice s H.done.length m):=((((Below.refl w w5).setCell (p:=⟨w.heap.size+1,0,M⟩) (by simp) _).setCell (p:=⟨w.heap.size+1,1,M⟩) (by simp) _).setCell (p:=⟨w.heap.size+1,2,M⟩) (by simp) _).setCell (p:=⟨w.heap.size+1,3,M⟩) (by simp) _
 generalize ((((w5.setCell (w.heap.size+1:Nat)<|.slice N z.length G).setCell (w.heap.size+1,1)<|.slice o H.roots.length t).setCell (w.heap.size+1,2)<|.slice q H.aA.length l).setCell (w.heap.size+1,3)<|.slice s H.done.length m)=w6 at e6 e7 hb6 C⊢;have k2:(w6.setCell (w.heap.size+1+1:Nat)<|Δ Θ 0).heap[w.heap.size+1+1]?=U (Ψ #[Δ Θ 0] 34 (0,0)):=by rw[aB e7];rfl
 have k1:(w6.setCell (w.heap.size+1+1:Nat)<|Δ Θ 0).heap[w.heap.size+1]?=U (Ψ #[.slice N z.length G,.slice o H.roots.length t,.slice q H.aA.length l,.slice s H.done.length m] 56 (0,0)):=by rw[aq (by omega),e6];rfl
 have Q:=hb6.setCell (p:=⟨w.heap.size+1+1,0,M⟩) (by simp;omega)<|Δ Θ 0;have B:∀k,A.heap.size<=k->(w6.setCell (w.heap.size+1+1:Nat)<|Δ Θ 0).heap[k]?=w5.heap[k]?:=λk X=>by rw[aq (by omega)];exact C k X
 generalize (w6.setCell (w.heap.size+1+1:Nat)<|Δ Θ 0)=w7 at k1 k2 Q B⊢;clear e6 e7 hb6 C;refine leaves_cons (f:=124) (args:=#[.pointer (w.heap.size+1+1:Nat)]) (by simp) (by simp[go_sem]) ?_;refine(Ae (w.heap.size+1+1:Nat) (Δ Θ 0) _ (by simp[Z,k2])<|by simp[φ,k2]).mono ?_;rintro e u' w'' ⟨rfl,rfl,w9,J,rfl⟩;have hl1:=(Ω.1 k1).1;have hl2:=(Ω.1 k2).1;have n2:=(J.block _ hl2).trans k2;have n1:=(J.block _ hl1).trans k1;have m2:(w9.setCell (w.heap.size+1+1:Nat)<|Δ Θ 0).heap[w.heap.size+1+1]?=U (Ψ #[Δ Θ 0] 34 (0,0)):=by rw[aB n2];rfl
 have m1:(w9.setCell (w.heap.size+1+1:Nat)<|Δ Θ 0).heap[w.heap.size+1]?=U (Ψ #[.slice N z.length G,.slice o H.roots.length t,.slice q H.aA.length l,.slice s H.done.length m] 56 (0,0)):=by rw[aq (by omega)];exact n1
 have a:=HB.out.2.1;have hw5:w.heap.size<=w7:=by have:=a.size;have:=Q.size;omega
 have hb8:=J.mono hw5;have S:=(Q.trans hb8).setCell (p:=⟨w.heap.size+1+1,0,M⟩) (by simp;omega)<|Δ Θ 0;have y:∀k,A.heap.size<=k->k<w5->(w9.setCell (w.heap.size+1+1:Nat)<|Δ Θ 0).heap[k]?=w5.heap[k]?:=λk X hk2=>by rw[aq (by omega),J.block k (by have:=Q.size;omega)];exact B k X
 generalize (w9.setCell (w.heap.size+1+1:Nat)<|Δ Θ 0)=j at m1 m2 S y⊢;have r0:j (w.heap.size+1:Nat)=U (.slice N z.length G):=by simp[Z,m1]
 have r1:j (w.heap.size+1,1)=U (.slice o H.roots.length t):=by simp[Z,m1]
 have r2:j (w.heap.size+1,2)=U (.slice q H.aA.length l):=by simp[Z,m1]
 have r3:j (w.heap.size+1,3)=U (.slice s H.done.length m):=by simp[Z,m1]
 have r4:j (w.heap.size+1+1:Nat)=U (Δ Θ 0):=by simp[Z,m2]
 simp[Leaves,settle,ZE,results64,go_sem,r0,r1,r2,r3,r4];obtain⟨p53,E,p55,q1,q2⟩:=HP5.out;have wl:∀{e:ZO} {size n:Nat} {v:υ} {xs:List υ},w5.ownsRow A e size v n xs->j.ownsRow A e size v n xs:=λho=>aS ho λg hg=>by obtain⟨h1,h2⟩:=ho.lt g hg;exact y g h1 h2
 have t53:OC j A _ z:=wl p53;have t54:df j A z _:=⟨E.1,λi k x k' vs e1 e2=>⟨(E.2.1 i k x k' vs e1 e2).1,wl (E.2.1 i k x k' vs e1 e2).2⟩,E.2.2⟩;have t55:OV j A _ H.roots:=wl p55;have t51:OI j A _ H.aA:=wl q1;have t52:OI j A _ H.done:=wl q2;rw[HH.out];exact⟨⟨_,_,_,_,rfl,t53.reads t54.hold,t55.reads,t51.reads,t52.reads⟩,HB.out.1.trans<|(a.mono HB.out.1.size).trans S⟩
end
section
variable{w:ο}
structure Jn(g:GH):Prop where
 small:Small g
 how:Ny (plain g)
 afA:PZ (plain g)
 res:I' (Md.lu (plain g))
def RC.less{B B' v l}(h:RC w B v l)(d:B'<=B):RC w B' v l:=by
 obtain⟨a,m,rfl,b,c,h3,h⟩:=h;refine⟨a,m,rfl,b,c,h3,λh0=>?_⟩
 grind
def dm.less{w B B' b g}(h:dm w B b g)(a:B'<=B):dm w B' b g:=by obtain⟨n,o,m,row,c,hb,f,e,h3,h4⟩:=h;exact⟨n,o,m,row,Nat.le_trans a c,hb,f.less a,e.less a,eV h3 a,λk d=>eV (h4.1 k d) a,h4.2⟩
def dm.Jo{B b g}(h:dm w B b g):∃a m,w (b,1)=U (.slice a g.old.length m):=by obtain⟨n,o,m,row,i,hb,f,⟨d,e,c,_⟩,_⟩:=h;rw[aT]at c;refine⟨d,e,?_⟩;rw[<-c];simp[Z,hb]
def tH.form{v h}(f:tH w v h):∃a mc ar e aw b ad md,v=.agg #[.slice a h.cells.length mc,.slice ar h.roots.length e,.slice aw h.aA.length b,.slice ad h.done.length md]:=by obtain⟨c,r,g,d,rfl,⟨a,mc,rfl,_⟩,⟨ar,e,rfl,_⟩,⟨aw,b,rfl,_⟩,⟨ad,md,rfl,_⟩⟩:=f;exact⟨_,_,_,_,_,_,_,_,rfl⟩
def OD(w B b g)(u:dm w B b g)(hs:Jn g):
 Z9 prog 190 #[.pointer b] w λe w'=>(∃Q,e=.returned (.pointer (Q:Nat))/\dm w' w Q (Md.iF g))/\Below w w w':=by
 have X:=Y u;have v:=Y hs;obtain⟨hBb,z,_⟩:=u.obj;obtain⟨ao,W,q⟩:=u.Jo;have C:g.old.length<=1000000:=by have:=hs.small.bw;omega
 have K:((0:Int) !=0)=ξ:=rfl;clear u hs
 go_enter (fU func190 rfl),ntmps190
 go_wp2_with fail
 refine(DB _ b g X.out.reads v.out.small).mono ?_;rintro e w1 ⟨⟨r1,rfl,N⟩,n⟩;have P:=Y N;clear N
 go_wp2_with fail
 refine(Rz _ r1 (plain g) P.out v.out.how v.out.afA).mono ?_;rintro e d ⟨⟨r2,rfl,A⟩,h⟩;have l:=n.trans<|h.mono n.size;have F:=Y A;obtain⟨j,mc,ar,m,aw,k,ad,i,rfl⟩:=A.form;clear A n h P;generalize S:Md.lu (plain g)=a at F⊢;have T:=Y S;clear S
 go_wp2_with fail
 ((with_reducible refine(cd _ _).mono ?_))
 rintro e w' ⟨rfl,rfl⟩
 go_wp2_with fail
 have o:=af d<|Ψ #[.slice j a.cells.length mc,.slice ar a.roots.length m,.slice aw a.aA.length k,.slice ad a.done.length i] 56;have t:(d.alloc<|Ψ #[.slice j a.cells.length mc,.slice ar a.roots.length m,.slice aw a.aA.length k,.slice ad a.done.length i] 56) d.heap.size=U (.slice j a.cells.length mc):=by go_simp
 have q1:(d.alloc<|Ψ #[.slice j a.cells.length mc,.slice ar a.roots.length m,.slice aw a.aA.length k,.slice ad a.done.length i] 56) (d.heap.size,1)=U (.slice ar a.roots.length m):=by go_simp
 have H:(d.alloc<|Ψ #[.slice j a.cells.length mc,.slice ar a.roots.length m,.slice aw a.aA.length k,.slice ad a.done.length i] 56) (d.heap.size,2)=U (.slice aw a.aA.length k):=by go_simp
 have D:(d.alloc<|Ψ #[.slice j a.cells.length mc,.slice ar a.roots.length m,.slice aw a.aA.length k,.slice ad a.done.length i] 56) (d.heap.size,3)=U (.slice ad a.done.length i):=by go_simp
 have c:=l.trans<|o.mono l.size;have L:=Y<|F.out.below o;generalize d.alloc _=J at t q1 H D c L⊢;have O:=cG c q z;clear F l o q;generalize d.heap.size=y at t q1 H D⊢;have f:=az t
 go_region_held3 (λx=>x y=U (.slice j a.cells.length mc)/\x (y,1)=U (.slice ar a.roots.length m)/\x (y,2)=U (.slice aw a.aA.length k)/\x (y,3)=U (.slice ad a.done.length i)/\x (b,1)=U (.slice ao g.old.length W))
  ((refine⟨?_,?_,?_,?_,?_⟩<;>(repeat (first|with_reducible assumption|with_reducible refine dO ?_))))
  ((go_at_call 226;(with_reducible refine(aes _ _ a g.old.length (L.out.below (Below.refl _ _).drew) (T.out▸v.out.res) C).mono ?_);rintro e w5 ⟨⟨b5,rfl,r⟩,s⟩;have G:=Y r;clear r;have E:Below w w w5:=c.trans<|((Below.refl _ _).drew.trans s).mono c.size;have p:Below J J w5:=(Below.refl _ _).drew.trans s;have p0:=cG p t f;have p1:=cG p q1 f;have p2:=cG p H f;have p3:=cG p D f;have p4:=cG p O<|az O))
 go_wp2_with fail
 go_ret;refine⟨⟨b5,rfl,?_⟩,E⟩;have:=G.out.less c.size;rw[<-T.out]at this;exact this
end
def cR.less{w B B' b g J}(h:cR w B b g J)(a:B'<=B):cR w B' b g J:=by obtain⟨n,o,m,row,c,hb,f,e,h3,h4,h5⟩:=h;exact⟨n,o,m,row,Nat.le_trans a c,hb,f.less a,e.less a,eV h3 a,⟨λk d=>eV (h4.1 k d) a,h4.2⟩,h5⟩
def dm.six{w B b g c}(h:dm w B b g)(hc:w.heap[b]?=U (.cells c 114 (0,0))):c.size=6:=by
 obtain⟨n,o,m,row,a,hb,_⟩:=h;rw[hb]at hc;cases hc
 rfl
def Xx{w:ο}{b:Nat}{c}(h:w.heap[b]?=U (.cells c 114 (0,0)))(hc:c.size=6):∃a e g f x4 i,w b=U a/\w (b,1)=U e/\w (b,2)=U g/\w (b,3)=U f/\w (b,4)=U x4/\w (b,5)=U i:=by
 obtain⟨l⟩:=c;have d:=hc;obtain _|⟨a,_|⟨e,_|⟨g,_|⟨f,_|⟨x4,_|⟨i,_|⟨x6,l⟩⟩⟩⟩⟩⟩⟩:=l
 all_goals first
  |(exfalso;simp at d;done)
  |exact⟨a,e,g,f,x4,i,by simp[Z,h],by simp[Z,h],by simp[Z,h],by simp[Z,h],by simp[Z,h],by simp[Z,h]⟩
def sP(w:ο)(B b g){J:Nat->Prop}(hJ:∀j,J j->j<w)(hg:cR w B b g J)(X:Jn g)(hp:im (Md.iF g))(hB:B<=w):
 Z9 prog 144 #[.pointer b,.iface 120<|.agg #[]] w (cq J B b g .major w):=by
 have S:=Y hg;have r:=Y hp;have HW:=Y X;obtain⟨ajD,H,c0',s⟩:=hg.own.obj;have hbx:=H;have K:=Y s;clear hg hp X s;have hta:=IW;have hmp:=IZ
 go_enter (fU func144 rfl),ntmps144
 go_wp2_with fail
 clear hta;have q:=af w<|Ψ #[] 120;refine(OD _ B b g (S.out.own.below q) HW.out).mono ?_;rintro e w2 ⟨⟨u,rfl,l⟩,N⟩;have arY:=l.obj.1;replace l:=l.less q.size;have T:=Y l;have z:=q.trans<|N.mono q.size;clear l N
 go_wp2_with fail
 clear hmp;refine(zP _ w u (Md.iF g) T.out r.out).mono ?_;rintro e w3 ⟨⟨bs,bm,so,rfl,hs⟩,O⟩;have arZ:=hs.1;obtain⟨order,h⟩:∃o,o=bV (Md.iF g) co []:=⟨_,rfl⟩;rw[<-h]at hs;have y:c9 (Md.iF g) co order:=by rw[h];exact c9.bV (.inr rfl) r.out.cells r.out.cJ (λv hv=>by cases hv)
 have a:=z.trans<|O.mono z.size;obtain⟨G,Q,hso,hsm,aek,_⟩:=aF hs.2.2.2.1;have P:w3 bs=U (.slice G order.length Q):=by simp[Z,hs.2.2.1,hso]
 have hol:=y.len;have hn1:=r.out.news;have hn2:=r.out.bw;have HO:=Y h;have HK:=Y y;have HS:=Y hs;have L:=(cR.Kk (J:=J) T.out hJ).below O;have HG3:=Y L;clear h y hs hso L;by_cases x:32<order.length
 ·have A:(32:Int)<(order.length:Int):=by omega
  go_wp2_with fail
  go_ret2
  have hm:Md.collect .major g=M:=by rw[mI,<-HO.out,if_pos x]
  unfold cq;rw[hm];exact⟨rfl,S.out.below a,a.mono hB,qb.bK a,λj _ n=>a.block j n⟩
 ·have A:¬(32:Int)<(order.length:Int):=by omega
  go_wp2_with fail
  refine(BM w3 w u _ bs bm so (Md.iF g) co order 0 HG3.out HS.out HK.out (.inr rfl) a.size (by omega) (λc hc=>by have:=r.out.eT c hc;omega) (by have:=r.out.roots;omega) (by have:=r.out.aA;omega) (by have:=r.out.done;omega)).mono ?_;rintro e w4 ⟨rfl,hg4,E,F,hfr,W⟩;have hcs:w4 bs=U (.slice G order.length Q):=by have:=P;simp only[Z]at this⊢;rw[F];exact this
  have t:=a.trans E;have m:=(t.block b hbx).trans K.out;have f:=ajD;obtain⟨a0,n0,m0,a1,n1,m1,a2,n2,m2,a3,n3,m3,a4,n4,m4,a5,n5,m5,C,k⟩:=(hg4.less hB).copy (λj hj=>S.out.ne hj) m f;have e0:w4 u=U (.slice a0 n0 m0):=by simp[Z,C]
  have e1:w4 (u,1)=U (.slice a1 n1 m1):=by simp[Z,C]
  have e2:w4 (u,2)=U (.slice a2 n2 m2):=by simp[Z,C]
  have e3:w4 (u,3)=U (.slice a3 n3 m3):=by simp[Z,C]
  have e4:w4 (u,4)=U (.slice a4 n4 m4):=by simp[Z,C]
  have e5:w4 (u,5)=U (.slice a5 n5 m5):=by simp[Z,C]
  have d:∀i,w4.frozen? ⟨b,i,M⟩=ξ:=λi=>by simp[φ,m]
  have D:=S.out.own.six K.out;obtain⟨x0,x1,x2,x3,x4,x5,y0,y1,y2,y3,y4,y5⟩:=Xx m D;have f0:=d 0;have f1:=d 1;have f2:=d 2;have f3:=d 3;have f4:=d 4;have f5:=d 5;have hne:bs≠b:=by have:=z.size;omega
  have HC:=Y k;have HFR:=Y<|(qb.bK a).trans hfr;have HFJ:=Y W;clear hfr W;have H2:=Y<|Ξ m D;have H4:=Y E;clear d k C m D t hg4 E F P
  go_wp2_with fail
  go_ret2
  obtain⟨k1,k2⟩:=PO (v0:=.slice a0 n0 m0) (v1:=.slice a1 n1 m1) (v2:=.slice a2 n2 m2) (v3:=.slice a3 n3 m3) (v4:=.slice a4 n4 m4) (v5:=.slice a5 n5 m5) H2.out.1 H2.out.2;have hm:Md.collect .major g=U (order.length,Md.move (Md.iF g) order 0):=by rw[mI,<-HO.out,if_neg x]
  unfold cq;rw[hm];exact⟨rfl,HC.out _ k1 k2,(a.mono hB).trans<|((((((H4.out.mono hB).setCell (p:=⟨b,0,M⟩) f _).setCell (p:=⟨b,1,M⟩) f _).setCell (p:=⟨b,2,M⟩) f _).setCell (p:=⟨b,3,M⟩) f _).setCell (p:=⟨b,4,M⟩) f _).setCell (p:=⟨b,5,M⟩) f _,HFR.out.trans<|qb.IT H2.out.1 k2,λj hj n=>(k2 j<|S.out.ne hj).trans<|(HFJ.out j hj<|Nat.lt_of_lt_of_le n a.size).trans<|a.block j n⟩
section
def pw(br b:Nat)(r:Md.RS):Array υ:=#[.pointer b,r.minors,r.uJ,r.fk,r.dA,.func (.func 153) #[.pointer br] #[]]
def bD(w:ο)(B br b:Nat)(r:Md.RS)(J:Nat->Prop):Prop:=B<=br/\w.heap[br]?=U (.cells (pw br b r) 131 (0,0))/\cR w B b r.g J/\∀j,J j->j≠br
def tc(J:Nat->Prop)(w w':ο):Prop:=∀j,J j->j<w->w'.heap[j]?=w.heap[j]?
def Qx(w v g)(q:GV w v g)(t:eC g)(x:g.marked.length<=1000000)(hz:cN g=0){J:Nat->Prop}(p:∀j,J j->j<w):
 Z9 prog 93 #[v] w λe w'=>(∃l b,e=.returned (.pointer (l:Nat))/\bD w' w l b ⟨g,0,0,0,0⟩ J)/\Below w w w':=by
 have s:∀(fn:Fn) (first cap:Array υ) (w:ο),(Instr.makeFunc fn first cap).run prog w=.ok (.func fn first cap) w:=λ_ _ _ _=>rfl;have HV:=Y q;obtain⟨n,o,r,i,d,m,rfl,A,z,h3,h4,h5,B⟩:=q
 go_enter (fU func93 rfl),ntmps93
 go_wp2_with fail
 have c:=af w<|Ψ #[n,o,r,i,d,m] 26;refine(sw _ (.agg #[n,o,r,i,d,m]) g (HV.out.below c) t hz x).mono ?_;rintro e h ⟨⟨b,rfl,k⟩,f⟩;have u:=Y<|k.less c.size;have a:=c.trans<|f.mono c.size;clear k f
 go_wp2_with fail
 go_ret;exact⟨⟨h.heap.size,b,rfl,a.size,Γ h _,(cR.Kk u.out p).below<|af h _,λj y e=>by have:=p j y;have:=a.size;omega⟩,a.alloc a.size _⟩
section
variable{w w':ο}{B br b:Nat}{r:Md.RS}{J:Nat->Prop}
def bD.below(h:bD w B br b r J)(a:Below w w w'):bD w' B br b r J:=⟨h.1,(a.block br (Ω.1 h.2.1).1).trans h.2.1,h.2.2.1.below a,h.2.2.2⟩
def bD.ptr(h:bD w B br b r J):w br=U (.pointer b)/\w (br,5)=U (.func (.func 153) #[.pointer br] #[])/\br<w:=by have:=h.2.1;refine⟨by simp[Z,this,pw],by simp[Z,this,pw],(Ω.1 this).1⟩
end
def sQ(w B k b r){J}(n:Nat)(p q)(j:bD w B k b r J)(l:r.g.roots[n]?=U (p,q))(K:r.g.roots.length<=1000000):
 Z9 prog 200 #[.pointer k,n] w λe w'=>e=.returned (.agg #[p,q])/\Below w w w':=by
 obtain⟨c0,_,z⟩:=j.ptr;obtain⟨N,o,H,G,d,m,_,_,c2,_,_,_,_,_,h3,_⟩:=j.2.2.1.own.reads;have hb:=az c2;have A:=(ψ.1 l).1;obtain⟨a,L,rfl,y,x,s⟩:=h3;obtain⟨h,i,rfl,f,c⟩:=s (by omega);obtain⟨u,D⟩:=c n p q l;have C:(w.alloc<|Ψ #[Δ Θ 0,Δ Θ 0] 50) (h,i+n*2)=U (Δ Θ p):=by rw[(af w _).cell (p:=⟨h,i+n*2,M⟩) f];exact u
 have E:(w.alloc<|Ψ #[Δ Θ 0,Δ Θ 0] 50) (h,i+n*2+1)=U (Δ Θ q):=by rw[(af w _).cell (p:=⟨h,i+n*2+1,M⟩) f];exact D
 have F:((n:Int)<0)=False:=by simp
 have t:¬((r.g.roots.length:Int)<=(n:Int)):=by omega
 have e1:decide ((r.g.roots.length:Int)<=(n:Int))=ξ:=by simp;omega
 clear c s j
 go_enter (fU func200 rfl),ntmps200
 go_wp2_with fail
 ((with_reducible refine(cd _ _).mono ?_))
 rintro e w' ⟨rfl,rfl⟩
 go_wp2_with fail
 refine ZT (v:=.agg #[p,q]) (by simp[ZE,results200,go_sem]) rfl ⟨rfl,?_⟩;exact(Below.refl _ _).alloc .refl _
def OV.block{w B gk v l}(h:OV w B v l)(a:v.ownBlock=U gk):∃b,w.heap[gk]?=U (.cells b 50 (0,0)):=by
 obtain⟨e1,_⟩|⟨f,d,e,e1,_,c,_⟩:=h.2
 rw[e1]at a;cases a;rw[e1]at a;cases a;exact⟨_,c⟩
def cR.upd{w w' J B b gk g g' n o m row}(G:B<=b)(hb:w.heap[b]?=U (Ψ #[n,o,row (0,0),row (0,1),row (0,2),m] 114 (0,0)))(E:RC w B n (cellsOf row 3 g.new))(C:RC w B o (cellsOf row 4 g.old))(h3:OI w B m g.marked)(h4:kD w B row g)(h5:∀j,J j->j≠b/\∀k,IsKey g k->(row k).ownBlock≠U j){k}(u:IsKey g k)(p:(row k).ownBlock=U gk)(d:∀j,j≠gk->w'.heap[j]?=w.heap[j]?)(q:OV w' B (row k) (bd g' k))(a:∀k',IsKey g' k'->IsKey g k')(l:∀k',k'≠k->IsKey g k'->bd g' k'=bd g k')(y:cellsOf row 3 g'.new=cellsOf row 3 g.new)(x:cellsOf row 4 g'.old=cellsOf row 4 g.old)(F:g'.marked=g.marked):cR w' B b g' J:=by
 obtain⟨r,f⟩:=(h4.1 k u).block p;have v:∀{j:Nat} {c:Array υ} {t:ZO} {fr:Nat×Nat},w.heap[j]?=U (.cells c t fr) ->t≠50->w'.heap[j]?=w.heap[j]?:=λ{j c t fr} s D=>d j λe=>by
  subst e;rw[f]at s;cases s
  exact D rfl
 refine⟨n,o,m,row,G,(v hb<|by decide).trans hb,?_,?_,?_,⟨?_,?_⟩,λj s=>⟨(h5 j s).1,λk u=>(h5 j s).2 k<|a k u⟩⟩;rw[y];exact E.below λg r h=>v h (by decide);rw[x];exact C.below λg r h=>v h (by decide);rw[F];exact aS h3 λg h=>d g λe=>by subst e;exact cF h3 f (by decide) h
 intro k' i;by_cases e:k'=k
 subst e;exact q;rw[l k' e (a k' i)];exact aS (h4.1 k'<|a k' i) λg h=>d g λe2=>by subst e2;exact h4.2 k' k (a k' i) u e g h p
 exactλz A e1 e2=>h4.2 z A (a z e1)<|a A e2
def cR.el{w B b g n J}(h:cR w B b g J)(A:n<g.roots.length)(x):
 ∃gr m p q,w (b,2)=U (.slice (gr:Nat) g.roots.length m)/\w ((gr:Nat),n*2)=U (Δ Θ p)/\w ((gr:Nat),n*2+1)=U (Δ Θ q)/\(∀i,w.frozen? ⟨gr,i,M⟩=ξ)/\B<=gr/\g.roots.length<=m/\m<=maxLen/\(∃v,w.heap[gr]?=U (.cells v 50 (0,0)))/\(∀j,J j->j≠gr)/\
  cR ((w.setCell ((gr:Nat),n*2)<|Δ Θ x.1).setCell ((gr:Nat),n*2+1)<|Δ Θ x.2) B b {g with roots:=g.roots.set n x} J:=by
 obtain⟨O,o,m,row,N,hb,E,C,h3,h4,h5⟩:=h;have h0:=h4.roots.1;obtain⟨a,F,l,t,u,G⟩:=aF h0;obtain⟨gr,rfl,_,_,d,_⟩:=G (by omega);have f:IsKey g (0,0):=.inl ⟨rfl,by decide,by decide⟩;rw[l]at h0 d;obtain⟨p,q,s⟩:=ep A;obtain⟨D,H,L,K,_⟩:=h0.at_ s;refine⟨gr,F,p,q,by simp[Z,hb,l],D,H,L,K,t,u,h0.block d,λj y e=>(h5 j y).2 _ f (by rw[l,e];exact d),?_⟩;refine cR.upd (gk:=gr) (k:=(0,0)) N hb E C h3 h4 h5 f (by rw[l];exact d) (λj y=>cr y) ?_ ?_ ?_ rfl rfl rfl;rw[l];exact h0.set A;rintro⟨a,c⟩ h;simpa[IsKey]using h;rintro⟨a,c⟩ r _;simp only[bd,cellAt];by_cases z:a=0
 have:c≠0:=λe=>r (by rw[z,e]);simp[z,this];simp[z]
def bD.el{w B c b r J}{n gr:Nat}{x a}(h:bD w B c b r J)(f:w.heap[gr]?=U (.cells a 50 (0,0)))(d:cR ((w.setCell (gr,n*2)<|Δ Θ x.1).setCell (gr,n*2+1)<|Δ Θ x.2) B b {r.g with roots:=r.g.roots.set n x} J):
 bD ((w.setCell (gr,n*2)<|Δ Θ x.1).setCell (gr,n*2+1)<|Δ Θ x.2) B c b (Md.el r n x) J:=by
 refine⟨h.1,?_,by simpa[Md.el]using d,h.2.2.2⟩;rw[cr (λe=>by have:=h.2.1;rw[e,f]at this;cases this)];exact h.2.1
def afB(w B l b r){J}(n)(p q:Int)(F:bD w B l b r J)(N:n<r.g.roots.length)(E:B<=w):
 Z9 prog 201 #[ZJ (U ⟨l,0,M⟩),n,.agg #[p,q]] w λe w'=>e=.returned (.tuple #[])/\bD w' B l b (Md.el r n (p,q)) J/\Below B w w'/\tc J w w':=by
 have h:=af w<|Ψ #[p,q] 50;have d:=F.below h;obtain⟨c0,_,X⟩:=d.ptr;obtain⟨gr,m,p0,q0,c2,Q,f2,G,s,T,W,⟨cur,a⟩,o,L⟩:=d.2.2.1.el (x:=(p,q)) N;have K:(w.alloc<|Ψ #[p,q] 50).cell? ⟨w.heap.size,0,M⟩=U (Δ Θ p):=by go_simp
 have O:(w.alloc<|Ψ #[p,q] 50).cell? ⟨w.heap.size,1,M⟩=U (Δ Θ q):=by go_simp
 have HO:=Y<|Ξ d<|Ξ a L;have g0:=G<|n*2;have g1:=G<|n*2+1;have t:=h.mono E;have P:=Y o;have k:=Y h;clear o;have C:¬gr=l:=λe=>by have:=d.2.1;rw[<-e,a]at this;cases this
 have A:¬gr=b:=λe=>by obtain⟨_,_,c,hc⟩:=d.2.2.1.own.obj;rw[<-e,a]at hc;cases hc
 have v:¬gr=w.heap.size:=by
  obtain⟨gr0,m0,_,_,y,S,_⟩:=F.2.2.1.el (x:=(p,q)) N;have e:=(h.cell (p:=⟨b,2,M⟩)<|az y).trans y;rw[c2]at e;injection e with e
  injection e with e _ _
  injection e with e
  injection e with e _ _
  have:=az S;omega
 clear d a L G F
 go_enter (fU func201 rfl),ntmps201
 go_wp2_with fail
 generalize w.alloc _=H at c0 c2 Q f2 g0 g1 K O HO t k⊢;obtain⟨bv,f⟩:∃x,x=w.heap.size:=⟨_,rfl⟩;rw[<-f]at K O v k⊢;replace f:=Y f
 go_region_held3 (λx=>x.cell? ⟨l,0,M⟩=U (ZJ<|U ⟨b,0,M⟩)/\x.cell? ⟨b,2,M⟩=U (Z8 (U ⟨gr,0,M⟩) r.g.roots.length m)/\x.cell? ⟨bv,0,M⟩=U (Δ Θ p)/\x.cell? ⟨bv,1,M⟩=U (Δ Θ q)) ((refine⟨?_,?_,?_,?_⟩<;>(repeat (first|with_reducible assumption|with_reducible refine dO ?_|with_reducible refine da C ?_|with_reducible refine da A ?_|with_reducible refine da v ?_)))) (fail)
 go_wp2_with fail
 have i:bD ((H.setCell ⟨gr,n*2,M⟩<|Δ Θ p).setCell ⟨gr,n*2+1,M⟩<|Δ Θ q) B l b (Md.el r n (p,q)) J:=bD.el (x:=(p,q)) HO.out.1 HO.out.2.1 HO.out.2.2;have u:=bD.below i<|(Below.refl _ _).drew;have z:=((t.setCell (p:=⟨gr,n*2,M⟩) s<|Δ Θ p).setCell (p:=⟨gr,n*2+1,M⟩) s<|Δ Θ q).drew;have D:tc J w (((H.setCell ⟨gr,n*2,M⟩<|Δ Θ p).setCell ⟨gr,n*2+1,M⟩<|Δ Θ q).drew):=λj hj hl=>(cr<|P.out j hj).trans<|k.out.block j (by rw[f.out];exact hl);go_end0;exact⟨rfl,u,z,D⟩
end
section
variable{b B br:Nat}(w:ο){J:Nat->Prop}
def bD.all{w r}(h:bD w B br b r J):w br=U (.pointer b)/\w (br,1)=U (Δ Θ r.minors)/\w (br,2)=U (Δ Θ r.uJ)/\w (br,3)=U (Δ Θ r.fk)/\w (br,4)=U (Δ Θ r.dA)/\(∀i,w.frozen? ⟨br,i,M⟩=ξ)/\B<=br:=by
 have a:=h.2.1;refine⟨?_,?_,?_,?_,?_,λi=>by simp[φ,a],h.1⟩
 all_goals simp[Z,a,pw]
def cR.off{w w' g c t fr}(h:cR w B b g J)(hc:w.heap[br]?=U (.cells c t fr))(d:t≠114/\t≠76/\t≠50/\t≠3)(l:∀k,k≠br->w'.heap[k]?=w.heap[k]?):cR w' B b g J:=by
 obtain⟨n,o,m,row,x,hb,v,u,h3,h4,h5⟩:=h;have r:∀{j:Nat} {s:Array υ} {p:ZO} {a:Nat×Nat},w.heap[j]?=U (.cells s p a) ->t≠p->w'.heap[j]?=w.heap[j]?:=λ{j s p a} y z=>l j λe=>by grind
 exact⟨n,o,m,row,x,(r hb d.1).trans hb,v.below λg f q=>r q d.2.1,u.below λg f q=>r q d.2.1,bp h3 hc d.2.2.2 l,⟨λk i=>bp (h4.1 k i) hc d.2.2.1 l,h4.2⟩,h5⟩
def Pn{w r r' i}{x y:Int}(h:bD w B br b r J)(c:r'.g=r.g)(hc:((pw br b r).setIfInBounds i x).setIfInBounds 4 y=pw br b r'):bD ((w.setCell (br,i) x).setCell (br,4) y) B br b r' J:=by refine⟨h.1,?_,?_,h.2.2.2⟩;rw[aB (aB h.2.1 i _) 4 _,hc];rw[c];exact h.2.2.1.off h.2.1 (by simp) λk a=>cr a
def Af:Z9 prog 306 #[.agg #[]] w λe w'=>e=.returned (Δ Θ 0)/\Below w w w':=by
 go_enter (fU func306 rfl),ntmps306
 go_wp2
 go_ret;exact⟨rfl,(Below.refl _ _).alloc .refl _⟩
def wM(B a b n r g')(D:im r.g)(z:bD w B a b r J)(H:B<=w.heap.size)(f:Md.collect .minor r.g=U (n,g'))(hm:0<=r.minors/\r.minors<=1000)(P:0<=r.dA/\r.dA<=100000)(hn:n<=1000):
 Z9 prog 208 #[ZJ (U ⟨a,0,M⟩),.iface 102<|.agg #[]] w λe w'=>e=.returned (.bool ZB)/\bD w' B a b (Md.counted r .minor n g') J/\Below B w w'/\tc J w w':=by
 have HR:=Y z;obtain⟨c0,c1,c2,c3,Q,k,q⟩:=z.all;have K:=IY;have W:=Y D;have HC:=Y f;have S:IntKind.i64.wrap (r.minors+1)=r.minors+1:=wrap_small _ (by omega) (by omega);have L:IntKind.i64.wrap (r.dA+(n:Int))=r.dA+(n:Int):=wrap_small _ (by omega) (by omega);clear c1 c2 c3 Q k z D f
 go_enter (fU func208 rfl),ntmps208
 go_wp2_with fail
 refine(lz _ B b r.g HR.out.2.2.1 W.out H).mono ?_;rintro e A t;unfold cq at t;rw[HC.out]at t;obtain⟨rfl,s,l,o,d⟩:=t;have y:=Y d;clear d;have i:bD A B a b {r with g:=g'} J:=⟨HR.out.1,(o _ _ HR.out.2.1).trans HR.out.2.1,s,HR.out.2.2.2⟩;obtain⟨d0,O,d2,d3,F,k,_⟩:=i.all;have N:=k 1;have f2:=k 2;have f3:=k 3;have T:=k 4;have v:=Y i;have c:=az F;have x:=Nat.le_trans H l.size;clear s o i k c0
 go_wp2_with fail
 go_region_with (first|(go_at_call 306;(with_reducible refine(Af _).mono ?_);rintro e u ⟨rfl,C⟩;have z3:Below A.heap.size A u:=(Below.refl _ _).drew.trans C;have X:=(z3.cell (p:=⟨a,1,M⟩) c).trans O;have k2:=(z3.frozen (p:=⟨a,1,M⟩) c).trans N;have k3:=cG z3 F c;have k4:=(z3.frozen (p:=⟨a,4,M⟩) c).trans T))
 go_wp2_with fail
 have h:bD ((u.setCell (a,1)<|Δ Θ<|r.minors+1).setCell (a,4)<|Δ Θ<|r.dA+(n:Int)) B a b (Md.counted r .minor n g') J:=Pn (v.out.below z3) rfl rfl;have m:=((l.trans<|z3.mono x).setCell (p:=⟨a,1,M⟩) q<|Δ Θ<|r.minors+1).setCell (p:=⟨a,4,M⟩) q<|Δ Θ<|r.dA+(n:Int);have d:tc J w ((u.setCell (a,1)<|Δ Θ<|r.minors+1).setCell (a,4)<|Δ Θ<|r.dA+(n:Int)):=λj G E=>(cr<|HR.out.2.2.2 j G).trans<|(z3.block j<|Nat.lt_of_lt_of_le E l.size).trans<|y.out j G E;go_ret;exact⟨rfl,by first|exact h|exact h.below (Below.refl _ _).drew,by first|exact m|exact m.drew,d⟩
def Ag:Z9 prog 310 #[.agg #[]] w λe w'=>e=.returned (Δ Θ 2)/\Below w w w':=by
 go_enter (fU func310 rfl),ntmps310
 go_wp2
 go_ret;exact⟨rfl,(Below.refl _ _).alloc .refl _⟩
def wN(B c b n r g')(S:∀j,J j->j<w.heap.size)(A:Jn r.g)(E:im (Md.iF r.g))(z:bD w B c b r J)(K:B<=w.heap.size)(f:Md.collect .major r.g=U (n,g'))(hm:0<=r.fk/\r.fk<=1000)(P:0<=r.dA/\r.dA<=100000)(hn:n<=1000):
 Z9 prog 208 #[ZJ (U ⟨c,0,M⟩),.iface 120<|.agg #[]] w λe w'=>e=.returned (.bool ZB)/\bD w' B c b (Md.counted r .major n g') J/\Below B w w'/\tc J w w':=by
 have HR:=Y z;obtain⟨c0,c1,c2,c3,Q,k,q⟩:=z.all;have N:=I0;have HP:=Y E;have HC:=Y f;have T:IntKind.i64.wrap (r.fk+1)=r.fk+1:=wrap_small _ (by omega) (by omega);have O:IntKind.i64.wrap (r.dA+(n:Int))=r.dA+(n:Int):=wrap_small _ (by omega) (by omega);clear c1 c2 c3 Q k z E f
 go_enter (fU func208 rfl),ntmps208
 go_wp2_with fail
 refine(sP _ B b r.g S HR.out.2.2.1 A HP.out K).mono ?_;rintro e C t;unfold cq at t;rw[HC.out]at t;obtain⟨rfl,s,l,o,d⟩:=t;have y:=Y d;clear d;have i:bD C B c b {r with g:=g'} J:=⟨HR.out.1,(o _ _ HR.out.2.1).trans HR.out.2.1,s,HR.out.2.2.2⟩;obtain⟨d0,d1,d2,L,G,k,_⟩:=i.all;have f1:=k 1;have f2:=k 2;have X:=k 3;have W:=k 4;have v:=Y i;have a:=az G;have x:=Nat.le_trans K l.size;clear s o i k c0
 go_wp2_with fail
 go_region_with (first|(go_at_call 310;(with_reducible refine(Ag _).mono ?_);rintro e u ⟨rfl,D⟩;have z3:Below C.heap.size C u:=(Below.refl _ _).drew.trans D;have k1:=cG z3 L a;have k2:=(z3.frozen (p:=⟨c,3,M⟩) a).trans X;have k3:=cG z3 G a;have k4:=(z3.frozen (p:=⟨c,4,M⟩) a).trans W))
 go_wp2_with fail
 have h:bD ((u.setCell (c,3)<|Δ Θ<|r.fk+1).setCell (c,4)<|Δ Θ<|r.dA+(n:Int)) B c b (Md.counted r .major n g') J:=Pn (v.out.below z3) rfl rfl;have m:=((l.trans<|z3.mono x).setCell (p:=⟨c,3,M⟩) q<|Δ Θ<|r.fk+1).setCell (p:=⟨c,4,M⟩) q<|Δ Θ<|r.dA+(n:Int);have d:tc J w ((u.setCell (c,3)<|Δ Θ<|r.fk+1).setCell (c,4)<|Δ Θ<|r.dA+(n:Int)):=λj H F=>(cr<|HR.out.2.2.2 j H).trans<|(z3.block j<|Nat.lt_of_lt_of_le F l.size).trans<|y.out j H F;go_ret;exact⟨rfl,by first|exact h|exact h.below (Below.refl _ _).drew,by first|exact m|exact m.drew,d⟩
end
def Roomy(r r':Md.RS):Prop:=(r.g.new.length<8/\r'=r)\/(8<=r.g.new.length/\r.g.new.length<=1000/\im r.g/\∃n g',Md.collect .minor r.g=U (n,g')/\r'=Md.counted r .minor n g'/\(0<=r.minors/\r.minors<=1000)/\(0<=r.dA/\r.dA<=100000)/\n<=1000)
def bD.anJ{w B d b r J}(h:bD w B d b r J):∃a m,w.cell? ⟨b,0,M⟩=U (.slice a r.g.new.length m):=by obtain⟨n,o,m,row,i,hb,⟨e,f,c,_⟩,_⟩:=h.2.2.1;rw[aT]at c;refine⟨e,f,?_⟩;rw[<-c];simp[Z,hb]
def WD(w B f b r r'){J}(d:bD w B f b r J)(s:B<=w.heap.size)(l:Roomy r r'):
 Z9 prog 232 #[ZJ (U ⟨f,0,M⟩)] w λe w'=>e=.returned (.tuple #[])/\bD w' B f b r' J/\Below B w w'/\tc J w w':=by
 have HR:=Y d;obtain⟨c0,_,_⟩:=d.ptr;obtain⟨a,m,c1⟩:=d.anJ;obtain⟨q,rfl⟩|⟨q,t,k,n,u,h3,rfl,h4,h5,o⟩:=l
 ·have p:(r'.g.new.length:Int)<8:=by omega
  clear d
  go_enter (fU func232 rfl),ntmps232
  go_wp2
  go_step3
  go_wp2
  go_step3
  go_wp2_with fail
  rw[Ys];refine ZT (Zj rfl _ _ _) rfl ?_;exact⟨rfl,HR.out,Below.refl _ _,λ_ _ _=>rfl⟩
 ·have p:¬(r.g.new.length:Int)<8:=by omega
  clear d;have HC:=Y<|Ξ k h3;clear k h3
  go_enter (fU func232 rfl),ntmps232
  go_wp2
  go_step3
  go_wp2
  go_step3
  go_wp2_with fail
  refine(wM _ B f b n r u HC.out.1 HR.out s HC.out.2 h4 h5 o).mono ?_;rintro e v ⟨rfl,c,j,h⟩;have i:=Y c;clear c
  go_wp2_with fail
  rw[Ys];refine ZT (Zj rfl _ _ _) rfl ?_;exact⟨rfl,i.out,j,h⟩
end Kn
namespace Kn
open Go Go.RowKit Go.Extern.Stop Go.Stop Go.Extern Md
def WH(w):(Instr.typeAssert .nilIface 20 174 ZB).run prog w=.ok (.tuple #[.nilIface,.bool ξ]) w:=by kernel_rfl
def eE(w):Z9 prog 81 #[.nilIface] w λev w'=>ev=.returned (Δ Θ 0)/\Below w w w':=by
 have h:=WH
 go_enter (fU func81 rfl),ntmps81
 go_wp2
 go_ret;exact⟨rfl,Below.refl _ _⟩
end Kn
namespace Kn
open Go Go.RowKit Md
def Idle(f:FuncId):Prop:=∀p x w,w p=U x->w.frozen? p=ξ->CallsD prog f #[ZJ (U p)] .returning w λe u' w'=>e=.returned (.tuple #[])/\u'=.returning/\∃w1,Below w w w1/\w'=w1.setCell p (Δ Θ 0)
def Ju(w:ο)(b a):((w.alloc b).alloc a).heap[w.heap.size+1]?=U a/\Below w w ((w.alloc b).alloc a)/\((w.alloc b).alloc a).heap.size=w.heap.size+1+1:=by refine⟨?_,(af w _).alloc (by simp) _,by simp⟩;have:=Γ (w.alloc b) a;simpa using this
def al3(w:ο)(c a b):(((w.alloc c).alloc a).alloc b).heap[w.heap.size+1]?=U a/\(((w.alloc c).alloc a).alloc b).heap[w.heap.size+1+1]?=U b/\Below w w (((w.alloc c).alloc a).alloc b)/\(((w.alloc c).alloc a).alloc b).heap.size=w.heap.size+1+1+1:=by refine⟨?_,?_,((af w _).alloc (by simp) _).alloc (by simp;omega) _,by simp⟩;rw[Below.heap_alloc _ _ _ (by simp)];exact(Ju w c a).1;have:=Γ ((w.alloc c).alloc a) b;simpa using this
def d7{w:ο}{b:Nat}{x t fr}(h:w.heap[b]?=U (Ψ #[x] t fr)):w b=U x:=by simp[Z,h]
def cD{w:ο}{b i:Nat}{c t}(h:w.heap[b]?=U (.cells c t (0,0))):w.frozen? (b,i)=ξ:=by simp[φ,h]
def WI:Idle 80:=λp x w c f=>by
 have b:=ZF c;refine Zp (fU func80 rfl) rfl λa cs g=>?_;apply Y6;simp[Yp,go_sem,YL,g,ntmps80,Zd];refine(eE w).mono ?_;rintro e d ⟨rfl,hb⟩;have i:=(hb.cell b).trans c;have h:=(hb.frozen b).trans f;cases a
 simp_all [go_sem,YV,ZE,results80]
 exact⟨d,hb,rfl⟩
def ON:Idle 105:=λp x w c f=>by
 have b:=ZF c;refine Zp (fU func105 rfl) rfl λa cs g=>?_;apply Y6;simp[Yp,go_sem,YL,g,ntmps105,Zd];refine(eE w).mono ?_;rintro e d ⟨rfl,hb⟩;have i:=(hb.cell b).trans c;have h:=(hb.frozen b).trans f;cases a
 simp_all [go_sem,YV,ZE,results105]
 exact⟨d,hb,rfl⟩
def OP:Idle 118:=λp x w c f=>by
 have b:=ZF c;refine Zp (fU func118 rfl) rfl λa cs g=>?_;apply Y6;simp[Yp,go_sem,YL,g,ntmps118,Zd];refine(eE w).mono ?_;rintro e d ⟨rfl,hb⟩;have i:=(hb.cell b).trans c;have h:=(hb.frozen b).trans f;cases a
 simp_all [go_sem,YV,ZE,results118]
 exact⟨d,hb,rfl⟩
def OR:Idle 143:=λp x w c f=>by
 have b:=ZF c;refine Zp (fU func143 rfl) rfl λa cs g=>?_;apply Y6;simp[Yp,go_sem,YL,g,ntmps143,Zd];refine(eE w).mono ?_;rintro e d ⟨rfl,hb⟩;have i:=(hb.cell b).trans c;have h:=(hb.frozen b).trans f;cases a
 simp_all [go_sem,YV,ZE,results143]
 exact⟨d,hb,rfl⟩
section
variable{b:Nat}{t:ZO}{w:ο}
def dm.px{B g}(h:dm w B b g):∃a0 p c a1 v m1 d y m2 l i f s j x q e u,w.heap[b]?=U (Ψ #[.slice a0 p c,.slice a1 v m1,.slice d y m2,.slice l i f,.slice s j x,.slice q e u] 114 (0,0))/\∀w',dm w' B b g->w'.heap[b]?=w.heap[b]?->GV w' (.agg #[.slice a0 p c,.slice a1 v m1,.slice d y m2,.slice l i f,.slice s j x,.slice q e u]) g:=by obtain⟨n,o,m,row,hB,hb,E,A,h3,h4⟩:=h;obtain⟨r0,r1,r2⟩:=h4.roots;obtain⟨an,X,J,_⟩:=id E;obtain⟨T,P,G,_⟩:=id A;obtain⟨O,mm,F,_⟩:=aF h3;obtain⟨a0,c,z,_⟩:=aF r0;obtain⟨a1,m1,e1,_⟩:=aF r1;obtain⟨d,m2,e2,_⟩:=aF r2;have a:=hb;rw[J,G,F,z,e1,e2]at a;refine⟨_,_,_,_,_,_,_,_,_,_,_,_,_,_,_,_,_,_,a,λw' h k=>?_⟩;obtain⟨v0,v1,v2,Q,W,S,c0,c1,c2,c3,r,t,C,D,K,N,L,H⟩:=h.reads;rw[a]at k;simp[Z,k]at c0 c1 c2 c3 r t;subst c0 c1 c2 c3 r t;exact⟨_,_,_,_,_,_,rfl,C,D,K,N,L,H⟩
def io(w:ο)(b:Nat)(v0 v1 v2 v3 v4 v5:υ):ο:=(((((w.setCell b v0).setCell (b,1) v1).setCell (b,2) v2).setCell (b,3) v3).setCell (b,4) v4).setCell (b,5) v5
def kn{d e g f x4 h v0 v1 v2 v3 v4 v5}(hb:w.heap[b]?=U (Ψ #[d,e,g,f,x4,h] t (0,0))):
 (io w b v0 v1 v2 v3 v4 v5).heap[b]?=U (Ψ #[v0,v1,v2,v3,v4,v5] t (0,0))/\(∀k,k≠b->(io w b v0 v1 v2 v3 v4 v5).heap[k]?=w.heap[k]?)/\(io w b v0 v1 v2 v3 v4 v5).heap.size=w/\∀H,H<=b->Below H w (io w b v0 v1 v2 v3 v4 v5):=by
 refine⟨heap_setCell_same (i:=5) (v:=v5)<|heap_setCell_same (i:=4) (v:=v4)<|heap_setCell_same (i:=3) (v:=v3)<|heap_setCell_same (i:=2) (v:=v2)<|heap_setCell_same (i:=1) (v:=v1)<|heap_setCell_same (i:=0) (v:=v0) hb,λk a=>?_,by simp[io],λH c=>?_⟩;unfold io;rw[aq a,aq a,aq a,aq a,aq a,aq a];exact((((((Below.refl H w).setCell (p:=⟨b,0,M⟩) c _).setCell (p:=⟨b,1,M⟩) c _).setCell (p:=⟨b,2,M⟩) c _).setCell (p:=⟨b,3,M⟩) c _).setCell (p:=⟨b,4,M⟩) c _).setCell (p:=⟨b,5,M⟩) c _
def jF{x}(h:w.heap[b]?=U (Ψ #[x] t (0,0))):(w.setCell b x).heap[b]?=U (Ψ #[x] t (0,0))/\(∀k:Nat,(w.setCell b x).heap[k]?=w.heap[k]?)/\Below w w (w.setCell b x):=by
 have h0:(w.setCell b x).heap[b]?=U (Ψ #[x] t (0,0)):=by rw[aB h];rfl
 have a:∀k:Nat,(w.setCell b x).heap[k]?=w.heap[k]?:=λk=>by
  by_cases c:k=b
  grind
  exact aq c
 exact⟨h0,a,⟨rfl,rfl,rfl,by simp,λk _=>a k⟩⟩
def fz{w9 x}(h:w.heap[b]?=U (Ψ #[x] t (0,0)))(a:Below w w w9):(w9.setCell b x).heap[b]?=U (Ψ #[x] t (0,0))/\Below w w (w9.setCell b x):=by obtain⟨h0,_,c⟩:=jF<|(a.block b<|(Ω.1 h).1).trans h;exact⟨h0,a.trans<|c.mono a.size⟩
def afG{w4 H B a eb g s D y u x4 z v0 v1 v2 v3 v4 v5}(m:dm w4 B b g)(C:∀w',dm w' B b g->w'.heap[b]?=w4.heap[b]?->GV w' (.agg #[v0,v1,v2,v3,v4,v5]) g)(d:w4.heap[a]?=U (Ψ #[s,D,y,u,x4,z] 26 (0,0)))(p:w4.heap[eb]?=U (Ψ #[Δ Θ 0] 34 (0,0)))(w:H<=a)(F:H<=eb):
 ((io w4 a v0 v1 v2 v3 v4 v5).setCell eb<|Δ Θ 0).heap[eb]?=U (Ψ #[Δ Θ 0] 34 (0,0))/\
 ∀w9,Below ((io w4 a v0 v1 v2 v3 v4 v5).setCell eb<|Δ Θ 0).heap.size ((io w4 a v0 v1 v2 v3 v4 v5).setCell eb<|Δ Θ 0) w9->(w9.setCell eb<|Δ Θ 0).heap[a]?=U (Ψ #[v0,v1,v2,v3,v4,v5] 26 (0,0))/\(w9.setCell eb<|Δ Θ 0).heap[eb]?=U (Ψ #[Δ Θ 0] 34 (0,0))/\GV (w9.setCell eb<|Δ Θ 0) (.agg #[v0,v1,v2,v3,v4,v5]) g/\(H<=w4->Below H w4 (w9.setCell eb<|Δ Θ 0)):=by
 obtain⟨x,l,E,t⟩:=kn (v0:=v0) (v1:=v1) (v2:=v2) (v3:=v3) (v4:=v4) (v5:=v5) d;have j:eb≠a:=λe=>by rw[e,d]at p;cases p
 generalize io w4 a v0 v1 v2 v3 v4 v5=w5 at *;obtain⟨q1,q,f⟩:=jF<|(l eb j).trans p;refine⟨q1,λw9 A=>?_⟩;generalize w5.setCell eb (Δ Θ 0)=r at *;obtain⟨r1,r2⟩:=fz q1 A;have o:a<r:=by have:=f.size;have:=(Ω.1 d).1;omega
 have i:b<r:=by have:=f.size;have:=m.obj.2.1;omega
 obtain⟨_,_,cb,c⟩:=m.obj;have n:b≠a:=λe=>by rw[e,d]at c;cases c
 exact⟨(r2.block a o).trans<|(q a).trans x,r1,C _ ((((cR.Kk (J:=λ_=>False) m λ_ h=>h.elim).off d (by decide) λk v=>(q k).trans<|l k v).own).below r2)<|(r2.block b i).trans<|(q b).trans<|l b n,λG=>(t H w).trans<|((f.mono<|by omega).trans<|r2.mono (by have:=f.size;omega))⟩
def qh(w v g g')(k n:Nat)(s)(hv:GV w v g)(hk:eC g)(hm:g.marked.length<=1000000)(hz:cN g=0)(q:Md.collect s g=U (n,g'))(hc:∀w B b,cR w B b g (λ_=>False) ->B<=w->Z9 prog 144 #[.pointer b,.iface k<|.agg #[]] w (cq (λ_=>False) B b g s w)):
 Z9 prog 78 #[v,.iface k<|.agg #[]] w λe w'=>(∃r,e=.returned (.tuple #[r,Δ Θ 0])/\GV w' r g')/\Below w w w':=by
 have hmf:∀(fn:Fn) (first cap:Array υ) (w:ο),(Instr.makeFunc fn first cap).run prog w=.ok (.func fn first cap) w:=λ_ _ _ _=>rfl;have HV:=Y hv;have HK:=Y hk;have HC:=Y hc;have HCO:=Y q;obtain⟨vn,o,r,wi,d,m,rfl,h1,h2,h3,h4,h5,h6⟩:=hv;clear hk h1 h2 h3 h4 h5 h6 hc q
 go_enter_defers (fU func78 rfl),ntmps78
 go_wp2_with fail
 obtain⟨c,u,a,hz3⟩:=al3 w (Ψ #[vn,o,r,wi,d,m] 26) (Ψ #[(),(),(),(),(),()] 26)<|Ψ #[Δ Θ 0] 34;refine(sw _ _ g (HV.out.below a) HK.out hz hm).mono ?_;rintro e w2 ⟨⟨b,rfl,A⟩,j⟩;have x:=a.trans<|j.mono a.size;have HG2:=Y<|A.less (B':=w.heap.size+1+1+1)<|by omega
 have HB2:=Y<|j.mono (B':=w.heap.size+1+1+1)<|by omega
 have hs2:=j.size;have HY:=Y<|Ξ ((j.block (w.heap.size+1)<|by omega).trans c)<|(j.block (w.heap.size+1+1)<|by omega).trans u;clear j a A c u
 go_wp2_with fail
 refine(HC.out _ (w.heap.size+1+1+1) b (cR.Kk HG2.out λ_ h=>h.elim)<|by omega).mono ?_;rintro e w3 t;unfold cq at t;rw[HCO.out]at t;obtain⟨rfl,y,a,_,_⟩:=t;have C:=Y y.own;have p:=x.trans<|a.mono (B':=w.heap.size)<|by omega
 have c:=(a.block (w.heap.size+1)<|by omega).trans HY.out.1;have u:=(a.block (w.heap.size+1+1)<|by omega).trans HY.out.2;clear x HB2 y HY a
 go_wp2_with fail
 ((with_reducible refine(cd _ _).mono ?_))
 rintro e w4 ⟨rfl,rfl⟩;obtain⟨a0,N,Q,a1,W,m1,T,K,m2,L,G,F,P,J,X,O,E,S,hb,D⟩:=C.out.px;have c0:w4 b=U (.slice a0 N Q):=by simp[Z,hb]
 have c1:w4 (b,1)=U (.slice a1 W m1):=by simp[Z,hb]
 have c2:w4 (b,2)=U (.slice T K m2):=by simp[Z,hb]
 have c3:w4 (b,3)=U (.slice L G F):=by simp[Z,hb]
 have c4:w4 (b,4)=U (.slice P J X):=by simp[Z,hb]
 have c5:w4 (b,5)=U (.slice O E S):=by simp[Z,hb]
 have z:=Y<|Ξ hb<|Ξ D<|Ξ p<|Ξ c u;have d0:w4 (w.heap.size+1:Nat)=U ():=by simp[Z,c]
 have d1:w4 (w.heap.size+1,1)=U ():=by simp[Z,c]
 have d2:w4 (w.heap.size+1,2)=U ():=by simp[Z,c]
 have d3:w4 (w.heap.size+1,3)=U ():=by simp[Z,c]
 have d4:w4 (w.heap.size+1,4)=U ():=by simp[Z,c]
 have d5:w4 (w.heap.size+1,5)=U ():=by simp[Z,c]
 have de:=d7 u;have f0:=cD (i:=0) c;have f1:=cD (i:=1) c;have f2:=cD (i:=2) c;have f3:=cD (i:=3) c;have f4:=cD (i:=4) c;have f5:=cD (i:=5) c;have fe:=cD (i:=0) u;clear hb D p c u hs2 hz3
 go_wp2_with fail
 rw[show((((((w4.setCell (w.heap.size+1:Nat)<|.slice a0 N Q).setCell (w.heap.size+1,1)<|.slice a1 W m1).setCell (w.heap.size+1,2)<|.slice T K m2).setCell (w.heap.size+1,3)<|.slice L G F).setCell (w.heap.size+1,4)<|.slice P J X).setCell (w.heap.size+1,5)<|.slice O E S)=io w4 (w.heap.size+1) (.slice a0 N Q) (.slice a1 W m1) (.slice T K m2) (.slice L G F) (.slice P J X) (.slice O E S)from rfl];obtain⟨k1,k2⟩:=afG (H:=w) C.out z.out.2.1 z.out.2.2.2.1 z.out.2.2.2.2 (by omega) (by omega);refine leaves_cons (f:=143) (args:=#[.pointer (w.heap.size+1+1:Nat)]) (by simp) (by simp[go_sem]) ?_;refine(OR (w.heap.size+1+1:Nat) (Δ Θ 0) _ (d7 k1)<|cD k1).mono ?_;rintro e u' w'' ⟨rfl,rfl,w9,BP,rfl⟩;obtain⟨q1,q2,q3,q4⟩:=k2 w9 BP;generalize w9.setCell (w.heap.size+1+1:Nat) (Δ Θ 0)=l at *;have z0:l (w.heap.size+1:Nat)=U (.slice a0 N Q):=by simp[Z,q1]
 have z1:l (w.heap.size+1,1)=U (.slice a1 W m1):=by simp[Z,q1]
 have z2:l (w.heap.size+1,2)=U (.slice T K m2):=by simp[Z,q1]
 have z3:l (w.heap.size+1,3)=U (.slice L G F):=by simp[Z,q1]
 have z4:l (w.heap.size+1,4)=U (.slice P J X):=by simp[Z,q1]
 have z5:l (w.heap.size+1,5)=U (.slice O E S):=by simp[Z,q1]
 simp[Leaves,settle,ZE,results78,go_sem,z0,z1,z2,z3,z4,z5,(d7 q2)];exact⟨q3,z.out.2.2.1.trans<|q4 z.out.2.2.1.size⟩
end
section
structure JI(w w':ο)(b:Nat):Prop where
 ints:∀o k,w.cell? ⟨b,o,M⟩≠U (Δ Θ k)
 same:∀k,k≠b->w'.heap[k]?=w.heap[k]?
 size:w.heap.size<=w'
section
variable{w w':ο}{b:Nat}{v:υ}
def JI.ne(h:JI w w' b){a o:Nat}{k}(hc:w (a,o)=U (Δ Θ k)):a≠b:=λe=>h.ints o k<|e▸hc
def JI.cell(h:JI w w' b){a o}(c:a≠b):w'.cell? ⟨a,o,M⟩=w.cell? ⟨a,o,M⟩:=by simp only[Z,h.same a c]
def eI.off{l}(h:eI w v l)(f:JI w w' b):eI w' v l:=by obtain⟨a,m,rfl,r,j,h⟩:=h;refine⟨a,m,rfl,r,j,λh0=>?_⟩;obtain⟨c,o,rfl,hb,d⟩:=h h0;obtain⟨p,q,e⟩:=ep h0;have g:=f.ne (d 0 p q e).1;refine⟨c,o,rfl,Nat.lt_of_lt_of_le hb f.size,λi k n e=>?_⟩;rw[f.cell g,f.cell g];exact d i k n e
def By.off{l}(h:By w v l)(f:JI w w' b):By w' v l:=by obtain⟨a,m,rfl,j,g,h⟩:=h;refine⟨a,m,rfl,j,g,λh0=>?_⟩;obtain⟨c,o,rfl,hb,d⟩:=h h0;obtain⟨p,e⟩:=ot h0;have k:=f.ne<|d 0 p e;refine⟨c,o,rfl,Nat.lt_of_lt_of_le hb f.size,λi n e=>?_⟩;rw[f.cell k];exact d i n e
def sa.off{l}(h:sa w v l)(d:JI w w' b):sa w' v l:=by obtain⟨a,m,rfl,t,s,h⟩:=h;refine⟨a,m,rfl,t,s,λh0=>?_⟩;obtain⟨c,o,rfl,hb,f⟩:=h h0;obtain⟨p,q,e⟩:=cQ h0;have g:=d.ne (f 0 p q e).1;refine⟨c,o,rfl,Nat.lt_of_lt_of_le hb d.size,λi k r e=>?_⟩;obtain⟨n,x,j,u⟩:=f i k r e;rw[d.cell g,d.cell g];exact⟨n,x,j,u.off d⟩
def GV.off{g}(h:GV w v g)(a:JI w w' b):GV w' v g:=by obtain⟨n,o,r,i,d,m,rfl,f,e,h3,h4,h5,c⟩:=h;exact⟨_,_,_,_,_,_,rfl,f.off a,e.off a,h3.off a,h4.off a,h5.off a,c.off a⟩
def tH.off{h}(e:tH w v h)(a:JI w w' b):tH w' v h:=by obtain⟨c,r,i,d,rfl,g,f,h3,h4⟩:=e;exact⟨_,_,_,_,rfl,g.off a,f.off a,h3.off a,h4.off a⟩
end
def ahA{w b t v0 v1 v2 v3 v4 v5}(h:w.heap[b]?=U (Ψ #[(),(),(),(),(),()] t (0,0))):JI w (io w b v0 v1 v2 v3 v4 v5) b:=by
 obtain⟨_,a,c,_⟩:=kn (v1:=v1) (v2:=v2) (v3:=v3) (v4:=v4) (v5:=v5) h;refine⟨λo k e=>?_,a,Nat.le_of_eq c.symm⟩;simp only[Z,h]at e
 match o,e with
 |0,e=>cases e
 |1,e=>cases e
 |2,e=>cases e
 |3,e=>cases e
 |4,e=>cases e
 |5,e=>cases e
 |n+6,e=>simp at e
def JJ{w:ο}{b t}(h:w.heap[b]?=U (Ψ #[(),(),(),(),(),()] t (0,0))):(∀i,i<6->w (b,i)=U ())/\∀i,w.frozen? ⟨b,i,M⟩=ξ:=by
 refine⟨λi hi=>?_,λi=>cD h⟩
 match i,hi with
 |0,_=>simp[Z,h]
 |1,_=>simp[Z,h]
 |2,_=>simp[Z,h]
 |3,_=>simp[Z,h]
 |4,_=>simp[Z,h]
 |5,_=>simp[Z,h]
def sS{w:ο}{b:Nat}{t v0 v1 v2 v3 v4 v5}(h:w.heap[b]?=U (Ψ #[v0,v1,v2,v3,v4,v5] t (0,0))):w b=U v0/\w (b,1)=U v1/\w (b,2)=U v2/\w (b,3)=U v3/\w (b,4)=U v4/\w (b,5)=U v5:=by refine⟨?_,?_,?_,?_,?_,?_⟩<;>simp[Z,h]
def ajE:uH->Nat
 |.minor=>102
 |.full=>119
 |.major=>120
def ajF:uH->Nat
 |.minor=>22
 |.full=>28
 |.major=>30
def aeA(s w v g g' n)(K:GV w v g)(G:eC g)(hm:g.marked.length<=1000000)(hz:cN g=0)(c:Md.collect s g=U (n,g'))(hc:∀w B b,cR w B b g (λ_=>False) ->B<=w->Z9 prog 144 #[.pointer b,.iface (ajE s)<|.agg #[]] w (cq (λ_=>False) B b g s w)):
 Z9 prog (ajF s) #[v] w λe w'=>(∃r,e=.returned (.tuple #[r,Δ Θ 0])/\GV w' r g')/\Below w w w':=by
 have HV:=Y K;have HK:=Y G;have HP:=Y hc;have HC:=Y c;obtain⟨vn,o,r,L,d,m,rfl,X,N,h3,h4,h5,h6⟩:=K;clear G X N h3 h4 h5 h6 hc c;cases s
 all_goals
  first
   |go_enter (fU func22 rfl),ntmps22
   |go_enter (fU func28 rfl),ntmps28
   |go_enter (fU func30 rfl),ntmps30
  go_wp2_with fail
  obtain⟨J,a,E⟩:=Ju w (Ψ #[vn,o,r,L,d,m] 26)<|Ψ #[(),(),(),(),(),()] 26;refine(qh _ _ g g' _ n _ (HV.out.below a) HK.out hm hz HC.out HP.out).mono ?_;rintro e C ⟨⟨r3,rfl,z⟩,i⟩;have P:=Y z;have D:=(i.block (w.heap.size+1)<|by omega).trans J;have T:=Y<|a.trans<|i.mono a.size;obtain⟨a0,a1,a2,a3,a4,a5,rfl,⟨l,l0,rfl,_⟩,⟨j,u,rfl,_⟩,⟨t,x,rfl,_⟩,⟨b3,p,rfl,_⟩,⟨b4,q,rfl,_⟩,⟨b5,k,rfl,_⟩⟩:=z;obtain⟨d,f⟩:=JJ D;have d0:=d 0 (by omega);have d1:=d 1 (by omega);have d2:=d 2 (by omega);have d3:=d 3 (by omega);have d4:=d 4 (by omega);have d5:=d 5 (by omega);have f0:=f 0;have f1:=f 1;have f2:=f 2;have f3:=f 3;have f4:=f 4;have f5:=f 5;have H:=Y D;clear d f D J a i E
  go_wp2_with fail
  rw[show((((((C.setCell ⟨w.heap.size+1,0,M⟩<|.slice l g'.new.length l0).setCell ⟨w.heap.size+1,1,M⟩<|.slice j g'.old.length u).setCell ⟨w.heap.size+1,2,M⟩<|.slice t g'.roots.length x).setCell ⟨w.heap.size+1,3,M⟩<|.slice b3 g'.aA.length p).setCell (w.heap.size+1,4)<|.slice b4 g'.done.length q).setCell (w.heap.size+1,5)<|.slice b5 g'.marked.length k)=io C (w.heap.size+1) (.slice l g'.new.length l0) (.slice j g'.old.length u) (.slice t g'.roots.length x) (.slice b3 g'.aA.length p) (.slice b4 g'.done.length q) (.slice b5 g'.marked.length k)from rfl];have A:=ahA (v0:=(.slice l g'.new.length l0)) (v1:=(.slice j g'.old.length u)) (v2:=(.slice t g'.roots.length x)) (v3:=(.slice b3 g'.aA.length p)) (v4:=(.slice b4 g'.done.length q)) (v5:=(.slice b5 g'.marked.length k)) H.out;obtain⟨F,_,_,k4⟩:=kn (v0:=(.slice l g'.new.length l0)) (v1:=(.slice j g'.old.length u)) (v2:=(.slice t g'.roots.length x)) (v3:=(.slice b3 g'.aA.length p)) (v4:=(.slice b4 g'.done.length q)) (v5:=(.slice b5 g'.marked.length k)) H.out;have h:=P.out.off A;have y:=T.out.trans<|k4 w<|by omega
  generalize io C (w.heap.size+1) (.slice l g'.new.length l0) (.slice j g'.old.length u) (.slice t g'.roots.length x) (.slice b3 g'.aA.length p) (.slice b4 g'.done.length q) (.slice b5 g'.marked.length k)=w4 at F h y⊢;obtain⟨z0,W,S,z3,Q,O⟩:=sS F;refine ZT (v:=.tuple #[.agg #[.slice l g'.new.length l0,.slice j g'.old.length u,.slice t g'.roots.length x,.slice b3 g'.aA.length p,.slice b4 g'.done.length q,.slice b5 g'.marked.length k],Δ Θ 0]) (by simp[ZE,results22,results28,results30,go_sem,z0,W,S,z3,Q,O]) rfl ⟨⟨_,rfl,h⟩,y⟩
def WO(w v g g' n)(h:GV w v g)(f:eC g)(d:g.marked.length<=1000000)(hz:cN g=0)(c:im g)(a:Md.collect .full g=U (n,g')):
 Z9 prog 28 #[v] w λe w'=>(∃r,e=.returned (.tuple #[r,Δ Θ 0])/\GV w' r g')/\Below w w w':=
 aeA .full w v g g' n h f d hz a λw B b j i=>tO w B b g j c i
end
section
variable(w:ο)(v:υ)
def wb(l)(a:eI w v l)(f:l.length<=1000000):
 Z9 prog 77 #[v] w λe w'=>(∃r,e=.returned r/\OV w' w r l)/\Below w w w':=by
 have hb:=af w<|Ψ #[] 50
 go_enter (fU func77 rfl),ntmps77
 go_wp2_with (at_builtin;refine tI rfl _ _ rfl w _ [] rfl (zu w _ .refl) _ l rfl (a.below hb) (by simp) (by omega) (by simp) ?_;intro d w' c b _)
 go_ret;exact⟨⟨_,rfl,c⟩,hb.trans<|b.mono .refl⟩
def Jq(l)(a:By w v l)(f:l.length<=1000000):
 Z9 prog 72 #[v] w λe w'=>(∃r,e=.returned r/\OI w' w r l)/\Below w w w':=by
 have hb:=af w<|Ψ #[] 3
 go_enter (fU func72 rfl),ntmps72
 go_wp2_with (at_builtin;refine tJ rfl _ _ rfl w _ [] rfl (zx w _ .refl) _ l rfl (a.below hb) (by simp) (by omega) (by simp) ?_;intro d w' c b _)
 go_ret;exact⟨⟨_,rfl,c⟩,hb.trans<|b.mono .refl⟩
def SP.adG(B:Nat)(p:Int)(vs:List HV):Rg.SP:=⟨λv w=>∃g x,v=.slice (g:Nat) 1 1/\w.heap[g]?=U (Ψ #[Δ Θ p,x] 76 (0,0))/\OV w B x vs,λ_ _ _ hb ⟨g,x,h1,h2,h3⟩=>⟨g,x,h1,(hb.block g (Ω.1 h2).1).trans h2,h3.below hb⟩⟩
def KH(cs)(hv:sa w v cs)(hl:cs.length<=1000000)(hs:∀c∈cs,c.2.length<=1000000):
 Z9 prog 76 #[v] w λe w'=>(∃r,e=.returned r/\OX w' w r cs)/\Below w w w':=by
 have HV:=Y hv;obtain⟨a,mc,rfl,hmc,T,_⟩:=hv
 go_enter (fU func76 rfl),ntmps76
 go_wp2_with fail
 go_loopw [3,4] (λx i wr=>∃k:Nat,k<=cs.length/\i=Δ Θ k/\OX wr w x (cs.take k)/\Below w w wr) (λ_ i _=>cs.length-(intOf i).toNat)
 case atStart=>exact⟨0,Nat.zero_le _,rfl,OX.nil _ _,.refl _ _⟩
 case round=>
  obtain⟨k,hk,rfl,N,hb⟩:=hrel;by_cases F:k<cs.length
  ·obtain⟨a',mc',he,_,_,l⟩:=HV.out.below hb;cases he
   obtain⟨n,o,rfl,s,l⟩:=l (by omega);obtain⟨p,h,e1⟩:=cQ F;obtain⟨c0,x,c1,H⟩:=l k p h e1;have G:=hs _<|ω e1
   go_wp2_with fail
   refine Rg.kl [.eq u3,.eq<|.slice (n,o) cs.length mc,.eq<|Δ Θ k,.eq<|.pointer (n,o+k*2),.eq<|.pointer (n,o+k*2),.eq p,.eq<|.slice (n,o) cs.length mc,.eq<|Δ Θ k,.eq<|.pointer (n,o+k*2),.eq<|.pointer (n,o+k*2+1),.eq x,SP.ov w h,SP.cell w p h,SP.adG w p h] (by kernel_rfl) (by kernel_rfl) (by rfl) ?_ ?_
   ·refine⟨?_,?_,?_,?_,?_,?_,?_,?_,?_,?_,?_,?_,?_,?_,trivial⟩
    all_goals intro X w2 j d b
    all_goals first|(have f0:=cG j c0 s;have f1:=cG j c1 s;have k0:=d 0 rfl;have k1:=d 3 rfl;have k2:=d 4 rfl;simp at k0 k1 k2;(try have q0:=Rg.ir (b 1 _ rfl rfl) rfl);(try have q1:=Rg.ir (b 2 _ rfl rfl) rfl);(try have q2:=Rg.ir (b 3 _ rfl rfl) rfl);(try have q3:=Rg.ir (b 4 _ rfl rfl) rfl);(try have q4:=Rg.ir (b 6 _ rfl rfl) rfl);(try have q5:=Rg.ir (b 7 _ rfl rfl) rfl);(try have q6:=Rg.ir (b 8 _ rfl rfl) rfl);(try have q7:=Rg.ir (b 9 _ rfl rfl) rfl);clear d b;go_simp;exact⟨_,rfl,.refl _ _,rfl⟩)|skip
    ·have d0:=Rg.ir (b 10 _ rfl rfl) rfl;clear d b;go_simp;refine(wb _ x h (H.below<|(Below.refl _ wr).drew.trans j) G).mono ?_;rintro e w3 ⟨⟨r,rfl,ho⟩,m⟩;exact⟨_,rfl,m,ho.less (by have:=hb.size;have:=j.size;simp at this;omega)⟩
    ·have d0:=Rg.ir (b 5 _ rfl rfl) rfl;have q:OV w2 w ((X.tmps[22]?).getD undef) h:=b 11 _ rfl rfl;obtain⟨D,B,d2,_⟩:=aF q;rw[d2]at q;clear d b;go_simp;exact⟨_,rfl,.refl _ _,_,rfl,q⟩
    ·obtain⟨y,d0,q⟩:∃y,(X.tmps[23]?).getD undef=.agg #[Δ Θ p,y]/\OV w2 w y h:=b 12 _ rfl rfl;clear d b;obtain⟨D,B,rfl,_⟩:=aF q;go_simp;exact⟨_,rfl,af _ _,_,_,rfl,Γ _ _,q.alloc _⟩
   ·rintro O w3 m ⟨C,s1,s2,s3,s4,s5,s6,s7,s8,s9,L,Q,P,⟨g,y,z,hg,W⟩,_⟩;obtain⟨D,B,rfl,_⟩:=aF W;have C:O 0=u3:=C;simp[go_sem,z,C];clear C s1 s2 s3 s4 s5 s6 s7 s8 s9 L Q P z;have E:=(Below.refl wr wr).drew.trans m;obtain⟨S,t,A⟩:=N.keep<|kE.below E;obtain⟨h1,h2,_,_⟩:=fl hg
    go_wp2_with (at_builtin;refine wh rfl _ _ rfl w _ _ rfl t g _ (p,.slice D h.length B) rfl rfl ⟨h1,h2⟩ (by have:=A.1;simp at this;omega) (by have:=hb.size;have:=E.size;omega) ?_;intro v' w6 f u J;obtain⟨a6,m6,rfl,_⟩:=aF f)
    have K:(S++[(p,Z8 D h.length B)]).length=S.length+1:=by simp
    rw[K]at f;have hz:=hb.size;have hz2:=E.size;exact⟨⟨k+1,by omega,by go_num,by rw[bW e1];exact⟨_,f,(A.snoc W).types t J⟩,hb.trans<|(E.mono<|by omega).trans u⟩,by simp[intOf];omega⟩
  ·go_wp2_with fail
   go_ret;rw[ε (by omega)]at N;exact⟨⟨_,rfl,N⟩,hb⟩
def SP.ox(B:Nat)(cs:List HC):Rg.SP:=⟨λv w=>OX w B v cs,λ_ _ _ hb h=>h.keep<|kE.below hb⟩
def Ot(w:ο)(B:Nat)(r:υ)(g:GH):Prop:=∃n o ro wi d m,r=.agg #[n,o,ro,wi,d,m]/\OX w B n g.new/\OX w B o g.old/\OV w B ro g.roots/\OV w B wi g.aA/\OV w B d g.done/\OI w B m g.marked
def Ot.reads{w B r g}(h:Ot w B r g):GV w r g:=by obtain⟨n,o,f,e,d,m,rfl,c,b,h3,h4,h5,a⟩:=h;exact⟨_,_,_,_,_,_,rfl,c.reads,b.reads,h3.reads,h4.reads,h5.reads,a.reads⟩
def aaP(g)(hv:GV w v g)(hn:g.new.length<=1000000)(o:g.old.length<=1000000)(hs:∀c∈g.new++g.old,c.2.length<=1000000)(hr:g.roots.length<=1000000)(X:g.aA.length<=1000000)(hd:g.done.length<=1000000)(hm:g.marked.length<=1000000):
 Z9 prog 21 #[v] w λe w'=>(∃r,e=.returned r/\Ot w' w r g)/\Below w w w':=by
 obtain⟨a0,a1,W,Q,T,S,rfl,h0,h1,h2,h3,h4,h5⟩:=hv;obtain⟨z0,z1,l,hs0⟩:=JZ w (Ψ #[a0,a1,W,Q,T,S] 26)<|Ψ #[Z8 M 0 0,Z8 M 0 0,Z8 M 0 0,Z8 M 0 0,Z8 M 0 0,Z8 M 0 0] 26
 go_enter (fU func21 rfl),ntmps21
 go_wp2_with fail
 generalize (w.alloc _).alloc _=m at z0 z1 l hs0⊢;obtain⟨c0,c1,c2,c3,c4,c5⟩:(m w.heap.size=U a0)/\(m (w.heap.size,1)=U a1)/\(m (w.heap.size,2)=U W)/\(m (w.heap.size,3)=U Q)/\(m (w.heap.size,4)=U T)/\(m (w.heap.size,5)=U S):=by simp[Z,z0]
 replace h0:=h0.below l;replace h1:=h1.below l;replace h2:=h2.below l;replace h3:=h3.below l;replace h4:=h4.below l;replace h5:=h5.below l;have n:w.heap.size<m:=by omega
 refine Rg.kl [.eq (.pointer w.heap.size),.eq a0,SP.ox (w.heap.size+2) g.new,.eq<|.pointer (w.heap.size,1),.eq a1,SP.ox (w.heap.size+2) g.old,.eq<|.pointer (w.heap.size,2),.eq W,SP.ov (w.heap.size+2) g.roots,.eq<|.pointer (w.heap.size,3),.eq Q,SP.ov (w.heap.size+2) g.aA,.eq<|.pointer (w.heap.size,4),.eq T,SP.ov (w.heap.size+2) g.done,.eq<|.pointer (w.heap.size,5),.eq S,SP.oi (w.heap.size+2) g.marked] (by kernel_rfl) (by kernel_rfl) (by rfl) ?_ ?_
 ·refine⟨?_,?_,?_,?_,?_,?_,?_,?_,?_,?_,?_,?_,?_,?_,?_,?_,?_,?_,trivial⟩
  all_goals intro x w2 i b a
  all_goals first|(have f0:=cG i c0 n;have f1:=cG i c1 n;have f2:=cG i c2 n;have f3:=cG i c3 n;have f4:=cG i c4 n;have f5:=cG i c5 n;have k0:=b 1 rfl;simp at k0;(try have q0:=Rg.ir (a 0 _ rfl rfl) rfl);(try have q1:=Rg.ir (a 3 _ rfl rfl) rfl);(try have q2:=Rg.ir (a 6 _ rfl rfl) rfl);(try have q3:=Rg.ir (a 9 _ rfl rfl) rfl);(try have q4:=Rg.ir (a 12 _ rfl rfl) rfl);(try have q5:=Rg.ir (a 15 _ rfl rfl) rfl);clear b a;go_simp;exact⟨_,rfl,.refl _ _,rfl⟩)|skip
  ·have u:=Rg.ir (a 1 _ rfl rfl) rfl;have k:=(Below.refl _ m).drew.trans i;clear b a;go_simp;refine(KH _ a0 g.new (h0.below k) hn λc hc=>hs c<|Z1 _ hc).mono ?_;rintro e p ⟨⟨r,rfl,o⟩,h⟩;exact⟨_,rfl,h,o.less (by have:=k.size;omega)⟩
  ·have u:=Rg.ir (a 4 _ rfl rfl) rfl;have k:=(Below.refl _ m).drew.trans i;clear b a;go_simp;refine(KH _ a1 g.old (h1.below k) o λc hc=>hs c<|Zo _ hc).mono ?_;rintro e p ⟨⟨r,rfl,o⟩,h⟩;exact⟨_,rfl,h,o.less (by have:=k.size;omega)⟩
  ·have u:=Rg.ir (a 7 _ rfl rfl) rfl;have k:=(Below.refl _ m).drew.trans i;clear b a;go_simp;refine(wb _ W g.roots (h2.below k) hr).mono ?_;rintro e p ⟨⟨r,rfl,o⟩,h⟩;exact⟨_,rfl,h,o.less (by have:=k.size;omega)⟩
  ·have u:=Rg.ir (a 10 _ rfl rfl) rfl;have k:=(Below.refl _ m).drew.trans i;clear b a;go_simp;refine(wb _ Q g.aA (h3.below k) X).mono ?_;rintro e p ⟨⟨r,rfl,o⟩,h⟩;exact⟨_,rfl,h,o.less (by have:=k.size;omega)⟩
  ·have u:=Rg.ir (a 13 _ rfl rfl) rfl;have k:=(Below.refl _ m).drew.trans i;clear b a;go_simp;refine(wb _ T g.done (h4.below k) hd).mono ?_;rintro e p ⟨⟨r,rfl,o⟩,h⟩;exact⟨_,rfl,h,o.less (by have:=k.size;omega)⟩
  ·have u:=Rg.ir (a 16 _ rfl rfl) rfl;have k:=(Below.refl _ m).drew.trans i;clear b a;go_simp;refine(Jq _ S g.marked (h5.below k) hm).mono ?_;rintro e p ⟨⟨r,rfl,o⟩,h⟩;exact⟨_,rfl,h,o.less (by have:=k.size;omega)⟩
 ·rintro t p h ⟨_,_,F,_,_,s1,_,_,D,_,_,K,_,_,z,_,_,P,_⟩;have F:=F;have s1:=s1;have D:=D;have K:=K;have z:=z;have P:=P;simp[go_sem];generalize t 2=v0 at F⊢;generalize t 5=v1 at s1⊢;generalize t 8=v2 at D⊢;generalize t 11=v3 at K⊢;generalize t 14=v4 at z⊢;generalize t 17=v5 at P⊢;have k:=(Below.refl _ m).drew.trans h;have hG:∀w':ο,Below w w w'->kE (w.heap.size+2) p w'->Ot w' w (.agg #[v0,v1,v2,v3,v4,v5]) g:=λw' _ s=>⟨_,_,_,_,_,_,rfl,(F.keep s).less<|by omega,(s1.keep s).less<|by omega,eV (fd D s)<|by omega,eV (fd K s)<|by omega,eV (fd z s)<|by omega,eV (fd P s)<|by omega⟩;obtain⟨l0,k0,_⟩:=id F;obtain⟨L,k1,_⟩:=id s1;obtain⟨y,G,rfl,_⟩:=aF k0;obtain⟨O,m1,rfl,_⟩:=aF k1;obtain⟨x,m2,rfl,_⟩:=aF D;obtain⟨B,A,rfl,_⟩:=aF K;obtain⟨x4,N,rfl,_⟩:=aF z;obtain⟨J,H,rfl,_⟩:=aF P;have y1:=(k.block (w.heap.size+1)<|by omega).trans z1;obtain⟨d,f⟩:=JJ y1;have d0:=d 0 (by omega);have u:=d 1 (by omega);have d2:=d 2 (by omega);have d3:=d 3 (by omega);have d4:=d 4 (by omega);have d5:=d 5 (by omega);have f0:=f 0;have f1:=f 1;have f2:=f 2;have f3:=f 3;have f4:=f 4;have f5:=f 5;clear d f
  go_wp2_with fail
  obtain⟨q1,q2,q3,q4⟩:=kn (v0:=.slice y l0.length G) (v1:=.slice O L.length m1) (v2:=.slice x g.roots.length m2) (v3:=.slice B g.aA.length A) (v4:=.slice x4 g.done.length N) (v5:=.slice J g.marked.length H) y1;have C:=q4 w (by omega);have q:=hG _ ((l.trans<|k.mono<|by omega).trans C) λj hj _=>q2 j (by omega);have E:=(l.trans<|k.mono<|by omega).trans C;rw[show((((((p.setCell (w.heap.size+1:Nat)<|.slice y l0.length G).setCell (w.heap.size+1,1)<|.slice O L.length m1).setCell (w.heap.size+1,2)<|.slice x g.roots.length m2).setCell (w.heap.size+1,3)<|.slice B g.aA.length A).setCell (w.heap.size+1,4)<|.slice x4 g.done.length N).setCell (w.heap.size+1,5)<|.slice J g.marked.length H)=io p (w.heap.size+1) (.slice y l0.length G) (.slice O L.length m1) (.slice x g.roots.length m2) (.slice B g.aA.length A) (.slice x4 g.done.length N) (.slice J g.marked.length H)from rfl];generalize io p (w.heap.size+1) (.slice y l0.length G) (.slice O L.length m1) (.slice x g.roots.length m2) (.slice B g.aA.length A) (.slice x4 g.done.length N) (.slice J g.marked.length H)=w4 at q1 q E⊢;obtain⟨e0,e1,e2,e3,e4,e5⟩:=sS q1;exact ZT (v:=.agg #[.slice y l0.length G,.slice O L.length m1,.slice x g.roots.length m2,.slice B g.aA.length A,.slice x4 g.done.length N,.slice J g.marked.length H]) (by simp[ZE,results21,go_sem,e0,e1,e2,e3,e4,e5]) rfl ⟨⟨_,rfl,q⟩,E⟩
end
section
def Ao(w:ο)(b:Nat)(l:List Int):Prop:=∃es clk,w.heap[b]?=U (.map es clk)/\es.toList.map (λe=>(e.key,e.val))=l.zipIdx.map λx=>(Δ Θ x.1,Δ Θ (x.2:Int))
def E9:prog.underlying 164=U (.map 3 3):=by kernel_rfl
theorem Po(n:Int):∀(es:List MapEntry) (l:List Int) (j i:Nat),es.map (λe=>(e.key,e.val))=(l.zipIdx j).map (λx=>(Δ Θ x.1,Δ Θ (x.2:Int))) ->
 Instr.findNow (.int Θ) n es i=U (if n∈l then U (i+l.idxOf n,Δ Θ ((j+l.idxOf n:Nat):Int))else M)
 |[],l,j,i,h=>by
  obtain _|⟨a,l⟩:=l
  simp[Instr.findNow];simp at h
 |e::es,l,j,i,h=>by
  obtain _|⟨a,l⟩:=l
  simp at h;simp at h;obtain⟨⟨c,d⟩,h3⟩:=h;unfold Instr.findNow;rw[c];simp only[Instr.sameNow,if_true];by_cases b:n=a
  subst b;simp[d];have hb:(n==a)=ξ:=by simp[b]
  rw[hb];simp only[(Po n es l (j+1) (i+1) h3)]
  grind
section
variable{w w':ο}{b:Nat}{l:List Int}
def Ao.of_block(h:Ao w b l)(hb:w'.heap[b]?=w.heap[b]?):Ao w' b l:=by obtain⟨c,a,e,r⟩:=h;exact⟨c,a,hb.trans e,r⟩
def Ao.lt(h:Ao w b l):b<w:=by obtain⟨c,a,e,r⟩:=h;exact(Ω.1 e).1
def Qy{es}(n:Int)(w)(a:es.map (λe=>(e.key,e.val))=l.zipIdx.map λx=>(Δ Θ x.1,Δ Θ (x.2:Int))):
 (Instr.findKey 3 n es).run prog w=.ok (if n∈l then U (l.idxOf n,Δ Θ ((l.idxOf n:Nat):Int))else M) w:=by
 unfold Instr.findKey;rw[Y9,YK ae8,ZC,Po n es l 0 0 a];simp
def P1(n:Int)(h:Ao w b l):
 (Instr.lookup 164 (.map<|U b) n ZB).run prog w=.ok (.tuple #[Δ Θ (if n∈l then((l.idxOf n:Nat):Int)else 0),.bool<|decide<|n∈l]) w:=by
 obtain⟨e,d,hb,c⟩:=h;unfold Instr.lookup;simp only[Y9,YK E9,ZC,run_get hb,YM,sE,(Qy n w c)];by_cases a:n∈l
 simp[a];simp[a,aeZ]
def P2(n)(h:Ao w b l)(e:n∉l):
 ∃w',(Instr.mapUpdate 164 (.map<|U b) n<|Δ Θ (l.length:Int)).run prog w=.ok () w'/\Ao w' b (l++[n])/\w.grownBy w' (U b):=by
 obtain⟨d,a,hb,c⟩:=h;refine⟨{w with heap:=w.heap.setIfInBounds b<|.map (d.push {key:=Δ Θ n,val:=Δ Θ (l.length:Int),born:=a})<|a+1},?_,?_,sG w b _⟩;unfold Instr.mapUpdate;simp only[Y9,YK E9,ZC,run_get hb,YM,sE,Qy n w c,if_neg e];simp[setObj,Sem.run,hb];refine⟨_,a+1,by simp[((Ω.1 hb).1)];rfl,?_⟩
 grind
end
def Bc{ops rest o a w Q}(g:o.guard=M)(s x)(q:o.op=.call {callee:=.builtin .append,args:=#[s,x],argTypes:=#[24,24]})(B v l)(hs:a.eval s=v)(b:OI w B v l)(ad c u)(y:a.eval x=Z8 (U ad) 1 c)(t:w (ad.add 0)=U (Δ Θ u))(A:l.length<=1000000000)(n:B<=w)(h:∀d w',OI w' B d (l++[u]) ->Below B w w'->w.grownBy w' v.ownBlock->(d.ownBlock=v.ownBlock\/d.ownBlock=U w) ->YW prog ops Q rest (a.put o.dst d) w'):YW prog ops Q (o::rest) a w:=by
 obtain⟨p,hi,i,k,f⟩:=Y7 Dq;refine Yt _ g s x 24 q B 3 p _ 1 8 se hi i k f rfl (by simp) v l.length _ hs b ad 1 c (eP u) y rfl (λj z e=>?_) (λz hz=>?_) (by unfold maxLen;omega) (by omega) n λd w' r m _ h4=>?_
 match j,e with
 |0,e=>cases e;exact t
 |j+1,e=>simp[eP]at e
 simp[eP]at hz;subst hz;rfl;refine h d w' ?_ (cM b m n) m h4;unfold OI;simpa using r
structure kb(w:ο)(B p3 p4 p5 bm:Nat)(so:υ)(N:List Int):Prop where
 b3:B<=p3
 b4:B<=p4
 b5:B<=p5
 b6:B<=bm
 h3:w.heap[p3]?=U (Ψ #[.map (U bm)] 164 (0,0))
 h4:w.heap[p4]?=U (Ψ #[so] 24 (0,0))
 h5:w.heap[p5]?=U (Ψ #[.func (.func 177) #[] #[.pointer p3,.pointer p4]] 47 (0,0))
 row:OI w B so N
 map:Ao w bm N
section
variable{w w':ο}{B p3 p4 p5 bm:Nat}{so so':υ}{N N':List Int}
def kb.below(h:kb w B p3 p4 p5 bm so N)(a:Below w w w'):kb w' B p3 p4 p5 bm so N:=⟨h.b3,h.b4,h.b5,h.b6,(a.block _ (Ω.1 h.h3).1).trans h.h3,(a.block _ (Ω.1 h.h4).1).trans h.h4,(a.block _ (Ω.1 h.h5).1).trans h.h5,h.row.below a,h.map.of_block<|a.block bm h.map.lt⟩
def B5{w:ο}{B k e size n:Nat}{v xs}(h:w.ownsRow B e size v n xs)(d:∀c fr,w.heap[k]?≠U (.cells c e fr)):v.ownBlock≠U k:=by
 intro a;obtain⟨_,⟨rfl,_⟩|⟨g,f,b,rfl,j,i,_⟩⟩:=h;cases a
 cases a
 exact d _ _ i
def kb.free(h:kb w B p3 p4 p5 bm so N){k a t fr}(b:w.heap[k]?=U (.cells a t fr))(g:t≠24)(j:t≠3):wm k p4 bm so:=by
 obtain⟨l,d,i,_⟩:=h.map;refine⟨λe=>?_,λe=>?_,B5 h.row λc f e=>?_⟩;subst e;rw[h.h4]at b;cases b;exact g rfl
 grind
 grind
def kb.low(h:kb w B p3 p4 p5 bm so N){k}(a:k<B):wm k p4 bm so:=⟨λe=>by have:=h.b4;omega,λe=>by have:=h.b6;omega,λe=>by have:=(h.row.lt k e).1;omega⟩
def kb.Q4(h:kb w B p3 p4 p5 bm so N):p4<w/\bm<w:=⟨(Ω.1 h.h4).1,h.map.lt⟩
def kb.ne(h:kb w B p3 p4 p5 bm so N):p4≠bm/\so.ownBlock≠U p4/\so.ownBlock≠U bm:=by
 obtain⟨d,b,a,_⟩:=h.map;refine⟨λe=>?_,B5 h.row λc f e=>?_,B5 h.row λc f e=>?_⟩;subst e;have:=h.h4;rw[a]at this;cases this
 rw[h.h4]at e;cases e
 grind
def J5(h:kb w B p3 p4 p5 bm so N)(t:cz w w' p4 bm so so')(e:B<=w):Below B w w':=⟨t.os,t.tape,t.output,t.size,λk d=>by obtain⟨a,b,c⟩:=h.low d;exact t.block k (by omega) a b c⟩
def J6{e size n:Nat}{v xs B'}(h:kb w B p3 p4 p5 bm so N)(t:cz w w' p4 bm so so')(f:w.ownsRow B' e size v n xs)(m:e≠24)(l:e≠3):w'.ownsRow B' e size v n xs:=
 aS f λg i=>by
  have d:=(f.lt g i).2;obtain⟨_,⟨rfl,_⟩|⟨p,o,k,rfl,q,j,_⟩⟩:=f;cases i
  cases i
  obtain⟨a,b,c⟩:=h.free j m l;exact t.block p d a b c
end
end
def aeB{w c w4 B f b h bm so a N n}(hs:kb w B f b h bm so N)(h3:w.grownBy c (U bm))(x:Ao c bm (N++[n]))(h4:c.grownBy w4 so.ownBlock)(v:OI w4 B a (N++[n]))(s:a.ownBlock=so.ownBlock\/∃k,a.ownBlock=U k/\c.heap.size<=k):
 kb (w4.setCell ⟨b,0,M⟩ a) B f b h bm a (N++[n])/\cz w (w4.setCell ⟨b,0,M⟩ a) b bm so a:=by
 obtain⟨o,z,q⟩:=hs.ne;obtain⟨y,D⟩:=hs.Q4;have z3:=h3.size;have C:=h4.size;obtain⟨q1,A,u⟩:=hs.free hs.h3 (by decide) (by decide);obtain⟨r1,r2,r3⟩:=hs.free hs.h5 (by decide) (by decide);have d:∀k,k<w.heap.size->k≠bm->so.ownBlock≠U k->w4.heap[k]?=w.heap[k]?:=λk j m l=>(h4.block k (by omega)<|Z0 l).trans<|h3.block k j λe=>m<|η e;have t:a.ownBlock≠U b:=by grind
 refine⟨⟨hs.b3,hs.b4,hs.b5,hs.b6,(aq q1).trans<|(d f (Ω.1 hs.h3).1 A u).trans hs.h3,?_,(aq r1).trans<|(d h (Ω.1 hs.h5).1 r2 r3).trans hs.h5,aS v λg r=>aq λe=>t<|e▸r,?_⟩,⟨h4.os.trans h3.os,h4.tape.trans h3.tape,h4.output.trans h3.output,by simp[ZL];omega,λk j p m l=>(aq p).trans<|d k j m l,λk e=>?_⟩⟩;exact heap_setCell_same (i:=0)<|(d b y o z).trans hs.h4;exact x.of_block<|(aq<|Z0 o).trans<|h4.block bm (by omega)<|Z0 q
 grind
def OB(w B v c A bm so N n)(h:kb w B v c A bm so N)(hl:N.length<=1000000):
 Z9 prog 177 #[Δ Θ n,.pointer v,.pointer c] w λe w'=>e=.returned (Δ Θ ((nb N n).idxOf n:Nat))/\∃u,kb w' B v c A bm u (nb N n)/\cz w w' c bm so u:=by
 have G:=Y h;have T:w v=U (.map<|U bm):=by simp[Z,h.h3]
 have r:w c=U so:=by simp[Z,h.h4]
 have l:=P1 n h.map;by_cases i:n∈N
 ·have t:nb N n=N:=by unfold nb;rw[if_pos (by simpa using i)]
  rw[t];simp only[i,if_true,decide_true]at l;generalize N.idxOf n=ix at l⊢;clear h t i r
  go_enter (fU func177 rfl),ntmps177
  go_wp2_with fail
  go_ret;exact⟨rfl,_,G.out,cz.refl _⟩
 ·have t:nb N n=N++[n]:=by unfold nb;rw[if_neg (by simpa using i)]
  have hi:(N++[n]).idxOf n=N.length:=by simp[Yz,i]
  rw[t,hi];simp only[i,if_false,decide_false]at l;have HX:=Y i;obtain⟨a,m,z,P,Q,_⟩:=aF h.row;obtain⟨f,E,q,d⟩:=P2 n h.map i;obtain⟨y,H,C⟩:=h.ne;subst z;have c3:=(d.cell_far c h.Q4.1 λe=>y<|η e).trans r;have S:f.frozen? c=ξ:=(d.frozen_far c h.Q4.1 λe=>y<|η e).trans (by simp[φ,h.h4]);have o:OI f B (.slice a N.length m) N:=aS h.row λg D=>d.block g (h.row.lt g D).2 λe=>C<|by rw[D,η e]
  have s:c<f:=Nat.lt_of_lt_of_le h.Q4.1 d.size;have K:B<=f:=by have:=h.b4;omega
  have L:=Y d;have J:=Y q;have HO:=Y o;have F:=Y H;clear h t i hi y H C d q o
  go_enter (fU func177 rfl),ntmps177
  go_wp2_with (at_builtin;refine Bc rfl _ _ rfl B _ _ rfl (HO.out.below<|af f _) f.heap.size _ n rfl (by simp[go_sem,Zk]) (by omega) (by simp;omega) ?_;intro X w6 b O k j;obtain⟨a6,W,rfl,_⟩:=aF b;have c6:=(k.cell_far c (by simp;omega)<|Z0 F.out).trans<|((af f _).cell (p:=⟨c,0,M⟩) s).trans c3;have f6:=(k.frozen_far c (by simp;omega)<|Z0 F.out).trans<|((af f _).frozen (p:=⟨c,0,M⟩) s).trans S)
  go_ret;have x:(N++[n]).length=N.length+1:=by simp
  rw[x]at b j;exact⟨rfl,_,aeB G.out L.out J.out (ae2 (af f _) k) b (by obtain e|e:=j;exact .inl e;exact .inr ⟨_,e,by simp⟩)⟩
section
def aaQ{b:Type}{l:List b}{i a}(h:l[i]?=U a):l.set i a=l:=by
 refine ZV λj=>?_
 grind
def OV.ajG{w}{B g n m k:Nat}{l p q}(r:Int)(h:OV w B (.slice g n m) l)(c:l[k]?=U (p,q)):
 OV (w.setCell (g,k*2+1) r) B (.slice g n m) (l.set k (p,r)):=by
 have b:(l.set k (p,r)).flatMap lU=(l.flatMap lU).set (k*2+1) r:=by rw[pn (p,r) l k ((ψ.1 c).1),aaQ (jx lU (λv=>Δ Θ v.1) (λv=>Δ Θ v.2) (λ_=>rfl) l k _ c).1]
 obtain⟨f,⟨h0,_⟩|⟨u,i,a,e,j,s,t,d,hs,o⟩⟩:=h;cases h0
 cases e
 refine⟨by rw[b];simpa using f,.inr ⟨g,m,a.setIfInBounds (k*2+1) r,by simp,j,?_,by simpa using t,d,by simpa using hs,?_⟩⟩;simp[ZL,YT,s];rw[b,<-o];simp only[Y2,Y4,Yq]
section
variable{w w':ο}{B p3 p4 p5 bm:Nat}{so so':υ}{N:List Int}
def kb.setCell(h:kb w B p3 p4 p5 bm so N){g:Nat}{b t fr}(d:w.heap[g]?=U (.cells b t fr))(a:t≠24/\t≠3/\t≠164/\t≠47)(i:Nat)(v):kb (w.setCell (g,i) v) B p3 p4 p5 bm so N:=by
 obtain⟨l,f,m⟩:=h.free d a.1 a.2.1;have k:∀j,j≠g->(w.setCell (g,i) v).heap[j]?=w.heap[j]?:=λj c=>aq c;exact⟨h.b3,h.b4,h.b5,h.b6,(k _ λe=>by subst e;have:=h.h3;rw[d]at this;cases this;exact a.2.2.1 rfl).trans h.h3,(k _ (Z0 l)).trans h.h4,
  (k _ λe=>by subst e;have:=h.h5;rw[d]at this;cases this;exact a.2.2.2 rfl).trans h.h5,aS h.row λj c=>k j λe=>m (e▸c),h.map.of_block (k _ (Z0 f))⟩
def cz.setCell{bs}(h:cz w w' bs bm so so'){g}(e:w.heap.size<=g)(i:Nat)(v):cz w (w'.setCell (g,i) v) bs bm so so':=⟨h.os,h.tape,h.output,by simpa[ZL]using h.size,λk d a b c=>(aq<|by omega).trans<|h.block k d a b c,h.own⟩
def aaR{g n m:Nat}{l B'}(h:OV w B' (.slice g n m) l):∃a,w.heap[g]?=U (.cells a 50 (0,0)):=by
 obtain⟨e,⟨h0,_⟩|⟨o,b,a,d,f,j,k,c,hs,i⟩⟩:=h
 grind
 grind
end
def Qz(N n):N<+:nb N n:=by
 unfold nb
 grind
theorem lT:∀(l:List HV) (N:List Int),N<+:iZ N l
 |[],N=>List.prefix_refl _
 |v::l,N=>by
  rw[vZ];refine List.IsPrefix.trans ?_<|lT l _;split
  exact Qz _ _;simp
def ts(N l a):iZ N (l++a)=iZ (iZ N l) a:=by simp[iZ]
def Ko{N}{l:List HV}{k:Nat}{p q}(h:l[k]?=U (p,q)):iZ N (l.take<|k+1)=if p=1 then nb (iZ N<|l.take k) q else iZ N (l.take k):=by rw[bW h,ts];rfl
def Jr{A C}{n:Int}(h:A<+:C)(a:n∈A):C.idxOf n=A.idxOf n:=by obtain⟨t,rfl⟩:=h;rw[Yz,if_pos a]
def Kp(N n):n∈nb N n:=tU.2<|.inr rfl
def B8(l):∀N,(iZ N l).length<=N.length+l.length:=by
 induction l with
 |nil=>intro N;exact .refl
 |cons v l a=>
  intro N;rw[vZ];have:=a (if v.1=1 then nb N v.2 else N);have b:(if v.1=1 then nb N v.2 else N).length<=N.length+1:=by
   split
   unfold nb;split<;>simp;omega
  simp;omega
def J8(w B K y x bm so v N l)(h:kb w B K y x bm so N)(hv:eI w v l)(hN:N.length<=100000)(hl:l.length<=100000):
 Z9 prog 178 #[v,.pointer x] w λe w'=>∃r f,e=.returned r/\OV w' w r (l.map<|yA<|iZ N l)/\kb w' B K y x bm f (iZ N l)/\cz w w' y bm so f:=by
 have HS:=Y h;obtain⟨a,m,rfl,hm,hm2,ha⟩:=hv;obtain⟨i0,hi,hz0,Q,hz2⟩:=Y7 nh;have hmk:=λW=>BC l.length l.length .refl (by omega) W;have HA:=Y ha;have HI:=Y hi;have HZ1:=Y Q;have c5:w x=U (.func (.func 177) #[] #[.pointer K,.pointer y]):=by simp[Z,h.h5]
 have hp5:=(Ω.1 h.h5).1;have L:=h.free h.h5 (by decide) (by decide);have F:=Y L;clear h ha hi hz0 Q hz2 L
 go_enter (fU func178 rfl),ntmps178
 go_wp2_with (with_reducible refine iW rfl (.tmp 10) (.tmp 11) 23 23 rfl 50 i0 2 w l.length l.length a m _ 50 (l.flatMap lU) lx HI.out HZ1.out rfl rfl (Γ w _) (fx l) (λh0=>?h1) (by rw[fx,jz];omega) (V1 l) ?_)
 case h1=>obtain⟨bb,o,e,hb2,hat⟩:=HA.out h0;refine⟨_,e,λj u hu=>(YO w _ _ ?_).trans<|zt hat j u hu⟩;rw[show(((bb,o):YP).add j).block=bb by unfold Zk;split<;>rfl];exact hb2
 ·intro w1 D S;rw[<-YH]at D;have H:=(af w _).grown S (by simp) (λk hk=>by cases hk;exact .refl);have T:=zR rfl .refl D (by omega);have X:=HS.out.below H;have ht1:cz w w1 y bm so so:=cz.bK H;clear D S hmk HI HZ1 H
  go_wp2_with fail
  go_loopw [15] (λi wr=>∃(k:Nat) (f:υ),k<=l.length/\i=Δ Θ k/\OV wr w (.slice w.heap.size l.length l.length) ((l.take k).map (yA<|iZ N l)++l.drop k)/\kb wr B K y x bm f (iZ N<|l.take k)/\cz w wr y bm so f) (λi _=>l.length-(intOf i).toNat)
  case atStart=>exact⟨0,so,Nat.zero_le _,rfl,by simpa using T,by simpa[iZ]using X,ht1⟩
  case round=>
   clear T X ht1;obtain⟨k,O,hk,rfl,b,c,d⟩:=hrel;by_cases hlt:k<l.length
   ·obtain⟨p,q,e1⟩:=ep hlt;obtain⟨c1,c2,A,hBg,hgl⟩:=OV.at_ b<|Wa e1;have HO:=Y b;have C:=Y c;have J:=Y e1;have hz:=d.size;have k5:=(d.cell (a:=⟨x,0,M⟩) hp5 F.out.1 F.out.2.1 F.out.2.2).trans c5;have apq:x<wr:=by omega
    have f1:=A<|k*2+1;have hvl:(iZ N<|l.take k).length<=1000000:=by have:=B8 (l.take k) N;simp at this;omega
    by_cases hp:p=1
    ·subst hp;clear A e1 b c
     go_wp2_with fail
     refine(OB _ B K y x bm O (iZ N<|l.take k) q (C.out.below<|af wr _) hvl).mono ?_;rintro e w2 ⟨rfl,so2,hn2,E⟩;have t:=J6 (C.out.below<|af wr<|Ψ #[Δ Θ 1,Δ Θ q] 50) E (HO.out.alloc _) (by decide) (by decide);obtain⟨d1,d2,P,-,-⟩:=OV.at_ t<|Wa J.out;have g1:=P<|k*2+1;have n:=OV.ajG (((nb (iZ N<|l.take k) q).idxOf q:Nat):Int) t<|Wa J.out;obtain⟨cur,z⟩:=aaR t;have s:=hn2.setCell z (by decide) (k*2+1)<|Δ Θ (((nb (iZ N<|l.take k) q).idxOf q:Nat):Int);have G:=(d.trans<|(cz.bK<|af wr<|Ψ #[Δ Θ 1,Δ Θ q] 50).trans E).setCell hBg (k*2+1)<|Δ Θ (((nb (iZ N<|l.take k) q).idxOf q:Nat):Int);have hr:yA (iZ N l) (1,q)=(1,(((nb (iZ N<|l.take k) q).idxOf q:Nat):Int)):=by
      have h1:iZ N (l.take<|k+1)<+:iZ N l:=by have:=lT (l.drop<|k+1)<|iZ N<|l.take<|k+1;rwa[<-ts,YN]at this
      have g:=Ko (N:=N) J.out;rw[if_pos rfl]at g;rw[g]at h1;simp[yA,Jr h1<|Kp _ _]
     rw[<-hr,IB J.out]at n;have g:=Ko (N:=N) J.out;rw[if_pos rfl]at g;generalize (((nb (iZ N<|l.take k) q).idxOf q:Nat):Int)=ix at n s G⊢;rw[<-g]at s;have H3:=Y<|Ξ n<|Ξ s G;clear t n hn2 s E G hr g z P c1 c2 f1 k5
     go_wp2_with fail
     exact⟨⟨k+1,so2,by omega,by go_num,H3.out.1,H3.out.2.1,H3.out.2.2⟩,by simp[intOf];omega⟩
    ·have hp':(p==1)=ξ:=by simp[hp]
     have hr:yA (iZ N l) (p,q)=(p,q):=by simp[yA,hp]
     have g:=Ko (N:=N) J.out;rw[if_neg hp]at g;have HR:=Y hr;have H2:=Y g;clear A e1 b c hr g
     go_wp2_with fail
     exact⟨⟨k+1,O,by omega,by go_num,by rw[<-IC J.out HR.out];exact HO.out.alloc _,by rw[H2.out];exact C.out.below<|af wr _,d.trans<|cz.bK<|af wr _⟩,by simp[intOf];omega⟩
   ·rw[ε (by omega),Zt<|by omega,Yu]at b;rw[ε (by omega)]at c
    go_wp2_with fail
    go_ret;exact⟨_,_,rfl,b,c,d⟩
end
section
def Ap(a b:υ):Prop:=∀g,a.ownBlock=U g->b.ownBlock≠U g
structure yB(w:ο)(B p7:Nat)(cs:List HC)(roots:List HV)(f:Bool->List Int)(so vc vr:υ)(u:Bool->υ):Prop where
 hb:w.heap[p7]?=U (Ψ #[vc,vr,u ξ,u ZB] 56 (0,0))
 c:OX w B vc cs
 r:OV w B vr roots
 i:∀b,OI w B (u b) (f b)
 ap:∀b,Ap (u b) so
 ab:∀b,Ap (u b) (u !b)
 lo:B<=p7
section
variable{w w':ο}{B p3 p4 p5 p7 bm:Nat}{cs:List HC}{roots:List HV}{f:Bool->List Int}{so so' vc vr:υ}{u:Bool->υ}{N:List Int}
def yB.below(h:yB w B p7 cs roots f so vc vr u)(a:Below w w w'):yB w' B p7 cs roots f so vc vr u:=⟨(a.block _ (Ω.1 h.hb).1).trans h.hb,h.c.keep<|kE.below a,h.r.below a,λb=>(h.i b).below a,h.ap,h.ab,h.lo⟩
def HO.num{l}(h:HO w B l cs)(c:kb w B p3 p4 p5 bm so N)(t:cz w w' p4 bm so so'):HO w' B l cs:=⟨h.1,λi k x a b e1 e2=>⟨(h.2 i k x a b e1 e2).1,J6 c t (h.2 i k x a b e1 e2).2 (by simp)<|by simp⟩⟩
def yB.num(h:yB w B p7 cs roots f so vc vr u)(d:kb w B p3 p4 p5 bm so N)(t:cz w w' p4 bm so so'):yB w' B p7 cs roots f so' vc vr u:=by
 obtain⟨v,q,m,_⟩:=d.map;obtain⟨n,k,p⟩:=d.free h.hb (by simp) (by decide);refine⟨(t.block _ (Ω.1 h.hb).1 n k p).trans h.hb,?_,J6 d t h.r (by decide)<|by decide,λb=>aS (h.i b) λg a=>t.block g ((h.i b).lt g a).2 (λe=>?_) (λe=>?_)<|h.ap b g a,λb g a e=>?_,h.ab,h.lo⟩;obtain⟨l,s,o⟩:=h.c;exact⟨l,J6 d t s (by decide)<|by decide,o.num d t⟩;subst e;exact cF (h.i b) d.h4 (by decide) a;subst e;exact B5 (h.i b) (λc f e=>by rw[m]at e;cases e) a;obtain j|j:=t.own g e
 ·exact h.ap b g a j
 have:=((h.i b).lt g a).2;omega
def yB.app{m n b}(h:yB w B p7 cs roots f so vc vr u)(d:kb w B p3 p4 p5 bm so N)(ho:OI w' B m (f b++[n]))(G:w.grownBy w' (u b).ownBlock)(z:m.ownBlock=(u b).ownBlock\/∃k,m.ownBlock=U k/\w.heap.size<=k)(hB:B<=w):
 yB (w'.setCell (p7,if b then 3 else 2) m) B p7 cs roots (λc=>if c=b then f b++[n]else f c) so vc vr (λc=>if c=b then m else u c)/\
 kb (w'.setCell ⟨p7,if b then 3 else 2,M⟩ m) B p3 p4 p5 bm so N/\Below B w (w'.setCell ⟨p7,if b then 3 else 2,M⟩ m):=by
 have K:∀g,(u b).ownBlock=U g->B<=g/\g<w:=λg G=>(h.i b).lt g G;have A:∀k,k<w.heap.size->(u b).ownBlock≠U k->w'.heap[k]?=w.heap[k]?:=λk A C=>G.block k A<|Z0 C;have J:∀{k:Nat} {D:Array υ} {t:ZO} {fr:Nat×Nat},w.heap[k]?=U (.cells D t fr) ->t≠3->w'.heap[k]?=w.heap[k]?:=λhc X=>A _ (Ω.1 hc).1 λe=>cF (h.i b) hc X e;have o:=(J h.hb<|by decide).trans h.hb;have row:∀{e size n:Nat} {v:υ} {y:List υ} {q:Nat},w.ownsRow q e size v n y->(e≠3\/Ap v (u b)) ->w'.ownsRow q e size v n y:=λ{e size n v y q} s hd=>aS s λg a=>A g (s.lt g a).2 λH=>by
  obtain hd|hd:=hd
  obtain⟨_,⟨rfl,_⟩|⟨g',cap,D,rfl,_,F,_⟩⟩:=s
  ·cases a
  cases a;exact cF (h.i b) F hd H
  exact hd g a H
 have fin:∀{e size n:Nat} {v:υ} {y:List υ} {q:Nat},w'.ownsRow q e size v n y->e≠56->(w'.setCell (p7,if b then 3 else 2) m).ownsRow q e size v n y:=λs he=>aS s λg a=>aq λH=>by subst H;exact cF s o (Z0 he) a
 have Q:Ap m so:=λg a e=>by
  obtain h'|⟨k,h',hk'⟩:=z
  exact h.ap b g (h'▸a) e;rw[h']at a;cases a;have:=(d.row.lt g e).2;omega
 have E:∀c,c≠b->Ap (u c) m:=λc hc g a e=>by
  have j:c=!b:=by cases c<;>cases b<;>simp_all
  obtain h'|⟨k,h',hk'⟩:=z
  rw[h']at e;refine h.ab c g a ?_;subst j;rwa[Bool.not_not];rw[h']at e;cases e;have:=((h.i c).lt g a).2;omega
 refine⟨⟨?_,?_,fin (row h.r<|.inl<|by decide)<|by decide,λc=>?_,λc=>?_,λc=>?_,h.lo⟩,⟨d.b3,d.b4,d.b5,d.b6,?_,?_,?_,fin (row d.row<|.inr λg a e=>h.ap b g e a)<|by decide,?_⟩,?_⟩;cases b
 ·exact heap_setCell_same (i:=2) o
 exact heap_setCell_same (i:=3) o;obtain⟨l,C,L,h3⟩:=h.c;exact⟨l,fin (row C<|.inl<|by decide)<|by decide,L,λi k x T S e1 e2=>⟨(h3 i k x T S e1 e2).1,fin (row (h3 i k x T S e1 e2).2<|.inl<|by decide)<|by decide⟩⟩;by_cases hc:c=b
 ·rw[if_pos hc,if_pos hc];exact fin ho (by decide)
 rw[if_neg hc,if_neg hc];have j:b=!c:=by cases c<;>cases b<;>simp_all
 exact fin (row (h.i c)<|.inr<|j▸h.ab c) (by decide);by_cases hc:c=b
 ·rw[if_pos hc];exact Q
 rw[if_neg hc];exact h.ap c;by_cases hc:c=b
 ·subst hc;rw[if_pos rfl,if_neg (by cases c<;>simp)]
  exactλg C L=>E (!c) (by cases c<;>simp) g L C
 have j:(!c)=b:=by cases c<;>cases b<;>simp_all
 rw[if_neg hc,if_pos j];exact E c hc;exact(aq λe=>by subst e;have:=d.h3;rw[h.hb]at this;cases this).trans<|(J d.h3<|by decide).trans d.h3;exact(aq λe=>by subst e;have:=d.h4;rw[h.hb]at this;cases this).trans<|(J d.h4<|by decide).trans d.h4;exact(aq λe=>by subst e;have:=d.h5;rw[h.hb]at this;cases this).trans<|(J d.h5<|by decide).trans d.h5;obtain⟨es,O,W,P⟩:=d.map;have F:=(A bm d.map.lt (B5 (h.i b) λc f e=>by rw[W]at e;cases e)).trans W;exact⟨es,O,(aq λe=>by subst e;rw[o]at F;cases F).trans F,P⟩;exact(((Below.refl B w).grown G hB λk e=>(K k e).1)).setCell (p:=⟨p7,_,M⟩) h.lo _
def yB.reads(h:yB w B p7 cs roots f so vc vr u)(c:kb w B p3 p4 p5 bm so N):(w p7=U vc/\w (p7,2)=U (u ξ)/\w (p7,3)=U (u ZB))/\(∀i,w.frozen? ⟨p7,i,M⟩=ξ)/\w p5=U (.func (.func 177) #[] #[.pointer p3,.pointer p4])/\p7<w/\p5<w:=by have a:=h.hb;have b:=c.h5;exact⟨⟨by simp[Z,a],by simp[Z,a],by simp[Z,a]⟩,λi=>by simp[φ,a],by simp[Z,b],(Ω.1 a).1,(Ω.1 b).1⟩
def Kq{w0 c o}(g:yB w B p7 cs roots f so vc vr u)(e:kb w B p3 p4 p5 bm so N)(d:Below B w0 w)(h0:B<=w0)(b:kb w' B p3 p4 p5 bm so' c)(a:cz w.drew w' p4 bm so so'):
 yB w' B p7 cs roots f so' vc vr u/\yB (w'.alloc o) B p7 cs roots f so' vc vr u/\kb (w'.alloc o) B p3 p4 p5 bm so' c/\Below B w0 (w'.alloc o):=by
 have hd:=(Below.refl w w).drew;have h5:=(g.below hd).num (e.below hd) a;have hz:=d.size;exact⟨h5,h5.below<|af _ _,b.below<|af _ _,(d.trans<|(hd.mono<|by omega).trans<|J5 (e.below hd) a (by simp;omega)).trans<|(af _ _).mono (by have:=a.size;simp at this;omega)⟩
def yB.cell{j x k vs l}(h:yB w B p7 cs roots f so vc vr u)(o:OC w B vc l)(D:HO w B l cs)(a:kb w B p3 p4 p5 bm so N)(p:OV w B x vs)(J:OC w' B j (l++[(k,x)]))(m:w.grownBy w' vc.ownBlock)(L:B<=w):
 yB (w'.setCell p7 j) B p7 (cs++[(k,vs)]) roots f so j vr u/\kb (w'.setCell p7 j) B p3 p4 p5 bm so N/\Below B w (w'.setCell p7 j):=by
 have y:∀{k:Nat} {cur:Array υ} {t:ZO} {fr:Nat×Nat},w.heap[k]?=U (.cells cur t fr) ->t≠76->w'.heap[k]?=w.heap[k]?:=λhc G=>m.block _ (Ω.1 hc).1 λe=>cF o hc G e.symm;have d:=(y h.hb<|by decide).trans h.hb;have row:∀{e size n:Nat} {v:υ} {xs:List υ} {B':Nat},w.ownsRow B' e size v n xs->e≠76->w'.ownsRow B' e size v n xs:=λs hd=>fy s o hd m;have fin:∀{e size n:Nat} {v:υ} {xs:List υ} {B':Nat},w'.ownsRow B' e size v n xs->e≠56->(w'.setCell p7 j).ownsRow B' e size v n xs:=λs q=>aS s λg z=>aq λH=>by subst H;exact cF s d (Z0 q) z
 have q:=(D.snoc (k:=k) p).types o m;refine⟨⟨heap_setCell_same (i:=0) d,⟨l++[(k,x)],fin J (by decide),q.1,λi k x E vs e1 e2=>⟨(q.2 i k x E vs e1 e2).1,fin (q.2 i k x E vs e1 e2).2 (by decide)⟩⟩,fin (row h.r (by decide)) (by decide),λb=>fin (row (h.i b) (by decide)) (by decide),h.ap,h.ab,h.lo⟩,
  ⟨a.b3,a.b4,a.b5,a.b6,?_,?_,?_,fin (row a.row (by decide)) (by decide),?_⟩,((Below.refl B w).grown m L λk e=>(o.lt k e).1).setCell h.lo _⟩
 exact(aq λe=>by subst e;have:=a.h3;rw[h.hb]at this;cases this).trans<|(y a.h3<|by decide).trans a.h3;exact(aq λe=>by subst e;have:=a.h4;rw[h.hb]at this;cases this).trans<|(y a.h4<|by decide).trans a.h4;exact(aq λe=>by subst e;have:=a.h5;rw[h.hb]at this;cases this).trans<|(y a.h5<|by decide).trans a.h5;obtain⟨K,A,F,C⟩:=a.map;have p:=(m.block bm a.map.lt λe=>B5 o (λc f e=>by rw[F]at e;cases e) e.symm).trans F;exact⟨K,A,(aq λe=>by subst e;rw[d]at p;cases p).trans p,C⟩
end
end
end Kn
