/- A part of the proof of GcMarks; no conditions. -/
import Derived.Test.YtbnmpafbfoaggaaGreatDoorM0
import Derived.Test.YtbnmpafbfoaggaaGreatDoorM2
import Derived.Deep.AppendLies
import Derived.ArgAppend
import Derived.Test.YtbnmpafbfoaggaaGreatDoorM1
import Derived.Outline
import Derived.BigQuiet
import Derived.Deep.DeepCutAuto
import Derived.Deep.Cut
import Derived.Below
import Derived.Carry
import Derived.BigRegion
set_option linter.defProp false
set_option linter.unusedVariables false
set_option linter.unusedSimpArgs false
set_option maxRecDepth 100000
set_option maxHeartbeats 16000000
noncomputable section
open Array renaming getElem?_eq_some_iff->R,getElem?_setIfInBounds_ne->ZL,getElem?_eq_getElem->ZD,ext->Zs
open Go.Lib renaming hid->V
open Option renaming some->U,none->Z
open Go.Obj renaming cells->Ω
open Go.IntKind renaming i64->Ψ
open Go.Value renaming int->Ξ,slice->ZI,pointer->ZF
open Go.World renaming cell?->Θ,frozen?->ο,setCell->ZR,size_drew->Zr
open List renaming getElem?_eq_some_iff->Δ,mem_of_getElem?->Γ,setIfInBounds_toArray->ψ,set_cons_zero->φ,set_cons_succ->υ,take_succ_cons->ξ,drop_succ_cons->μ,getElem?_take->κ,mem_iff_getElem?->θ,replicate->η,take_zero->ζ,drop_zero->ε,take_of_length_le->Z8,mem_append->Z2,map_append->Z1,pairwise_iff_getElem->ZX,all_eq_true->ZU,mem_range->ZS,length_append->ZO,range->ZN,eq_nil_of_length_eq_zero->ZH,length_map->ZG,nodup_nil->ZE,getElem?_append_left->ZC,countP_replicate->Zy,getElem?_eq_none->Zx,getElem_append->Zv,flatMap_cons->Zu,prefix_refl->Zq
open Bool renaming false->Y,true->I,and_eq_true->ZJ
open Go renaming heap_alloc_new->ω,World->M,wpOp_step->ι,Calls->Z9,bodyPost_ret->ZW,Addr->ZQ,Oper->ZP,getD_set_ne->ZM,madeCells->ZK,results->ZA,Program->Zz,Act->Zw,wpList->Zt,info_parts->Zp,TypeId->Zo
open And renaming intro->χ
open Option.some renaming inj->Z4
open Go.Act renaming put->Z0
open Go.Addr renaming add->ZY
open Go.Region renaming binds->ZV,seqB->Zn
open Go.World.grownBy renaming refl->ZT
open Ne renaming symm->ZB
namespace Go.Proofs.YtbnmpafbfoaggaaGreatDoor
open Go.Proofs.Tryz hiding prog
open Go.Proofs.aD
namespace Kn
open Go Go.RowKit Md
section
def d6:Value->Option Nat
 |ZI (U a) _ _=>U a.block
 |_=>Z
def OQ(w:M)(B:Nat)(s:Value)(l:List Int):Prop:=∃a m,s=.slice a l.length m/\l.length<=m/\m<=9223372036854775807/\(a=Z->m=0)/\
 ∀ad,a=U ad->∃g o cur,ad=⟨g,o,Z⟩/\B<=g/\w.heap[g]?=U (.cells cur 3 (0,0))/\o+m<=cur.size/\∀i n,l[i]?=U n->cur[o+i]?=U (Ξ Ψ n)
def OQ.nil(w B):OQ w B (ZI Z 0 0) []:=⟨Z,0,rfl,.refl,by decide,λ_=>rfl,λad e=>by cases e⟩
def OQ.lt{w B s l}(h:OQ w B s l){g}(c:d6 s=U g):B<=g/\g<w/\∃b,w.heap[g]?=U (.cells b 3 (0,0)):=by
 obtain⟨a,m,rfl,_,_,_,h5⟩:=h;obtain _|ad:=a
 cases c
 cases c
 grind
def OQ.of_block{w w' B s l}(h:OQ w B s l)(c:∀g,d6 s=U g->w'.heap[g]?=w.heap[g]?):OQ w' B s l:=by obtain⟨a,m,rfl,d,h3,h4,h5⟩:=h;refine⟨a,m,rfl,d,h3,h4,λad e=>?_⟩;subst e;obtain⟨g,o,b,rfl,f,hb,r⟩:=h5 _ rfl;exact⟨g,o,b,rfl,f,(c g rfl).trans hb,r⟩
def OQ.below{w w' B s l}(h:OQ w B s l)(b:Below w w w'):OQ w' B s l:=h.of_block λg a=>b.block g (h.lt a).2.1
def Ny:prog.underlying 24=U (.slice 3):=se
def Wi{w:M}{bx:Nat}{n t fr}(b:w.heap[bx]?=U (Ω #[Ξ Ψ n] t fr)):∀j u,([Value.int Ψ n])[j]?=U u->w ((bx:ZQ).add j)=U u:=by
 intro j u a
 match j,a with
 |0,a=>cases a;simp[Θ,b,ZY]
 |j+1,a=>simp at a
theorem Wj:∀l:List Int,(l.flatMap eP).length=l.length
 |[]=>rfl
 |a::l=>by rw[Zu,ZO,Wj l];simp[eP];omega
def wF(w:M)(b o v):w.setCells b o [v]=w.setCell (b,o) v:=by rfl
def aB{w:M}{b:Nat}{a t fr}(h:w.heap[b]?=U (.cells a t fr))(i v):(w.setCell (b,i) v).heap[b]?=U (.cells (a.setIfInBounds i v) t fr):=by simp[ZR,Array.getElem?_modify,h]
def wG{w ty}{B bx:Nat}{s l n t fr}(h:OQ w B s l)(L:w.heap[bx]?=U (Ω #[Ξ Ψ n] t fr))(hl:l.length<=1000000)(hB:B<=w):
 ∃s' w',(Builtin.append_ #[24,24] ty #[s,.slice bx 1 1]).run prog w=.ok s' w'/\OQ w' B s' (l++[n])/\w.grownBy w' (d6 s)/\(∀g,d6 s'=U g->d6 s=U g\/w.heap.size<=g)/\∃a' m',s'=.slice a' (l.length+1) m':=by
 obtain⟨i0,hi,C,q,F⟩:=Zp Dq;obtain⟨a,m,rfl,h2,h3,h4,h5⟩:=h;have d:=Wi L;have fin:∀f w',w'.ownsRow w 3 1 f (l.length+1) (l.flatMap eP++[Ξ Ψ n]) ->OQ w' B f (l++[n])/\(∀g,d6 f=U g->w.heap.size<=g)/\∃a' m',f=.slice a' (l.length+1) m':=by
  intro f w' r1;obtain⟨g,S,rfl,hg1,hg2⟩:=r1.form (by omega);obtain⟨e,_⟩|⟨g',cap',G,e,r,hb,hle,W,z,O⟩:=r1.2
  cases e
  injection e with e1 e2 e3
  injection e1 with e1
  injection e1 with e1 _ _
  subst e1;subst e3;refine⟨⟨U (g:Nat),S,by simp,by simpa using hle,by unfold maxLen at W;omega,⟨λe=>(by cases e),λad e=>?_⟩⟩,λg0 e=>(by cases e;exact r),_,_,rfl⟩;cases e
  refine⟨g,0,G,rfl,Nat.le_trans hB r,hb,by rw[Nat.zero_add,z,Nat.mul_one];exact Nat.le_refl _,λi x c=>?_⟩;have v:(l.flatMap eP++[Value.int Ψ n]).length=l.length+1:=by rw[ZO,Wj];rfl
  have E:(l.flatMap eP++[Value.int Ψ n])[i]?=U (Ξ Ψ x):=by have:=zn eP (λn=>Value.int Ψ n) (λ_=>rfl) (l++[n]) i x c;rw[List.flatMap_append]at this;simpa[eP]using this
  rw[<-O]at E;rw[κ]at E;split at E
  rw[Nat.zero_add];simpa using E;cases E
 obtain _|ad:=a
 have T:=h4 rfl;subst T;have H:l=[]:=ZH (by omega);subst H;obtain⟨f,w',b,r1,r2,_⟩:=run_append_own (P:=prog) w w 24 ty 3 i0 _ 1 8 se hi C q F rfl (by decide) (ZI Z 0 0) 0 [] (World.ownsRow_nil w _ 3 1) bx 1 1 [Ξ Ψ n] rfl d (by simp[Value.oneCell']) (by unfold maxLen;omega) (by omega) .refl;obtain⟨q1,q2,X⟩:=fin f w' (by simpa using r1);exact⟨f,w',b,q1,r2,λg K=>.inr<|q2 g K,X⟩;obtain⟨g,o,G,rfl,r,hb,z,D⟩:=h5 _ rfl;have K:=(R.1 hb).1;by_cases p:l.length+1<=m
 have b:=run_append_room_cells (P:=prog) w 24 ty 3 i0 se hi g o l.length m bx 1 1 [Ξ Ψ n] (by rw[q];rfl) d (by simp[Value.oneCell']) p
  (λj A=>by rw[q];simp at A;subst A;simp[Θ,hb];omega)
  (λj A=>by simp[ο,hb])
 rw[q,Nat.mul_one,wF]at b;refine⟨_,_,b,⟨U ((g:Nat),o),m,by simp,by simpa using p,h3,⟨λe=>(by cases e),λad e=>?_⟩⟩,⟨rfl,rfl,rfl,by simp[ZR],λk hk N=>Below.heap_setCell _ _ _ _ λe=>N (by rw[e];rfl)⟩,λg0 hg0=>.inl hg0,_,_,rfl⟩;cases e
 refine⟨g,o,_,rfl,r,aB hb (o+l.length)<|Ξ Ψ n,by simpa using z,λi x c=>?_⟩;obtain J|J:=Nat.lt_or_ge i l.length
 rw[ZC J]at c;rw[ZL (by omega)];exact D i x c;have hie:i=l.length:=by have:=(Δ.1 c).1;simp at this;omega
 subst hie;simp at c;subst c;rw[Array.getElem?_setIfInBounds_self_of_lt (by omega)];have v:(l.flatMap eP).length=l.length*1:=by rw[Wj,Nat.mul_one]
 have y:∀j u,(l.flatMap eP)[j]?=U u->w ((((g:Nat),o):ZQ).add j)=U u:=by
  intro j u A;have Q:j<l.length:=by have:=(Δ.1 A).1;omega
  obtain⟨x,L⟩:=lw Q;rw[(zn eP (λn=>Value.int Ψ n) (λ_=>rfl) l j x L)]at A;cases A
  have:=D j x L;unfold ZY;split
  rename_i h0;subst h0;simpa[Θ,hb]using this;simpa[Θ,hb]using this
 obtain⟨f,w',b,r1,r2⟩:=run_append_arg_grows (P:=prog) w 24 ty 3 i0 _ 1 8 se hi C q F rfl (by decide) ((g:Nat),o) l.length m (l.flatMap eP) v y bx 1 1 [Ξ Ψ n] rfl d (by omega) (by unfold maxLen;omega) (by omega);obtain⟨q1,q2,X⟩:=fin f w' r1;exact⟨f,w',b,q1,⟨r2.os,r2.tape,r2.output,r2.size,λk hk _=>r2.block k hk<|by simp⟩,λg K=>.inr<|q2 g K,X⟩
def ow{P w ops rest o a Q}(e:o.guard=Z)(s x t)(f:o.op=.call {callee:=.builtin .append,args:=#[s,x],argTypes:=#[t,t]})(v v2)(hs:a.eval s=v)(k:a.eval x=v2)(b:Value->M->Prop)(d:∃c w',(Builtin.append_ #[t,t] o.type #[v,v2]).run P w=.ok c w'/\b c w')(h:∀c w',b c w'->Zt P ops Q rest (a.put o.dst c) w'):Zt P ops Q (o::rest) a w:=by refine wpList_plain e λK j=>?_;obtain⟨c,w',i,g⟩:=d;unfold Oper.wp execOp;simp only[f,resolve,invoke,builtin,Sem.run_bind,Sem.run_pure,Result.andThen_ok,List.map_toArray,List.map_cons,List.map_nil,hs,k,i];exact j _ _<|h c w' g
def zS(w:M)(B bq:Nat)(s:Value)(l:List Int):Prop:=w.heap[bq]?=U (Ω #[s] 305 (0,0))/\OQ w B s l
structure Kf(w w':M)(bq bm:Nat)(s s':Value):Prop where
 os:w'.os=w.os
 tape:w'.tape=w.tape
 output:w'.output=w.output
 size:w.heap.size<=w'
 block:∀k,k<w.heap.size->k≠bq->k≠bm->d6 s≠U k->w'.heap[k]?=w.heap[k]?
 own:∀k,d6 s'=U k->d6 s=U k\/w.heap.size<=k
def Kf.bK{w w':M}{bq bm s}(h:Below w w w'):Kf w w' bq bm s s:=⟨h.os,h.tape,h.output,h.size,λk a _ _ _=>h.block k a,λk e=>.inl e⟩
def Kf.trans{w w' b bq bm s s' a}(h:Kf w w' bq bm s s')(k:Kf w' b bq bm s' a):Kf w b bq bm s a:=
 ⟨k.os.trans h.os,k.tape.trans h.tape,k.output.trans h.output,Nat.le_trans h.size k.size,
   λi hi d c h3=>(k.block i (Nat.lt_of_lt_of_le hi h.size) d c (λe=>by obtain e|e:=h.own i e;exact h3 e;omega)).trans<|h.block i hi d c h3,
   λi e=>by
    obtain e|e:=k.own i e
    exact h.own i e;exact .inr (Nat.le_trans h.size e)⟩
def Kf.below{w w' B bq bm s s' l}(h:Kf w w' bq bm s s')(a:OQ w B s l)(d:B<=bq)(c:B<=bm)(f:B<=w):Below B w w':=⟨h.os,h.tape,h.output,h.size,λk b=>h.block k (by omega) (by omega) (by omega) (λe=>by have:=(a.lt e).1;omega)⟩
def zS.ne{w B bq s cs l}(hb:w.heap[bq]?=U (.cells cs 305 (0,0)))(b:OQ w B s l):d6 s≠U bq:=λe=>by
 obtain⟨_,_,a,hc⟩:=b.lt e
 grind
section
variable{w w1:M}{B bq n0:Nat}{s s':Value}{l l':List Int}{o:Obj}
def pr(hb:w.heap[bq]?=U (Ω #[s] 305 (0,0)))(c:OQ w B s l)(b:(w.alloc o).grownBy w1 (d6 s)):w1.heap[bq]?=U (Ω #[s] 305 (0,0)):=by have a:=(R.1 hb).1;rw[b.block bq (by simp;omega) (ZB<|zS.ne hb c),Below.heap_alloc w o bq a];exact hb
def I4(hb:w.heap[bq]?=U (Ω #[s] 305 (0,0)))(b:OQ w B s l)(a:(w.alloc o).grownBy w1 (d6 s)):w1 bq=U s:=by simp[Θ,pr hb b a]
def BO(hb:w.heap[bq]?=U (Ω #[s] 305 (0,0)))(b:OQ w B s l)(a:(w.alloc o).grownBy w1 (d6 s)):w1.frozen? bq=Y:=by simp[ο,pr hb b a]
def Oj{bm}(hb:w.heap[bq]?=U (Ω #[s] 305 (0,0)))(m:OQ w B s l)(f:OQ w1 B s' l')(a:(w.alloc o).grownBy w1 (d6 s))(p:∀g,d6 s'=U g->d6 s=U g\/(w.alloc o).heap.size<=g):
 ∃c,zS (w1.setCell ⟨bq,0,Z⟩ s') B bq c l'/\Kf w (w1.setCell ⟨bq,0,Z⟩ s') bq bm s c:=by
 have b:=pr hb m a;have d:w.heap.size<=w1.heap.size:=by have:=a.size;simp at this;omega
 refine⟨s',⟨?_,f.of_block λg e=>Below.heap_setCell _ _ _ _ λe2=>?_⟩,⟨a.os,a.tape,a.output,by simpa[ZR]using d,λk j i q n=>?_,λk e=>?_⟩⟩;rw[aB b];rfl;subst e2;exact zS.ne b f e;rw[Below.heap_setCell _ _ _ _ i,a.block k (by simp;omega)<|ZB n,Below.heap_alloc w o k j];obtain h|h:=p k e
 ·exact .inl h
 right;simp at h;omega
end
def afd(w B bq bm s l n)(h:zS w B bq s l)(v:B<=w)(j:l.length<=1000000):
 Z9 prog 258 #[ZF (U ⟨bq,0,Z⟩),Ξ Ψ n] w λe w'=>e=.returned (.tuple #[])/\∃s',zS w' B bq s' (l++[n])/\Kf w w' bq bm s s':=by
 obtain⟨hb,f⟩:=h;have g:=(R.1 hb).1;have b:=V f;obtain⟨a,m,rfl,r,h3,h4,h5⟩:=f;have c0:w bq=U (.slice a l.length m):=by simp[Θ,hb]
 have c:=V hb;clear h5 h4 hb
 go_enter (fU func258 rfl),ntmps258
 go_wp2_with (at_builtin;refine ow rfl _ _ 24 rfl (.slice a l.length m) (.slice w.heap.size 1 1) rfl rfl _ (wG (b.out.below<|af w _) (ω w _) j (by simp;omega)) ?_;rintro q o ⟨i,d,k,t,x,rfl⟩;have u:=I4 c.out b.out d;have p:=BO c.out b.out d)
 go_end0;exact⟨rfl,Oj c.out b.out i d k⟩
end
section
def Ao(w:M)(c:Nat)(k:Int):Prop:=∃a l mc u,w.heap[c]?=U (Ω #[.slice a (l:List Int).length mc,Ξ Ψ k,Ξ .u64 u] 95 (0,0))/\n9 w (.slice a l.length mc) l/\∀p,0<l.length->a=U p->p.block<c
def kp(w:M)(c m:Nat):Prop:=∃k,Ao w c k/\0<=k/\k<=(m:Int)
def Xx(op a b):0<=bits op .u64 a b:=(wrap_within .u64 _).1
section
variable{w w':M}{c:Nat}
def Kr{i:Nat}{v}(h:w.grownBy w' (U c)):w.grownBy (w'.setCell (c,i) v) (U c):=⟨h.os,h.tape,h.output,by simpa using h.size,λj b a=>(aa λe=>a<|congrArg U e).trans<|h.block j b a⟩
def Xy{r}(h:w.grownBy w' r)(n):w.grownBy (w'.drewN n) r:=⟨h.os,h.tape,h.output,h.size,h.block⟩
def adF{r}(h:w.grownBy w' r):w.grownBy w'.drew r:=⟨h.os,h.tape,h.output,h.size,h.block⟩
def n9.grown{a n m l}(h:n9 w (.slice a n m) l)(g:w.grownBy w' (U c))(d:∀p,0<l.length->a=U p->p.block≠c):n9 w' (.slice a n m) l:=by
 obtain⟨q,r,e,k,j,h3⟩:=h;cases e
 refine⟨a,m,rfl,k,j,λh0=>?_⟩;obtain⟨b,o,rfl,hb,f⟩:=h3 h0;refine⟨b,o,rfl,Nat.lt_of_lt_of_le hb g.size,λi n e=>g.cell (f i n e) ?_⟩
 exactλe=>d _ h0 rfl<|Z4 e
def Ao.ah3{k k':Int}(h:Ao w c k):Ao (w.setCell (c,1) k') c k':=by obtain⟨a,l,mc,u,hc,d,b⟩:=h;exact⟨a,l,mc,u,heap_setCell_same hc,d.grown (Kr<|ZT w<|U c) λp h0 e=>Nat.ne_of_lt<|b p h0 e,b⟩
def Ao.anz{k b}(h:Ao w c k):Ao (w.setCell (c,2)<|Ξ .u64 b) c k:=by obtain⟨a,l,mc,u,hc,f,d⟩:=h;exact⟨a,l,mc,b,heap_setCell_same hc,f.grown (Kr<|ZT w<|U c) λp h0 e=>Nat.ne_of_lt<|d p h0 e,d⟩
def Ao.reads{k}(h:Ao w c k):∃a l mc u,w c=U (.slice a (l:List Int).length mc)/\w (c,1)=U (Ξ Ψ k)/\w (c,2)=U (Ξ .u64 u)/\w.frozen? (c,1)=Y/\w.frozen? (c,2)=Y/\(0<=k->(∃b o x,a=U ⟨b,o,Z⟩/\w ((b:Nat),o+k.toNat)=U (Ξ Ψ x)/\k<(l.length:Int))\/¬k<(l.length:Int))/\l.length<=mc/\mc<=9223372036854775807:=by
 obtain⟨a,l,mc,u,hc,⟨m,n,f,i,g,h3⟩,p⟩:=h;cases f
 refine⟨a,l,mc,u,by simp[Θ,hc],by simp[Θ,hc],by simp[Θ,hc],by simp[ο,hc],by simp[ο,hc],λh0=>?_,i,g⟩;by_cases d:k<(l.length:Int)
 obtain⟨b,o,rfl,hb,e⟩:=h3 (by omega);obtain⟨x,j⟩:=lw (l:=l) (k:=k.toNat) (by omega);exact .inl ⟨b,o,x,rfl,e _ _ j,d⟩;exact .inr d
end
def adH(w c m)(h:kp w c m)(E:m<=1000000000):
 Z9 prog 91 #[.pointer c] w λe w'=>(∃r,e=.returned (Ξ .u64 r)/\0<=r)/\kp w' c (m+1)/\w.grownBy w' (U c):=by
 obtain⟨k,g,i,q⟩:=h;have v:=V g;obtain⟨a,l,mc,u,c0,c1,c2,s,y,n,C,A⟩:=g.reads;clear g;obtain⟨b,o,x,rfl,n,f⟩|f:=n i
 all_goals
  go_enter (fU func91 rfl),ntmps91
  go_wp2_with fail
  go_quiet (fail)
  go_wp2_with fail
  try
   go_quiet (fail)
   go_wp2_with fail
  go_region
  generalize hw:World.drew _=p;have d:Ao p c (k+1):=by rw[<-hw];exact Ao.anz<|Ao.anz<|Ao.ah3 (w:=w.drewN _) v.out
  have j:w.grownBy p (U c):=by rw[<-hw];exact adF<|Kr<|Kr<|Kr<|Xy (ZT w<|U c) _
  clear hw;obtain⟨D,F,t,u6,_,_,z,_,B,_⟩:=d.reads;clear c0 c1 c2 s y n
  go_wp2_with fail
  go_quiet (fail)
  go_wp2_with fail
  go_ret;exact⟨⟨_,rfl,Int.ediv_nonneg (Xx _ _ _)<|by omega⟩,⟨k+1,d.anz,by omega,by omega⟩,Xy (Kr j) nq⟩
end
section
variable{c:Nat}{w:M}
def hQ(w:M)(c m:Nat)(w':M):Prop:=kp w' c m/\w.grownBy w' (U c)
def R0(w c m n)(h:kp w c m)(b:m<=1000000000)(f:-1000000<=n)(d:n<=1000000):
 Z9 prog 35 #[.pointer c,Ξ Ψ n] w λe w'=>(∃r,e=.returned (Ξ Ψ r)/\0<=r/\(r=0\/r<=n))/\hQ w c (m+1) w':=by
 go_enter (fU func35 rfl),ntmps35
 go_wp2_with fail
 refine(adH _ c m h b).mono ?_;rintro e g ⟨⟨x,rfl,i⟩,hc,a⟩;by_cases j:n<1
 ·go_wp2_with fail
  go_ret;exact⟨⟨0,rfl,by omega,.inl rfl⟩,hc,a⟩
 ·have e1:=Int.emod_nonneg x (by omega:n+1≠0);have e2:=Int.emod_lt_of_pos x (by omega:0<n+1)
  go_wp2_with fail
  go_ret;exact⟨⟨_,rfl,e1,.inr<|by omega⟩,hc,a⟩
def Kt(w c m n)(h:kp w c m)(a:m<=1000000000)(f:0<=n)(d:n<=1000000):
 Z9 prog 38 #[.pointer c,Ξ Ψ n] w λe w'=>(∃b,e=.returned (.bool b))/\hQ w c (m+1) w':=by
 go_enter (fU func38 rfl),ntmps38
 go_wp2_with fail
 refine(R0 _ c m (n-1) h a (by omega)<|by omega).mono ?_;rintro e g ⟨⟨x,rfl,i⟩,hw⟩
 go_wp2_with fail
 go_ret;exact⟨⟨_,rfl⟩,hw⟩
def adI(w c m lo hi)(h:kp w c m)(a:m<=1000000000)(d:-100000<=lo)(b:lo<=hi)(h3:hi<=100000):
 Z9 prog 90 #[.pointer c,Ξ Ψ lo,Ξ Ψ hi] w λe w'=>(∃r,e=.returned (Ξ Ψ r)/\lo<=r/\r<=hi)/\hQ w c (m+1) w':=by
 go_enter (fU func90 rfl),ntmps90
 go_wp2_with fail
 refine(R0 _ c m (hi-lo) h a (by omega)<|by omega).mono ?_;rintro e f ⟨⟨x,rfl,g⟩,hw⟩
 go_wp2_with fail
 go_ret;exact⟨⟨_,rfl,by omega,by omega⟩,hw⟩
def Pt(w)(c m g n:Nat)(l)(h:kp w c m)(t:m<=1000000000)(j:n9 w (.slice g n n) l)(A:g≠c)(z:0<l.length)(B:l.length<=1000000):
 Z9 prog 34 #[.pointer c,.slice g n n] w λe w'=>(∃r,e=.returned (Ξ Ψ r)/\r∈l)/\hQ w c (m+1) w':=by
 have HV:=V j;obtain⟨a,mc,i,f,s,_⟩:=j;cases i
 clear f
 go_enter (fU func34 rfl),ntmps34
 go_wp2_with fail
 refine(R0 _ c m (l.length-1) h t (by omega)<|by omega).mono ?_;rintro e D ⟨⟨x,rfl,E⟩,hw⟩;obtain⟨C,u,i,f,_,d⟩:=HV.out.grown hw.2 (λp _ e=>by cases e;exact A);cases i
 obtain⟨b,o,i,hb,d⟩:=d z;cases i
 obtain⟨y,q⟩:=lw (l:=l) (k:=x.toNat) (by omega);have hc:=d _ _ q;have v:x<l.length:=by omega
 rw[Nat.zero_add]at hc;clear d
 go_wp2_with fail
 go_ret;exact⟨⟨y,rfl,Γ q⟩,hw⟩
def Ku(w:M)(l cs n)(a:l.length=n)(hc:cs.toList=l.map (.int Ψ))(b:n<=1000000):n9 (w.alloc<|.cells cs 3) (.slice w.heap.size n n) l:=by
 subst a;refine⟨_,_,rfl,.refl,by omega,λ_=>⟨_,_,rfl,by simp,λi k e=>?_⟩⟩;have hi:cs[i]?=U (Ξ Ψ k):=by rw[<-Array.getElem?_toList,hc,List.getElem?_map,e];rfl
 simp_all
def hQ.trans{w w1 w2 c m n}(h:hQ w c m w1)(k:hQ w1 c n w2):hQ w c n w2:=⟨k.1,h.2.trans k.2⟩
def kp.Qh{w' m}(h:kp w c m)(b:Below w w w'):kp w' c m:=by obtain⟨k,⟨a,l,mc,u,hc,d,g⟩,f,e⟩:=h;exact⟨k,⟨a,l,mc,u,(b.block c (R.1 hc).1).trans hc,d.below b,g⟩,f,e⟩
def hQ.below{w1 w2 m}(h:hQ w c m w1)(a:Below w1 w1 w2):hQ w c m w2:=⟨h.1.Qh a,⟨a.os.trans h.2.os,a.tape.trans h.2.tape,a.output.trans h.2.output,Nat.le_trans h.2.size a.size,λj b d=>(a.block j<|Nat.lt_of_lt_of_le b h.2.size).trans<|h.2.block j b d⟩⟩
def kp.oq{m}(h:kp w c m):hQ w c m w:=⟨h,.refl _ _⟩
def kp.more{m n}(h:kp w c m)(d:m<=n):kp w c n:=by obtain⟨k,b,a,e⟩:=h;exact⟨k,b,a,by omega⟩
def kp.lt{m}(h:kp w c m):c<w:=by obtain⟨k,⟨a,l,mc,u,hc,_⟩,_⟩:=h;exact(R.1 hc).1
def hQ.more{w w' c m n}(h:hQ w c m w')(a:m<=n):hQ w c n w':=⟨h.1.more a,h.2⟩
def hQ.off{w' k o}(h:hQ (w.alloc o) c k w'):hQ w c k w':=⟨h.1,(World.grownBy_alloc w o _).trans h.2⟩
def hQ.upto{s W k}(h:hQ w c k s)(hc:c<w)(hb:Below w s W):hQ w c k W:=by
 obtain⟨⟨x,⟨a,l,mc,u,h0,v,f⟩,p,m⟩,d⟩:=h;refine⟨⟨x,⟨a,l,mc,u,(hb.block c hc).trans h0,?_,f⟩,p,m⟩,hb.os.trans d.os,hb.tape.trans d.tape,hb.output.trans d.output,Nat.le_trans d.size hb.size,λj r f=>(hb.block j r).trans<|d.block j r f⟩;obtain⟨y,z,e,p,m,h3⟩:=v;cases e
 refine⟨a,mc,rfl,p,m,λh0=>?_⟩;obtain⟨b,o,rfl,g,q⟩:=h3 h0;have t:b<c:=f _ (by omega) rfl;exact⟨b,o,rfl,Nat.lt_of_lt_of_le g hb.size,λi n e=>by have:=q i n e;simpa only[Θ,hb.block b<|by omega]using this⟩
def hH{b:Nat}{x y t}(h:w.heap[b]?=U (Ω #[x,y] t (0,0))):w b=U x/\w (b,1)=U y/\w.frozen? b=Y/\w.frozen? (b,1)=Y:=⟨by simp[Θ,h],by simp[Θ,h],by simp[ο,h],by simp[ο,h]⟩
def Qi{b:Nat}{x y t}(h:w.heap[b]?=U (Ω #[x,y] t (0,0)))(p q):((w.setCell b p).setCell (b,1) q) b=U p/\((w.setCell b p).setCell (b,1) q) (b,1)=U q:=by have a:=heap_setCell_same (i:=1) (v:=q)<|heap_setCell_same (i:=0) (v:=p) h;exact⟨by simp[Θ,a],by simp[Θ,a]⟩
def KL(n p q:Int):Prop:=(p=1/\0<=q/\q<n)\/(p=2/\q=0)\/(p=0/\-99<=q/\q<=99)
def Pu(w c m n)(h:kp w c m)(N:m<=900000000)(K:0<=n)(J:n<=1000):
 Z9 prog 127 #[.pointer c,Ξ Ψ n] w λe w'=>(∃p q,e=.returned (.agg #[Ξ Ψ p,Ξ Ψ q])/\KL n p q)/\hQ w c (m+4) w':=by
 have B:=af w<|Ω #[Ξ Ψ 0,Ξ Ψ 0] 50;have h0:=h.Qh B;have s:=h.lt;have hw:=(h0.more (by omega:m<=m+1)).oq;have fin:∀(g:M) (k:Nat) (p q:Int),k<=m+4->hQ (w.alloc<|Ω #[Ξ Ψ 0,Ξ Ψ 0] 50) c k g->KL n p q->g.heap[w.heap.size]?=U (Ω #[Ξ Ψ 0,Ξ Ψ 0] 50 (0,0))/\
  ∀W,W=(g.setCell w.heap.size<|Ξ Ψ p).setCell (w.heap.size,1) (Ξ Ψ q) ->W w.heap.size=U (Ξ Ψ p)/\W (w.heap.size,1)=U (Ξ Ψ q)/\hQ w c (m+4) W:=by
  intro g k p q F hw l;have hb:g.heap[w.heap.size]?=U (Ω #[Ξ Ψ 0,Ξ Ψ 0] 50 (0,0)):=(hw.2.block _ (by simp) (by simp;omega)).trans<|ω w _;refine⟨hb,?_⟩;rintro W rfl;obtain⟨i,f⟩:=Qi hb (Ξ Ψ p)<|Ξ Ψ q;exact⟨i,f,(hw.off.upto s<|((Below.refl _ _).setCell (p:=⟨w.heap.size,0,Z⟩) .refl _).setCell (p:=⟨w.heap.size,1,Z⟩) .refl _).more F⟩
 by_cases L:0<n<;>(go_enter (fU func127 rfl),ntmps127;go_wp2_with fail)<;>try (refine(Kt _ c m 4 h0 (by omega) (by omega)<|by omega).mono ?_;rintro e O ⟨⟨b,rfl⟩,hw⟩;go_wp2_with fail)
 ·refine(R0 _ c (m+1) (n-1) hw.1 (by omega) (by omega)<|by omega).mono ?_;rintro e g ⟨⟨x,rfl,H⟩,u⟩;have l:KL n 1 x:=.inl ⟨rfl,by omega,by omega⟩;obtain⟨hb,j⟩:=fin g _ _ _ (by omega) (hw.trans u) l;obtain⟨z,r,g0,C⟩:=hH hb
  go_wp2_with fail
  obtain⟨i,f,o⟩:=j _ rfl;exact ZW (v:=.agg #[Ξ Ψ 1,Ξ Ψ x]) (by simp[ZA,results127,go_sem,i,f]) rfl ⟨⟨1,x,rfl,l⟩,o⟩
 all_goals
  refine(Kt _ c (m+1) 8 hw.1 (by omega) (by omega)<|by omega).mono ?_;rintro e w4 ⟨⟨b4,rfl⟩,a⟩;replace a:=hw.trans a;obtain⟨hb,j⟩:=fin w4 _ 2 0 (by omega) a<|.inr<|.inl ⟨rfl,rfl⟩;obtain⟨z,r,g0,C⟩:=hH hb
  go_wp2_with fail
  ·obtain⟨i,f,o⟩:=j _ rfl;exact ZW (v:=.agg #[Ξ Ψ 2,Ξ Ψ 0]) (by simp[ZA,results127,go_sem,i,f]) rfl ⟨⟨2,0,rfl,.inr<|.inl ⟨rfl,rfl⟩⟩,o⟩
  ·refine(adI _ c (m+1+1) (-99) 99 a.1 (by omega) (by omega) (by omega)<|by omega).mono ?_;rintro e w5 ⟨⟨x,rfl,H⟩,d⟩;clear z r g0 C hb j
   go_wp2_with fail
   have A:=af w5<|Ω #[Ξ Ψ 0,Ξ Ψ 1,Ξ Ψ 7,Ξ Ψ<|-3,Ξ Ψ x] 3;have E:=d.1.lt;have d:=(a.trans d).below A;refine(Pt _ c _ _ _ [0,1,7,-3,x] d.1 (by omega) (Ku w5 _ _ 5 rfl rfl<|by omega) (by omega) (by simp)<|by simp).mono ?_;rintro e D ⟨⟨y,rfl,G⟩,t⟩;have l:KL n 0 y:=.inr<|.inr (by simp at G;omega);obtain⟨hb,j⟩:=fin D _ _ _ (by omega) (d.trans t) l;obtain⟨z,r,g0,C⟩:=hH hb
   go_wp2_with fail
   obtain⟨i,f,o⟩:=j _ rfl;exact ZW (v:=.agg #[Ξ Ψ 0,Ξ Ψ y]) (by simp[ZA,results127,go_sem,i,f]) rfl ⟨⟨0,y,rfl,l⟩,o⟩
end
section
def Fe(w:M)(g:Nat)(l:List Int):Prop:=w.heap[g]?=U (.cells (l.map<|Value.int Ψ).toArray 3 (0,0))
section
variable{w w':M}{g:Nat}{l:List Int}
def Fe.cell(h:Fe w g l){i}(hi:i<l.length):w (g,i)=U (Ξ Ψ<|l.getD i 0):=by unfold Fe at h;simp[Θ,h,hi]
def Fe.thaw(h:Fe w g l)(i:Nat):w.frozen? (g,i)=Y:=by unfold Fe at h;simp[ο,h]
def Fe.set(h:Fe w g l)(i)(n:Int):Fe (w.setCell (g,i) n) g (l.set i n):=by unfold Fe at h⊢;rw[heap_setCell_same h];simp
end
def Fe.own{w B g k l}(h:Fe w g l)(f:B<=g)(c:k<=l.length)(i:l.length<=1000000):OI w B (.slice g k l.length) (l.take k):=by
 have b:(l.take k).length=k:=by simp;omega
 unfold OI World.ownsRow;rw[b];refine⟨by rw[EO,b],.inr ⟨g,_,_,rfl,f,h,c,by unfold maxLen;omega,by simp,?_⟩⟩;have e:∀l:List Int,l.flatMap eP=l.map (Value.int Ψ):=λl=>by
  induction l with
  |nil=>rfl
  |cons a l d=>rw[Zu,d];rfl
 simp_all
def Q8(n:Nat)(e:n<=1000000)(w):(Instr.makeSlice 24 (Ξ Ψ (n:Int))<|Ξ Ψ (n:Int)).run prog w=.ok (.slice w.heap.size n n) (w.alloc<|.cells (ZK #[Ξ Ψ 0] n) 3):=by obtain⟨c,hi,a,b,d⟩:=Zp Dq;have:=mG 24 3 c _ se hi a Ψ Ψ n n .refl (by grind) (by omega) w;rw[b,Nat.mul_one]at this;exact this
def R1(w:M)(n):Fe (w.alloc<|.cells (ZK #[Ξ Ψ 0] n) 3) w (η n 0):=by
 unfold Fe;rw[ω]
 congr 2
 apply Zs;simp[ZK];intro i a b;simp[ZK,Nat.mod_one]
def Ordered(k:Nat)(f:Nat->Int):Prop:=(∀a,a<k->0<=f a/\f a<k)/\∀a b,a<k->b<k->f a=f b->a=b
def Ordered.step{k x f d}(h:Ordered k f)(l:x<=k)(c:∀a,a<=k->d a=if a=x then(k:Int)else if a=k then f x else f a):Ordered (k+1) d:=by
 refine⟨λa g=>?_,λa b g hb e=>?_⟩;rw[c a (by omega)];have j:=h.1 a;have i:=h.1 x;split
 omega;split<;>omega
 ·rw[c a (by omega),c b<|by omega]at e;have j:=h.1 a;have i:=h.1 b;have h3:=h.1 x
  repeat' split at e
  all_goals first
   |omega
   |exact(h.2 a b) (by omega) (by omega) e
   |(have:=(h.2 x b) (by omega) (by omega) e;omega)
   |(have:=(h.2 a x) (by omega) (by omega) e;omega)
def aat(w)(c m n:Nat)(h:kp w c m)(X:m<=900000000)(S:n<=1000):
 Z9 prog 182 #[.pointer c,Ξ Ψ n] w λe w'=>(∃g l,e=.returned (.slice (g:Nat) n n)/\Fe w' g l/\w.heap.size<=g/\l.length=n/\Ordered n λa=>l.getD a 0)/\hQ w c (m+n) w':=by
 have C:=Q8 n (by omega)
 go_enter (fU func182 rfl),ntmps182
 go_wp2_with fail
 clear C;have f:=R1 w n;have u:=h.lt;have j:=h.oq.below<|af w<|.cells (ZK #[Ξ Ψ 0] n) 3;have q:(w.alloc<|.cells (ZK #[Ξ Ψ 0] n) 3).heap.size=w.heap.size+1:=by simp
 generalize w.alloc _=P at f j q⊢;generalize F:w.heap.size=g at f q u⊢
 go_loopw [6] (λi wr=>∃(k:Nat) (l:List Int),k<=n/\i=Ξ Ψ k/\Fe wr g l/\l.length=n/\(Ordered k λa=>l.getD a 0)/\hQ w c (m+k) wr) (λi _=>n-(intOf i).toNat)
 case atStart=>exact⟨0,_,Nat.zero_le _,rfl,f,by simp,⟨λa s=>absurd s<|Nat.not_lt_zero _,λa b s=>absurd s<|Nat.not_lt_zero _⟩,j⟩
 case round=>
  obtain⟨k,l,N,rfl,A,H,G,hw⟩:=hrel;clear f j;by_cases K:k<n
  ·go_wp2_with fail
   refine(R0 _ c (m+k) k hw.1 (by omega) (by omega)<|by omega).mono ?_;rintro e L ⟨⟨x,rfl,D,Q⟩,o⟩;obtain⟨x,rfl⟩:=Int.eq_ofNat_of_zero_le D;have d:Fe L g l:=(o.2.block g ((R.1 A).1) (by simp;omega)).trans A;have c1:=d.cell (i:=x) (by omega);have O:=d.thaw k;have T:=d.thaw x;have v:=d.cell (i:=k) (by omega);generalize J:l.getD x 0=y at c1;generalize l.getD k 0=W at v;have r:=d.set k y;have c2:=r.cell (i:=x) (by simp;omega);generalize (l.set k y).getD x 0=z at c2;have B:Ordered (k+1) λa=>((l.set k y).set x k).getD a 0:=G.step (x:=x) (by omega) λa s=>by
    simp only[List.getD,List.getElem?_set,List.length_set,<-J];by_cases e1:x=a
    subst e1;simp[show x<l.length by omega];have E:¬a=x:=λe=>e1 e.symm;rw[if_neg e1,if_neg E];by_cases e2:k=a
    subst e2;simp[show k<l.length by omega];have t:¬a=k:=λe=>e2 e.symm;rw[if_neg e2,if_neg t]
   clear J
   go_wp2_with fail
   exact⟨⟨k+1,_,by omega,by go_num,r.set x k,by simpa using H,B,(hw.trans o).upto (by omega)<|((Below.refl _ _).setCell (p:=⟨g,k,Z⟩) (Nat.le_of_eq F) _).setCell (p:=⟨g,x,Z⟩) (Nat.le_of_eq F) _⟩,by simp[intOf];omega⟩
  ·go_wp2_with fail
   go_ret;have e:k=n:=by omega
   subst e;exact⟨⟨g,l,rfl,A,by omega,H,G⟩,hw⟩
def Fs(n:Int)(l:List Int):Prop:=l.Nodup/\∀x∈l,0<=x/\x<n
def Ordered.some{n}{l:List Int}(h:Ordered n λa=>l.getD a 0)(m:l.length=n)(k):Fs n (l.take k):=by
 have f:l.Nodup:=by rw[List.Nodup,ZX];intro i j hi g c e;have:=h.2 i j (by omega) (by omega) (by grind);omega
 refine⟨f.sublist<|List.take_sublist k l,λx d=>?_⟩;obtain⟨i,hi⟩:=θ.1<|List.mem_of_mem_take d;have b:=(Δ.1 hi).1;have:=h.1 i (by omega);simpa[List.getD,hi]using this
def Qj(w)(c m n:Nat)(h:kp w c m)(t:m<=900000000)(A:n<=1000):
 Z9 prog 128 #[.pointer c,Ξ Ψ n] w λe w'=>(∃r l,e=.returned r/\OI w' w r l/\Fs n l/\l.length<=6)/\hQ w c (m+n+1) w':=by
 go_enter (fU func128 rfl),ntmps128
 go_wp2_with fail
 refine(aat _ c m n h t A).mono ?_;rintro e q ⟨⟨g,l,rfl,p,z,o,u⟩,hw⟩
 go_wp2_with fail
 have d:=af q<|Ω #[Ξ Ψ 0,Ξ Ψ 0,Ξ Ψ 1,Ξ Ψ 2,Ξ Ψ 3,Ξ Ψ 6] 3;have b:=hw.below d;have s:=hw.1.lt;refine(Pt _ c _ _ _ [0,0,1,2,3,6] b.1 (by omega) (Ku q _ _ 6 rfl rfl<|by omega) (by omega) (by simp)<|by simp).mono ?_;rintro e w4 ⟨⟨y,rfl,v⟩,a⟩;have i:0<=y/\y<=6:=by simp at v;omega
 obtain⟨y,rfl⟩:=Int.eq_ofNat_of_zero_le i.1;have j:=(R.1 p).1;have x:g≠c:=by have:=h.lt;omega
 have f:Fe w4 g l:=(a.2.block g (by simp;omega) (by simp;omega)).trans<|(d.block g j).trans p
 go_wp2_with fail
 all_goals
  go_ret;exact⟨⟨_,rfl,_,o▸f.own (k:=_) z (by omega) (by omega),u.some o _,by simp;omega⟩,b.trans a⟩
end
def VK{w w' c m B e size n v xs}(h:w.ownsRow B e size v n xs)(hw:hQ w c m w')(hc:c<B):w'.ownsRow B e size v n xs:=aS h λg a=>hw.2.block g (h.lt g a).2 (by have:=(h.lt g a).1;simp;omega)
def aau(n:Int)(c:HC):Prop:=((c.1=0/\c.2.length<=4)\/(c.1=1/\c.2.length=1)\/(c.1=2/\c.2.length=2))/\∀v∈c.2,KL n v.1 v.2
def Rd(w c m)(n:Int)(p)(h:kp w c m)(hm:m<=800000000)(h1:0<=n)(h2:n<=1000):
 Z9 prog 126 #[.pointer (c:Nat),n,.bool p] w λe w'=>(∃k x vs,e=.returned (.agg #[Ξ Ψ k,x])/\OV w' w x vs/\aau n (k,vs))/\hQ w c (m+20) w':=by
 have hb0:=af w<|Ω #[Ξ Ψ 0,()] 76;have h0:=h.oq.below hb0;have T:=h.lt;have z0:(w.alloc<|Ω #[Ξ Ψ 0,()] 76).heap[w.heap.size]?=U (Ω #[Ξ Ψ 0,()] 76 (0,0)):=ω _ _;have Q:(w.alloc<|Ω #[Ξ Ψ 0,()] 76).heap.size=w.heap.size+1:=by simp
 go_enter (fU func126 rfl),ntmps126
 go_wp2_with fail
 generalize w.alloc _=w1 at h0 z0 Q⊢;have J:=af w1<|Ω #[Ξ Ψ 0,Ξ Ψ 0,Ξ Ψ 1,Ξ Ψ 2,Ξ Ψ 2] 3;have H:=h0.below J;have W:=Ku w1 [0,0,1,2,2] #[Ξ Ψ 0,Ξ Ψ 0,Ξ Ψ 1,Ξ Ψ 2,Ξ Ψ 2] 5 rfl rfl (by omega);rw[Q]at W;refine(Pt _ c _ _ _ [0,0,1,2,2] H.1 (by omega) W (by omega) (by simp)<|by simp).mono ?_;rintro e w2 ⟨⟨N,rfl,B⟩,t⟩;have B:0<=N/\N<=2:=by simp at B;omega
 have z2:=(t.2.block w (by simp;omega) (by simp;omega)).trans<|(J.block _<|by omega).trans z0;have G:=H.trans t;have oX:w.heap.size+2<=w2:=by have:=t.2.size;simp at this;omega
 clear J H h0 t z0
 go_upto_if 14 with(fail)
 generalize hg:w2.heap.size=g at oX⊢
 go_cut [7]from 15 to 15 λv O=>∃kk:Int,v=.pointer g/\0<=kk/\kk<=2/\O.heap[g]?=U (Ω #[Ξ Ψ kk,()] 76 (0,0))/\O.heap[w.heap.size]?=U (Ω #[Ξ Ψ 0,()] 76 (0,0))/\hQ w c (m+1) O
 case first=>
  have z:=λk:Int=>af w2<|Ω #[Ξ Ψ k,()] 76;have D:=λk:Int=>ω w2<|Ω #[Ξ Ψ k,()] 76;rw[hg]at D
  go_wp2_with fail
  ·go_meet
   exact⟨0,rfl,by omega,by omega,D 0,((z 0).block _<|by omega).trans z2,G.below<|z 0⟩
  ·go_meet
   exact⟨N,rfl,B.1,B.2,D N,((z N).block _<|by omega).trans z2,G.below<|z N⟩
 case rest=>
  obtain⟨kk,rfl,hk0,hk2,x1,x0,hw⟩:=hcut;generalize wc=w3 at x1 x0 hw⊢;have hg3:=(R.1 x1).1;clear G z2
  go_wp2_with fail
  have A:=af w3<|Ω #[Ξ Ψ 0,Ξ Ψ 1,Ξ Ψ 1,Ξ Ψ 2,Ξ Ψ 2,Ξ Ψ 3,Ξ Ψ 4] 3;have F:=hw.below A;refine(Pt _ c _ _ _ [0,1,1,2,2,3,4] F.1 (by omega) (Ku w3 _ _ 7 rfl rfl<|by omega) (by omega) (by simp)<|by simp).mono ?_;rintro e w4 ⟨⟨y,rfl,hy⟩,s⟩;have hy:0<=y/\y<=4:=by simp at hy;omega
  have y0:=(s.2.block w (by simp;omega) (by simp;omega)).trans<|(A.block _<|by omega).trans x0;have y1:=(s.2.block g (by simp;omega) (by simp;omega)).trans<|(A.block _<|by omega).trans x1;have C:=F.trans s;clear A F hw s x0 x1;have d0:w4 g=U (Ξ Ψ kk):=by simp[Θ,y1]
  go_upto_if 21 with(fail)
  go_cut [8]from 22 to 23 λv O=>∃j:Nat,v=Ξ Ψ j/\j<=4/\(kk=1->j=1)/\(kk=2->j=2)/\O=w4
  case first=>
   go_wp2_with fail
   all_goals go_meet
   have hne:kk≠0:=by simp_all
   obtain⟨j,rfl⟩:=Int.eq_ofNat_of_zero_le hk0;exact⟨j,rfl,by omega,by omega,by omega,rfl⟩;have hne:kk=0:=by simp_all
   obtain⟨j,rfl⟩:=Int.eq_ofNat_of_zero_le hy.1;exact⟨j,rfl,by omega,by omega,by omega,rfl⟩
  case rest=>
   obtain⟨nn,rfl,hn4,hn1,hn2,rfl⟩:=hcut
   go_wp2_with fail
   clear d0
   go_loopw [9] (λi wr=>∃(k:Nat) (x:Value) (vs:List HV),k<=nn/\i=Ξ Ψ k/\OV wr (g+1) x vs/\vs.length=k/\(∀v∈vs,KL n v.1 v.2)/\wr.heap[g]?=U (Ω #[Ξ Ψ kk,x] 76 (0,0))/\wr.heap[w.heap.size]?=U (Ω #[Ξ Ψ 0,()] 76 (0,0))/\hQ w c (m+2+4*k) wr) (λi _=>nn-(intOf i).toNat)
   case atStart=>exact⟨0,_,[],Nat.zero_le _,rfl,OV.nil _ _,rfl,(λv hv=>by cases hv),y1,y0,C⟩
   case round=>
    obtain⟨_,x,vs,hk,rfl,L,rfl,hv,e1,e0,hw⟩:=hrel;clear y0 y1 C;by_cases hlt:vs.length<nn
    ·have d1:wr (g,1)=U x:=by simp[Θ,e1]
     have hgr:=(R.1 e1).1
     go_wp2_with fail
     refine Rg.aaH 4 2 (λu=>u ⟨g,1,Z⟩=U x) (by kernel_rfl) (by kernel_rfl) (λc a d v w h=>by cases d<;>exact h) d1 ?_;simp only[Nat.reduceAdd,ξ,ζ,μ,ε]
     iterate 4
      (refine Rg.fp.step (v:=?_) (by rfl) (λu hu=>?_) ?_
       rotate_left
       (go_simp
        try rfl))
     refine Rg.fp.nil<|Rg.pA.succ ?_;simp only[Z0,ψ,φ,υ];refine ι rfl λK X=>?_;go_simp;have hd:=(Below.refl wr wr).drew;have E:=hw.below hd;refine(Pu _ c _ n E.1 (by omega) h1 h2).mono ?_;rintro e w5 ⟨⟨p,q,rfl,ho⟩,r⟩;have b1:=(r.2.block g hgr (by simp;omega)).trans e1;have b0:=(r.2.block w (by simp;omega) (by simp;omega)).trans e0;have hx5:=VK (L.below hd) r (by omega);have S:=E.trans r;have hg5:g<w5:=(R.1 b1).1;obtain⟨_,d5,_,f5⟩:=hH b1;refine X _ _ ⟨d5,Rg.pA.succ ?_⟩;clear X K;refine ι rfl λK X=>?_;go_simp;have l:=af w5<|Ω #[p,q] 50;refine X _ _ ⟨cG l d5 hg5,Rg.pA.zero ?_⟩;clear X K d1 L hw E r
     go_wp2_with (at_builtin;refine fO rfl _ _ rfl (g+1) _ _ rfl (hx5.alloc _) w5.heap.size _ (p,q) rfl (by simp[go_sem,ZY]) (by omega) (by simp;omega) ?_;intro v' w6 b f Re;obtain⟨a6,m6,rfl,_⟩:=aF b;have t1:=(f.block g<|by omega).trans<|(l.block g hg5).trans b1;obtain⟨_,s1,_,sf⟩:=hH t1)
     have t0:=(f.block w<|by omega).trans<|(l.block w<|by omega).trans b0;have Xe:=f.size;have o:OV (w6.setCell (g,1)<|.slice a6 (vs++[(p,q)]).length m6) (g+1) (.slice a6 (vs++[(p,q)]).length m6) (vs++[(p,q)]):=aS b λj hj=>aa (by have:=(b.lt j hj).1;omega);have hw7:hQ w c (m+2+4*(vs.length+1)) (w6.setCell (g,1)<|.slice a6 (vs++[(p,q)]).length m6):=S.upto T<|((l.mono<|by omega).trans<|f.mono<|by omega).setCell (p:=((g,1):ZQ)) (by show w.heap.size<=g;omega) _;have hl':(vs++[(p,q)]).length=vs.length+1:=by simp
     rw[hl']at o hw7;exact⟨⟨vs.length+1,_,vs++[(p,q)],by omega,by go_num,o,by simp,λv hv'=>(Z2.1 hv').elim (hv v) λh=>by simp at h;subst h;exact ho,heap_setCell_same (i:=1) t1,(aa<|by omega).trans t0,hw7⟩,by simp[intOf];omega⟩
    ·obtain⟨a0,a1,_,_⟩:=hH e1;obtain⟨b0,b1,f0,f1⟩:=hH e0;have ir:aau n (kk,vs):=⟨by dsimp only;omega,hv⟩;obtain⟨ax,P,rfl,_⟩:=aF L
     go_wp2_with fail
     obtain⟨k0,k1⟩:=Qi e0 (Ξ Ψ kk)<|.slice ax vs.length P;have l:=((Below.refl w wr).setCell (p:=(w.heap.size:ZQ)) .refl<|Ξ Ψ kk).setCell (p:=((w.heap.size,1):ZQ)) .refl<|.slice ax vs.length P;have hw6:=(hw.upto T l).more (by omega:m+2+4*vs.length<=m+20);have hx6:OV ((wr.setCell w.heap.size<|Ξ Ψ kk).setCell (w.heap.size,1)<|.slice ax vs.length P) w (.slice ax vs.length P) vs:=eV (aS L λj hj=>(aa (by have:=(L.lt j hj).1;omega)).trans<|aa (by have:=(L.lt j hj).1;omega)) (by omega);exact ZW (v:=.agg #[Ξ Ψ kk,.slice ax vs.length P]) (by simp[ZA,results126,go_sem,k0,k1]) rfl ⟨⟨kk,_,vs,rfl,hx6,ir⟩,hw6⟩
section
def sK(w:M)(B bo:Nat)(t:Zo)(rest:List Value)(cs:List HC):Prop:=∃sc l,B<=bo/\w.heap[bo]?=U (.cells (sc::rest).toArray t (0,0))/\OC w B sc l/\df w B l cs
def fy{w w':M}{B p e e2 size b n o v s xs d}(h:w.ownsRow B e size v n xs)(hs:w.ownsRow p e2 b s o d)(t:e≠e2)(q:w.grownBy w' s.ownBlock):w'.ownsRow B e size v n xs:=
 aS h λg a=>q.block g (h.lt g a).2 λc=>by
  obtain⟨e1,_⟩|⟨r,i,k,e1,_,l,_⟩:=h.2
  rw[e1]at a;cases a;rw[e1]at a;cases a;obtain⟨e3,_⟩|⟨u,j,f,e3,_,m,_⟩:=hs.2
  rw[e3]at c;cases c;rw[e3]at c;cases c
  grind
def hZ{w w':M}{B b:Nat}{e size n v xs c t fr}(h:w.ownsRow B e size v n xs)(hb:w.heap[b]?=U (.cells c t fr))(f:t≠e)(i:∀k,k≠b->w'.heap[k]?=w.heap[k]?):w'.ownsRow B e size v n xs:=aS h λg a=>i g λd=>by subst d;exact cF h hb f a
section
variable{w w1 w2 w3:M}{B bo:Nat}{t:Zo}{rest:List Value}{cs:List HC}
def sK.below(h:sK w B bo t rest cs)(a:Below w w w1):sK w1 B bo t rest cs:=by obtain⟨c,l,e,hb,d,b⟩:=h;exact⟨c,l,e,(a.block bo (R.1 hb).1).trans hb,d.below a,b.below a⟩
def Ok{y s' l k x vs}(E:B<=bo)(hb:w.heap[bo]?=U (.cells (y::rest).toArray t (0,0)))(H:OC w B y l)(s:df w B l cs)(m:B<=w)(r:t≠76/\t≠50)(o:Below w w w2)(D:OV w2 w x vs)(n:w2.grownBy w3 y.ownBlock)(K:OC w3 B s' (l++[(k,x)])):
 sK (w3.setCell bo s') B bo t rest (cs++[(k,vs)])/\Below B w (w3.setCell bo s'):=by
 have c:=H.below o;have b:=s.below o;have a:=(o.block bo (R.1 hb).1).trans hb;have f:=(n.block bo (R.1 a).1 (λe=>by
  obtain⟨e1,_⟩|⟨L,C,F,e1,_,z,_⟩:=c.2
  rw[e1]at e;cases e;rw[e1]at e;cases e;rw[z]at a;injection a with a
  injection a with _ h4 _
  exact r.1 h4.symm)).trans a
 have d:df w3 B l cs:=⟨b.1,λi k x q vs e1 e2=>⟨(b.2.1 i k x q vs e1 e2).1,fy (b.2.1 i k x q vs e1 e2).2 c (by decide) n⟩,b.2.2⟩;have j:∀k,k≠bo->(w3.setCell bo s').heap[k]?=w3.heap[k]?:=λk h=>aa h;refine⟨⟨s',l++[(k,x)],E,?_,hZ K f r.1 j,?_⟩,?_⟩;rw[aB f];simp;have A:df (w3.setCell bo s') B l cs:=⟨d.1,λi k x q vs e1 e2=>⟨(d.2.1 i k x q vs e1 e2).1,hZ (d.2.1 i k x q vs e1 e2).2 f r.2 j⟩,d.2.2⟩;refine A.snoc (OV.less (hZ (fy D c (by decide) n) f r.2 j) m) λi p hi g n u=>?_;have v:i<cs.length:=by rw[<-s.1];exact(Δ.1 hi).1
 obtain⟨G,J,e3⟩:=cQ v;have:=((s.2.1 i p.1 p.2 G J hi e3).2.lt g n).2;have:=(D.lt g u).1;omega;refine((o.mono m).grown n (Nat.le_trans m o.size) λk e=>?_).setCell (p:=⟨bo,0,Z⟩) E _;exact(c.lt k e).1
end
end
section
variable{r d:Value}{b:Nat}{ln:List (Int×Value)}{wi:Value}{cs:List HC}{w':M}{l:List (Int×Value)}{S0:Nat}{lo:List (Int×Value)}{w:M}{B:Nat}
def I5{g n o m}(hB:B<=b)(hb:w.heap[b]?=U (Ω #[n,o,r,wi,d,m] 114 (0,0)))(hn:OC w B n ln)(G:df w B ln g.new)(X:OC w B o lo)(F:df w B lo g.old)(hr:OV w B r g.roots)(hw:OV w B wi g.aA)(hd:OV w B d g.done)(hm:OI w B m g.marked)(K:∀p∈ln,∀q∈lo,Apart p.2 q.2)(S:∀p∈ln,Apart p.2 r/\Apart p.2 wi/\Apart p.2 d)(W:∀p∈lo,Apart p.2 r/\Apart p.2 wi/\Apart p.2 d)(L:Apart r wi)(O:Apart r d)(b3:Apart wi d):dm w B b g:=by
 have c3:cellsOf (dp ln lo r wi d) 3 g.new=ln:=by simpa using iY (ln:=ln) (lo:=lo) (r:=r) (wi:=wi) (d:=d) (kind:=3) (.inl rfl) (by simpa using G)
 have Q:cellsOf (dp ln lo r wi d) 4 g.old=lo:=by simpa using iY (ln:=ln) (lo:=lo) (r:=r) (wi:=wi) (d:=d) (kind:=4) (.inr rfl) (by simpa using F)
 have l:∀i:Nat,i<g.new.length->∃p c,ln[i]?=U p/\g.new[i]?=U c/\dp ln lo r wi d (3,(i:Int))=p.2:=by intro i hi;obtain⟨p,q,e⟩:=cQ hi;have:=bH (row:=dp ln lo r wi d) (kind:=3) e;rw[c3]at this;exact⟨_,_,this,e,rfl⟩
 have f:∀i:Nat,i<g.old.length->∃p c,lo[i]?=U p/\g.old[i]?=U c/\dp ln lo r wi d (4,(i:Int))=p.2:=by intro i hi;obtain⟨p,q,e⟩:=cQ hi;have:=bH (row:=dp ln lo r wi d) (kind:=4) e;rw[Q]at this;exact⟨_,_,this,e,rfl⟩
 have s:∀k,IsKey g k->(∃i:Nat,i<g.new.length/\k=(3,(i:Int)))\/(∃i:Nat,i<g.old.length/\k=(4,(i:Int)))\/k=(0,0)\/k=(0,1)\/k=(0,2):=by
  rintro⟨a,c⟩ (⟨v,C,h3⟩|⟨v,C,h3⟩|⟨v,C,h3⟩);dsimp only at v C h3;subst v;have:c=0\/c=1\/c=2:=by omega
  obtain rfl|rfl|rfl:=this<;>simp
  dsimp only at v C h3;subst v;exact .inl ⟨c.toNat,by omega,by simp;omega⟩;dsimp only at v C h3;subst v;exact .inr<|.inl ⟨c.toNat,by omega,by simp;omega⟩
 refine⟨n,o,m,dp ln lo r wi d,hB,hb,by rw[c3];exact hn.rc,by rw[Q];exact X.rc,hm,λk J=>?_,λk T J H u=>?_⟩;obtain⟨i,hi,rfl⟩|⟨i,hi,rfl⟩|rfl|rfl|rfl:=s k J
 ·obtain⟨p,c,e1,e2,e3⟩:=l i hi;rw[e3,(J8 e2).2];exact(G.2.1 i p.1 p.2 c.1 c.2 e1 e2).2
 obtain⟨p,c,e1,e2,e3⟩:=f i hi;rw[e3,(B1 e2).2];exact(F.2.1 i p.1 p.2 c.1 c.2 e1 e2).2;exact hr;exact hw;exact hd;have z:∀i:Nat,i<g.new.length->Apart (dp ln lo r wi d (3,(i:Int))) r/\Apart (dp ln lo r wi d (3,(i:Int))) wi/\Apart (dp ln lo r wi d (3,(i:Int))) d:=λi hi=>by obtain⟨p,c,e1,e2,e3⟩:=l i hi;rw[e3];exact S p<|Γ e1
 have A:∀i:Nat,i<g.old.length->Apart (dp ln lo r wi d (4,(i:Int))) r/\Apart (dp ln lo r wi d (4,(i:Int))) wi/\Apart (dp ln lo r wi d (4,(i:Int))) d:=λi hi=>by obtain⟨p,c,e1,e2,e3⟩:=f i hi;rw[e3];exact W p<|Γ e1
 have D:∀i j:Nat,i<g.new.length->j<g.old.length->Apart (dp ln lo r wi d (3,(i:Int))) (dp ln lo r wi d (4,(j:Int))):=λi j hi t=>by obtain⟨p,c,e1,e2,e3⟩:=l i hi;obtain⟨y,N,x,P,E⟩:=f j t;rw[e3,E];exact K p (Γ e1) y<|Γ x
 obtain⟨i,hi,rfl⟩|⟨i,hi,rfl⟩|rfl|rfl|rfl:=s k J<;>obtain⟨j,t,rfl⟩|⟨j,t,rfl⟩|rfl|rfl|rfl:=s T H
 obtain⟨p,c,e1,e2,e3⟩:=l i hi;obtain⟨y,N,x,P,E⟩:=l j t;rw[e3,E];obtain h|h|h:=Nat.lt_trichotomy i j
 exact G.2.2 i j p y h e1 x;subst h;exact absurd rfl u;exact Apart.symm<|G.2.2 j i y p h x e1;exact D i j hi t;exact(z i hi).1;exact(z i hi).2.1;exact(z i hi).2.2;exact(D j i t hi).symm;obtain⟨p,c,e1,e2,e3⟩:=f i hi;obtain⟨y,N,x,P,E⟩:=f j t;rw[e3,E];obtain h|h|h:=Nat.lt_trichotomy i j
 exact F.2.2 i j p y h e1 x;subst h;exact absurd rfl u;exact Apart.symm<|F.2.2 j i y p h x e1;exact(A i hi).1;exact(A i hi).2.1;exact(A i hi).2.2;exact(z j t).1.symm;exact(A j t).1.symm;exact absurd rfl u;exact L;exact O;exact(z j t).2.1.symm;exact(A j t).2.1.symm;exact L.symm;exact absurd rfl u;exact b3;exact(z j t).2.2.symm;exact(A j t).2.2.symm;exact O.symm;exact b3.symm;exact absurd rfl u
def eJ{e size n v xs c t fr}(h:w.ownsRow B e size v n xs)(hb:w.heap[b]?=U (.cells c t fr))(j:t≠e):v.ownBlock≠U b:=λa=>by
 obtain⟨e1,_⟩|⟨i,d,f,e1,_,g,_⟩:=h.2
 rw[e1]at a;cases a;rw[e1]at a;cases a
 grind
def Ol(w:M)(B b S0:Nat)(r wi d:Value)(news bw:List HC):Prop:=∃sn so ln lo,B<=b/\w.heap[b]?=U (Ω #[sn,so,r,wi,d,ZI Z 0 0] 114 (0,0))/\OC w B sn ln/\df w S0 ln news/\OC w B so lo/\df w S0 lo bw/\Apart sn so/\∀p∈ln,∀q∈lo,Apart p.2 q.2
def uW{e size n v s xs}(h:w.ownsRow B e size v n xs)(c:Apart v s)(b:w.grownBy w' s.ownBlock):w'.ownsRow B e size v n xs:=aS h λg a=>b.block g (h.lt g a).2 λd=>c g a d.symm
def kj{l2 s}(h:df w S0 l cs)(hs:OC w B s l2)(c:w.grownBy w' s.ownBlock):df w' S0 l cs:=⟨h.1,λi k x a b e1 e2=>⟨(h.2.1 i k x a b e1 e2).1,fy (h.2.1 i k x a b e1 e2).2 hs (by simp) c⟩,h.2.2⟩
def lA{c t fr}(h:df w S0 l cs)(hb:w.heap[b]?=U (.cells c t fr))(f:t≠50)(e:∀k,k≠b->w'.heap[k]?=w.heap[k]?):df w' S0 l cs:=⟨h.1,λi k x d a e1 e2=>⟨(h.2.1 i k x d a e1 e2).1,hZ (h.2.1 i k x d a e1 e2).2 hb f e⟩,h.2.2⟩
def lY(h:df w S0 l cs){p}(c:p∈l){g}(e:p.2.ownBlock=U g):S0<=g/\g<w:=by
 obtain⟨i,hi⟩:=θ.1 c;have a:i<cs.length:=by rw[<-h.1];exact(Δ.1 hi).1
 obtain⟨b,d,e3⟩:=cQ a;exact(h.2.1 i p.1 p.2 b d hi e3).2.lt g e
def I6{w2 m u so s' news bw k x vs}(E:B<=b)(hb:w.heap[b]?=U (Ω #[u,so,r,wi,d,ZI Z 0 0] 114 (0,0)))(F:OC w B u ln)(C:df w S0 ln news)(h3:OC w B so lo)(h4:df w S0 lo bw)(h5:Apart u so)(H:∀p∈ln,∀q∈lo,Apart p.2 q.2)(v:B<=w)(J:S0<=w)(j:Below w w w2)(A:OV w2 w x vs)(n:w2.grownBy m u.ownBlock)(G:OC m B s' (ln++[(k,x)]))(y:s'.ownBlock=u.ownBlock\/∀g,s'.ownBlock=U g->w2.heap.size<=g):
 Ol (m.setCell b s') B b S0 r wi d (news++[(k,vs)]) bw/\Below B w (m.setCell b s'):=by
 have f:=F.below j;have t:=h3.below j;have l:=(j.block b (R.1 hb).1).trans hb;have a:=(n.block b (R.1 l).1 (λe=>by have:=eJ f l (by decide);exact this e.symm)).trans l
 have c:∀k,k≠b->(m.setCell b s').heap[k]?=m.heap[k]?:=λk h=>aa h;refine⟨⟨s',so,ln++[(k,x)],lo,E,?_,hZ G a (by decide) c,?_,hZ (uW t h5.symm n) a (by decide) c,lA (kj (h4.below j) f n) a (by decide) c,?_,?_⟩,?_⟩;rw[aB a];simp;refine(lA (kj (C.below j) f n) a (by decide) c).snoc (OV.less (hZ (fy A f (by decide) n) a (by decide) c) J) λi p hi g z s=>?_;have:=(lY C (Γ hi) z).2;have:=(A.lt g s).1;omega;intro g e1 e2;obtain y|y:=y
 rw[y]at e1;exact h5 g e1 e2;have:=y g e1;have:=(t.lt g e2).2;omega;intro p o q D;obtain o|o:=Z2.1 o
 exact H p o q D;simp at o;subst o;intro g e1 e2;have:=(A.lt g e1).1;have:=(lY h4 D e2).2;omega;exact((j.mono v).grown n (Nat.le_trans v j.size) λk e=>(f.lt k e).1).setCell (p:=⟨b,0,Z⟩) E _
def I7{w2 m y so s' news bw k x vs}(E:B<=b)(hb:w.heap[b]?=U (Ω #[y,so,r,wi,d,ZI Z 0 0] 114 (0,0)))(F:OC w B y ln)(C:df w S0 ln news)(h3:OC w B so lo)(h4:df w S0 lo bw)(h5:Apart y so)(H:∀p∈ln,∀q∈lo,Apart p.2 q.2)(u:B<=w)(J:S0<=w)(j:Below w w w2)(A:OV w2 w x vs)(n:w2.grownBy m so.ownBlock)(G:OC m B s' (lo++[(k,x)]))(v:s'.ownBlock=so.ownBlock\/∀g,s'.ownBlock=U g->w2.heap.size<=g):
 Ol (m.setCell (b,1) s') B b S0 r wi d news (bw++[(k,vs)])/\Below B w (m.setCell (b,1) s'):=by
 have t:=F.below j;have f:=h3.below j;have l:=(j.block b (R.1 hb).1).trans hb;have a:=(n.block b (R.1 l).1 (λe=>by have:=eJ f l (by decide);exact this e.symm)).trans l
 have c:∀k,k≠b->(m.setCell (b,1) s').heap[k]?=m.heap[k]?:=λk h=>aa h;refine⟨⟨y,s',ln,lo++[(k,x)],E,?_,hZ (uW t h5 n) a (by decide) c,lA (kj (C.below j) f n) a (by decide) c,hZ G a (by decide) c,?_,?_,?_⟩,?_⟩;rw[aB a];simp;refine(lA (kj (h4.below j) f n) a (by decide) c).snoc (OV.less (hZ (fy A f (by decide) n) a (by decide) c) J) λi p hi g z s=>?_;have:=(lY h4 (Γ hi) z).2;have:=(A.lt g s).1;omega;intro g e1 e2;obtain v|v:=v
 rw[v]at e2;exact h5 g e1 e2;have:=v g e2;have:=(t.lt g e1).2;omega;intro p D q o;obtain o|o:=Z2.1 o
 exact H p D q o;simp at o;subst o;intro g e1 e2;have:=(A.lt g e2).1;have:=(lY C D e1).2;omega;exact((j.mono u).grown n (Nat.le_trans u j.size) λk e=>(f.lt k e).1).setCell (p:=⟨b,1,Z⟩) E _
end
section
def HO(w:M)(B:Nat)(l:List (Int×Value))(cs:List HC):Prop:=l.length=cs.length/\∀(i:Nat) k x k' vs,l[i]?=U (k,x) ->cs[i]?=U (k',vs) ->k=k'/\OV w B x vs
def OX(w:M)(B:Nat)(v:Value)(cs:List HC):Prop:=∃l,OC w B v l/\HO w B l cs
def kE(B:Nat)(w w':M):Prop:=∀j,B<=j->j<w->w'.heap[j]?=w.heap[j]?
section
variable{w w':M}{B:Nat}{v:Value}
def kE.below(h:Below w w w'):kE B w w':=λj _ a=>h.block j a
def kE.oq{c m}(h:hQ w c m w')(hc:c<B):kE B w w':=λj hb a=>h.2.block j a (by grind)
def kE.set{b i:Nat}{u}(hb:b<B):kE B w (w.setCell (b,i) u):=λj a _=>aa (by omega)
def kE.trans{w2}(h:kE B w w')(k:kE B w' w2)(hs:w.heap.size<=w'):kE B w w2:=λj hb a=>(k j hb<|by omega).trans<|h j hb a
def dI{e size n xs}(h:w.ownsRow B e size v n xs)(b:kE B w w'):w'.ownsRow B e size v n xs:=aS h λg a=>b g (h.lt g a).1 (h.lt g a).2
def HO.keep{l cs}(h:HO w B l cs)(c:kE B w w'):HO w' B l cs:=⟨h.1,λi k x a b e1 e2=>⟨(h.2 i k x a b e1 e2).1,dI (h.2 i k x a b e1 e2).2 c⟩⟩
def OX.keep{cs}(h:OX w B v cs)(a:kE B w w'):OX w' B v cs:=by obtain⟨l,b,c⟩:=h;exact⟨l,dI b a,c.keep a⟩
def HO.less{B' l cs}(h:HO w B l cs)(c:B'<=B):HO w B' l cs:=⟨h.1,λi k x a b e1 e2=>⟨(h.2 i k x a b e1 e2).1,(h.2 i k x a b e1 e2).2.less c⟩⟩
def OX.less{B' cs}(h:OX w B v cs)(a:B'<=B):OX w B' v cs:=by obtain⟨l,b,c⟩:=h;exact⟨l,b.less a,c.less a⟩
def OX.reads{cs}(h:OX w B v cs):sa w v cs:=by obtain⟨l,d,a⟩:=h;exact d.reads ⟨a.1,λi k x c b e1 e2=>⟨(a.2 i k x c b e1 e2).1,(a.2 i k x c b e1 e2).2.reads⟩⟩
def OX.nil(w B):OX w B () []:=⟨[],OC.nil _ _,rfl,λi k x a b e1=>by simp at e1⟩
def HO.snoc{l cs k x vs}(h:HO w B l cs)(f:OV w B x vs):HO w B (l++[(k,x)]) (cs++[(k,vs)]):=by
 obtain⟨a,d⟩:=h;refine⟨by simp[a],λi b e c v2 e1 e2=>?_⟩
 grind
def HO.types{l l2 cs s}(h:HO w B l cs)(hs:OC w B s l2)(c:w.grownBy w' s.ownBlock):HO w' B l cs:=⟨h.1,λi k x a b e1 e2=>⟨(h.2 i k x a b e1 e2).1,fy (h.2 i k x a b e1 e2).2 hs (by simp) c⟩⟩
end
structure adJ(n:Nat)(h:PH):Prop where
 len:h.cells.length=n
 cells:∀c∈h.cells,aau n c
 four:h.roots.length=4
 roots:∀v∈h.roots,KL n v.1 v.2
 aA:Fs n h.aA/\h.aA.length<=6
 done:Fs n h.done/\h.done.length<=6
def pS(w:M)(B:Nat)(r:Value)(h:PH):Prop:=∃c ro wi d,r=.agg #[c,ro,wi,d]/\OX w B c h.cells/\OV w B ro h.roots/\OI w B wi h.aA/\OI w B d h.done
def dT{w:M}{b:Nat}{x y z u t}(h:w.heap[b]?=U (Ω #[x,y,z,u] t (0,0))):(w b=U x/\w (b,1)=U y/\w (b,2)=U z/\w (b,3)=U u)/\∀i,w.frozen? ⟨b,i,Z⟩=Y:=⟨⟨by simp[Θ,h],by simp[Θ,h],by simp[Θ,h],by simp[Θ,h]⟩,λi=>by simp[ο,h]⟩
def KM(w:M)(b a):((w.alloc b).alloc a).heap[w.heap.size]?=U b/\((w.alloc b).alloc a).heap[w.heap.size+1]?=U a/\Below w w ((w.alloc b).alloc a)/\((w.alloc b).alloc a).heap.size=w.heap.size+2:=by refine⟨(Below.heap_alloc _ _ _<|by simp).trans<|ω _ _,?_,(af w _).alloc (by simp) _,by simp⟩;have:=ω (w.alloc b) a;simpa using this
def Xz(w)(c m tG:Nat)(p)(h:kp w c m)(hm:m<=500000000)(hmo:tG<=1000):
 Z9 prog 66 #[.pointer (c:Nat),tG,.bool p] w λe w'=>(∃r n h',e=.returned r/\pS w' w r h'/\adJ n h'/\n<=tG)/\hQ w c (m+100000) w':=by
 have T:=h.lt;obtain⟨z0,z1,hb0,hs0⟩:=KM w (Ω #[(),(),(),()] 56)<|Ω #[(),(),(),()] 56;have h0:=h.oq.below hb0
 go_enter (fU func66 rfl),ntmps66
 go_wp2_with fail
 generalize (w.alloc _).alloc _=w1 at z0 z1 hb0 hs0 h0⊢;refine(R0 _ c m tG h0.1 (by omega) (by omega)<|by omega).mono ?_;rintro e w2 ⟨⟨n,rfl,hn0,hn⟩,J⟩;obtain⟨n,rfl⟩:=Int.eq_ofNat_of_zero_le hn0;have hn1:n<=1000:=by omega
 have hnm:n<=tG:=by omega
 have y0:=(J.2.block w (by omega) (by simp;omega)).trans z0;have y1:=(J.2.block (w.heap.size+1) (by omega) (by simp;omega)).trans z1;replace J:=h0.trans J;clear z0 z1 hb0 hs0 h0
 go_wp2_with fail
 go_loopw [9] (λi wr=>∃(xc:Value) (cs:List HC),cs.length<=n/\i=Ξ Ψ cs.length/\OX wr (w.heap.size+2) xc cs/\(∀v∈cs,aau n v)/\wr.heap[w.heap.size+1]?=U (Ω #[xc,(),(),()] 56 (0,0))/\wr.heap[w.heap.size]?=U (Ω #[(),(),(),()] 56 (0,0))/\hQ w c (m+1+20*cs.length) wr) (λi _=>n-(intOf i).toNat)
 case atStart=>exact⟨_,[],Nat.zero_le _,rfl,OX.nil _ _,(λv hv=>by cases hv),y1,y0,J⟩
 case round=>
  obtain⟨xc,cs,hk,rfl,O,hv,e1,e0,hw⟩:=hrel;clear y0 y1 J;have X:=(R.1 e1).1;by_cases hlt:cs.length<n
  ·obtain⟨⟨d1,_⟩,_⟩:=dT e1
   go_wp2_with fail
   refine Rg.aaH 5 2 (λu=>u.cell? ⟨w.heap.size+1,0,Z⟩=U xc) (by kernel_rfl) (by kernel_rfl) (λc a d v w h=>by cases d<;>exact h) d1 ?_;simp only[Nat.reduceAdd,ξ,ζ,μ,ε]
   iterate 5
    (refine Rg.fp.step (v:=?_) (by rfl) (λu hu=>?_) ?_
     rotate_left
     (go_simp
      try rfl))
   refine Rg.fp.nil<|Rg.pA.succ ?_;simp only[Z0,ψ,φ,υ];refine ι rfl λK hK=>?_;go_simp;have hd:=(Below.refl wr.heap.size wr).drew;have hwd:=hw.below hd;refine(Rd _ c _ n p hwd.1 (by omega) (by omega)<|by omega).mono ?_;rintro e w5 ⟨⟨k,x,vs,rfl,ho,ir⟩,l⟩;have b1:=(l.2.block (w.heap.size+1) X (by simp;omega)).trans e1;have b0:=(l.2.block w (by omega:w.heap.size<wr) (by simp;omega)).trans e0;have hx5:=O.keep<|(kE.below hd).trans (kE.oq l<|by omega) .refl;have H:=hwd.trans l;have hg5:=(R.1 b1).1;obtain⟨⟨d5,_⟩,f5⟩:=dT b1;have hzw:=l.2.size;obtain⟨ax,mx,rfl,_⟩:=aF ho;refine hK _ _ ⟨d5,Rg.pA.succ ?_⟩;clear hK K;refine ι rfl λK hK=>?_;go_simp;have t:=af w5<|Ω #[k,.slice ax vs.length mx] 76;refine hK _ _ ⟨cG t d5 hg5,Rg.pA.zero ?_⟩;clear hK K d1 O hw hwd l;obtain⟨l5,hoc,hoe⟩:=hx5;have hxk:=hoc.below t
   go_wp2_with (at_builtin;refine wh rfl _ _ rfl (w.heap.size+2) _ _ rfl hxk w5.heap.size _ (k,.slice ax vs.length mx) rfl rfl (by simp[go_sem,ZY]) (by have:=hoe.1;omega) (by simp;omega) ?_;intro v' B E G Re;obtain⟨a6,m6,rfl,_⟩:=aF E;have t1:=(G.block (w.heap.size+1)<|by omega).trans<|(t.block (w.heap.size+1) hg5).trans b1;obtain⟨⟨s1,_⟩,sf⟩:=dT t1)
   have Rf:HO B (w.heap.size+2) (l5++[(k,.slice ax vs.length mx)]) (cs++[(k,vs)]):=((hoe.snoc<|ho.less (by omega:w.heap.size+2<=wr)).keep<|kE.below t).types hxk Re;have L:(l5++[(k,Value.slice ax vs.length mx)]).length=l5.length+1:=by simp
   rw[L]at E;have Xe:=G.size;have ah4:OX (B.setCell (w.heap.size+1:Nat)<|.slice a6 (l5.length+1) m6) (w.heap.size+2) (.slice a6 (l5.length+1) m6) (cs++[(k,vs)]):=OX.keep ⟨_,E,Rf⟩<|kE.set<|by omega
   have hw7:hQ w c (m+1+20*(cs.length+1)) (B.setCell (w.heap.size+1:Nat)<|.slice a6 (l5.length+1) m6):=H.upto T<|((t.mono<|by omega).trans<|G.mono<|by omega).setCell (p:=((w.heap.size+1:Nat):ZQ)) (by show w.heap.size<=w.heap.size+1;omega) _;have t0:=(G.block w<|by omega).trans<|(t.block w<|by omega).trans b0;exact⟨⟨_,cs++[(k,vs)],by simp;omega,by rw[ZO,List.length_singleton];go_num,ah4,λv hv'=>(Z2.1 hv').elim (hv v) λh=>by simp at h;subst h;exact ir,heap_setCell_same (i:=0) t1,(aa<|by omega).trans t0,by simpa using hw7⟩,by simp[intOf];omega⟩
  ·go_wp2_with fail
   have HCN:=V (by omega:cs.length=n);generalize hM:m+1+20*cs.length=f at hw;have hM1:f<=m+30000:=by omega
   generalize hg:w.heap.size+1=g at e1 X⊢;rw[show w.heap.size+2=g+1 by omega]at O;obtain⟨wA,hwA⟩:∃x,x=wr:=⟨_,rfl⟩;subst hwA
   go_loopw [10] (λi wr=>∃(xr:Value) (s:List HV),s.length<=4/\i=Ξ Ψ s.length/\(kE (g+1) wA wr/\wA.heap.size<=wr)/\OV wr wA xr s/\(∀v∈s,KL n v.1 v.2)/\wr.heap[g]?=U (Ω #[xc,xr,(),()] 56 (0,0))/\wr.heap[w.heap.size]?=U (Ω #[(),(),(),()] 56 (0,0))/\hQ w c (f+5*s.length) wr) (λi _=>4-(intOf i).toNat)
   case atStart=>exact⟨_,[],Nat.zero_le _,rfl,⟨λj _ _=>rfl,.refl⟩,OV.nil _ _,(λv hv=>by cases hv),e1,e0,hw⟩
   case round=>
    clear e1 e0 hw;obtain⟨xr,s,hk,rfl,⟨hkA,hzA⟩,hr,va,e1,e0,hw⟩:=hrel;have X:g<wr:=(R.1 e1).1;by_cases hlt:s.length<4
    ·go_wp2_with fail
     refine(Pu _ c _ n hw.1 (by omega) (by omega)<|by omega).mono ?_;rintro e w3 ⟨⟨p',q,rfl,ho⟩,o⟩
     go_wp2_with fail
     have z:=af w3<|Ω #[p',Ξ Ψ q] 50;have A:=(hw.trans o).below z;have hz3:=o.2.size;refine(Kt _ c _ 3 A.1 (by omega) (by omega)<|by omega).mono ?_;rintro e w5 ⟨⟨b,rfl⟩,l⟩;have hk5:kE (g+1) wr w5:=((kE.oq o<|by omega).trans (kE.below z) hz3).trans (kE.oq l<|by omega) (by simp;omega);have f1:w5.heap[g]?=U (Ω #[xc,xr,(),()] 56 (0,0)):=(l.2.block g (by simp;omega) (by simp;omega)).trans<|(z.block g<|by omega).trans<|(o.2.block g X (by simp;omega)).trans e1;have f0:=(l.2.block w (by simp;omega) (by simp;omega)).trans<|(z.block w<|by omega).trans<|(o.2.block w (by omega) (by simp;omega)).trans e0;have x5:=(l.2.block w3 (by simp) (by have:=A.1.lt;simp;have:=o.1.lt;omega)).trans<|ω w3 _;have H:=A.trans l;have KU:=l.2.size;have hg3:g+1<=w3:=by omega
     have hl3:w3.heap.size<w5:=by simp at KU;omega
     generalize w3.heap.size=b3 at x5 hg3 hl3 hz3⊢;clear o z A l hw e1 e0 KU
     go_upto_if 37 with(fail)
     go_cut [11]from 29 to 45 λv wx=>∃p q:Int,v=.pointer b3/\KL n p q/\wx.heap[b3]?=U (Ω #[Ξ Ψ p,Ξ Ψ q] 50 (0,0))/\Below b3 w5 wx/\(∀j,j≠b3->wx.heap[j]?=w5.heap[j]?)
     case first=>
      obtain⟨c0,c1,g0,g1⟩:=hH x5;have hi4:IntKind.i64.wrap (s.length:Int)=s.length:=wrap_small _ (by omega) (by omega);have t:Below b3 w5 ((w5.setCell b3<|Ξ Ψ 0).setCell (b3,1) s.length):=((Below.refl b3 w5).setCell (p:=(⟨b3,0,Z⟩:ZQ)) .refl _).setCell (p:=(⟨b3,1,Z⟩:ZQ)) .refl _
      go_wp2_with fail
      all_goals go_meet
      exact⟨0,s.length,rfl,.inr<|.inr ⟨rfl,by omega,by omega⟩,heap_setCell_same (i:=1)<|heap_setCell_same (i:=0) x5,t,λj Q=>(aa Q).trans<|aa Q⟩;exact⟨p',q,rfl,ho,x5,.refl _ _,λj _=>rfl⟩
     case rest=>
      obtain⟨p2,q2,rfl,S,x6,t,D⟩:=hcut;generalize wc=B at x6 t D⊢;obtain⟨⟨_,d1,_⟩,ff⟩:=dT<|(D g<|by omega).trans f1;obtain⟨c0,c1,g0,g1⟩:=hH x6;have hk:kE (g+1) wr B:=λj hb Q=>(D j<|by omega).trans<|hk5 j hb Q;have hr6:OV B wA.heap.size xr s:=dI hr λj hb Q=>hk j (by omega) Q;have C:=H.upto T<|t.mono<|by omega
      have Xe:=t.size;have h0:=(D w.heap.size<|by omega).trans f0;have h1':=(D g<|by omega).trans f1;have hb7:=af B<|Ω #[p2,q2] 50;clear hr hk5 D H f0 f1 x5 x6 t
      go_wp2_with (at_builtin;refine fO rfl _ _ rfl wA _ _ rfl (hr6.alloc _) B.heap.size _ (p2,q2) rfl (by simp[go_sem,ZY]) (by omega) (by simp;omega) ?_;intro v' w8 F P sR;obtain⟨a8,m8,rfl,_⟩:=aF F;have t1:=(P.block g<|by omega).trans<|(hb7.block g<|by omega).trans h1';obtain⟨⟨_,s1,_⟩,sf⟩:=dT t1)
      have vm:=P.size;have L:(s++[(p2,q2)]).length=s.length+1:=by simp
      rw[L]at F;have ah7:kE (g+1) wA (w8.setCell (g,1)<|.slice a8 (s.length+1) m8):=λj hb Q=>(aa<|by omega).trans<|(P.block j Q).trans<|(hb7.block j<|by omega).trans<|(hk j hb<|by omega).trans<|hkA j hb Q;have hw9:hQ w c (f+5*(s.length+1)) (w8.setCell (g,1)<|.slice a8 (s.length+1) m8):=C.upto T<|((hb7.mono<|by omega).trans<|P.mono<|by omega).setCell (p:=((g,1):ZQ)) (by show w.heap.size<=g;omega) _;have ht0:=(P.block w<|by omega).trans<|(hb7.block w<|by omega).trans h0
      go_roundw
      case rel=>exact⟨_,s++[(p2,q2)],by rw[L];omega,by rw[L];go_num,⟨ah7,by simp at vm⊢;omega⟩,dI F<|kE.set<|by omega,λv hv'=>(Z2.1 hv').elim (va v) λh=>by simp at h;subst h;exact S,heap_setCell_same (i:=1) t1,(aa<|by omega).trans ht0,by rw[L];exact hw9⟩
      case measure=>simp[intOf];omega
    ·have hxr:=O.keep hkA;have hr4:=V (by omega:s.length=4);have hrr:=hr.less (B':=g+1) (by omega);clear O hkA hr
     go_upto_if 47 with(fail)
     go_cut []from 46 to 58 λwx=>∃wi d N ld,wx.heap[g]?=U (Ω #[xc,xr,wi,d] 56 (0,0))/\OI wx (g+1) wi N/\OI wx (g+1) d ld/\(Fs n N/\N.length<=6)/\(Fs n ld/\ld.length<=6)/\kE (g+1) wr wx/\wx.heap[w.heap.size]?=U (Ω #[(),(),(),()] 56 (0,0))/\hQ w c (m+90000) wx
     case first=>
      go_wp2_with fail
      ·refine(Qj _ c _ n hw.1 (by omega) hn1).mono ?_;rintro e w3 ⟨⟨r3,l3,rfl,ho3,hl3⟩,o⟩
       go_wp2_with fail
       have z:=af w3<|Ω #[Ξ Ψ 0,Ξ Ψ 0,Ξ Ψ n] 3;have A:=(hw.trans o).below z;have hc3:=o.1.lt;refine(Pt _ c _ _ _ [0,0,(n:Int)] A.1 (by omega) (Ku w3 _ _ 3 rfl rfl<|by omega) (by omega) (by simp)<|by simp).mono ?_;rintro e w5 ⟨⟨y,rfl,hy⟩,l⟩;have hy:0<=y/\y<=n:=by simp at hy;omega
       obtain⟨y,rfl⟩:=Int.eq_ofNat_of_zero_le hy.1
       go_wp2_with fail
       refine(Qj _ c _ y (A.trans l).1 (by omega)<|by omega).mono ?_;rintro e B ⟨⟨r6,l6,rfl,Jb,hl6⟩,C⟩;have hz3:=o.2.size;have wB:w3.heap.size<=w5:=by have:=l.2.size;simp at this;omega
       have D:kE (g+1) wr B:=(((kE.oq o<|by omega).trans (kE.below z) hz3).trans (kE.oq l<|by omega) (by simp;omega)).trans (kE.oq C<|by omega) (by omega);have f1:B.heap[g]?=U (Ω #[xc,xr,(),()] 56 (0,0)):=(C.2.block g (by omega) (by simp;omega)).trans<|(l.2.block g (by simp;omega) (by simp;omega)).trans<|(z.block g<|by omega).trans<|(o.2.block g X (by simp;omega)).trans e1;have f0:=(C.2.block w (by omega) (by simp;omega)).trans<|(l.2.block w.heap.size (by simp;omega) (by simp;omega)).trans<|(z.block w.heap.size<|by omega).trans<|(o.2.block w.heap.size (by omega) (by simp;omega)).trans e0;have ah9:OI B (g+1) r3 l3:=dI (dI (dI (ho3.less (B':=g+1)<|by omega)<|kE.below z)<|kE.oq l<|by omega)<|kE.oq C<|by omega
       obtain⟨⟨_,_,s2,s3⟩,sf⟩:=dT f1;obtain⟨a3,m3,rfl,_⟩:=aF ho3;obtain⟨a6,m6,rfl,_⟩:=aF Jb;have aia:Fs n l6/\l6.length<=6:=⟨⟨hl6.1.1,λx O=>by have:=hl6.1.2 x O;omega⟩,hl6.2⟩;have aib:=((A.trans l).trans C).upto T<|((Below.refl w.heap.size B).setCell (p:=((g,2):ZQ)) (by show w.heap.size<=g;omega)<|.slice a3 l3.length m3).setCell (p:=((g,3):ZQ)) (by show w.heap.size<=g;omega)<|.slice a6 l6.length m6;clear e1 e0 hw o z A l C
       go_wp2_with fail
       go_meet
       exact⟨_,_,l3,l6,heap_setCell_same (i:=3)<|heap_setCell_same (i:=2) f1,dI (dI ah9<|kE.set<|by omega)<|kE.set<|by omega,dI (dI (Jb.less (B':=g+1)<|by omega)<|kE.set<|by omega)<|kE.set<|by omega,hl3,aia,λj hb Q=>(aa<|by omega).trans<|(aa<|by omega).trans<|D j hb Q,(aa<|by omega).trans<|(aa<|by omega).trans f0,aib.more<|by omega⟩
      ·go_meet
       exact⟨_,_,[],[],e1,OI.nil _ _,OI.nil _ _,⟨⟨ZE,λx O=>by cases O⟩,Nat.zero_le _⟩,⟨⟨ZE,λx O=>by cases O⟩,Nat.zero_le _⟩,λj _ _=>rfl,e0,hw.more<|by omega⟩
     case rest=>
      obtain⟨wi,d,N,ld,f1,ho1,S,hl1,hl2,hk,f0,hw⟩:=hcut;generalize wc=B at f1 ho1 S hk f0 hw⊢;have hx6:=hxr.keep hk;have hr6:OV B (g+1) xr s:=dI hrr hk;clear e1 e0 hxr hrr hk;obtain⟨⟨s0,s1,s2,s3⟩,_⟩:=dT f1;obtain⟨⟨r0,r1,r2,r3⟩,rf⟩:=dT f0;have rf0:=rf 0;have rf1:=rf 1;have rf2:=rf 2;have rf3:=rf 3;obtain⟨lc,hlc,hle⟩:=hx6;obtain⟨ac,mc,rfl,_⟩:=aF hlc;obtain⟨ar,mr,rfl,_⟩:=aF hr6;obtain⟨aw,mw,rfl,_⟩:=aF ho1;obtain⟨ad,md,rfl,_⟩:=aF S
      go_wp2_with fail
      have hf:=heap_setCell_same (i:=3) (v:=.slice ad ld.length md)<|heap_setCell_same (i:=2) (v:=.slice aw N.length mw)<|heap_setCell_same (i:=1) (v:=.slice ar s.length mr)<|heap_setCell_same (i:=0) (v:=.slice ac lc.length mc) f0;have W:kE (g+1) B ((((B.setCell ⟨w.heap.size,0,Z⟩<|.slice ac lc.length mc).setCell ⟨w.heap.size,1,Z⟩<|.slice ar s.length mr).setCell ⟨w.heap.size,2,Z⟩<|.slice aw N.length mw).setCell ⟨w.heap.size,3,Z⟩<|.slice ad ld.length md):=λj hb _=>(aa<|by omega).trans<|(aa<|by omega).trans<|(aa<|by omega).trans<|aa<|by omega
      have hwf:=(hw.upto T<|((((Below.refl w B).setCell (p:=(w.heap.size:ZQ)) .refl<|.slice ac lc.length mc).setCell (p:=((w.heap.size,1):ZQ)) .refl<|.slice ar s.length mr).setCell (p:=((w.heap.size,2):ZQ)) .refl<|.slice aw N.length mw).setCell (p:=((w.heap.size,3):ZQ)) .refl<|.slice ad ld.length md).more (by omega:m+90000<=m+100000);generalize (((B.setCell w.heap.size<|.slice ac lc.length mc).setCell (w.heap.size,1)<|.slice ar s.length mr).setCell (w.heap.size,2)<|.slice aw N.length mw).setCell (w.heap.size,3) (.slice ad ld.length md)=w7 at hf W hwf⊢;obtain⟨⟨k0,k1,k2,k3⟩,_⟩:=dT hf;have ir:adJ n ⟨cs,s,N,ld⟩:=⟨HCN.out,hv,hr4.out,va,hl1,hl2⟩;have hown:pS w7 w (.agg #[.slice ac lc.length mc,.slice ar s.length mr,.slice aw N.length mw,.slice ad ld.length md]) ⟨cs,s,N,ld⟩:=⟨_,_,_,_,rfl,OX.less (OX.keep ⟨lc,hlc,hle⟩ W)<|by omega,eV (dI hr6 W)<|by omega,eV (dI ho1 W)<|by omega,eV (dI S W)<|by omega⟩;exact ZW (v:=.agg #[.slice ac lc.length mc,.slice ar s.length mr,.slice aw N.length mw,.slice ad ld.length md]) (by simp[ZA,results66,go_sem,k0,k1,k2,k3]) rfl ⟨⟨_,n,_,rfl,hown,ir,hnm⟩,hwf⟩
end
section
def Ap(a b:Value):Prop:=∀g,a.ownBlock=U g->b.ownBlock≠U g
structure yB(w:M)(B p7:Nat)(cs:List HC)(roots:List HV)(f:Bool->List Int)(so vc vr:Value)(u:Bool->Value):Prop where
 hb:w.heap[p7]?=U (Ω #[vc,vr,u Y,u I] 56 (0,0))
 c:OX w B vc cs
 r:OV w B vr roots
 i:∀b,OI w B (u b) (f b)
 ap:∀b,Ap (u b) so
 ab:∀b,Ap (u b) (u !b)
 lo:B<=p7
section
variable{w w':M}{B p3 p4 p5 p7 bm:Nat}{cs:List HC}{roots:List HV}{f:Bool->List Int}{so so' vc vr:Value}{u:Bool->Value}{N:List Int}
def yB.below(h:yB w B p7 cs roots f so vc vr u)(a:Below w w w'):yB w' B p7 cs roots f so vc vr u:=⟨(a.block _ (R.1 h.hb).1).trans h.hb,h.c.keep<|kE.below a,h.r.below a,λb=>(h.i b).below a,h.ap,h.ab,h.lo⟩
def HO.num{l}(h:HO w B l cs)(c:kc w B p3 p4 p5 bm so N)(t:cz w w' p4 bm so so'):HO w' B l cs:=⟨h.1,λi k x a b e1 e2=>⟨(h.2 i k x a b e1 e2).1,Kc c t (h.2 i k x a b e1 e2).2 (by simp)<|by simp⟩⟩
def yB.num(h:yB w B p7 cs roots f so vc vr u)(d:kc w B p3 p4 p5 bm so N)(t:cz w w' p4 bm so so'):yB w' B p7 cs roots f so' vc vr u:=by
 obtain⟨v,q,m,_⟩:=d.map;obtain⟨n,k,p⟩:=d.free h.hb (by simp) (by decide);refine⟨(t.block _ (R.1 h.hb).1 n k p).trans h.hb,?_,Kc d t h.r (by decide)<|by decide,λb=>aS (h.i b) λg a=>t.block g ((h.i b).lt g a).2 (λe=>?_) (λe=>?_)<|h.ap b g a,λb g a e=>?_,h.ab,h.lo⟩;obtain⟨l,s,o⟩:=h.c;exact⟨l,Kc d t s (by decide)<|by decide,o.num d t⟩;subst e;exact cF (h.i b) d.h4 (by decide) a;subst e;exact zT (h.i b) (λc f e=>by rw[m]at e;cases e) a;obtain j|j:=t.own g e
 ·exact h.ap b g a j
 have:=((h.i b).lt g a).2;omega
def yB.app{m n b}(h:yB w B p7 cs roots f so vc vr u)(d:kc w B p3 p4 p5 bm so N)(ho:OI w' B m (f b++[n]))(G:w.grownBy w' (u b).ownBlock)(z:m.ownBlock=(u b).ownBlock\/∃k,m.ownBlock=U k/\w.heap.size<=k)(hB:B<=w):
 yB (w'.setCell (p7,if b then 3 else 2) m) B p7 cs roots (λc=>if c=b then f b++[n]else f c) so vc vr (λc=>if c=b then m else u c)/\
 kc (w'.setCell ⟨p7,if b then 3 else 2,Z⟩ m) B p3 p4 p5 bm so N/\Below B w (w'.setCell ⟨p7,if b then 3 else 2,Z⟩ m):=by
 have K:∀g,(u b).ownBlock=U g->B<=g/\g<w:=λg G=>(h.i b).lt g G;have A:∀k,k<w.heap.size->(u b).ownBlock≠U k->w'.heap[k]?=w.heap[k]?:=λk A C=>G.block k A<|ZB C;have J:∀{k:Nat} {D:Array Value} {t:Zo} {fr:Nat×Nat},w.heap[k]?=U (.cells D t fr) ->t≠3->w'.heap[k]?=w.heap[k]?:=λhc X=>A _ (R.1 hc).1 λe=>cF (h.i b) hc X e;have o:=(J h.hb<|by decide).trans h.hb;have row:∀{e size n:Nat} {v:Value} {y:List Value} {q:Nat},w.ownsRow q e size v n y->(e≠3\/Ap v (u b)) ->w'.ownsRow q e size v n y:=λ{e size n v y q} s hd=>aS s λg a=>A g (s.lt g a).2 λH=>by
  obtain hd|hd:=hd
  obtain⟨_,⟨rfl,_⟩|⟨g',cap,D,rfl,_,F,_⟩⟩:=s
  ·cases a
  cases a;exact cF (h.i b) F hd H
  exact hd g a H
 have fin:∀{e size n:Nat} {v:Value} {y:List Value} {q:Nat},w'.ownsRow q e size v n y->e≠56->(w'.setCell (p7,if b then 3 else 2) m).ownsRow q e size v n y:=λs he=>aS s λg a=>aa λH=>by subst H;exact cF s o (ZB he) a
 have Q:Ap m so:=λg a e=>by
  obtain h'|⟨k,h',hk'⟩:=z
  exact h.ap b g (h'▸a) e;rw[h']at a;cases a;have:=(d.row.lt g e).2;omega
 have E:∀c,c≠b->Ap (u c) m:=λc hc g a e=>by
  have j:c=!b:=by cases c<;>cases b<;>simp_all
  obtain h'|⟨k,h',hk'⟩:=z
  rw[h']at e;refine h.ab c g a ?_;subst j;rwa[Bool.not_not];rw[h']at e;cases e;have:=((h.i c).lt g a).2;omega
 refine⟨⟨?_,?_,fin (row h.r<|.inl<|by decide)<|by decide,λc=>?_,λc=>?_,λc=>?_,h.lo⟩,⟨d.b3,d.b4,d.b5,d.b6,?_,?_,?_,fin (row d.row<|.inr λg a e=>h.ap b g e a)<|by decide,?_⟩,?_⟩;cases b
 ·exact heap_setCell_same (i:=2) o
 exact heap_setCell_same (i:=3) o;obtain⟨l,C,L,h3⟩:=h.c;exact⟨l,fin (row C<|.inl<|by decide)<|by decide,L,λi k x T S e1 e2=>⟨(h3 i k x T S e1 e2).1,fin (row (h3 i k x T S e1 e2).2<|.inl<|by decide)<|by decide⟩⟩;by_cases hc:c=b
 ·rw[if_pos hc,if_pos hc];exact fin ho (by decide)
 rw[if_neg hc,if_neg hc];have j:b=!c:=by cases c<;>cases b<;>simp_all
 exact fin (row (h.i c)<|.inr<|j▸h.ab c) (by decide);by_cases hc:c=b
 ·rw[if_pos hc];exact Q
 rw[if_neg hc];exact h.ap c;by_cases hc:c=b
 ·subst hc;rw[if_pos rfl,if_neg (by cases c<;>simp)]
  exactλg C L=>E (!c) (by cases c<;>simp) g L C
 have j:(!c)=b:=by cases c<;>cases b<;>simp_all
 rw[if_neg hc,if_pos j];exact E c hc;exact(aa λe=>by subst e;have:=d.h3;rw[h.hb]at this;cases this).trans<|(J d.h3<|by decide).trans d.h3;exact(aa λe=>by subst e;have:=d.h4;rw[h.hb]at this;cases this).trans<|(J d.h4<|by decide).trans d.h4;exact(aa λe=>by subst e;have:=d.h5;rw[h.hb]at this;cases this).trans<|(J d.h5<|by decide).trans d.h5;obtain⟨es,O,W,P⟩:=d.map;have F:=(A bm d.map.lt (zT (h.i b) λc f e=>by rw[W]at e;cases e)).trans W;exact⟨es,O,(aa λe=>by subst e;rw[o]at F;cases F).trans F,P⟩;exact(((Below.refl B w).grown G hB λk e=>(K k e).1)).setCell (p:=⟨p7,_,Z⟩) h.lo _
def yB.reads(h:yB w B p7 cs roots f so vc vr u)(c:kc w B p3 p4 p5 bm so N):(w p7=U vc/\w (p7,2)=U (u Y)/\w (p7,3)=U (u I))/\(∀i,w.frozen? ⟨p7,i,Z⟩=Y)/\w p5=U (.func (.func 177) #[] #[.pointer p3,.pointer p4])/\p7<w/\p5<w:=by have a:=h.hb;have b:=c.h5;exact⟨⟨by simp[Θ,a],by simp[Θ,a],by simp[Θ,a]⟩,λi=>by simp[ο,a],by simp[Θ,b],(R.1 a).1,(R.1 b).1⟩
def Kv{w0 c o}(g:yB w B p7 cs roots f so vc vr u)(e:kc w B p3 p4 p5 bm so N)(d:Below B w0 w)(h0:B<=w0)(b:kc w' B p3 p4 p5 bm so' c)(a:cz w.drew w' p4 bm so so'):
 yB w' B p7 cs roots f so' vc vr u/\yB (w'.alloc o) B p7 cs roots f so' vc vr u/\kc (w'.alloc o) B p3 p4 p5 bm so' c/\Below B w0 (w'.alloc o):=by
 have hd:=(Below.refl w w).drew;have h5:=(g.below hd).num (e.below hd) a;have hz:=d.size;exact⟨h5,h5.below<|af _ _,b.below<|af _ _,(d.trans<|(hd.mono<|by omega).trans<|Kb (e.below hd) a (by simp;omega)).trans<|(af _ _).mono (by have:=a.size;simp at this;omega)⟩
def yB.cell{j x k vs l}(h:yB w B p7 cs roots f so vc vr u)(o:OC w B vc l)(D:HO w B l cs)(a:kc w B p3 p4 p5 bm so N)(p:OV w B x vs)(J:OC w' B j (l++[(k,x)]))(m:w.grownBy w' vc.ownBlock)(L:B<=w):
 yB (w'.setCell p7 j) B p7 (cs++[(k,vs)]) roots f so j vr u/\kc (w'.setCell p7 j) B p3 p4 p5 bm so N/\Below B w (w'.setCell p7 j):=by
 have y:∀{k:Nat} {cur:Array Value} {t:Zo} {fr:Nat×Nat},w.heap[k]?=U (.cells cur t fr) ->t≠76->w'.heap[k]?=w.heap[k]?:=λhc G=>m.block _ (R.1 hc).1 λe=>cF o hc G e.symm;have d:=(y h.hb<|by decide).trans h.hb;have row:∀{e size n:Nat} {v:Value} {xs:List Value} {B':Nat},w.ownsRow B' e size v n xs->e≠76->w'.ownsRow B' e size v n xs:=λs hd=>fy s o hd m;have fin:∀{e size n:Nat} {v:Value} {xs:List Value} {B':Nat},w'.ownsRow B' e size v n xs->e≠56->(w'.setCell p7 j).ownsRow B' e size v n xs:=λs q=>aS s λg z=>aa λH=>by subst H;exact cF s d (ZB q) z
 have q:=(D.snoc (k:=k) p).types o m;refine⟨⟨heap_setCell_same (i:=0) d,⟨l++[(k,x)],fin J (by decide),q.1,λi k x E vs e1 e2=>⟨(q.2 i k x E vs e1 e2).1,fin (q.2 i k x E vs e1 e2).2 (by decide)⟩⟩,fin (row h.r (by decide)) (by decide),λb=>fin (row (h.i b) (by decide)) (by decide),h.ap,h.ab,h.lo⟩,
  ⟨a.b3,a.b4,a.b5,a.b6,?_,?_,?_,fin (row a.row (by decide)) (by decide),?_⟩,((Below.refl B w).grown m L λk e=>(o.lt k e).1).setCell h.lo _⟩
 exact(aa λe=>by subst e;have:=a.h3;rw[h.hb]at this;cases this).trans<|(y a.h3<|by decide).trans a.h3;exact(aa λe=>by subst e;have:=a.h4;rw[h.hb]at this;cases this).trans<|(y a.h4<|by decide).trans a.h4;exact(aa λe=>by subst e;have:=a.h5;rw[h.hb]at this;cases this).trans<|(y a.h5<|by decide).trans a.h5;obtain⟨K,A,F,C⟩:=a.map;have p:=(m.block bm a.map.lt λe=>zT o (λc f e=>by rw[F]at e;cases e) e.symm).trans F;exact⟨K,A,(aa λe=>by subst e;rw[d]at p;cases p).trans p,C⟩
end
end
end Kn
namespace Rg
open Go Go.RowKit
section
variable{id:Nat}
variable{P:Zz}{Q:Exit->Zw->M->Prop}{l:List ZP}{m:Nat}{A:Nat->Bool}{F:Nat->Value->M->Prop}{a0:Zw}{w0:M}
def d6(v:Value):Nat:=match v with
 |ZF (U a)=>a.block
 |_=>0
def h9(l:List ZP)(i:Nat):Option Tmp:=(l[i]?).bind (·.dst)
def Pv(l:List ZP)(m:Nat):Bool:=
 decide (m<=l.length)&&((ZN m).all λi=>match l[i]? with
  |some o=>o.dst.isSome&&o.guard.isNone&&o.after.all λe=>!ZV .any e||decide (e.on<i)
  |none=>Y)&&
 decide ((ZN m).Pairwise λi j=>h9 l i≠h9 l j)&&aaJ .any l.toArray m m&&Zn .any l.toArray (l.length-m) m (η m I++η (l.length-m) Y).toArray
def XA(l:List ZP)(m s:Nat):Bool:=(ZN m).all λi=>h9 l i !=U s
def Hop(P:Zz)(Q:Exit->Zw->M->Prop)(l:List ZP)(m:Nat)(A:Nat->Bool)(F:Nat->Value->M->Prop)(a0:Zw)(w0:M)(i:Nat)(o:ZP):Prop:=
 ∀a w,Below w0 w0 w->(∀s,XA l m s=I->a.tmps.getD s undef=a0.tmps.getD s undef) ->(∀e∈o.after,ZV .any e=I->∀d,h9 l e.on=U d->F e.on (a.tmps.getD d undef) w) ->
  Oper.wp P o a w (λa' w'=>∃v,a'=a.put o.dst v/\Below w w w'/\F i v w'/\(A i=I->w.heap.size<=d6 v/\d6 v<w')) Q
def G':List ZP->Nat->(Nat->Value) ->Zw->Zw
 |[],_,_,a=>a
 |o::l,k,vs,a=>G' l (k+1) vs<|a.put o.dst<|vs k
structure aav(l:List ZP)(m:Nat)(A:Nat->Bool)(F:Nat->Value->M->Prop)(a0:Zw)(w0:M)(listed:Array Bool)(a:Zw)(w:M):Prop where
 below:Below w0 w0 w
 size:a.tmps.size=a0.tmps.size
 defers:a.defers=a0.defers
 base:∀s,(∀i,i<m->listed.getD i Y=I->h9 l i≠U s) ->a.tmps.getD s undef=a0.tmps.getD s undef
 has:∀i d,i<m->listed.getD i Y=I->h9 l i=U d->F i (a.tmps.getD d undef) w
 low:∀i d,i<m->A i=I->listed.getD i Y=I->h9 l i=U d->d6 (a.tmps.getD d undef)<w
 agp:∀i j d e,i<m->j<m->i≠j->A i=I->A j=I->listed.getD i Y=I->listed.getD j Y=I->h9 l i=U d->h9 l j=U e->d6 (a.tmps.getD d undef)≠d6 (a.tmps.getD e undef)
def NF(a:Zw)(d v):(a.put d v).tmps.size=a.tmps.size:=by cases d<;>simp[Z0]
def put_defers(a:Zw)(d v):(a.put d v).defers=a.defers:=by cases d<;>rfl
def Rh{a:Zw}{d:Option Tmp}{s:Nat}(v)(h:d≠U s):(a.put d v).tmps[s]?=a.tmps[s]?:=by
 obtain _|d:=d
 rfl;have:d≠s:=λe=>h<|e▸rfl;simp[Z0,ZL this]
def put_eq{a:Zw}{s}(v)(h:s<a.tmps.size):(a.put (U s) v).tmps[s]?=U v:=by simp[Z0,h]
def Rz{x y:Array Value}{s}(h:x[s]?=y[s]?):x.getD s undef=y.getD s undef:=by simp[h]
theorem Px:∀(l:List ZP) (k:Nat) (vs:Nat->Value) (a:Zw),(G' l k vs a).tmps.size=a.tmps.size/\(G' l k vs a).defers=a.defers
 |[],_,_,_=>⟨rfl,rfl⟩
 |o::l,k,vs,a=>by have:=Px l (k+1) vs<|a.put o.dst<|vs k;exact⟨this.1.trans<|NF _ _ _,this.2.trans<|put_defers _ _ _⟩
theorem PW:∀(l:List ZP) (k:Nat) (vs:Nat->Value) (a:Zw) (s:Nat),(∀o∈l,o.dst≠U s) ->(G' l k vs a).tmps[s]?=a.tmps[s]?
 |[],_,_,_,_,_=>rfl
 |o::l,k,vs,a,s,h=>(PW l (k+1) vs _ s λo b=>h o<|List.mem_cons_of_mem _ b).trans<|Rh _<|h o List.mem_cons_self
theorem RB:∀(l:List ZP) (k:Nat) (vs:Nat->Value) (a:Zw) (i:Nat) (o:ZP) (s:Nat),l[i]?=U o->o.dst=U s->s<a.tmps.size->(∀j b,i<j->l[j]?=U b->b.dst≠U s) ->(G' l k vs a).tmps[s]?=U (vs<|k+i)
 |[],_,_,_,_,_,_,h,_,_,_=>by simp at h
 |o::l,k,vs,a,0,b,s,h,hd,hs,hn=>by
  cases h
  show(G' l (k+1) vs _).tmps[s]?=_;rw[PW l (k+1) vs _ s λx c=>by obtain⟨j,d⟩:=θ.1 c;exact hn (j+1) x (by omega) d,hd]
  exact put_eq _ hs
 |o::l,k,vs,a,i+1,b,s,h,hd,hs,hn=>by show(G' l (k+1) vs _).tmps[s]?=_;rw[RB l (k+1) vs _ i b s h hd (by rw[NF];exact hs) λj x d c=>hn (j+1) x (by omega) c,Nat.add_right_comm,Nat.add_assoc]
def Qk(h:Pv l m=I):m<=l.length/\(∀i,i<m->∃o d,l[i]?=U o/\o.dst=U d/\h9 l i=U d/\o.guard=Z/\∀e∈o.after,ZV .any e=I->e.on<i)/\
 (∀i j,i<j->j<m->h9 l i≠h9 l j)/\aaJ .any l.toArray m m=I/\Zn .any l.toArray (l.length-m) m (η m I++η (l.length-m) Y).toArray=I:=by
 unfold Pv at h;simp only[ZJ,decide_eq_true_eq]at h;obtain⟨⟨⟨⟨n,g⟩,h3⟩,h4⟩,h5⟩:=h;refine⟨n,λi hi=>?_,λi j a p=>?_,h4,h5⟩;have:=ZU.1 g i<|ZS.2 hi;cases ho:l[i]? with
 |none=>simp[ho]at this
 |some o=>simp only[ho,ZJ,Array.all_eq_true]at this;obtain⟨⟨t1,t2⟩,c⟩:=this;obtain⟨d,hd⟩:=Option.isSome_iff_exists.1 t1;refine⟨o,d,rfl,hd,by simp[h9,ho,hd],by simpa using t2,λe f hb=>?_⟩;obtain⟨k,b,rfl⟩:=Array.mem_iff_getElem.1 f;have:=c k b;simpa[hb]using this
 rw[ZX]at h3;have:=h3 i j (by simp;omega) (by simp;omega) a;simpa using this
def aav.act(y:m<=l.length)(r:∀i,i<m->∃o d,l[i]?=U o/\o.dst=U d/\h9 l i=U d)(h3:∀i j,i<j->j<m->h9 l i≠h9 l j)(u:∀i d,i<m->h9 l i=U d->d<a0.tmps.size){listed a w}(g:∀i,i<m->listed.getD i Y=I)(h:aav l m A F a0 w0 listed a w):a=G' (l.take m) 0 (λi=>a.tmps.getD ((h9 l i).getD 0) undef) a0:=by
 obtain⟨n,k⟩:=Px (l.take m) 0 (λi=>a.tmps.getD ((h9 l i).getD 0) undef) a0;have c:a.tmps=(G' (l.take m) 0 (λi=>a.tmps.getD ((h9 l i).getD 0) undef) a0).tmps:=by
  refine Zs (by rw[n,h.size]) λs qv oX=>?_;have e:s<a0.tmps.size:=by rw[<-h.size];exact qv
  have f:(G' (l.take m) 0 (λi=>a.tmps.getD ((h9 l i).getD 0) undef) a0).tmps[s]?=a.tmps[s]?:=by
   by_cases hw:∃i,i<m/\h9 l i=U s
   obtain⟨i,hi,b⟩:=hw;obtain⟨o,d,e1,e2,e3⟩:=r i hi;rw[b]at e3;cases e3
   rw[RB (l.take m) 0 _ a0 i o s (by rw[κ,if_pos hi];exact e1) e2 e λj z q c hd=>?_];simp[b,qv];rw[κ]at c;split at c
   exact h3 i j q (by assumption) (by rw[b];simp[h9,c,hd]);cases c
   rw[PW (l.take m) 0 _ a0 s λo p hd=>hw ?_]
   ·have:=h.base s λi hi _ b=>hw ⟨i,hi,b⟩;simp[qv,e]at this⊢;exact this.symm
   obtain⟨i,hi⟩:=θ.1 p;rw[κ]at hi;split at hi
   exact⟨i,by assumption,by simp[h9,hi,hd]⟩;cases hi
  exact(Z4<|(ZD oX).symm.trans<|f.trans<|ZD qv).symm
 cases a with
 |mk t d=>
  cases hp:G' (l.take m) 0 (λi=>t.getD ((h9 l i).getD 0) undef) a0 with
  |mk x v=>simp only[hp]at c k;have:=h.defers;simp only at this;rw[c,this,<-k]
def XB(hB:Pv l m=I)(T:∀i d,i<m->h9 l i=U d->d<a0.tmps.size)(hst:∀i v w w',Below w.heap.size w w'->F i v w->F i v w')(hop:∀i o,i<m->l[i]?=U o->Hop P Q l m A F a0 w0 i o)(O:∀vs w,Below w0 w0 w->(∀i,i<m->F i (vs i) w) ->(∀i j,i<m->j<m->i≠j->A i=I->A j=I->d6 (vs i)≠d6 (vs j)) ->Zt P l.toArray Q (l.drop m) (G' (l.take m) 0 vs a0) w):
 ∀f listed a w,listed.size=l.length->listed.toList.countP (λb=>!b)=f->(∀j,m<=j->listed.getD j Y=Y) ->Down .any l.toArray listed->aav l m A F a0 w0 listed a w->wpAny P .any l.toArray Q f listed a w:=by
 obtain⟨h1,G,h3,h4,h5⟩:=Qk hB;have fin:∀(f:Nat) (listed:Array Bool) (a:Zw) (w:M),listed.size=l.length->listed.toList.countP (λb=>!b)=f->(∀j,m<=j->listed.getD j Y=Y) ->(∀i,i<m->listed.getD i Y=I) ->aav l m A F a0 w0 listed a w->wpAny P .any l.toArray Q f listed a w:=by
  intro f listed a w hs hc J n r;have hl:listed=(η m I++η (l.length-m) Y).toArray:=by
   refine Zs (by simp;omega) λi K hi2=>?_;by_cases hi:i<m
   have:=n i hi;simp[K]at this;simp[this,Zv,hi];have:=J i (by omega);simp[K]at this;simp[this,Zv,hi]
  have hf:f=(l.drop m).length:=by rw[<-hc,hl];simp[List.countP_append,Zy]
  subst hf;refine wpAny_of_seq (l.drop m) m listed a w (λj=>by simp) (by rw[hl,List.length_drop];exact h5) ?_;rw[r.act h1 (λi hi=>by obtain⟨o,d,e1,e2,e3,_⟩:=G i hi;exact⟨o,d,e1,e2,e3⟩) h3 T n];refine O _ w r.below (λi hi=>?_) λi j hi p c ai z=>?_;obtain⟨o,d,e1,e2,e3,_⟩:=G i hi;have:=r.has i d hi (n i hi) e3;rw[e3];exact this;obtain⟨_,d,_,_,e3,_⟩:=G i hi;obtain⟨_,d',_,_,e4,_⟩:=G j p;have:=r.agp i j d d' hi p c ai z (n i hi) (n j p) e3 e4;rw[e3,e4];exact this
 intro f
 induction f with
 |zero=>intro listed a w hs hc J hd r;refine fin 0 listed a w hs hc J (λi hi=>?_) r;rw[List.countP_eq_zero]at hc;have:=hc listed[i] (by simp);simpa[(by omega:i<listed.size)]using this
 |succ f ih=>
  intro listed a w hs hc J hd r;by_cases n:∀i,i<m->listed.getD i Y=I
  exact fin _ listed a w hs hc J n r
  ·
   have hex:∃k,k<m/\listed.getD k Y=Y/\∀i,i<k->listed.getD i Y=I:=by
    have:∃k,k<m/\listed.getD k Y=Y:=by
     apply Classical.byContradiction;intro hn;exact n λi hi=>by
      cases hb:listed.getD i Y with
      |true=>rfl
      |false=>exact absurd ⟨i,hi,hb⟩ hn
    obtain⟨k,H⟩:=this
    induction k using Nat.strongRecOn with
    |_ k ihk=>
     by_cases p:∃j,j<k/\listed.getD j Y=Y
     obtain⟨j,hj1,hj2⟩:=p;exact ihk j hj1 ⟨by omega,hj2⟩;refine⟨k,H.1,H.2,λi hi=>?_⟩;cases hb:listed.getD i Y with
     |true=>rfl
     |false=>exact absurd ⟨i,hi,hb⟩ p
   obtain⟨k,L,X,hkl⟩:=hex;refine⟨λW=>?_,λi hi=>?_⟩;exfalso;obtain⟨o,d,e1,e2,e3,e4,e5⟩:=G k L;have:k∈Region.ready .any l.toArray listed:=by rw[mem_ready];exact⟨by simpa[(by omega:k<listed.size)]using X,o,by simpa using e1,λe he hb=>hkl _<|e5 e he hb⟩
   rw[W]at this;cases this
   obtain⟨u1,o,u2,u3⟩:=mem_ready.1 hi;have N:l[i]?=U o:=by simpa using u2
   have x:i<m:=by
    apply Nat.lt_of_not_le;intro hle;have hb:=ZU.1 h4 i<|ZS.2 (R.1 u2).1;simp only[Bool.or_eq_true,decide_eq_true_eq]at hb;obtain hb|hb:=hb
    omega;have:=aaB hd _ i o u2 u3<|ZU.1 hb k<|ZS.2 L;rw[X]at this;cases this
   obtain⟨o',d,e1,e2,e3,e4,e5⟩:=G i x;obtain rfl:=Z4<|N.symm.trans e1;have hil:i<l.length:=by omega
   have y:i<listed.size:=by omega
   have hif:listed.getD i Y=Y:=by simp[y]at u1⊢;exact u1
   have hq:=hop i o x N a w r.below (λs hs=>r.base s λj p _ hsl=>by have:=ZU.1 hs j<|ZS.2 p;simp[hsl]at this) (λe he hb d hd'=>r.has e.on d (by have:=e5 e he hb;omega) (u3 e he hb) hd')
   unfold wpOp;simp only[u2];rw[if_pos (by simp[Region.wanted,e4])];refine .inl<|Oper.wp_mono (λa' w' h'=>?_) hq;obtain⟨v,rfl,hb,hv,hA⟩:=h';refine ih (listed.setIfInBounds i I) _ w' (by simpa using hs) ?_ (λj p=>?_) (hd.set hi) ?_;simp only[Array.toList_setIfInBounds];rw[List.countP_set (by simpa using y)];have hpos:0<listed.toList.countP (λb=>!b):=by omega
   have:listed.toList[i]'(by simpa using y)=Y:=by simpa[y]using hif
   rw[this,hc];simp;rw[ZM Y (by omega)];exact J j p;have hold:∀j q,j<m->j≠i->h9 l j=U q->(a.put o.dst v).tmps.getD q undef=a.tmps.getD q undef:=λj q p c g=>by
    have C:o.dst≠U q:=λe=>by
     obtain h'|h':=Nat.lt_or_ge i j
     exact h3 i j h' p<|e3.trans<|e2.symm.trans<|e.trans g.symm;exact h3 j i (by omega) x<|g.trans<|e.symm.trans<|e2.trans e3.symm
    exact Rz<|Rh v C
   have t:∀di,h9 l i=U di->(a.put o.dst v).tmps.getD di undef=v:=λdi hi=>by
    rw[e3]at hi;cases hi
    rw[e2];have:=put_eq (a:=a) v (s:=d) (by rw[r.size];exact T i d x e3);simp[this]
   have u:∀j q,j<m->A j=I->(listed.setIfInBounds i I).getD j Y=I->h9 l j=U q->(j≠i->d6 ((a.put o.dst v).tmps.getD q undef)<w):=λj q p z h g c=>by rw[hold j q p c g];rw[ZM Y (λe=>c e.symm)]at h;exact r.low j q p z h g
   refine⟨r.below.trans<|hb.mono r.below.size,by rw[NF,r.size],by rw[put_defers,r.defers],λs hs=>?_,λj q p h g=>?_,λj q p z h g=>?_,λj k q dk p H S z ak h E g B=>?_⟩;have C:o.dst≠U s:=λe=>hs i x (by simp[y])<|e3.trans<|e2.symm.trans e;rw[Rz (Rh v C)];refine r.base s λj p h=>hs j p ?_;exact aaD h;by_cases c:j=i
   ·subst c;rw[t q g];exact hv
   rw[hold j q p c g];rw[ZM Y (λe=>c e.symm)]at h;exact hst _ _ _ _ hb<|r.has j q p h g;by_cases c:j=i
   ·subst c;rw[t q g];exact(hA z).2
   exact Nat.lt_of_lt_of_le (u j q p z h g c) hb.size;by_cases c:j=i
   ·subst c;rw[t q g];have:=u k dk H ak E B<|ZB S;have:=(hA z).1;omega
   by_cases D:k=i
   ·subst D;rw[t dk B];have:=u j q p z h g c;have:=(hA ak).1;omega
   rw[hold j q p c g,hold k dk H D B];rw[ZM Y (λe=>c e.symm)]at h;rw[ZM Y (λe=>D e.symm)]at E;exact r.agp j k q dk p H S z ak h E g B
def aaw{w:M}(m A F)(k:P.follows .mixedOrders=I)(p:Pv l m=I)(g:∀i d,i<m->h9 l i=U d->d<a0.tmps.size)(c:∀i v w w',Below w.heap.size w w'->F i v w->F i v w')(f:∀i o,i<m->l[i]?=U o->Hop P Q l m A F a0 w.drew i o)(b:∀vs w1,Below w w.drew w1->(∀i,i<m->F i (vs i) w1) ->(∀i j,i<m->j<m->i≠j->A i=I->A j=I->d6 (vs i)≠d6 (vs j)) ->Zt P l.toArray Q (l.drop m) (G' (l.take m) 0 vs a0) w1):(Code.region id l.toArray I).wp P Q a0 w:=by
 refine wp_region_any k ?_;refine XB p g c f b _ _ a0 _ (by simp) (by simp[Zy]) (λj q=>?_) (λj s r n=>?_) ⟨.refl _ _,rfl,rfl,λ_ _=>rfl,λi d hi a _=>?_,λi d hi _ a _=>?_,λi j d e hi _ _ _ _ a _ _ _=>?_⟩;by_cases h:j<l.length<;>simp[h]
 by_cases h:j<l.length<;>simp[h]at n
 by_cases h:i<l.length<;>simp[h]at a
 by_cases h:i<l.length<;>simp[h]at a
 by_cases h:i<l.length<;>simp[h]at a
structure SP where
 p:Value->M->Prop
 st:∀v w w',Below w.heap.size w w'->p v w->p v w'
def SP.eq(x:Value):SP:=⟨λv _=>v=x,λ_ _ _ _ h=>h⟩
def lF(L:List SP)(i:Nat)(v:Value)(w:M):Prop:=((L[i]?).getD ⟨λ_ _=>True,λ_ _ _ _ h=>h⟩).p v w
def agq(P:Zz)(Q:Exit->Zw->M->Prop)(l:List ZP)(L:List SP)(A:Nat->Bool)(a0:Zw)(w0:M)(i:Nat)(o:ZP):Prop:=
 ∀a w,Below w0 w0 w->(∀s,XA l L.length s=I->(a.tmps[s]?).getD undef=(a0.tmps[s]?).getD undef) ->(∀j d,(o.after.toList.any λe=>ZV .any e&&e.on==j)=I->h9 l j=U d->lF L j ((a.tmps[d]?).getD undef) w) ->
  Oper.wp P o a w (λa' w'=>∃v,a'=a.put o.dst v/\Below w w w'/\lF L i v w'/\(A i=I->w.heap.size<=d6 v/\d6 v<w')) Q
def Pl(P:Zz)(Q:Exit->Zw->M->Prop)(l:List ZP)(L:List SP)(A:Nat->Bool)(a0:Zw)(w0:M):Nat->List ZP->Prop
 |_,[]=>True
 |i,o::r=>agq P Q l L A a0 w0 i o/\Pl P Q l L A a0 w0 (i+1) r
def Pl.at_{L}:∀r k i o,Pl P Q l L A a0 w0 k r->r[i]?=U o->agq P Q l L A a0 w0 (k+i) o
 |o::r,k,0,_,h,e=>by cases e;exact h.1
 |o::r,k,i+1,o',h,e=>by have:=Pl.at_ r (k+1) i o' h.2 e;rwa[Nat.add_right_comm,Nat.add_assoc]at this
 |[],_,_,_,_,e=>by simp at e
def aic(P:Zz)(Q:Exit->Zw->M->Prop)(l:List ZP)(L:List SP)(a0:Zw)(w0:M)(i:Nat)(o:ZP):Prop:=
 ∀a w,Below w0 w0 w->(∀s,XA l L.length s=I->(a.tmps[s]?).getD undef=(a0.tmps[s]?).getD undef) ->(∀j d,(o.after.toList.any λe=>ZV .any e&&e.on==j)=I->h9 l j=U d->lF L j ((a.tmps[d]?).getD undef) w) ->
  Oper.wp P o a w (λa' w'=>∃v,a'=a.put o.dst v/\Below w w w'/\lF L i v w') Q
def XC(P:Zz)(Q:Exit->Zw->M->Prop)(l:List ZP)(L:List SP)(a0:Zw)(w0:M):Nat->List ZP->Prop
 |_,[]=>True
 |i,o::r=>aic P Q l L a0 w0 i o/\XC P Q l L a0 w0 (i+1) r
def Pl.none{L}:∀r k,XC P Q l L a0 w0 k r->Pl P Q l L (λ_=>Y) a0 w0 k r
 |[],_,_=>trivial
 |o::r,k,h=>⟨λa w c b h3=>Oper.wp_mono (λf d ⟨v,e1,e2,e3⟩=>⟨v,e1,e2,e3,λe=>by cases e⟩)<|h.1 a w c b h3,Pl.none r (k+1) h.2⟩
def RD:List SP->Nat->(Nat->Value) ->M->Prop
 |[],_,_,_=>True
 |s::L,k,vs,w=>s.p (vs k) w/\RD L (k+1) vs w
theorem Ql{L:List SP}{vs:Nat->Value}{w:M}(h:∀i,i<L.length->lF L i (vs i) w):∀(a:List SP) (k:Nat),(∀j,a[j]?=L[k+j]?) ->RD a k vs w
 |[],_,_=>trivial
 |s::a,k,e=>by have b:=e 0;simp at b;refine⟨?_,Ql h a (k+1) λj=>by have:=e<|j+1;simpa[Nat.add_assoc,Nat.add_comm 1 j]using this⟩;have:=h k<|(Δ.1 b.symm).1;simpa[lF,<-b]using this
def Py{w:M}(L A)(m:P.follows .mixedOrders=I)(r:Pv l L.length=I)(u:((ZN L.length).all λi=>decide<|(h9 l i).getD 0<a0.tmps.size)=I)(k:Pl P Q l L A a0 w.drew 0 (l.take L.length))(f:∀vs w1,Below w w.drew w1->RD L 0 vs w1->(∀i j,i<L.length->j<L.length->i≠j->A i=I->A j=I->d6 (vs i)≠d6 (vs j)) ->Zt P l.toArray Q (l.drop L.length) (G' (l.take L.length) 0 vs a0) w1):(Code.region id l.toArray I).wp P Q a0 w:=by
 refine aaw L.length A (lF L) m r (λi d hi hd=>?_) (λi v w x hb h=>?_) (λi o hi n=>?_) λvs w1 hb h hd=>f vs w1 hb (Ql h L 0 λj=>by rw[Nat.zero_add]) hd
 grind
 exact SP.st _ _ _ _ hb h;have:=Pl.at_ (l.take L.length) 0 i o k (by rw[κ,if_pos hi];exact n);rw[Nat.zero_add]at this;intro a t hb c g;refine this a t hb (λs hs=>by have:=c s hs;simpa using this) λj d p hd=>?_;obtain⟨e,q,b⟩:=List.any_eq_true.1 p;simp only[ZJ,beq_iff_eq]at b;have:=g e (by simpa using q) b.1 d (by rw[b.2];exact hd);rw[b.2]at this;simpa using this
def pT{w:M}(L)(d:P.follows .mixedOrders=I)(e:Pv l L.length=I)(c:((ZN L.length).all λi=>decide<|(h9 l i).getD 0<a0.tmps.size)=I)(b:XC P Q l L a0 w.drew 0 (l.take L.length))(a:∀vs w1,Below w w.drew w1->RD L 0 vs w1->Zt P l.toArray Q (l.drop L.length) (G' (l.take L.length) 0 vs a0) w1):(Code.region id l.toArray I).wp P Q a0 w:=by refine Py L (λ_=>Y) d e c (Pl.none _ _ b) λvs w1 hb h _=>a vs w1 hb h
def lT{L j x v w}(h:lF L j x w)(e:L[j]?=U (.eq v)):x=v:=by unfold lF at h;rw[e]at h;exact h
attribute [go_sem] G'
end
end Rg
namespace Kn
open Go Go.RowKit Md
structure RE(k:Int)(T F G:Nat)(lo hi:Int):Prop where
 cellOf:∀w a n m,Z9 prog 181 #[.agg #[Ξ Ψ k,.slice a n m]] w λe w'=>e=.returned (.iface T (.agg #[Ξ Ψ k,.slice a n m]))/\Below w w w'
 m1:∀w s,(method 463 T (.agg #[Ξ Ψ k,s]) "caracole/heap.least").run prog w=.ok (F,.agg #[Ξ Ψ k,s]) w
 m2:∀w s,(method 463 T (.agg #[Ξ Ψ k,s]) "caracole/heap.most").run prog w=.ok (G,.agg #[Ξ Ψ k,s]) w
 e1:∀w args,(callFunc F args).run prog w=.ok (.enter F args) w
 e2:∀w args,(callFunc G args).run prog w=.ok (.enter G args) w
 c1:∀w a n m,Z9 prog F #[.agg #[Ξ Ψ k,.slice a n m]] w λe w'=>e=.returned lo/\Below w w w'
 c2:∀w a n m,Z9 prog G #[.agg #[Ξ Ψ k,.slice a n m]] w λe w'=>e=.returned hi/\Below w w w'
def agr:RE 0 264 317 319 0 4:=⟨sI,λw s=>Oc w s _ 317<|.inl ⟨rfl,rfl⟩,λw s=>Oc w s _ 319<|.inr<|.inl ⟨rfl,rfl⟩,λw a=>Pp 317 a w rfl,λw a=>Pp 319 a w rfl,Oe,Wf⟩
def ags:RE 1 265 323 325 1 1:=⟨sJ,λw s=>Od w s _ 323<|.inl ⟨rfl,rfl⟩,λw s=>Od w s _ 325<|.inr<|.inl ⟨rfl,rfl⟩,λw a=>Pp 323 a w rfl,λw a=>Pp 325 a w rfl,Of,Wh⟩
def agt:RE 2 266 327 329 2 2:=by
 refine⟨λw a n m=>?_,λw s=>by kernel_rfl,λw s=>by kernel_rfl,λw b=>by kernel_rfl,λw b=>by kernel_rfl,λw a n m=>?_,λw a n m=>?_⟩
 ·go_enter (fU func181 rfl),ntmps181
  go_wp2
  go_ret;exact⟨rfl,((Below.refl _ _).alloc .refl _)⟩
 ·go_enter (fU func327 rfl),ntmps327
  go_wp2
  go_ret;exact⟨rfl,((Below.refl _ _).alloc .refl _)⟩
 ·go_enter (fU func329 rfl),ntmps329
  go_wp2
  go_ret;exact⟨rfl,((Below.refl _ _).alloc .refl _)⟩
def aaG{k}{n:Nat}(h:(k=0/\n<=4)\/(k=1/\n=1)\/(k=2/\n=2)):∃T F G lo hi,RE k T F G lo hi/\lo<=n/\(n:Int)<=hi:=by
 obtain⟨rfl,h⟩|⟨rfl,h⟩|⟨rfl,h⟩:=h
 exact⟨_,_,_,_,_,agr,by omega,by omega⟩;exact⟨_,_,_,_,_,ags,by omega,by omega⟩;exact⟨_,_,_,_,_,agt,by omega,by omega⟩
structure Xh(h:PH):Prop where
 kinds:∀c∈h.cells,(c.1=0/\c.2.length<=4)\/(c.1=1/\c.2.length=1)\/(c.1=2/\c.2.length=2)
 eT:∀c∈h.cells,∀v∈c.2,uI h v=0
 many:h.cells.length<=40
 four:h.roots.length=4
 roots:∀v∈h.roots,uI h v=0
 aA:∀n∈h.aA,Ik h n=0
 Ko:h.aA.Nodup
 NG:h.aA.length<=40
 done:∀n∈h.done,Ik h n=0
 Pq:h.done.Nodup
 Pz:h.done.length<=40
def n9.take{w a m k l}(h:n9 w (.slice a l.length m) l)(d:k<=l.length):n9 w (.slice a k m) (l.take k):=by
 obtain⟨g,p,e,j,f,h3⟩:=h;cases e
 refine⟨a,m,by simp[Nat.min_eq_left d],by simp;omega,f,λh0=>?_⟩;obtain⟨b,o,e,hb,c⟩:=h3 (by simp at h0;omega);refine⟨b,o,e,hb,λi n hi=>c i n ?_⟩;rw[κ]at hi;split at hi
 exact hi;cases hi
def Ri{l:List Int}{j n}(h:l.Nodup)(e:l[j]?=U n):(l.take j).contains n=Y:=by
 cases hc:(l.take j).contains n with
 |false=>rfl
 |true=>
  obtain⟨i,hi⟩:=θ.1<|List.contains_iff_mem.1 hc;rw[κ]at hi;split at hi
  rename_i a;obtain⟨b,c⟩:=Δ.1 hi;obtain⟨h3,h4⟩:=Δ.1 e;exact absurd (c.trans h4.symm)<|ZX.1 h i j b h3 a;cases hi
def XD(w b h)(hp:qw w b h)(O:Xh h):Z9 prog 175 #[.pointer b] w λe w'=>e=.returned (.tuple #[])/\Below w w w':=by
 have H:=V hp;have K:=V O;obtain⟨c,r,wi,d,c0,c1,c2,c3,h1,h2,h3,h4⟩:=hp;have hb:=az c0;have HWI:=V h3;have HDO:=V h4;obtain⟨ac,mc,rfl,hmc,am9,hac⟩:=h1;obtain⟨ar,mr,rfl,hmr,aeW,har⟩:=h2;have HC:=V hac;have HR:=V har;have h40:¬((40:Int)<h.cells.length):=by have:=O.many;omega
 have hr4:decide ((h.roots.length:Int)<4)=Y:=by have:=O.four;simp;omega
 have Xq:decide ((4:Int)<h.roots.length)=Y:=by have:=O.four;simp;omega
 have hl:h.cells.length<=1000000:=by have:=O.many;omega
 have C1:=V c1;have C2:=V c2;have C3:=V c3;clear O hac har c1 c2 c3 h3 h4
 go_enter (fU func175 rfl),ntmps175
 go_wp2_with fail
 ((with_reducible refine(dq _ _).mono ?_))
 rintro e w' ⟨rfl,rfl⟩
 go_wp2_with fail
 clear c0 h40
 go_loopw [27] (λi wr=>∃k:Nat,k<=h.cells.length/\i=Ξ Ψ k/\Below w' w' wr) (λi _=>h.cells.length-(intOf i).toNat)
 case atStart=>exact⟨0,Nat.zero_le _,rfl,Below.refl _ _⟩
 case round=>
  obtain⟨k,O,rfl,a⟩:=hrel;by_cases hlt:k<h.cells.length
  ·obtain⟨ba,oa,e,hba,C⟩:=HC.out (by omega);cases e
   obtain⟨kd,v,e1⟩:=cQ hlt;obtain⟨d1,x,d2,hx⟩:=(C.below a hba) k kd v e1;have y:=Γ e1;have agu:=V<|K.out.eT _ y;obtain⟨T,F,G,lo,hi,hK,ha,t⟩:=aaG<|K.out.kinds _ y;have hkd:decide (kd<0)=Y/\decide (3<kd)=Y:=by have:=K.out.kinds _ y;simp;omega
   obtain⟨hkd,aid⟩:=hkd;have HXV:=V hx;obtain⟨J,A,rfl,hmx,N4,hax⟩:=hx;have z:=a.size;clear C e1 y hax;have hB0:=af wr<|Ω #[Ξ Ψ kd,.slice J v.length A] 76;have m1:=hK.m1;have m2:=hK.m2;have ce1:=hK.e1;have ce2:=hK.e2;have t1:decide ((v.length:Int)<lo)=Y:=by simp<;>omega
   have t2:decide (hi<(v.length:Int))=Y:=by simp<;>omega
   clear ha t
   go_wp2_with fail
   ((with_reducible refine(dq _ _).mono ?_))
   rintro e w1 ⟨rfl,rfl⟩
   go_wp2_with fail
   refine(hK.cellOf _ _ _ _).mono ?_;rintro e w1 ⟨rfl,hb1⟩;have n2:w1 (wr.heap.size,1)=U (.slice J v.length A):=(hb1.cell (p:=⟨wr.heap.size,1,Z⟩)<|by simp).trans (by go_simp);have q1:Below wr wr w1:=hB0.trans<|hb1.mono<|by simp
   have L:wr.heap.size<w1:=by have:=hb1.size;simp at this;omega
   clear hb1 hB0
   go_wp2_with fail
   refine Rg.pT [.eq (.pointer (wr.heap.size,1)),.eq<|.slice J v.length A,.eq v.length,.eq<|.iface T<|.agg #[Ξ Ψ kd,.slice J v.length A],.eq lo] (by kernel_rfl) (by kernel_rfl) (by rfl) ?_ ?_
   ·refine⟨?_,?_,?_,?_,?_,trivial⟩
    all_goals intro a2 w2 hb2 f m
    all_goals have n3:=cG hb2 n2 L
    all_goals first|(have k0:=f 3 rfl;have k1:=f 4 rfl;simp at k0 k1;(try have q0:=Rg.lT (m 0 _ rfl rfl) rfl);(try have q1:=Rg.lT (m 1 _ rfl rfl) rfl);clear f m;go_simp;exact⟨_,rfl,.refl _ _,rfl⟩)|skip
    have d0:=Rg.lT (m 3 _ rfl rfl) rfl;clear f m;go_simp;refine(hK.c1 _ _ _ _).mono ?_;rintro e w3 ⟨rfl,g⟩;exact⟨_,rfl,g,rfl⟩
   ·rintro s w3 g ⟨P,s1,X,W,Q,-⟩;have P:s 0=_:=P;have s1:s 1=_:=s1;have X:s 2=_:=X;have W:s 3=_:=W;have Q:s 4=_:=Q;simp[go_sem,P,s1,X,W,Q];clear P s1 X W Q;replace g:=(Below.refl _ w1).drew.trans g;have hn3:=Nat.lt_of_lt_of_le L g.size;have n3:=cG g n2 L;have q3:=q1.trans<|g.mono q1.size;clear n2 q1 g
    go_wp2_with fail
    ((with_reducible refine(dq _ _).mono ?_))
    rintro e w4 ⟨rfl,rfl⟩
    go_wp2_with fail
    refine Rg.pT [.eq (.pointer (wr.heap.size,1)),.eq<|.slice J v.length A,.eq v.length,.eq<|.iface T<|.agg #[Ξ Ψ kd,.slice J v.length A],.eq hi] (by kernel_rfl) (by kernel_rfl) (by rfl) ?_ ?_
    ·refine⟨?_,?_,?_,?_,?_,trivial⟩
     all_goals intro a2 w2 hb2 f m
     all_goals have n5:=cG hb2 n3 hn3
     all_goals first|(have k0:=f 3 rfl;have k1:=f 4 rfl;simp at k0 k1;(try have q0:=Rg.lT (m 0 _ rfl rfl) rfl);(try have q1:=Rg.lT (m 1 _ rfl rfl) rfl);clear f m;go_simp;exact⟨_,rfl,.refl _ _,rfl⟩)|skip
     have d0:=Rg.lT (m 3 _ rfl rfl) rfl;clear f m;go_simp;refine(hK.c2 _ _ _ _).mono ?_;rintro e w3 ⟨rfl,g⟩;exact⟨_,rfl,g,rfl⟩
    ·rintro s w3 g ⟨P,s1,X,W,Q,-⟩;have P:s 0=_:=P;have s1:s 1=_:=s1;have X:s 2=_:=X;have W:s 3=_:=W;have Q:s 4=_:=Q;simp[go_sem,P,s1,X,W,Q];clear P s1 X W Q;replace g:=(Below.refl _ w4).drew.trans g;have n5:=cG g n3 hn3;have q4:=q3.trans<|g.mono q3.size;clear n3 q3 g hn3 L
     go_wp2_with fail
     ((with_reducible refine(dq _ _).mono ?_))
     rintro e w5 ⟨rfl,rfl⟩
     go_wp2_with fail
     clear n5 t1 t2 m1 m2 ce1 ce2 hK hkd aid;have HX5:=V<|HXV.out.below q4;have hw5:=a.trans<|q4.mono z
     go_loopw [59] (λi wr=>∃j:Nat,j<=v.length/\i=Ξ Ψ j/\Below w5 w5 wr) (λi _=>v.length-(intOf i).toNat)
     case atStart=>exact⟨0,Nat.zero_le _,rfl,Below.refl _ _⟩
     case round=>
      obtain⟨j,hj,rfl,o⟩:=hrel;clear q4;have E:=hw5.trans<|o.mono hw5.size;have agv:=E.size;have amU:=o.size;by_cases D:j<v.length
      ·obtain⟨a9,m9,e9,_,_,B⟩:=HX5.out.below o;cases e9
       obtain⟨ba2,oa2,e,afb,u⟩:=B (by omega);cases e
       obtain⟨p,q,e1⟩:=ep D;obtain⟨f1,f2⟩:=u j p q e1;have hv0:=V<|agu.out _<|Γ e1;clear u e1 B
       go_wp2_with fail
       refine(pq _ b h p q (H.out.below<|E.alloc agv _) hl hv0.out).mono ?_;rintro e w6 ⟨rfl,S⟩
       go_wp2_with fail
       exact⟨⟨j+1,by omega,by go_num,(o.alloc amU _).trans<|S.mono (by simp;omega)⟩,by simp[intOf];omega⟩
      ·go_wp2_with fail
       exact⟨⟨k+1,by omega,by go_num,E⟩,by simp[intOf];omega⟩
  ·have d1:=cG a C1.out hb
   go_wp2_with fail
   ((with_reducible refine(dq _ _).mono ?_))
   rintro e w1 ⟨rfl,rfl⟩
   go_wp2_with fail
   ((with_reducible refine(dq _ _).mono ?_))
   rintro e w1 ⟨rfl,rfl⟩
   go_wp2_with fail
   clear d1 hr4 Xq
   go_loopw [90] (λi wr=>∃k:Nat,k<=h.roots.length/\i=Ξ Ψ k/\Below w' w' wr) (λi _=>h.roots.length-(intOf i).toNat)
   case atStart=>exact⟨0,Nat.zero_le _,rfl,a⟩
   case round=>
    clear a;obtain⟨k2,hk2,rfl,a⟩:=hrel;have z:=a.size;by_cases D:k2<h.roots.length
    ·obtain⟨ba,oa,e,hba,C⟩:=HR.out (by omega);cases e
     obtain⟨p,q,e1⟩:=ep D;obtain⟨f1,f2⟩:=(C.below a hba) k2 p q e1;have hv0:=V<|K.out.roots _<|Γ e1;clear C e1
     go_wp2_with fail
     refine(pq _ b h p q (H.out.below<|a.alloc z _) hl hv0.out).mono ?_;rintro e w3 ⟨rfl,g⟩
     go_wp2_with fail
     exact⟨⟨k2+1,by omega,by go_num,(a.alloc z _).trans<|g.mono (by simp;omega)⟩,by simp[intOf];omega⟩
    ·obtain⟨aw,mw,rfl,-⟩:=id HWI.out;obtain⟨ad,md,rfl,-⟩:=id HDO.out;have e2:=cG a C2.out hb;have e3:=cG a C3.out hb
     go_wp2_with fail
     go_region_held3 (λw'=>w' (b,2)=U (.slice aw h.aA.length mw)/\w' (b,3)=U (.slice ad h.done.length md)) (go_keep) (fail)
     go_wp2_with fail
     have t:Below w' w' ((wr.alloc<|Ω #[.slice aw h.aA.length mw,.slice ad h.done.length md] 24).drew):=(a.alloc z _).drew;have N:((wr.alloc<|Ω #[.slice aw h.aA.length mw,.slice ad h.done.length md] 24).drew) wr.heap.size=U (.slice aw h.aA.length mw):=by go_simp
     have hx1:((wr.alloc<|Ω #[.slice aw h.aA.length mw,.slice ad h.done.length md] 24).drew) (wr.heap.size,1)=U (.slice ad h.done.length md):=by go_simp
     have hbx:wr.heap.size<((wr.alloc<|Ω #[.slice aw h.aA.length mw,.slice ad h.done.length md] 24).drew).heap.size:=by simp
     generalize (wr.alloc _).drew=w9 at t N hx1 hbx⊢;generalize wr.heap.size=bx at N hx1 hbx z⊢;have hL:∀k:Nat,k<2->∃l J A,w9 (bx,k)=U (.slice J l.length A)/\n9 w9 (.slice J l.length A) l/\(∀n∈l,Ik h n=0)/\l.Nodup/\l.length<=40:=by
      intro k O
      match k,O with
      |0,_=>exact⟨_,_,_,N,HWI.out.below t,K.out.aA,K.out.Ko,K.out.NG⟩
      |1,_=>exact⟨_,_,_,hx1,HDO.out.below t,K.out.done,K.out.Pq,K.out.Pz⟩
     have HL:=V hL;clear hL N hx1 e2 e3 a
     go_loopw [110] (λi wr=>∃k:Nat,k<=2/\i=Ξ Ψ k/\Below w9 w9 wr) (λi _=>2-(intOf i).toNat)
     case atStart=>exact⟨0,by omega,rfl,Below.refl _ _⟩
     case round=>
      obtain⟨k3,hk3,rfl,a⟩:=hrel;by_cases hlt3:k3<2
      ·obtain⟨l,J,A,hc,hv,hin,hnd,h40⟩:=HL.out k3 hlt3;have hcw:=cG a hc hbx;have t40:decide ((40:Int)<l.length)=Y:=by simp;omega
       have HV:=V hv;have HN:=V hin;have HD:=V hnd;clear hc hin hnd
       go_wp2_with fail
       ((with_reducible refine(dq _ _).mono ?_))
       rintro e w1 ⟨rfl,rfl⟩
       go_wp2_with fail
       clear hcw t40
       go_loopw [120] (λi wr=>∃j:Nat,j<=l.length/\i=Ξ Ψ j/\Below w9 w9 wr) (λi _=>l.length-(intOf i).toNat)
       case atStart=>exact⟨0,Nat.zero_le _,rfl,a⟩
       case round=>
        clear a;obtain⟨j,hj,rfl,o⟩:=hrel;by_cases hlt4:j<l.length
        ·obtain⟨a9,m9,e9,hm9,agw,B⟩:=HV.out.below o;cases e9
         obtain⟨ba2,oa2,e,afb,u⟩:=B (by omega);cases e
         obtain⟨n,e1⟩:=lw hlt4;have f1:=u j n e1;have hn0:=V<|HN.out _<|Γ e1;have hct:=V<|Ri HD.out e1;have hwj:=t.trans<|o.mono t.size;clear u e1 B
         go_wp2_with fail
         refine(I2 _ b h n (H.out.below hwj) hl hn0.out).mono ?_;rintro e w6 ⟨rfl,S⟩;have qv:(j:Int)<=(A:Int):=by omega
         go_wp2_with fail
         refine(sj _ _ (l.take j) n<|(HV.out.below<|o.trans<|S.mono o.size).take<|by omega).mono ?_;rw[hct.out];rintro e w7 ⟨rfl,rfl⟩
         go_wp2_with fail
         ((with_reducible refine(dq _ _).mono ?_))
         rintro e w8 ⟨rfl,rfl⟩
         go_wp2_with fail
         exact⟨⟨j+1,by omega,by go_num,o.trans<|S.mono o.size⟩,by simp[intOf];omega⟩
        ·go_wp2_with fail
         exact⟨⟨k3+1,by omega,by go_num,o⟩,by simp[intOf];omega⟩
      ·go_wp2_with fail
       go_end0;exact⟨rfl,t.trans<|a.mono t.size⟩
section
def NH(w:M)(B b:Nat)(cs:List HC)(roots:List HV)(wi d:List Int):Prop:=∃c r vw vd l,B<=b/\w.heap[b]?=U (Ω #[c,r,vw,vd] 159 (0,0))/\OI w B vw wi/\OI w B vd d/\
 OC w B c l/\df w B l cs/\OV w B r roots/\∀(i:Nat) p,l[i]?=U p->∀g,p.2.ownBlock=U g->r.ownBlock≠U g
section
variable{w w2:M}{B b gg mg:Nat}{cs:List HC}{roots vs:List HV}{wi d:List Int}{k:Int}{c r x vw vd:Value}{l:List (Int×Value)}
def NH.reads(h:NH w B b cs roots wi d):qw w b ⟨cs,roots,wi,d⟩:=by obtain⟨c,r,f,g,l,i,hb,e,a,h3,h4,h5,_⟩:=h;exact⟨c,r,f,g,by simp[Θ,hb],by simp[Θ,hb],by simp[Θ,hb],by simp[Θ,hb],h3.reads h4.hold,h5.reads,e.reads,a.reads⟩
def NH.below(h:NH w B b cs roots wi d)(a:Below w w w2):NH w2 B b cs roots wi d:=by obtain⟨c,r,j,k,l,i,hb,g,f,h3,h4,h5,e⟩:=h;exact⟨c,r,j,k,l,i,(a.block b (R.1 hb).1).trans hb,g.below a,f.below a,h3.below a,h4.below a,h5.below a,e⟩
def XE(o:B<=b)(hb:w.heap[b]?=U (Ω #[c,r,vw,vd] 159 (0,0)))(K:OI w B vw wi)(J:OI w B vd d)
 (h4:df w B l cs) (h5:OV w B r roots) (O:∀(i:Nat) p,l[i]?=U p->∀g,p.2.ownBlock=U g->r.ownBlock≠U g)
 (m:Below w w w2) (s:OC w2 w (.slice gg (l.length+1) mg) (l++[(k,x)])) (A:OV w2 w x vs) (C:B<=w):
 NH (w2.setCell b<|.slice gg (l.length+1) mg) B b (cs++[(k,vs)]) roots wi d/\Below B w (w2.setCell b<|.slice gg (l.length+1) mg):=by
 have q:=(m.block b<|(R.1 hb).1).trans hb;have a:∀{e:Zo} {z n:Nat} {y:Value} {xs:List Value} {B0:Nat},e≠159->w2.ownsRow B0 e z y n xs->(w2.setCell b<|.slice gg (l.length+1) mg).ownsRow B0 e z y n xs:=λP E=>aS E λg j=>aa λe=>by subst e;exact cF E q P.symm j
 have h:=h4.below m;refine⟨⟨.slice gg (l.length+1) mg,r,vw,vd,l++[(k,x)],o,?_,a (by decide)<|K.below m,a (by decide)<|J.below m,a (by decide)<|s.less C,?_,a (by decide)<|h5.below m,?_⟩,(m.mono C).setCell (p:=⟨b,0,Z⟩) o _⟩;rw[heap_setCell_same (i:=0) (v:=.slice gg (l.length+1) mg) q];rfl;have u:df (w2.setCell b<|.slice gg (l.length+1) mg) B l cs:=⟨h.1,λi k y D G e1 e2=>⟨(h.2.1 i k y D G e1 e2).1,a (by decide) (h.2.1 i k y D G e1 e2).2⟩,h.2.2⟩;refine u.snoc (OV.less (a (by decide) A) C) λi p hi g j t=>?_;have f:i<cs.length:=by rw[<-h4.1];exact(Δ.1 hi).1
 obtain⟨H,L,e3⟩:=cQ f;have:=((h4.2.1 i p.1 p.2 H L hi e3).2.lt g j).2;have:=(A.lt g t).1;omega;intro i p hi g j F;obtain f|f:=Nat.lt_or_ge i l.length
 rw[ZC f]at hi;exact O i p hi g j F;rw[List.getElem?_append_right f]at hi;have N:p=(k,x):=by
  obtain h0|h0:=Nat.eq_zero_or_pos<|i-l.length
  rw[h0]at hi;simpa using hi.symm;rw[Zx (by simp;omega)]at hi;cases hi
 subst N;have:=(A.lt g j).1;have:=(h5.lt g F).2;omega
end
def aef(w B b cs roots wi d k v vs)(h:NH w B b cs roots wi d)(hv:eI w v vs)(hB:B<=w)(hl:cs.length<=1000)(hvl:vs.length<=1000):
 Z9 prog 176 #[.pointer b,Ξ Ψ k,v] w λe w'=>e=.returned (Ξ Ψ (cs.length:Int))/\NH w' B b (cs++[(k,vs)]) roots wi d/\Below B w w':=by
 obtain⟨a,m,rfl,hm,hm2,ha⟩:=hv;obtain⟨c,r,vw,vd,l,Q,hb,H,h2,h3,h4,h5,h6⟩:=h;obtain⟨i0,hi,J,C,T⟩:=Zp nh;have N:=V h4.1;have hll:l.length<=1000:=by have:=h4.1;omega
 obtain⟨S,mc,rfl,hmc,am9,_⟩:=aF h3;have s:=(R.1 hb).1;have z:w b=U (.slice S l.length mc):=by simp[Θ,hb]
 have hmk:=λW=>BC vs.length vs.length .refl (by omega) W;have HA:=V ha;have HI:=V hi;have F:=V C;have H3:=V h3;have HF:Hid (w.frozen? b=Y):=V (by simp[ο,hb]);have HE:=V λG X mg (O:Below w w G) (q:OC G w (.slice (X:Nat) (l.length+1) mg) (l++[(k,.slice w.heap.size vs.length vs.length)])) (hx:OV G w (.slice w.heap.size vs.length vs.length) vs)=>XE Q hb H h2 h4 h5 h6 O q hx hB;clear ha hi J C T H h2 h3 hb h4 h5 h6
 go_enter (fU func176 rfl),ntmps176
 go_wp2_with (with_reducible refine iW rfl (.tmp 11) (.tmp 12) 23 23 rfl 50 i0 2 w vs.length vs.length a m _ 50 (vs.flatMap lU) lx HI.out F.out rfl rfl (ω w _) (fx vs) (λh0=>?H) (by rw[fx,jz];omega) (af8 vs) ?_)
 case H=>obtain⟨bb,o,e,hb2,L⟩:=HA.out h0;refine⟨_,e,λj u hu=>(World.cell?_alloc_lt w _ _ ?_).trans<|zt L j u hu⟩;rw[show(((bb,o):ZQ).add j).block=bb by unfold ZY;split<;>rfl];exact hb2
 ·intro n t D;rw[<-List.length_flatMap]at t;have f:=(af w _).grown D (by simp) (λk O=>by cases O;exact .refl);have E:=zR rfl .refl t (by omega);have y:=cG f z s;have i:=Nat.lt_of_lt_of_le s f.size;have hf1:=(f.frozen (p:=⟨b,0,Z⟩) s).trans HF.out;have HX:=V E;clear t D hmk HI F z E;have hl0:(0:Int)<=(l.length:Int):=by omega
  have hl1:(l.length:Int)<=(mc:Int):=by omega
  go_wp2_with fail
  have hd:=(Below.refl n n).drew;refine Rg.aaH 22 2 (λx=>x b=U (.slice S l.length mc)) (by kernel_rfl) (by kernel_rfl) (λc a d v w h=>by cases d<;>exact h) y ?_;simp only[Nat.reduceAdd,ξ,ζ,μ,ε]
  iterate 22
   (refine Rg.fp.step (v:=?_) (by rfl) (λx hx=>?_) ?_
    rotate_left
    (go_simp
     try rfl))
  refine Rg.fp.nil<|Rg.pA.succ ?_;simp only[Z0,ψ,φ,υ];refine ι rfl λK A=>?_;go_simp;have hb6:=af n<|Ω #[Ξ Ψ k,.slice w.heap.size vs.length vs.length] 76;refine A _ _ ⟨(((hd.trans<|af n.drew _).cell (p:=⟨b,0,Z⟩) i).trans y),Rg.pA.succ ?_⟩;clear A K;refine ι rfl λK A=>?_;refine aX rfl _ _ 22 (by rfl) (.slice S l.length l.length) (.slice n.heap.size 1 1) (by rfl) (by rfl) _ (tP (k:=k) (x:=.slice w.heap.size vs.length vs.length) ((H3.out.below f).below<|hd.trans<|af n.drew _) (ω n.drew _) (by rfl)<|by omega) ?_;rintro v' G ⟨q,P,X,mg,rfl⟩;have g:=(hd.trans<|af n.drew _).trans<|P.mono<|by simp
  have gc:=cG g y i;have gf:=(g.frozen (p:=⟨b,0,Z⟩) i).trans hf1;refine A _ _ ⟨gc,Rg.pA.zero ?_⟩;clear A K;simp only[Z0,ψ,φ,υ]
  go_wp2_with fail
  go_ret;obtain⟨e1,e2⟩:=HE.out G X mg (f.trans<|g.mono f.size) (q.less (by have:=f.size;simp;omega))<|HX.out.below g;exact⟨by rw[<-N.out];simp,e1,e2⟩
def PY(w v h)(hv:tH w v h)(F:Xh h):Z9 prog 122 #[v] w λe w'=>(∃b,e=.returned (.pointer (b:Nat))/\NH w' w b h.cells h.roots h.aA h.done)/\Below w w w':=by
 have K:=V F;obtain⟨c,r,wi,d,rfl,h1,h2,h3,h4⟩:=hv;have H1:=V h1;have H2:=V h2;have H3:=V h3;have H4:=V h4;obtain⟨G,mc,rfl,hmc,am9,P⟩:=h1;obtain⟨ar,y,rfl,hmr,aeW,_⟩:=h2;obtain⟨aw,D,rfl,hmw,aeX,_⟩:=h3;obtain⟨ad,B,rfl,hmd,aeY,_⟩:=h4;have HC:=V P;have T:=af w<|Ω #[.slice G h.cells.length mc,.slice ar h.roots.length y,.slice aw h.aA.length D,.slice ad h.done.length B] 56;have f:=T.alloc (by simp)<|Ω #[.slice G h.cells.length mc,.slice ar h.roots.length y,.slice aw h.aA.length D,.slice ad h.done.length B] 159;have hP:qw ((w.alloc<|Ω #[.slice G h.cells.length mc,.slice ar h.roots.length y,.slice aw h.aA.length D,.slice ad h.done.length B] 56).alloc<|Ω #[.slice G h.cells.length mc,.slice ar h.roots.length y,.slice aw h.aA.length D,.slice ad h.done.length B] 159) (w.heap.size+1) h:=⟨_,_,_,_,by go_simp,by go_simp,by go_simp,by go_simp,H1.out.below f,H2.out.below f,H3.out.below f,H4.out.below f⟩
 have HP:=V hP;have HB2:=V f;have H:h.roots.length<=1000000:=by have:=F.four;omega
 have N:h.aA.length<=1000000:=by have:=F.NG;omega
 have J:h.done.length<=1000000:=by have:=F.Pz;omega
 have WA:=V H;have HL2:=V N;have HL3:=V J;clear F P T f hP H N J
 go_enter (fU func122 rfl),ntmps122
 go_wp2_with fail
 refine(XD _ _ h HP.out K.out).mono ?_;rintro e l ⟨rfl,a⟩;have t:=HB2.out.trans<|a.mono (by simp;omega);have f0:l w.heap.size=U (.slice G h.cells.length mc):=(a.cell (p:=⟨w.heap.size,0,Z⟩) (by simp;omega)).trans (by go_simp);have f1:l (w.heap.size,1)=U (.slice ar h.roots.length y):=(a.cell (p:=⟨w.heap.size,1,Z⟩) (by simp;omega)).trans (by go_simp);have f2:l (w.heap.size,2)=U (.slice aw h.aA.length D):=(a.cell (p:=⟨w.heap.size,2,Z⟩) (by simp;omega)).trans (by go_simp);have f3:l (w.heap.size,3)=U (.slice ad h.done.length B):=(a.cell (p:=⟨w.heap.size,3,Z⟩) (by simp;omega)).trans (by go_simp);have hs3:w.heap.size<l:=by have:=a.size;simp at this;omega
 clear a
 go_wp2_with fail
 have hd3:=Qz<|(Below.refl l l).drew;have hs4:l.drew.heap.size=l:=rfl
 go_region_held3 (λx=>x w.heap.size=U (.slice G h.cells.length mc)/\x (w.heap.size,1)=U (.slice ar h.roots.length y)/\x (w.heap.size,2)=U (.slice aw h.aA.length D)/\x (w.heap.size,3)=U (.slice ad h.done.length B))
  (go_keep)
  (first
    |(go_at_call 148;(with_reducible refine(J6 _ (.slice ar h.roots.length y) h.roots (H2.out.below t.drew) WA.out).mono ?_);rintro e w6 ⟨⟨r6,rfl,A⟩,C⟩;have z:=t.drew.trans<|C.mono t.size;have L:=Qz C;have Jc:=V A;obtain⟨a6,m6,rfl,_⟩:=A.reads;clear A;have hs6:=C.size;simp only[Zr]at hs6 L;have ht6:w.heap.size<w6:=by omega)
    |(go_at_call 149;(with_reducible refine(wj _ (.slice aw h.aA.length D) h.aA (H3.out.below z) HL2.out).mono ?_);rintro e w7 ⟨⟨r7,rfl,u⟩,n⟩;have E:=z.trans<|n.mono z.size;have hc7:=Qz n;have Je:=V u;obtain⟨a7,m7,rfl,_⟩:=u.reads;clear u;have hs7:=n.size;have ht7:w.heap.size<w7:=by omega)
    |(go_at_call 149;(with_reducible refine(wj _ (.slice ad h.done.length B) h.done (H4.out.below E) HL3.out).mono ?_);rintro e w8 ⟨⟨r8,rfl,s⟩,g⟩;have Wn:=E.trans (g.mono E.size);have hc8:=Qz g;have Or:=V s;obtain⟨X,m8,rfl,_⟩:=s.reads;clear s;have hs8:=g.size;have V9:w.heap.size<w8:=by omega))
 clear f1 f2 f3 L hc7 hc8 hd3;have o:NH (w8.alloc<|Ω #[ZI Z 0 0,.slice a6 h.roots.length m6,.slice a7 h.aA.length m7,.slice X h.done.length m8] 159) w w8.heap.size [] h.roots h.aA h.done:=⟨_,_,_,_,[],by omega,ω w8 _,((Je.out.below g).less<|by omega).alloc _,(Or.out.less<|by omega).alloc _,OC.nil _ _,⟨rfl,λi k x k' W e1 _=>by simp at e1,λi j p q _ e1 _=>by simp at e1⟩,(((Jc.out.below n).below g).less (by simp;omega)).alloc _,λi p e1=>by simp at e1⟩
 have S:=Wn.alloc (by omega)<|Ω #[ZI Z 0 0,.slice a6 h.roots.length m6,.slice a7 h.aA.length m7,.slice X h.done.length m8] 159;have hs9:w.heap.size<(w8.alloc<|Ω #[ZI Z 0 0,.slice a6 h.roots.length m6,.slice a7 h.aA.length m7,.slice X h.done.length m8] 159).heap.size:=by simp;omega
 have HO:=V<|χ o S;clear o S
 go_wp2_with fail
 go_loopw [27] (λi wr=>∃k:Nat,k<=h.cells.length/\i=Ξ Ψ k/\Hid (NH wr w w8 (h.cells.take k) h.roots h.aA h.done)/\Below w w wr) (λi _=>h.cells.length-(intOf i).toNat)
 case atStart=>exact⟨0,Nat.zero_le _,rfl,V HO.out.1,HO.out.2⟩
 case round=>
  clear HO;obtain⟨k,F,rfl,HO,m⟩:=hrel;have hsz:=m.size;by_cases hlt:k<h.cells.length
  ·obtain⟨ba,oa,e,hba,Q⟩:=HC.out (by omega);cases e
   obtain⟨kd,W,e1⟩:=cQ hlt;obtain⟨d1,x,d2,hx⟩:=(Q.below m hba) k kd W e1;have hvl:W.length<=1000:=by have:=K.out.kinds _<|Γ e1;dsimp only at this;omega
   have hcl:(h.cells.take k).length<=1000:=by have:=K.out.many;simp;omega
   have HX:=V hx;obtain⟨ax,mx,rfl,hmx,N4,hax⟩:=hx;have E1:=V e1;clear Q e1 hax
   go_wp2_with fail
   refine(aef _ w w8 (h.cells.take k) h.roots h.aA h.done kd _ W (HO.out.below<|af wr _) (HX.out.below<|af wr _) (by simp;omega) hcl hvl).mono ?_;rintro e w9 ⟨rfl,O,BP⟩;have tT:=V O;clear O
   go_wp2_with fail
   exact⟨⟨k+1,by omega,by go_num,V (by rw[bW E1.out];exact tT.out),(m.alloc hsz _).trans BP⟩,by simp[intOf];omega⟩
  ·have hke:k=h.cells.length:=by omega
   subst hke
   go_wp2_with fail
   go_ret;have:=HO.out;rw[Z8 .refl]at this;exact⟨⟨_,rfl,this⟩,m⟩
end
section
variable(w:M){l:List HV}
def G6(h):fd h=J9 h (h.cells.length+1) 0 (iZ (iZ (iZ [] h.roots)<|h.done.map tt)<|h.aA.map tt):=by unfold fd G4;rw[sT,sT]
theorem x'(h:PH):∀(f k:Nat) (o:List Int),o<+:J9 h f k o
 |0,_,_=>Zq _
 |f+1,k,o=>by
  unfold J9;split
  exact Zq _;exact(lE _ _).trans<|x' h f _ _
def Qm:∀{N} {v},v∈l->v.1=1->v.2∈iZ N l:=by
 induction l with
 |nil=>exactλh=>by cases h
 |cons u l c=>
  intro N v a b;rw[oy];obtain rfl|a:=List.mem_cons.1 a
  rw[if_pos b];exact(lE l _).subset<|Kq _ _;exact c a b
def NI{A C}(h:A<+:C)(c:∀v∈l,v.1=1->v.2∈A):l.map (yA A)=l.map (yA C):=
 List.map_congr_left λv b=>by
  unfold yA;split
  rename_i a;rw[JX h (c v b a)];rfl
def Qn{S F l:List Int}{k n}(d:l[k]?=U n)(c:iZ S (l.map tt)<+:F):iZ S ((l.take<|k+1).map tt)=ml (iZ S<|(l.take k).map tt) n/\(((ml (iZ S<|(l.take k).map tt) n).idxOf n:Nat):Int)=oZ F n:=by
 have a:iZ S ((l.take<|k+1).map tt)=ml (iZ S<|(l.take k).map tt) n:=by rw[bW d,Z1,sT];rfl
 refine⟨a,?_⟩;have b:iZ S ((l.take<|k+1).map tt)<+:iZ S (l.map tt):=by have:=lE ((l.drop<|k+1).map tt)<|iZ S<|(l.take<|k+1).map tt;rwa[<-sT,<-Z1,List.take_append_drop]at this
 rw[a]at b;unfold oZ;rw[JX (b.trans c) (Kq _ _)]
structure Kg(h:PH)(F:List Int)(k:Nat)(o:List Int):Prop where
 nodup:o.Nodup
 rs:∀n∈o,0<=n/\n<(h.cells.length:Int)
 eq:J9 h (h.cells.length+1-k) k o=F
 le:k<=o.length
def RF{h}(a:Xh h)(c:∀v∈l,uI h v=0):∀v∈l,v.1=1->0<=v.2/\v.2<(h.cells.length:Int):=λv b d=>by have:=c v b;unfold uI at this;rw[if_neg (by omega),if_pos d]at this;obtain⟨i,k,f,e,a,_⟩:=EX this;have:=(Δ.1 a).1;omega
def Kg.len{h F k o}(H:Kg h F k o):o.length<=h.cells.length:=Q6 (h':=h) (p:=id) (N:=λn=>0<=n/\n<(h.cells.length:Int)) (λn a=>a) (λ_ _ _ _ e=>e) H.rs H.nodup
def Kg.step{h F}{k i:Nat}{o kd vs}(hw:Xh h)(H:Kg h F k o)(hi:o[k]?=U (i:Int))(hc:h.cells[i]?=U (kd,vs)):Kg h F (k+1) (iZ o vs):=by
 have d:=H.len;have c:=(Δ.1 hi).1;have a:cellP h (i:Int)=(kd,vs):=by simp[cellP,hc]
 have b:=RF hw<|hw.eT _<|Γ hc;refine⟨qD _ H.nodup,G5 (N:=λn=>0<=n/\n<(h.cells.length:Int)) H.rs b,?_,?_⟩;have:=H.eq;rw[show h.cells.length+1-k=(h.cells.length+1-(k+1))+1 by omega]at this;unfold J9 at this;rw[hi]at this;dsimp only at this;rwa[a]at this;have:=(lE vs o).length_le;omega
def Kg.done{h F k o}(H:Kg h F k o)(c:¬k<o.length):F=o/\k=o.length:=by have b:=H.len;have a:=H.le;refine⟨?_,by omega⟩;have:=H.eq;rw[show h.cells.length+1-k=(h.cells.length-k)+1 by omega]at this;unfold J9 at this;rw[Zx (by omega)]at this;exact this.symm
def Kg.begin{h}(hw:Xh h):Kg h (fd h) 0 (iZ (iZ (iZ [] h.roots)<|h.done.map tt)<|h.aA.map tt):=by
 have a:∀l:List Int,(∀n∈l,Ik h n=0) ->∀v∈l.map tt,v.1=1->0<=v.2/\v.2<(h.cells.length:Int):=λl d v c _=>by obtain⟨n,g,rfl⟩:=List.mem_map.1 c;obtain⟨i,k,j,e,b,_⟩:=EX<|d n g;have:=(Δ.1 b).1;show 0<=n/\n<_;omega
 refine⟨qD _<|qD _<|qD _ ZE,?_,(G6 h).symm,Nat.zero_le _⟩;exact G5 (N:=λn=>0<=n/\n<(h.cells.length:Int)) (G5 (G5 (λx f=>by cases f)<|RF hw hw.roots)<|a _ hw.done)<|a _ hw.aA
def Kg.in_{h F k o}(H:Kg h F k o):o<+:F:=H.eq▸x' _ _ _ _
def take_prefix{a:Type}{A C:List a}{k}(h:A<+:C)(b:k<=A.length):C.take k=A.take k:=by obtain⟨t,rfl⟩:=h;rw[List.take_append_of_le_length b]
def RI(h:PH)(n:Int):HC:=((cellP h n).1,(cellP h n).2.map<|yA<|fd h)
def four(w:M)(n:Nat):M:=(((w.alloc<|.map #[] 0).alloc<|Ω #[.map (U n)] 164).alloc<|Ω #[()] 24).alloc<|Ω #[.func (.func 177) #[] #[.pointer (n+1:Nat),.pointer (n+1+1:Nat)]] 47
def JY(n):Below w w (four w n):=(((af w _).alloc (by simp) _).alloc (by simp;omega) _).alloc (by simp;omega) _
def PA(n):(four w n).heap.size=w.heap.size+4:=by simp[four]
def Qo:kc (four w w) w (w.heap.size+1) (w.heap.size+1+1) (w.heap.size+1+1+1) w () []:=by refine⟨by omega,by omega,by omega,by omega,?_,?_,?_,OI.nil _ _,#[],0,?_,rfl⟩;refine(Below.heap_alloc _ _ _<|by simp).trans<|(Below.heap_alloc _ _ _<|by simp).trans ?_;simpa using ω (w.alloc<|.map #[] 0) (Ω #[.map (U w)] 164);refine(Below.heap_alloc _ _ _<|by simp).trans ?_;simpa using ω ((w.alloc<|.map #[] 0).alloc<|Ω #[.map (U w)] 164) (Ω #[()] 24);simpa[four]using ω (((w.alloc<|.map #[] 0).alloc<|Ω #[.map (U w)] 164).alloc<|Ω #[()] 24) (Ω #[.func (.func 177) #[] #[.pointer (w.heap.size+1:Nat),.pointer (w.heap.size+1+1:Nat)]] 47);exact(Below.heap_alloc _ _ _ (by simp<;>omega)).trans<|(Below.heap_alloc _ _ _ (by simp<;>omega)).trans<|(Below.heap_alloc _ _ _<|by simp).trans<|ω w _
def Qp(b h)(hp:qw w b h)(hk:Xh h):Z9 prog 123 #[.pointer b] w λe w'=>(∃r,e=.returned r/\pS w' w r (normal h))/\Below w w w':=by
 have HK:=V hk;have hmm:=@run_makeMap prog;have hb0:=af w<|Ω #[(),(),(),()] 56;have e0:=ω w<|Ω #[(),(),(),()] 56;have hs0:(w.alloc<|Ω #[(),(),(),()] 56).heap.size=w.heap.size+1:=by simp
 obtain⟨c,r,wi,d,c0,c1,c2,c3,h1,h2,h3,h4⟩:=hp.below hb0;have hb:=az c0;have H1:=V h1;have H2:=V h2;have H3:=V h3;have H4:=V h4;obtain⟨ar,mr,va,-⟩:=h2;subst va;have q5:=((JY _<|w.heap.size+1).cell (p:=⟨b,1,Z⟩) hb).trans c1;clear hk h1 h3 h4 hp;unfold four at q5
 go_enter (fU func123 rfl),ntmps123
 go_wp2_with fail
 change Z9 _ _ _ (four (w.alloc<|Ω #[(),(),(),()] 56)<|w.heap.size+1) _
 clear q5;rw[<-hs0];generalize w.alloc _=f at hb0 e0 hs0 c0 c1 c2 c3 hb H1 H2 H3 H4⊢;have G:=V hs0;clear hs0;refine(Ke (four f f) f _ _ _ _ _ _ [] h.roots (Qo f) (H2.out.below<|JY f _) (by simp) (by have:=HK.out.four;omega)).mono ?_;rintro e w1 ⟨r1,tU,rfl,ho1,hn1,ht1⟩;obtain⟨S0,hS0⟩:∃S0,S0=iZ [] h.roots:=⟨_,rfl⟩;have hp0:S0<+:fd h:=by rw[hS0,G6];exact(lE _ _).trans<|(lE _ _).trans<|x' _ _ _ _
 rw[<-hS0,NI hp0 (λv hv h1=>by rw[hS0];exact Qm hv h1)]at ho1;rw[<-hS0]at hn1;have hB1:Below f f w1:=(JY f _).trans<|Kb (Qo f) ht1 (by rw[PA];omega);have hz1:=ht1.size;rw[PA]at hz1 ho1;have aeg:=ho1.less (B':=f.heap.size) (by omega);obtain⟨a1,m1,rfl,-⟩:=aF ho1;rw[ZG]at aeg;have hout:yB (w1.alloc<|Ω #[(),.slice a1 h.roots.length m1,(),()] 56) f w1.heap.size [] (h.roots.map<|yA<|fd h) (λ_=>[]) tU () (.slice a1 h.roots.length m1) (λ_=>()):=⟨ω _ _,OX.nil _ _,aeg.alloc _,λ_=>OI.nil _ _,λ_ g hg=>(by cases hg),λ_ g hg=>(by cases hg),by omega⟩
 have hnum:=hn1.below<|af w1<|Ω #[(),.slice a1 h.roots.length m1,(),()] 56;have hB2:=hB1.alloc (by omega)<|Ω #[(),.slice a1 h.roots.length m1,(),()] 56;have c3':=cG hB1 c3 hb;have hb1:b<w1:=by omega
 obtain⟨ad,md,rfl,-⟩:=id H4.out;obtain⟨aw,mw,rfl,-⟩:=id H3.out;have H:=V<|χ hout<|χ hnum hB2;have HH0:=V hS0;have hz2:f.heap.size<w1:=by omega
 clear ho1 aeg hn1 ht1 hout hnum hB2 hS0 hp0 hB1 hz1
 go_wp2_with fail
 clear c3';generalize w1.alloc _=w2 at H⊢;generalize w1.heap.size=p7 at H hz2 hb1⊢;generalize Value.slice a1 h.roots.length m1=vr at H⊢;have HW:=V<|χ c0<|χ c2 c3;clear c0 c1 c2 c3
 go_loopw [31] (λi wr=>∃(k:Nat) (E:Value) (u:Bool->Value),k<=h.done.length/\i=Ξ Ψ k/\Hid (yB wr f p7 [] (h.roots.map<|yA<|fd h) (λc=>if c then(h.done.take k).map (oZ<|fd h)else []) E () vr u/\kc wr f (f.heap.size+1) (f.heap.size+1+1) (f.heap.size+1+1+1) f E (iZ S0<|(h.done.take k).map tt)/\Below f f wr)) (λi _=>h.done.length-(intOf i).toNat)
 case atStart=>exact⟨0,tU,_,Nat.zero_le _,rfl,V ⟨by simpa using H.out.1,H.out.2⟩⟩
 case round=>
  clear H tU;obtain⟨k,E,u,hk,rfl,H⟩:=hrel;by_cases J:k<h.done.length
  ·obtain⟨a9,m9,e9,hm9,agw,O⟩:=H4.out.below H.out.2.2;cases e9
   obtain⟨ba2,oa2,e,afb,P⟩:=O (by omega);cases e
   obtain⟨n,e1⟩:=lw J;have f1:=P k n e1;obtain⟨q1,q2⟩:=Qn (S:=S0) (F:=fd h) e1 (by rw[HH0.out,G6];exact(lE _ _).trans<|x' _ _ _ _);have hN:(iZ S0<|(h.done.take k).map tt).length<=1000000:=by have:=zY ((h.done.take k).map tt) S0;have:=zY h.roots [];have:=HH0.out;have:=HK.out.four;have:=HK.out.Pz;subst S0;simp at *;omega
   have q3:(h.done.take<|k+1).map (oZ<|fd h)=(h.done.take k).map (oZ<|fd h)++[oZ (fd h) n]:=by rw[bW e1,Z1];rfl
   generalize iZ S0 ((h.done.take k).map tt)=Nk at H q1 q2 hN;have C:((h.done.take k).map<|oZ<|fd h).length=k:=by simp;omega
   generalize (h.done.take k).map (oZ<|fd h)=dk at H q3 C;have HQ:=V<|χ q1<|χ q2 q3;obtain⟨av,mv,B,-⟩:=aF<|H.out.1.i I;obtain⟨⟨-,-,d3⟩,-,d5,-⟩:=H.out.1.reads H.out.2.1;have hz:=H.out.2.2.size;rw[if_pos rfl,C]at B;rw[B]at d3;have HU:=V B;have HD:=V C;clear O P e1 B q1 q2 q3 C
   go_wp2_with fail
   refine Rg.aaH 4 2 (λx=>x ⟨p7,3,Z⟩=U (.slice av k mv)/\x.cell? ⟨f.heap.size+1+1+1,0,Z⟩=U (.func (.func 177) #[] #[ZF (U ⟨f.heap.size+1,0,Z⟩),ZF<|U ⟨f.heap.size+1+1,0,Z⟩])) (by kernel_rfl) (by kernel_rfl) (λc a d v w h=>by cases d<;>exact h) ⟨d3,d5⟩ ?_;simp only[Nat.reduceAdd,ξ,ζ,μ,ε]
   iterate 4
    (refine Rg.fp.step (v:=?_) (by rfl) (λx hx=>?_) ?_
     rotate_left
     (obtain⟨hx0,hx1⟩:=hx
      go_simp
      try rfl))
   refine Rg.fp.nil<|Rg.pA.succ ?_;simp only[Z0,ψ,φ,υ];refine ι rfl λK y=>?_;go_simp;have hd:=(Below.refl wr wr).drew;refine(NE _ _ _ _ _ _ E _ n (H.out.2.1.below hd) hN).mono ?_;rw[HQ.out.2.1];rintro e w5 ⟨rfl,so5,D,A⟩;obtain⟨Pk,m,t,q⟩:=Kv (o:=Ω #[(oZ (fd h) n)] 3) H.out.1 H.out.2.1 H.out.2.2 .refl D A;obtain⟨⟨-,-,g3⟩,gf,g5,-⟩:=Pk.reads D;rw[HU.out]at g3;refine y _ _ ⟨⟨g3,g5⟩,Rg.pA.succ ?_⟩;clear y K;refine ι rfl λK y=>?_;go_simp;obtain⟨⟨-,-,k3⟩,kf,k5,JH,-⟩:=m.reads t;have X:=m.i I;rw[HU.out,if_pos rfl]at X;rw[HU.out]at k3;refine y _ _ ⟨⟨k3,k5⟩,Rg.pA.zero ?_⟩;clear y K g3 gf g5 d3 d5;have s:=q.size;have hlen:dk.length<=1000000000:=by have:=HD.out;have:=HK.out.Pz;omega
   have HO:=V<|χ m<|χ t q;clear m t q
   go_wp2_with (at_builtin;refine zp rfl _ _ rfl f _ _ rfl X w5.heap.size _ (oZ (fd h) n) rfl (by simp[go_sem,ZY]) hlen s ?_;intro v' w7 l hb7 Q aeh;obtain⟨a7,m7,rfl,-⟩:=aF l;have n7:=(Q.block p7 JH λe=>cF X HO.out.1.hb (by decide) e.symm).trans HO.out.1.hb;obtain⟨⟨-,-,-,y3⟩,j7⟩:=dT n7;have j3:=j7 3)
   obtain⟨x1,x2,x3⟩:=yB.app (b:=I) HO.out.1 HO.out.2.1 l (by rw[HU.out];exact Q) (by rw[HU.out];obtain e|e:=aeh;exact .inl e;exact .inr ⟨_,e,.refl⟩) s;have hl':(dk++[oZ (fd h) n]).length=dk.length+1:=by simp
   rw[hl']at x1 x2 x3;refine⟨⟨k+1,so5,λc=>if c=I then .slice a7 (dk.length+1) m7 else u c,by omega,by go_num,V ⟨?_,by rw[HQ.out.1];exact x2,HO.out.2.2.trans x3⟩⟩,by simp[intOf];omega⟩;rw[HQ.out.2.2];have hff:(λc=>if c=I then(if I=I then dk else [])++[oZ (fd h) n]else if c=I then dk else [])=λc=>if c=I then dk++[oZ (fd h) n]else []:=by funext c;cases c<;>rfl
   rw[<-hff];exact x1
  ·have hke:k=h.done.length:=by omega
   subst hke;rw[Z8 .refl]at H;obtain⟨S1,hS1⟩:∃S1,S1=iZ S0 (h.done.map tt):=⟨_,rfl⟩;rw[<-hS1]at H;have HH1:=V hS1;have c2':=(H.out.2.2.cell (p:=⟨b,2,Z⟩) hb).trans HW.out.2.1;clear hS1 hk J
   go_wp2_with fail
   clear c2'
   go_loopw [50] (λi wr=>∃(k:Nat) (E:Value) (u:Bool->Value),k<=h.aA.length/\i=Ξ Ψ k/\Hid (yB wr f p7 [] (h.roots.map<|yA<|fd h) (λc=>if c then h.done.map (oZ<|fd h)else(h.aA.take k).map (oZ<|fd h)) E () vr u/\kc wr f (f.heap.size+1) (f.heap.size+1+1) (f.heap.size+1+1+1) f E (iZ S1<|(h.aA.take k).map tt)/\Below f f wr)) (λi _=>h.aA.length-(intOf i).toNat)
   case atStart=>exact⟨0,E,_,Nat.zero_le _,rfl,V ⟨by simpa using H.out.1,H.out.2⟩⟩
   case round=>
    clear H E u;obtain⟨k,E,u,hk,rfl,H⟩:=hrel;by_cases J:k<h.aA.length
    ·obtain⟨a9,m9,e9,hm9,agw,O⟩:=H3.out.below H.out.2.2;cases e9
     obtain⟨ba2,oa2,e,afb,P⟩:=O (by omega);cases e
     obtain⟨n,e1⟩:=lw J;have f1:=P k n e1;obtain⟨q1,q2⟩:=Qn (S:=S1) (F:=fd h) e1 (by rw[HH1.out,HH0.out,G6];exact x' _ _ _ _);have hN:(iZ S1<|(h.aA.take k).map tt).length<=1000000:=by have:=zY ((h.aA.take k).map tt) S1;have:=zY h.roots [];have:=HH0.out;have:=HH1.out;have:=HK.out.four;have:=HK.out.Pz;have:=HK.out.NG;have:=zY (h.done.map tt) S0;subst S1;subst S0;simp at *;omega
     have q3:(h.aA.take<|k+1).map (oZ<|fd h)=(h.aA.take k).map (oZ<|fd h)++[oZ (fd h) n]:=by rw[bW e1,Z1];rfl
     generalize iZ S1 ((h.aA.take k).map tt)=Nk at H q1 q2 hN;have C:((h.aA.take k).map<|oZ<|fd h).length=k:=by simp;omega
     generalize (h.aA.take k).map (oZ<|fd h)=dk at H q3 C;have HQ:=V<|χ q1<|χ q2 q3;obtain⟨av,mv,B,-⟩:=aF<|H.out.1.i Y;obtain⟨⟨-,d2,-⟩,-,d5,-⟩:=H.out.1.reads H.out.2.1;have hz:=H.out.2.2.size;rw[if_neg (by simp),C]at B;rw[B]at d2;have HU:=V B;have HD:=V C;clear O P e1 B q1 q2 q3 C
     go_wp2_with fail
     refine Rg.aaH 4 2 (λx=>x ⟨p7,2,Z⟩=U (.slice av k mv)/\x.cell? ⟨f.heap.size+1+1+1,0,Z⟩=U (.func (.func 177) #[] #[ZF (U ⟨f.heap.size+1,0,Z⟩),ZF<|U ⟨f.heap.size+1+1,0,Z⟩])) (by kernel_rfl) (by kernel_rfl) (λc a d v w h=>by cases d<;>exact h) ⟨d2,d5⟩ ?_;simp only[Nat.reduceAdd,ξ,ζ,μ,ε]
     iterate 4
      (refine Rg.fp.step (v:=?_) (by rfl) (λx hx=>?_) ?_
       rotate_left
       (obtain⟨hx0,hx1⟩:=hx
        go_simp
        try rfl))
     refine Rg.fp.nil<|Rg.pA.succ ?_;simp only[Z0,ψ,φ,υ];refine ι rfl λK y=>?_;go_simp;have hd:=(Below.refl wr wr).drew;refine(NE _ _ _ _ _ _ E _ n (H.out.2.1.below hd) hN).mono ?_;rw[HQ.out.2.1];rintro e w5 ⟨rfl,so5,D,A⟩;obtain⟨Pk,m,t,q⟩:=Kv (o:=Ω #[(oZ (fd h) n)] 3) H.out.1 H.out.2.1 H.out.2.2 .refl D A;obtain⟨⟨-,g3,-⟩,gf,g5,-⟩:=Pk.reads D;rw[HU.out]at g3;refine y _ _ ⟨⟨g3,g5⟩,Rg.pA.succ ?_⟩;clear y K;refine ι rfl λK y=>?_;go_simp;obtain⟨⟨-,k3,-⟩,kf,k5,JH,-⟩:=m.reads t;have X:=m.i Y;rw[HU.out,if_neg<|by simp]at X;rw[HU.out]at k3;refine y _ _ ⟨⟨k3,k5⟩,Rg.pA.zero ?_⟩;clear y K g3 gf g5 d2 d5;have s:=q.size;have hlen:dk.length<=1000000000:=by have:=HD.out;have:=HK.out.NG;omega
     have HO:=V<|χ m<|χ t q;clear m t q
     go_wp2_with (at_builtin;refine zp rfl _ _ rfl f _ _ rfl X w5.heap.size _ (oZ (fd h) n) rfl (by simp[go_sem,ZY]) hlen s ?_;intro v' w7 l hb7 Q aeh;obtain⟨a7,m7,rfl,-⟩:=aF l;have n7:=(Q.block p7 JH λe=>cF X HO.out.1.hb (by decide) e.symm).trans HO.out.1.hb;obtain⟨⟨-,-,y3,-⟩,j7⟩:=dT n7;have j3:=j7 2)
     obtain⟨x1,x2,x3⟩:=yB.app (b:=Y) HO.out.1 HO.out.2.1 l (by rw[HU.out];exact Q) (by rw[HU.out];obtain e|e:=aeh;exact .inl e;exact .inr ⟨_,e,.refl⟩) s;have hl':(dk++[oZ (fd h) n]).length=dk.length+1:=by simp
     rw[hl']at x1 x2 x3;refine⟨⟨k+1,so5,λc=>if c=Y then .slice a7 (dk.length+1) m7 else u c,by omega,by go_num,V ⟨?_,by rw[HQ.out.1];exact x2,HO.out.2.2.trans x3⟩⟩,by simp[intOf];omega⟩;rw[HQ.out.2.2];have hff:(λc=>if c=Y then(if Y=I then h.done.map (oZ<|fd h)else dk)++[oZ (fd h) n]else if c=I then h.done.map (oZ<|fd h)else dk)=λc=>if c=I then h.done.map (oZ<|fd h)else dk++[oZ (fd h) n]:=by funext c;cases c<;>rfl
     rw[<-hff];exact x1
    ·have hke:k=h.aA.length:=by omega
     subst hke;rw[Z8 .refl,HH1.out,HH0.out]at H;have hI:=Kg.begin HK.out;generalize hS2:iZ (iZ (iZ [] h.roots)<|h.done.map tt) (h.aA.map tt)=S2 at H hI;clear hS2 hk J HH0 HH1
     go_wp2_with fail
     go_loopw [12] (λi wr=>∃(k:Nat) (E vc:Value) (u:Bool->Value) (N:List Int),i=Ξ Ψ k/\Hid (Kg h (fd h) k N/\yB wr f p7 ((N.take k).map<|RI h) (h.roots.map<|yA<|fd h) (λc=>if c then h.done.map (oZ<|fd h)else h.aA.map (oZ<|fd h)) E vc vr u/\kc wr f (f.heap.size+1) (f.heap.size+1+1) (f.heap.size+1+1+1) f E N/\Below f f wr)) (λi _=>h.cells.length-(intOf i).toNat)
     case atStart=>exact⟨0,E,_,u,S2,rfl,V ⟨hI,H.out⟩⟩
     case round=>
      clear H E u hI;obtain⟨k,E,vc,u,N,rfl,H⟩:=hrel;obtain⟨ag,mg,hso,anv,anw,-⟩:=aF H.out.2.2.1.row;have hrow:=H.out.2.2.1.row.reads;subst hso;have e4:=H.out.2.2.1.h4;have d4:wr (f.heap.size+1+1:Nat)=U (.slice ag N.length mg):=by simp[Θ,e4]
      have hz:=H.out.2.2.2.size;have aif:=V hrow;clear hrow e4;by_cases J:k<N.length
      ·obtain⟨a9,m9,e9,-,-,O⟩:=aif.out;cases e9
       obtain⟨bg,og,e,hbg,agy⟩:=O (by omega);cases e
       obtain⟨n,e1⟩:=lw J;have f1:=agy k n e1;obtain⟨hn0,hn1⟩:=H.out.1.rs n<|Γ e1;obtain⟨i,rfl⟩:=Int.eq_ofNat_of_zero_le hn0;have hil:i<h.cells.length:=by omega
       obtain⟨ac,mc,hcv,hmc1,am9,hac⟩:=H1.out.below H.out.2.2.2;obtain⟨bc,oc,e,hbc,agz⟩:=hac (by omega);subst e;obtain⟨kd,z,ec⟩:=cQ hil;obtain⟨g1,x,g2,hx⟩:=agz i kd z ec;have d0:=(H.out.2.2.2.cell (p:=⟨b,0,Z⟩) hb).trans HW.out.1;rw[hcv]at d0;have hbr:b<wr:=by omega
       have HX:=V hx;obtain⟨ax,mx,hxv,-⟩:=hx;subst hxv;have hkc:k<h.cells.length:=by have:=H.out.1.len;omega
       have HE:=V<|χ e1 ec;clear O agy agz hac e1 ec
       go_wp2_with fail
       refine Rg.aaH 11 1 (λx=>x b=U (.slice (bc,oc) h.cells.length mc)/\x (f.heap.size+1+1:Nat)=U (.slice (bg,og) N.length mg)/\x (bg,og+k)=U (Ξ Ψ (i:Int))/\x (bc,oc+i*2)=U (Ξ Ψ kd)/\x (bc,oc+i*2+1)=U (.slice ax z.length mx)) (by kernel_rfl) (by kernel_rfl) (λc a d v w h=>by cases d<;>exact h) ⟨d0,d4,f1,g1,g2⟩ ?_;simp only[Nat.reduceAdd,ξ,ζ,μ,ε]
       iterate 11
        (refine Rg.fp.step (v:=?_) (by rfl) (λx hx=>?_) ?_
         rotate_left
         (obtain⟨hx0,hx1,hx2,hx3,hx4⟩:=hx
          go_simp
          try rfl))
       refine Rg.fp.nil<|Rg.pA.succ ?_;simp only[Z0,ψ,φ,υ];refine ι rfl λK y=>?_;go_simp;have hbN:=(Below.refl wr wr).drew.alloc .refl<|Ω #[Ξ Ψ 0,()] 76;have hk5:f.heap.size+1+1<wr:=az d4;refine y _ _ ⟨⟨cG hbN d0 hbr,cG hbN d4 hk5,cG hbN f1 hbg,cG hbN g1 hbc,cG hbN g2 hbc⟩,Rg.pA.zero ?_⟩;clear y K d0 d4 f1 g1 g2 hbN;have hsz:=H.out.2.2.2.size
       go_wp2_with fail
       have hbA:Below wr wr ((wr.alloc<|Ω #[kd,.slice ax z.length mx] 76).drew):=(af _ _).drew;have e13:((wr.alloc<|Ω #[kd,.slice ax z.length mx] 76).drew).heap[wr.heap.size]?=U (Ω #[kd,.slice ax z.length mx] 76 (0,0)):=ω wr _;have hOA:=H.out.2.1.below hbA;have L:=H.out.2.2.1.below hbA;have hBA:=H.out.2.2.2.trans<|hbA.mono hsz;have hXA:=HX.out.below hbA;clear hbA;generalize (wr.alloc _).drew=wA at hOA L hBA hXA e13⊢;generalize wr.heap.size=W at e13 hsz⊢;obtain⟨lc,hlc,hle⟩:=hOA.c;obtain⟨av,mv,hvv,-⟩:=aF hlc;subst hvv;obtain⟨⟨b0,-,-⟩,-,-,anx,-⟩:=hOA.reads L;obtain⟨b1,b2,-,-⟩:=hH e13;have PE:=(R.1 e13).1;have aih:N.length<=100000:=by have:=H.out.1.len;have:=HK.out.many;omega
       have aii:z.length<=100000:=by have:=HK.out.kinds _<|Γ HE.out.2;dsimp only at this;omega
       refine Rg.aaH 7 3 (λx=>x p7=U (.slice av lc.length mv)/\x W=U (Ξ Ψ kd)/\x ⟨W,1,Z⟩=U (.slice ax z.length mx)) (by kernel_rfl) (by kernel_rfl) (λc a d v w h=>by cases d<;>exact h) ⟨b0,b1,b2⟩ ?_;simp only[Nat.reduceAdd,ξ,ζ,μ,ε]
       iterate 7
        (refine Rg.fp.step (v:=?_) (by rfl) (λx hx=>?_) ?_
         rotate_left
         (obtain⟨hx0,hx1,hx2⟩:=hx
          go_simp
          try rfl))
       refine Rg.fp.nil<|Rg.pA.succ ?_;simp only[Z0,ψ,φ,υ];refine ι rfl λK y=>?_;go_simp;have hd:=(Below.refl wA wA).drew;refine(Ke wA.drew _ _ _ _ _ _ _ N z (L.below hd) (hXA.below hd) aih aii).mono ?_;rintro e w5 ⟨r,so5,rfl,Xq,D,A⟩;have f13:=(L.below hd).free ((hd.block W PE).trans e13) (by decide) (by decide);have aei:=(A.block W PE f13.1 f13.2.1 f13.2.2).trans<|(hd.block W PE).trans e13;obtain⟨T,wO,va,-⟩:=aF Xq;rw[ZG]at va;subst va;obtain⟨h5,m,t,q⟩:=Kv (o:=Ω #[kd,.slice T z.length wO] 76) hOA L hBA .refl D A;obtain⟨⟨c0,-,-⟩,-,-,aij,-⟩:=h5.reads D;obtain⟨c1,c2,-,-⟩:=hH aei;have agC:OC w5 f (.slice av lc.length mv) lc:=Kc (L.below hd) A (hlc.below hd) (by decide) (by decide);have agD:=(hle.keep<|kE.below hd).num (L.below hd) A;have hzw:=hBA.size;have KU:=A.size;simp only[Zr]at KU Xq;refine y _ _ ⟨⟨c0,c1,c2⟩,Rg.pA.succ ?_⟩;clear y K;refine ι rfl λK y=>?_;go_simp;refine y _ _ ⟨⟨c0,c1,c2⟩,Rg.pA.succ ?_⟩;clear y K;refine ι rfl λK y=>?_;go_simp;refine y _ _ ⟨⟨((af w5 _).cell (p:=⟨p7,0,Z⟩) aij).trans c0,((af w5 _).cell (p:=⟨W,0,Z⟩) (R.1 aei).1).trans c1,((af w5 _).cell (p:=⟨W,1,Z⟩) (R.1 aei).1).trans c2⟩,Rg.pA.zero ?_⟩;have hx6:OV (w5.alloc<|Ω #[kd,.slice T z.length wO] 76) f (.slice T z.length wO) (z.map<|yA<|iZ N z):=(Xq.less<|by omega).alloc _;have hst:=Kg.step HK.out H.out.1 HE.out.1 HE.out.2;rw[NI hst.in_ (λv hv h1=>Qm hv h1)]at hx6;clear y K c0 c1 c2 b0 b1 b2;have aek:=agC.alloc<|Ω #[kd,.slice T z.length wO] 76;have aaI:=agD.keep<|kE.below<|af w5<|Ω #[kd,.slice T z.length wO] 76;have hl6:lc.length<=1000000000:=by have h1:=hle.1;have:=H.out.1.le;have:=H.out.1.len;have:=HK.out.many;rw[ZG,List.length_take]at h1;omega
       have HQ:=V<|χ m<|χ t<|χ q<|χ aek<|χ aaI<|χ hx6 hst;have s:=q.size;have aik:=(R.1 m.hb).1;clear m t q aaI hx6 hst agC agD hlc hle hOA L hBA hXA Xq D A h5
       go_wp2_with (at_builtin;refine wh rfl _ _ rfl f _ _ rfl aek w5.heap.size _ (kd,.slice T z.length wO) rfl rfl (by simp[go_sem,ZY]) hl6 s ?_;intro v' w7 l hb7 Q;obtain⟨a7,m7,rfl,-⟩:=aF l;have n7:=(Q.block p7 aik λe=>cF aek HQ.out.1.hb (by decide) e.symm).trans HQ.out.1.hb;obtain⟨⟨y0,-⟩,j7⟩:=dT n7;have j0:=j7 0)
       obtain⟨m,t,q,agE,aaI,hx6,hst⟩:=HQ.out;obtain⟨x1,x2,x3⟩:=yB.cell m agE aaI t hx6 l Q s;have hl':(lc++[(kd,Value.slice T z.length wO)]).length=lc.length+1:=by simp
       rw[hl']at x1 x2 x3;refine⟨⟨k+1,so5,.slice a7 (lc.length+1) m7,u,iZ N z,by go_num,V ⟨hst,?_,x2,q.trans x3⟩⟩,by simp[intOf];omega⟩;have hcs:((iZ N z).take<|k+1).map (RI h)=(N.take k).map (RI h)++[(kd,z.map<|yA<|fd h)]:=by
        rw[take_prefix (lE z N) (by omega),bW HE.out.1,Z1];have:cellP h (i:Int)=(kd,z):=by simp[cellP,HE.out.2]
        simp[RI,this]
       rw[hcs];exact x1
      ·obtain⟨hF,hkN⟩:=H.out.1.done J;obtain⟨hO,hN,hB⟩:=H.out.2;have z0:=(hB.block w (by have:=G.out;omega)).trans e0;obtain⟨-,zf⟩:=dT z0;have hne:p7≠w.heap.size:=by have:=G.out;omega
       have f0:=zf 0;have f1:=zf 1;have f2:=zf 2;have f3:=zf 3;obtain⟨⟨s0,s1,s2,s3⟩,-⟩:=dT z0;obtain⟨⟨t0,t1,t2,t3⟩,-⟩:=dT hO.hb;obtain⟨lc,hlc,hle⟩:=hO.c;obtain⟨a1,n1,v1,-⟩:=aF hlc;obtain⟨a2,n2,v2,-⟩:=aF hO.r;obtain⟨a3,n3,v3,-⟩:=aF<|hO.i Y;obtain⟨a4,n4,v4,-⟩:=aF<|hO.i I;have hown:pS wr f (.agg #[vc,vr,u Y,u I]) (normal h):=⟨_,_,_,_,rfl,by have:=hO.c;rw[Z8 (by omega),<-hF]at this;exact this,hO.r,hO.i Y,hO.i I⟩;generalize lc.length=m1 at v1;generalize (h.roots.map<|yA<|fd h).length=m2 at v2;generalize (if Y=I then h.done.map (oZ<|fd h)else h.aA.map (oZ<|fd h)).length=m3 at v3;generalize (if I=I then h.done.map (oZ<|fd h)else h.aA.map (oZ<|fd h)).length=m4 at v4;rw[v1]at t0;rw[v2]at t1;rw[v3]at t2;rw[v4]at t3;rw[v1,v2,v3,v4]at hown;have HO:=V hown;have HZ:=V z0;have HBB:=V hB;clear hown z0 hB hO hN H v1 v2 v3 v4 hlc hle hF hkN zf
       go_wp2_with fail
       have hf:=heap_setCell_same (i:=3) (v:=.slice a4 m4 n4)<|heap_setCell_same (i:=2) (v:=.slice a3 m3 n3)<|heap_setCell_same (i:=1) (v:=.slice a2 m2 n2)<|heap_setCell_same (i:=0) (v:=.slice a1 m1 n1) HZ.out;have no:kE f wr ((((wr.setCell w.heap.size<|.slice a1 m1 n1).setCell (w.heap.size,1)<|.slice a2 m2 n2).setCell (w.heap.size,2)<|.slice a3 m3 n3).setCell (w.heap.size,3)<|.slice a4 m4 n4):=λj hb _=>(aa (by have:=G.out;omega)).trans<|(aa (by have:=G.out;omega)).trans<|(aa (by have:=G.out;omega)).trans<|aa (by have:=G.out;omega);have Dv:Below w w wr:=hb0.trans<|HBB.out.mono (by have:=G.out;omega);have hBf:Below w w ((((wr.setCell w.heap.size<|.slice a1 m1 n1).setCell (w.heap.size,1)<|.slice a2 m2 n2).setCell (w.heap.size,2)<|.slice a3 m3 n3).setCell (w.heap.size,3)<|.slice a4 m4 n4):=(((Dv.setCell (p:=(w.heap.size:ZQ)) .refl _).setCell (p:=((w.heap.size,1):ZQ)) .refl _).setCell (p:=((w.heap.size,2):ZQ)) .refl _).setCell (p:=((w.heap.size,3):ZQ)) .refl _;generalize ((((wr.setCell w.heap.size<|.slice a1 m1 n1).setCell (w.heap.size,1)<|.slice a2 m2 n2).setCell (w.heap.size,2)<|.slice a3 m3 n3).setCell (w.heap.size,3)<|.slice a4 m4 n4)=wf at hf no hBf⊢;obtain⟨⟨y0,y1,y2,y3⟩,-⟩:=dT hf;have hlo:w.heap.size<=f:=by have:=G.out;omega
       obtain⟨_,_,_,_,e,q1,q2,q3,q4⟩:=HO.out;cases e
       exact ZW (v:=.agg #[.slice a1 m1 n1,.slice a2 m2 n2,.slice a3 m3 n3,.slice a4 m4 n4]) (by simp[ZA,results123,go_sem,y0,y1,y2,y3]) rfl ⟨⟨_,rfl,_,_,_,_,rfl,(q1.keep no).less hlo,eV (dI q2 no) hlo,eV (dI q3 no) hlo,eV (dI q4 no) hlo⟩,hBf⟩
end
section
variable(w:M)(x y:Value)
def Qq(l)(v:eI w x l)(u:eI w y l):
 Z9 prog 138 #[x,y] w λe w'=>e=.returned (.bool I)/\Below w.heap.size w w':=by
 obtain⟨a,m,rfl,F,t,r⟩:=v;obtain⟨B,D,rfl,s,n,g⟩:=u
 go_enter (fU func138 rfl),ntmps138
 go_wp2
 go_loopw [13] (λi wr=>∃k:Nat,k<=l.length/\i=Ξ Ψ k/\Below w.heap.size w wr) (λi _=>l.length-(intOf i).toNat)
 case atStart=>exact⟨0,Nat.zero_le _,rfl,.refl _ _⟩
 case round=>
  obtain⟨k,A,rfl,hb⟩:=hrel;by_cases h:k<l.length
  ·obtain⟨b,o,rfl,j,d⟩:=r (by omega);obtain⟨z,C,rfl,f,c⟩:=g (by omega);obtain⟨p,q,e1⟩:=ep h;obtain⟨c1,c2⟩:=(d.below hb j) k p q e1;obtain⟨c3,G⟩:=(c.below hb f) k p q e1;have E:=nc p q;clear r g d c e1
   go_wp2
   go_quiet (fail)
   go_wp2
   exact⟨⟨k+1,by omega,by go_num,bl hb _⟩,by simp[intOf];omega⟩
  ·go_wp2
   go_ret;exact⟨rfl,hb⟩
def Qr(l)(u:n9 w x l)(t:n9 w y l):
 Z9 prog 139 #[x,y] w λe w'=>e=.returned (.bool I)/\Below w.heap.size w w':=by
 obtain⟨a,m,rfl,D,s,q⟩:=u;obtain⟨A,C,rfl,r,n,g⟩:=t
 go_enter (fU func139 rfl),ntmps139
 go_wp2
 go_loopw [13] (λi wr=>∃k:Nat,k<=l.length/\i=Ξ Ψ k/\Below w.heap.size w wr) (λi _=>l.length-(intOf i).toNat)
 case atStart=>exact⟨0,Nat.zero_le _,rfl,.refl _ _⟩
 case round=>
  obtain⟨k,z,rfl,hb⟩:=hrel;by_cases h:k<l.length
  ·obtain⟨b,o,rfl,j,d⟩:=q (by omega);obtain⟨v,B,rfl,f,c⟩:=g (by omega);obtain⟨p,e1⟩:=lw h;have c1:=(d.below hb j) k p e1;have c3:=(c.below hb f) k p e1;clear q g d c e1
   go_wp2
   go_quiet (fail)
   go_wp2
   exact⟨⟨k+1,by omega,by go_num,bl hb _⟩,by simp[intOf];omega⟩
  ·go_wp2
   go_ret;exact⟨rfl,hb⟩
def Rj(k x y l)(f:eI w x l)(d:eI w y l):
 Z9 prog 137 #[.agg #[Ξ Ψ k,x],.agg #[Ξ Ψ k,y]] w λe w'=>e=.returned (.bool I)/\Below w.heap.size w w':=by
 have o:=V f;have h:=V d;obtain⟨a,m,rfl,p,j,-⟩:=f;obtain⟨i,n,rfl,g,c,-⟩:=d;have hb:=(af w<|Ω #[Ξ Ψ k,.slice a l.length m] 76).alloc (by simp)<|Ω #[Ξ Ψ k,.slice i l.length n] 76;have q:(k==k)=I:=by simp
 go_enter (fU func137 rfl),ntmps137
 go_wp2_with fail
 refine(Qq _ _ _ l (o.out.below hb)<|h.out.below hb).mono ?_;rintro e r ⟨rfl,b⟩
 go_wp2
 go_ret;exact⟨rfl,hb.trans<|b.mono (by simp;omega)⟩
def XF(l)(C:sa w x l)(B:sa w y l):
 Z9 prog 136 #[x,y,.func (.func 137) #[] #[]] w λe w'=>e=.returned (.bool I)/\Below w.heap.size w w':=by
 have N:=V C;have J:=V B;obtain⟨a,m,rfl,hm,F,-⟩:=C;obtain⟨T,X,rfl,E,v,-⟩:=B
 go_enter (fU func136 rfl),ntmps136
 go_wp2
 go_loopw [17] (λi wr=>∃k:Nat,k<=l.length/\i=Ξ Ψ k/\Below w.heap.size w wr) (λi _=>l.length-(intOf i).toNat)
 case atStart=>exact⟨0,Nat.zero_le _,rfl,.refl _ _⟩
 case round=>
  obtain⟨k,S,rfl,hb⟩:=hrel;by_cases q:k<l.length
  ·obtain⟨_,_,e,-,-,D⟩:=N.out.below hb;cases e
   obtain⟨_,_,e,-,-,j⟩:=J.out.below hb;cases e
   obtain⟨b,o,rfl,G,f⟩:=D (by omega);obtain⟨P,W,rfl,A,c⟩:=j (by omega);obtain⟨p,g,e1⟩:=cQ q;obtain⟨c1,z,c2,hz⟩:=f k p g e1;obtain⟨c3,Q,c4,h⟩:=c k p g e1;have L:=V hz;have s:=V h;obtain⟨K,H,rfl,-⟩:=hz;obtain⟨t,r,rfl,-⟩:=h;have d:=(af wr<|Ω #[Ξ Ψ p,.slice K g.length H] 76).alloc (by simp)<|Ω #[Ξ Ψ p,.slice t g.length r] 76;have n:=hb.size;clear D j f c e1
   go_wp2_with fail
   refine(Rj _ p _ _ g (L.out.below d)<|s.out.below d).mono ?_;rintro e O ⟨rfl,u⟩
   go_wp2
   exact⟨⟨k+1,by omega,by go_num,hb.trans<|(d.trans<|u.mono (by simp;omega)).mono n⟩,by simp[intOf];omega⟩
  ·go_wp2
   go_ret;exact⟨rfl,hb⟩
end
section
variable(w:M){bm:Nat}(B bq:Nat)(s:Value)
def EY(h:zS w B bq s []):
 Z9 prog 260 #[.pointer bq] w λe w'=>e=.returned (.tuple #[Ξ Ψ 0,.bool Y])/\w'=w:=by
 obtain⟨hb,b⟩:=h;obtain⟨a,m,rfl,c,h3,h4,h5⟩:=b;have c0:w bq=U (.slice a 0 m):=by simp[Θ,hb]
 go_enter (fU func260 rfl),ntmps260
 go_wp2
 go_ret2
 exact⟨rfl,rfl⟩
def zU{w B bq g o b m a n l}(hb:w.heap[bq]?=U (Ω #[.slice (g,o) (l.length+1) m] 305 (0,0)))(y:l.length+1<=m)(h3:m<=9223372036854775807)(H:B<=g/\w.heap[g]?=U (.cells a 3 (0,0))/\o+m<=a.size/\∀i p,(n::l)[i]?=U p->a[o+i]?=U (Ξ Ψ p))(r:b=o+1\/(b=o/\m=1)):
 ∃s',zS (w.setCell bq<|.slice (g,b) l.length<|m-1).drew B bq s' l/\Kf w (w.setCell bq<|.slice (g,b) l.length<|m-1).drew bq bm (.slice (g,o) (l.length+1) m) s':=by
 obtain⟨d,h,s,j⟩:=H;have f:g≠bq:=λe=>by subst e;rw[hb]at h;cases h
 refine⟨.slice (g,b) l.length<|m-1,⟨?_,U (g,b),m-1,rfl,by omega,by omega,⟨λe=>(by cases e),λad e=>?_⟩⟩,⟨rfl,rfl,rfl,by simp[ZR],λk t q v u=>Below.heap_setCell _ _ _ _ q,λk e=>.inl ?_⟩⟩;exact aB hb 0 _;cases e
 refine⟨g,b,a,rfl,d,(Below.heap_setCell _ _ _ _ f).trans h,by omega,λi x c=>?_⟩;obtain rfl|⟨rfl,rfl⟩:=r
 have:=j (i+1) x (by simpa using c);rw[show o+1+i=o+(i+1) by omega];exact this;have:=(Δ.1 c).1;omega;exact e
def EZ(bm s n l)(h:zS w B bq s (n::l))(G:l.length<=1000000):
 Z9 prog 260 #[.pointer bq] w λe w'=>e=.returned (.tuple #[Ξ Ψ n,.bool I])/\∃s',zS w' B bq s' l/\Kf w w' bq bm s s':=by
 obtain⟨hb,v⟩:=h;have x:=V v;obtain⟨a,m,rfl,k,h3,h4,h5⟩:=v;have c0:w.drew.cell? bq=U (.slice a (n::l).length m):=by show w _=_;simp[Θ,hb]
 have p:w bq=U (.slice a (n::l).length m):=c0;have F:w.frozen? bq=Y:=by simp[ο,hb]
 have t:=V hb;obtain _|ad:=a
 have:=h4 rfl;subst this;simp at k;obtain⟨g,o,c,rfl,r,q,f,b⟩:=h5 _ rfl;have h0:=b 0 n rfl;have d0:w (g,o)=U (Ξ Ψ n):=by simpa[Θ,q]using h0
 have H5:=V (⟨r,q,f,b⟩:B<=g/\w.heap[g]?=U (.cells c 3 (0,0))/\o+m<=c.size/\∀i u,(n::l)[i]?=U u->c[o+i]?=U (Ξ Ψ u));have j:(n::l).length=l.length+1:=rfl;rw[j]at c0 p k t x⊢;have A:(1:Int)<=(m:Int):=by omega
 have C:(l.length:Int)+1<=(m:Int):=by omega
 have D:(1:Int)<=(l.length:Int)+1:=by omega
 have y:(0:Int)<(l.length:Int)+1:=by omega
 clear h5 b q f h4 hb c0 h0 j;by_cases z:m=1
 ·subst z;have d:=ZH (by omega:l.length=0);subst d
  go_enter (fU func260 rfl),ntmps260
  go_wp2
  go_region
  all_goals go_wp2
  go_ret2
  exact⟨rfl,zU t.out k h3 H5.out<|.inr ⟨rfl,rfl⟩⟩
 ·have E:¬m-1=0:=by omega
  go_enter (fU func260 rfl),ntmps260
  go_wp2
  go_region
  all_goals go_wp2
  go_ret2
  exact⟨rfl,zU t.out k h3 H5.out<|.inl rfl⟩
def Kf.ye{w w' bq s s'}(h:Kf w w' bq bq s s'):Kf w w' bq bm s s':=⟨h.os,h.tape,h.output,h.size,λk c a _ b=>h.block k c a a b,h.own⟩
def Kf.sC{w w' bq s}(h:w.grownBy w' (U bm)):Kf w w' bq bm s s:=⟨h.os,h.tape,h.output,h.size,λk a _ b _=>h.block k a λe=>b<|Z4 e,λk e=>.inl e⟩
def iG(x:List Int×List Int)(n:Int):List Int×List Int:=if x.2.contains n then x else(x.1++[n],x.2++[n])
def DC(b3 bq bm r:Nat)(s q met n)(f:zS w B bq s q)(o:bk w bm met)(hc:w r=U (.map<|U bm))(h3:w b3=U (Ξ Ψ<|-1))(P:0<=n)(Q:B<=w)(N:q.length<=1000000):
 Z9 prog 257 #[Ξ Ψ n,.pointer r,.pointer b3,.pointer bq] w λe w'=>e=.returned (.tuple #[])/\
  ∃s',zS w' B bq s' (iG (q,met) n).1/\bk w' bm (iG (q,met) n).2/\Kf w w' bq bm s s':=by
 have J:=V f;have G:=V o;have u:=λW=>ke (w:=W) (b:=bm) (l:=met) n;have i:=ke n o;by_cases m:n∈met
 ·have d:iG (q,met) n=(q,met):=by unfold iG;rw[if_pos (by simpa using m)]
  rw[d];have hd:decide (n∈met)=I:=by simpa using m
  rw[hd]at i;clear f o m d hd u
  go_enter (fU func257 rfl),ntmps257
  go_wp2
  go_end0;exact⟨rfl,s,J.out,G.out,Kf.bK<|Below.refl _ _⟩
 ·have d:iG (q,met) n=(q++[n],met++[n]):=by unfold iG;rw[if_neg (by simpa using m)]
  rw[d];have hd:decide (n∈met)=Y:=by simpa using m
  rw[hd]at i;have H:(n==-1)=Y:=by simp;omega
  obtain⟨F,K,k,h,qv⟩:=ki n o;have j:ml met n=met++[n]:=by unfold ml;rw[if_neg (by simpa using m)]
  rw[j]at k;have c:bq≠bm:=λe=>by obtain⟨O,y,hb,_⟩:=o;subst e;rw[f.1]at hb;cases hb
  have a:d6 s≠U bm:=λe=>by obtain⟨O,y,hb,_⟩:=o;obtain⟨_,_,L,x⟩:=f.2.lt e;rw[x]at hb;cases hb
  have p:zS F B bq s q:=⟨(h.block bq (R.1 f.1).1 λe=>c<|Z4 e).trans f.1,f.2.of_block λg E=>h.block g (f.2.lt E).2.1 λe=>a<|by rw[E,e]⟩;have A:=V p;have v:=V k;have C:=V h;have z:=V<|χ c a;clear f o m d hd u j k h p c a
  go_enter (fU func257 rfl),ntmps257
  go_wp2_with fail
  refine(afd _ B bq bq s q n A.out (by omega) N).mono ?_;rintro e S ⟨rfl,s',D,t⟩
  go_wp2_with fail
  go_end0;obtain⟨c,a⟩:=z.out;exact⟨rfl,s',D,v.out.of_block<|t.block bm v.out.lt c.symm c.symm a,(Kf.sC C.out).trans t.ye⟩
end
end Kn
