/- A part of the proof of GcWhole; no conditions. -/
import Derived.Test.YtbnmpafbfoaggaaGreatDoorU1
import Derived.Test.YtbnmpafbfoaggaaGreatDoorU0
import Derived.Laws.EntriesVeiled
import Derived.Deep.RegionHeldLaw
import Derived.StillTailTactics
import Derived.ArgAppend
import Derived.Maps.RangeRun
import Derived.Deep.AppendLies
import Derived.Below
set_option linter.defProp false
set_option linter.unusedVariables false
set_option linter.unusedSimpArgs false
set_option maxRecDepth 100000
set_option maxHeartbeats 16000000
noncomputable section
open Array renaming getElem?_eq_some_iff->Ω,getElem?_eq_getElem->ZI,toList_modify->Zs,toList_filter->Zr,toList_push->Zn,getElem?_setIfInBounds_ne->Zh,replicate->Zd,getElem?_eq_none->Y4
open Option renaming some->U,none->M
open Go.Lib renaming hid->I
open Go.World renaming cell?->Ψ,frozen?->ZZ,ownsRow_nil->Zp,setCell->Y5
open List renaming mem_of_getElem?->Ξ,getElem?_eq_some_iff->Θ,getElem?_take->φ,eq_nil_of_length_eq_zero->υ,mem_append_left->θ,getElem?_eq_getElem->η,length_cons->ζ,length_append->Z9,map_append->Z7,mem_iff_getElem?->Z3,pairwise_iff_getElem->Z1,flatMap_append->Z0,mem_append->ZY,replicate->ZU,range->ZR,all_eq_true->ZQ,getD->ZP,mem_cons_self->ZK,mem_range->ZJ,getElem?_append_left->ZH,nodup_append->ZG,map_cons->ZF,length_nil->ZB,getElem?_eq_none->Zy,mem_append_right->Zx,mem_cons_of_mem->Zw,mem_map->Zl,ext_getElem?->Zj,getElem?_map->Zi,idxOf_lt_length_of_mem->Y',getElem?_append_right->Y9,map->Y8,take_of_length_le->Y3,eraseIdx_sublist->YX,countP_replicate->YW,length_take_le->YU,mem_map_of_mem->YT,getElem_append->YS,pairwise_map->YP,flatMap_cons->YN,map_toArray->YM,getElem_mem->YK,nodup_nil->YE,map_nil->Yz
open Go.Obj renaming cells->Δ
open Go renaming World->Y,Value->ο,heap_alloc_new->ξ,run_underlying->Z8,Oper->ZX,Calls->ZV,Program->ZO,getD_set_ne->ZM,wpList->ZE,maxLen->ZA,run_append_arg_grows->Zo,leftOf->Zm,Act->Zk,callsIn_wide->Zb,mem_ready->Y7,info_parts->Y1,run_append_own->Y0,method->YZ,Exit->YV,wpOp_mono->YR,wpOp_step->YQ,TypeId->YO,ready_mono->YC,storeCells->YB
open Bool renaming true->V,false->Z,and_eq_true->ι,or_eq_true->YI
open Go.RowKit.Below renaming refl->Γ,heap_setCell->ψ,heap_alloc->ZT
open Go.IntKind renaming i64->ω
open Go.RowKit renaming Below->R
open Go.Value renaming int->χ,slice->κ,pointer->Y2,oneCell'->YF
open Go.Region renaming binds->μ,seqB->Z2,ready->ZW,Mode->ZS,lexHead->ZN,wanted->Zt,noSelect->Ze
open Go.Builtin renaming append_->ε,delete_->Zg,lenOf->YL,len_->YG
open Go.Result renaming andThen_ok->Z4
open Go.Sem renaming run_bind->ZL,run_pure->Zz,run->YY
open Go.Instr renaming typeAssert->ZD,mapUpdate->Zc,findNow->Y6,checkKey->YH,findKey->YD,lookup->YA
open Int renaming eq_ofNat_of_zero_le->ZC
open Go.Code renaming region->Zv
open Go.Addr renaming add->Zu
open Option.some renaming inj->Zq
open Ne renaming symm->Zf
open Go.Oper renaming wp->Za,semAt_some->YJ,wp_mono->Yy
namespace Go.Proofs.YtbnmpafbfoaggaaGreatDoor
open Go.Proofs.Tryz hiding prog
open Go.Proofs.aD
namespace Md
def pR:∀N (l:List Nat),l.Nodup->(∀x∈l,x<N) ->l.length<=N
 |0,l,_,h=>by
  obtain _|⟨a,l⟩:=l
  exact .refl;exact absurd (h a ZK)<|Nat.not_lt_zero _
 |N+1,l,hn,h=>by
  by_cases d:N∈l
  have c:=pR N (l.erase N) (hn.erase N) λx b=>by grind
  grind
  ·have:=pR N l hn λx b=>by grind
   omega
def zH(g:GH)(v:HV):Prop:=(v.1=3/\0<=v.2/\v.2<g.new.length)\/(v.1=4/\0<=v.2/\v.2<g.old.length)
def Wb(g:GH)(v:HV):Nat:=if v.1=3 then v.2.toNat else g.new.length+v.2.toNat
structure c9(g:GH)(mv:HV->Bool)(o:List HV):Prop where
 nodup:o.Nodup
 ok:∀v∈o,zH g v/\mv v=V
def c9.len{g i o}(h:c9 g i o):o.length<=g.new.length+g.old.length:=by
 have:=pR (g.new.length+g.old.length) (o.map<|Wb g) ?_ ?_;simpa using this;rw[List.Nodup,YP];refine h.nodup.imp_of_mem λ{a b} c hb d e=>d ?_;obtain⟨c,_⟩:=h.ok a c;obtain⟨hb,_⟩:=h.ok b hb;obtain⟨a1,p⟩:=a;obtain⟨n,q⟩:=b;unfold zH at c hb;unfold Wb at e
 grind
 intro x m;obtain⟨v,j,rfl⟩:=Zl.1 m;obtain⟨f,_⟩:=h.ok v j;unfold zH at f;unfold Wb;obtain⟨e,l,k⟩|⟨e,l,k⟩:=f
 rw[if_pos e];omega;rw[if_neg (by omega)];omega
def c9.nil(g b):c9 g b []:=⟨YE,λv a=>by cases a⟩
def c9.meet{g:GH}{d:HV->Bool}{o:List HV}{v:HV}(h:c9 g d o)(i:zH g v)(f:d v=V):c9 g d (meet o v):=by
 unfold Md.meet;split
 exact h;rename_i hc;refine⟨?_,λx c=>?_⟩;rw[ZG];refine⟨h.nodup,by simp,λa j b hb e=>?_⟩
 grind
 obtain c|c:=ZY.1 c
 ·exact h.ok x c
 grind
def c9.visit{g:GH}{a:HV->Bool}:∀{vs:List HV} {o:List HV},c9 g a o->(∀v∈vs,a v=V->zH g v) ->c9 g a (visit a o vs)
 |[],o,h,_=>h
 |v::vs,o,h,hv=>by
  have:Md.visit a o (v::vs)=Md.visit a (if a v then Md.meet o v else o) vs:=rfl;rw[this];refine c9.visit ?_ λx c=>hv x<|Zw _ c;split
  rename_i b;exact h.meet (hv v ZK b) b;exact h
def zI(g:GH)(v:HV):Prop:=co v=V->zH g v
def pY{g v}(h:mh g v=0):zI g v:=by
 intro hc;obtain⟨k,n⟩:=v;unfold co at hc;unfold zH;simp at hc;obtain rfl|rfl:=hc
 simp[mh,eO]at h;omega;simp[mh,eO]at h;omega
def uQ(mv:HV->Bool):Prop:=mv=dy\/mv=co
def uQ.cell{mv}(h:uQ mv){v}(a:mv v=V):co v=V:=by
 obtain rfl|rfl:=h
 unfold dy at a;unfold co;rw[a];rfl;omega
def jB(g:GH):Prop:=∀c∈g.new++g.old,∀v∈c.2,zI g v
def j9{g v}(h:zH g v):cellAt g v∈g.new++g.old:=by
 unfold cellAt;obtain⟨e,a,b⟩|⟨e,a,b⟩:=h
 grind
 grind
def c9.round{g a o}{k:Nat}{v}(h:c9 g a o)(c:uQ a)(hc:jB g)(d:o[k]?=U v):c9 g a (Md.visit a o (cellAt g v).2):=h.visit λx e b=>hc _ (j9 (h.ok v<|Ξ d).1) x e<|c.cell b
def c9.Dm{g:GH}{a:HV->Bool}(b:uQ a)(hc:jB g):∀(f k:Nat) {o:List HV},c9 g a o->c9 g a (Dm g a f k o)
 |0,k,o,h=>h
 |f+1,k,o,h=>by
  unfold Md.Dm;split
  exact h;rename_i v c;exact c9.Dm b hc f (k+1)<|h.round b hc c
def c9.bV{g:GH}{a:HV->Bool}{more:List HV}(b:uQ a)(hc:jB g)(hs:∀v∈cJ g,zI g v)(d:∀v∈more,zI g v):c9 g a (bV g a more):=c9.Dm b hc _ _ (((c9.nil g a).visit λv c e=>hs v c<|b.cell e).visit λv c e=>d v c<|b.cell e)
end Md
namespace Kn
open Go Go.RowKit Go.Shelf Md
section
attribute [local go_sem] YJ
structure RS(w W:Y)(f:Nat)(so:ο)(l:List HV):Prop where
 scan:bS W w (w.heap.size+1+1) (w.heap.size+1) so l
 c1:W.heap[w.heap.size]?=U (Δ #[.func (.func f) #[] #[]] 181 (0,0))
 c2:W.heap[w.heap.size+1+1+1]?=U (Δ #[.pointer (w.heap.size+1+1:Nat)] 106 (0,0))
 cf:W.heap[w.heap.size+1+1+1+1]?=U (Δ #[.func (.func 196) #[] #[.pointer w.heap.size,.pointer (w.heap.size+1+1+1:Nat)]] 232 (0,0))
 below:R w w W
section
variable{w W W':Y}{f:Nat}{so so':ο}{l l':List HV}
def RS.uR(h:RS w W f so l):wm w (w.heap.size+1+1) (w.heap.size+1) so:=h.scan.free h.c1 (by simp) (by simp)
def RS.uS(h:RS w W f so l):wm (w.heap.size+1+1+1) (w.heap.size+1+1) (w.heap.size+1) so:=h.scan.free h.c2 (by simp) (by simp)
def RS.IJ(h:RS w W f so l):wm (w.heap.size+1+1+1+1) (w.heap.size+1+1) (w.heap.size+1) so:=h.scan.free h.cf (by simp) (by simp)
def RS.IK(h:RS w W f so l):W w.heap.size=U (.func (.func f) #[] #[]):=by simp[Ψ,h.c1]
def RS.zJ(h:RS w W f so l):W (w.heap.size+1+1+1:Nat)=U (.pointer (w.heap.size+1+1:Nat)):=by simp[Ψ,h.c2]
def RS.zK(h:RS w W f so l):W (w.heap.size+1+1+1+1:Nat)=U (.func (.func 196) #[] #[.pointer w.heap.size,.pointer (w.heap.size+1+1+1:Nat)]):=by simp[Ψ,h.cf]
def RS.to(h:RS w W f so l)(hs:bS W' w (w.heap.size+1+1) (w.heap.size+1) so' l')(a:cz W W' (w.heap.size+1+1) (w.heap.size+1) so so'):RS w W' f so' l':=
 ⟨hs,(a.block _ (Ω.1 h.c1).1 h.uR.1 h.uR.2.1 h.uR.2.2).trans h.c1,(a.block _ (Ω.1 h.c2).1 h.uS.1 h.uS.2.1 h.uS.2.2).trans h.c2,
   (a.block _ (Ω.1 h.cf).1 h.IJ.1 h.IJ.2.1 h.IJ.2.2).trans h.cf,h.below.trans (a.below h.scan h.below.size)⟩
def RS.low(h:RS w W f so l)(a:R W W W'):RS w W' f so l:=h.to (h.scan.below a)<|cz.bK a
def RS.grown(h:RS w W f so l){row B}(u:w.heap.size+1<B)(i:W.grownBy W' row)(n:∀r,row=U r->B<=r/\∃o,W.heap[r]?=U o/\o.isCells=Z):RS w W' f so l:=by
 have a:∀(k:Nat) (b:Array ο) (t:YO) (fr:Nat×Nat),W.heap[k]?=U (.cells b t fr) ->W'.heap[k]?=W.heap[k]?:=λk b t fr m=>
  i.block k (Ω.1 m).1 (λe=>by
   obtain⟨_,o,c,hc⟩:=n k e.symm;rw[m]at c;cases c
   cases hc)
 obtain⟨q,p,hb,c,j⟩:=h.scan;refine⟨⟨q,p,(a _ _ _ _ hb).trans hb,aS c λg e=>?_,j.of_block (i.block _ j.lt λe=>?_)⟩,(a _ _ _ _ h.c1).trans h.c1,(a _ _ _ _ h.c2).trans h.c2,(a _ _ _ _ h.cf).trans h.cf,
  h.below.grown i h.below.size (λk e=>by have:=(n k e).1;omega)⟩
 obtain⟨_,⟨rfl,_⟩|⟨v,s,b,rfl,_,d,_⟩⟩:=c
 ·cases e
 cases e
 exact a _ _ _ _ d
 grind
def RS.keeps(h:RS w W f so l)(c:cz W W' (w.heap.size+1+1) (w.heap.size+1) so so'){B}(j:w.heap.size+1<B):KeepsFrom B W W':=
 ⟨c.size,λk o i a hc=>by
   refine(c.block k (Ω.1 a).1 (λe=>?_) (by omega) λe=>?_).trans a;subst e;rw[h.scan.2.2.1]at a;cases a
   cases hc
   obtain⟨_,⟨rfl,_⟩|⟨m,g,d,rfl,_,b,_⟩⟩:=h.scan.2.2.2.1
   ·cases e
   cases e
   rw[b]at a;cases a
   cases hc⟩
def RS.kps(h:RS w W f so l)(b:cz W W' (w.heap.size+1+1) (w.heap.size+1) so so'):tb w W W':=⟨b.below h.scan h.below.size,λk c fr e=>by have a:=h.scan.free e (by simp) (by simp);exact(b.block k (Ω.1 e).1 a.1 a.2.1 a.2.2).trans e⟩
end
def N9{g a k o}(h:o.length<=k):∀f,Dm g a f k o=o
 |0=>rfl
 |f+1=>by unfold Dm;rw[Zy h]
def IL{g a k N o v}(h:o[k]?=U v)(b:k<N+1):Dm g a (N+1-k) k o=Dm g a (N+1-(k+1)) (k+1) (visit a o (cellAt g v).2):=by rw[show N+1-k=(N+1-(k+1))+1 by omega,Dm,h]
def IM(w)(f b:Nat):RS w ((((((w.alloc (Δ #[.func (.func f) #[] #[]] 181)).alloc (.map #[] 0)).alloc (Δ #[κ M 0 0,.map (U (w.heap.size+1))] 112)).alloc (Δ #[.pointer (w.heap.size+1+1:Nat)] 106)).alloc
 (Δ #[.func (.func 196) #[] #[.pointer w.heap.size,.pointer (w.heap.size+1+1+1:Nat)]] 232)).alloc (Δ #[.pointer b] 104)) f (κ M 0 0) []:=by
 have push:∀(w:Y) (o:Obj) (k:Nat),k<w->(w.alloc o).heap[k]?=w.heap[k]?:=λw o k h=>ZT w o k h;refine⟨⟨by omega,by omega,?_,OV.nil _ _,⟨#[],0,?_,rfl⟩⟩,?_,?_,?_,?_⟩;rw[push _ _ _ (by simp),push _ _ _<|by simp,push _ _ _<|by simp];have:=ξ ((w.alloc<|Δ #[.func (.func f) #[] #[]] 181).alloc<|.map #[] 0)<|Δ #[κ M 0 0,.map<|U<|w.heap.size+1] 112;simpa using this;rw[push _ _ _ (by simp),push _ _ _<|by simp,push _ _ _<|by simp,push _ _ _<|by simp];have:=ξ (w.alloc<|Δ #[.func (.func f) #[] #[]] 181)<|.map #[] 0;simpa using this;rw[push _ _ _ (by simp;omega),push _ _ _ (by simp;omega),push _ _ _ (by simp;omega),push _ _ _ (by simp;omega),push _ _ _<|by simp];exact ξ w _;rw[push _ _ _ (by simp),push _ _ _<|by simp];have:=ξ (((w.alloc<|Δ #[.func (.func f) #[] #[]] 181).alloc<|.map #[] 0).alloc<|Δ #[κ M 0 0,.map<|U<|w.heap.size+1] 112)<|Δ #[.pointer (w.heap.size+1+1:Nat)] 106;simpa using this;rw[push _ _ _ (by simp)];have:=ξ ((((w.alloc<|Δ #[.func (.func f) #[] #[]] 181).alloc<|.map #[] 0).alloc<|Δ #[κ M 0 0,.map<|U<|w.heap.size+1] 112).alloc<|Δ #[.pointer (w.heap.size+1+1:Nat)] 106)<|Δ #[.func (.func 196) #[] #[.pointer w.heap.size,.pointer (w.heap.size+1+1+1:Nat)]] 232;simpa using this;exact(((((((Γ _ w).alloc .refl _).alloc (by simp) _).alloc (by simp;omega) _).alloc (by simp;omega) _).alloc (by simp;omega) _).alloc (by simp;omega) _)
end
end Kn
namespace Rg
open Go
section
variable{P:ZO}{ops:Array ZX}{Q:YV->Zk->Y->Prop}{md:ZS}{S:Y->Prop}{m:Nat}
def Any(P:ZO)(md:ZS)(ops:Array ZX)(Q:YV->Zk->Y->Prop)(S:Y->Prop)(m:Nat):Nat->Array Bool->Zk->Y->Prop
 |0,listed,a,w=>ZW md ops listed=[]/\Q .normal a w
 |f+1,listed,a,w=>(ZW md ops listed=[] ->Q .normal a w)/\∀i∈ZW md ops listed,wpOp P ops Q i (λa' w'=>(i<m->S w')/\Any P md ops Q S m f (listed.setIfInBounds i V) a' w') a w
def Any.out:∀{f} {listed} {a} {w},Any P md ops Q S m f listed a w->wpAny P md ops Q f listed a w
 |0,_,_,_,h=>h
 |f+1,_,_,_,h=>⟨h.1,λi hi=>YR (λ_ _ b=>b.2.out)<|h.2 i hi⟩
def fp(P:ZO)(ops:Array ZX)(S:Y->Prop)(L:Zk->Prop):List ZX->Zk->Prop
 |[],a=>L a
 |o::l,a=>∃v,YieldsIf P ops S o v a/\fp P ops S L l (a.put o.dst v)
def fp.nil{L a}(h:L a):fp P ops S L [] a:=h
def fp.step{L o l a v}(hw:Zt o (yielded ops a.tmps)=V)(b:∀w,S w->(execOp a.eval o).run P w=.ok (.value v) w)(h:fp P ops S L l (a.put o.dst v)):fp P ops S L (o::l) a:=⟨v,.inl ⟨hw,b⟩,h⟩
def Any.rest:∀l k listed a w,m<=k->(∀j,l[j]?=ops[k+j]?) ->Z2 md ops l.length k listed=V->ZE P ops Q l a w->Any P md ops Q S m l.length listed a w
 |[],_,_,_,_,_,_,hB,h=>⟨by simpa[Z2]using hB,h⟩
 |o::l,k,listed,a,w,hm,hl,hB,h=>by
  simp only[ζ,Z2,ι,decide_eq_true_eq]at hB;refine⟨λf=>(by grind),λi hi=>?_⟩;rw[hB.1]at hi;obtain rfl:i=k:=by simpa using hi
  have hw:wpOp P ops Q i (ZE P ops Q l) a w:=by unfold wpOp;simp only[(by simpa using (hl 0).symm)];exact h
  exact YR (λe d c=>⟨λb=>absurd b<|Nat.not_lt.2 hm,Any.rest l (i+1) _ e d (by omega) (λj=>by have:=hl<|j+1;simpa[Nat.add_assoc,Nat.add_comm 1 j]using this) hB.2 c⟩) hw
end
section
variable{P:ZO}{ops:Array ZX}{Q:YV->Zk->Y->Prop}{md:ZS}{S:Y->Prop}{m:Nat}
def pA(P:ZO)(ops:Array ZX)(Q:YV->Zk->Y->Prop)(S:Y->Prop)(K:Zk->Y->Prop):Nat->Nat->Zk->Y->Prop
 |0,_,a,w=>K a w
 |c+1,k,a,w=>wpOp P ops Q k (λa' w'=>S w'/\pA P ops Q S K c (k+1) a' w') a w
def pA.zero{K k a w}(h:K a w):pA P ops Q S K 0 k a w:=h
def pA.succ{K c k a w}(h:wpOp P ops Q k (λa' w'=>S w'/\pA P ops Q S K c (k+1) a' w') a w):pA P ops Q S K (c+1) k a w:=h
def Any.afK{K g}(b:∀listed a w,Z2 md ops g m listed=V->K a w->Any P md ops Q S m g listed a w):
 ∀c k listed a w,k+c=m->Z2 md ops (c+g) k listed=V->pA P ops Q S K c k a w->Any P md ops Q S m (c+g) listed a w
 |0,k,listed,a,w,hk,hB,h=>by
  obtain rfl:k=m:=by omega
  rw[Nat.zero_add]at hB⊢;exact b listed a w hB h
 |c+1,k,listed,a,w,hk,hB,h=>by
  rw[Nat.add_right_comm]at hB⊢;simp only[Z2,ι,decide_eq_true_eq]at hB;refine⟨λj=>(by grind),λi hi=>?_⟩;rw[hB.1]at hi;obtain rfl:i=k:=by simpa using hi
  exact YR (λf e d=>⟨λ_=>d.1,Any.afK b c (i+1) _ f e (by omega) hB.2 d.2⟩) h
end
section
variable{P:ZO}{ops:Array ZX}{Q:YV->Zk->Y->Prop}{md:ZS}{S:Y->Prop}{m:Nat}
def Down(md:ZS)(ops:Array ZX)(listed:Array Bool):Prop:=∀j oj,ops[j]?=U oj->listed.getD j Z=V->∀e∈oj.after,μ md e=V->listed.getD e.on Z=V
def aaC(md:ZS)(ops:Array ZX):Nat->Nat->Nat->Bool
 |0,_,_=>Z
 |f+1,j,i=>match ops[j]? with
  |some o=>(o.after.any λe=>μ md e&&e.on==i)||o.after.any λe=>μ md e&&aaC md ops f e.on i
  |none=>Z
theorem aaB{listed:Array Bool}(hd:Down md ops listed){i:Nat}:∀(f j:Nat) oj,ops[j]?=U oj->(∀e∈oj.after,μ md e=V->listed.getD e.on Z=V) ->aaC md ops f j i=V->listed.getD i Z=V
 |0,_,_,_,_,h=>by cases h
 |f+1,j,oj,hj,ha,h=>by
  simp only[aaC,hj,YI,Array.any_eq_true,ι,beq_iff_eq]at h;obtain⟨k,c,b,a⟩|⟨k,c,b,a⟩:=h
  grind
  have g:=ha _ (Array.getElem_mem c) b;cases f with
  |zero=>cases a
  |succ f=>
   cases ho:ops[oj.after[k].on]? with
   |none=>simp[aaC,ho]at a
   |some d=>exact aaB hd (f+1) _ d ho (λe b h3=>hd _ d ho g e b h3) a
def aaJ(md:ZS)(ops:Array ZX)(n m:Nat):Bool:=(ZR ops.size).all λj=>decide (j<m)||(ZR n).all λi=>aaC md ops ops.size j i
def aaD{listed:Array Bool}{j t}(h:listed.getD t Z=V):(listed.setIfInBounds j V).getD t Z=V:=by
 by_cases e:j=t
 subst e;have b:j<listed.size:=Nat.lt_of_not_le λa=>by simp[Y4 a]at h
 simp[b]
 simp_all
def Down.set{listed}(hd:Down md ops listed){j}(f:j∈ZW md ops listed):Down md ops (listed.setIfInBounds j V):=by
 intro t g c b e a hb;by_cases d:j=t
 subst d;obtain⟨_,h,u2,u3⟩:=Y7.1 f;rw[c]at u2;cases u2
 exact aaD<|u3 e a hb;rw[ZM Z d]at b;exact aaD<|hd t g c b e a hb
def Any.aaF{i o v}(hi:ops[i]?=U o)(s:i<m)(g:∀(j:Nat) o cs b,ops[j]?=U o->o.op≠.select cs b)(z:∀c a w,Q (.panic c) (a.put o.dst v) w->Q (.panic c) a w)(d:∀j k,ops[j]?=U k->m<=j->aaC md ops ops.size j i=V):
 ∀f listed a w,Down md ops listed->(∀j k,ops[j]?=U k->j≠i->listed.getD j V=Z->(∀e∈k.after,μ md e=V->e.on≠i) ->o.apart ops k=V) ->
  i∈ZW md ops listed->YieldsIf P ops S o v a->S w->Any P md ops Q S m f (listed.setIfInBounds i V) (a.put o.dst v) w->Any P md ops Q S m (f+1) listed a w
 |0,listed,a,w,hd,hfree,hr,hy,hS,H=>by
  refine⟨λh=>(by rw[h]at hr;cases hr),λj q=>?_⟩;by_cases e:j=i
  subst e;exact hy.wpOp hi hS ⟨λ_=>hS,H⟩;have l:=YC q e;rw[H.1]at l;cases l
 |f+1,listed,a,w,hd,hfree,hr,hy,hS,H=>by
  refine⟨λh=>(by rw[h]at hr;cases hr),λj q=>?_⟩;by_cases e:j=i
  subst e;exact hy.wpOp hi hS ⟨λ_=>hS,H⟩;obtain⟨u1,k,u2,u3⟩:=Y7.1 q;have u0:=(Y7.1 hr).1;have p:¬listed.getD i Z=V:=λl=>by
   obtain r|r:=Nat.lt_or_ge i listed.size
   simp[r]at u0 l;rw[u0]at l;cases l
   simp[Y4 r]at l
  have u:∀e∈k.after,μ md e=V->e.on≠i:=λe J hb h0=>by have l:=u3 e J hb;rw[h0]at l;exact p l
  refine YR (λF D h=>?_)<|wpOp_putIf u2 (hfree j k u2 e u1 u) (λcs b=>g i o cs b hi) (λcs b=>g j k cs b u2) z hy<|H.2 j<|YC q e;obtain⟨C,A,E⟩:=h;refine⟨A,Any.aaF hi s g z d f _ F D (hd.set q) (λt B t1 t2 x y=>?_) (YC hr<|Zf e) C (A<|Nat.lt_of_not_le λG=>p<|aaB hd _ j k u2 u3<|d j k u2 G) ?_⟩;by_cases n:t=j
  ·subst n;exact hfree t B t1 e u1 y
  rw[ZM V (Zf n)]at x;exact hfree t B t1 t2 x y;rw[Array.setIfInBounds_comm _ _ (e)];exact E
def Any.aaE{L n g w}(b:Ze ops=V)(u:∀c a (d:Option Nat) v w,Q (.panic c) (a.put d v) w->Q (.panic c) a w)(s:aaJ md ops n m=V)(i:n<=m)(t:S w)(e:∀listed a,Z2 md ops g n listed=V->L a->Any P md ops Q S m g listed a w):
 ∀l k listed a,Down md ops listed->(∀j,j<l.length->l[j]?=ops[k+j]?) ->k+l.length=n->ZN md ops g l.length k listed=V->fp P ops S L l a->Any P md ops Q S m (l.length+g) listed a w
 |[],k,listed,a,_,_,hk,hB,h=>by
  obtain rfl:k=n:=by simpa using hk
  simp only[ZB,Nat.zero_add];exact e listed a (by simpa[ZN]using hB) h
 |o::l,k,listed,a,hd,hlk,hk,hB,⟨v,hy,h⟩=>by
  have h0:ops[k]?=U o:=by simpa using (hlk 0<|by simp).symm
  simp only[ζ,ZN,ι]at hB;obtain⟨⟨y,x⟩,q⟩:=hB;have p:k<n:=by simp only[ζ]at hk;omega
  have f:k∈ZW md ops listed:=by simpa using y
  rw[ζ,Nat.add_right_comm];refine Any.aaF h0 (Nat.lt_of_lt_of_le p i) (Region.noSelect_spec b) (λc a w h=>u c a _ _ w h) (λj B r z=>?_) _ listed a w hd (Region.free_spec h0 x) f hy t ?_;have A:=ZQ.1 s j<|ZJ.2 (Ω.1 r).1
  grind
  exact Any.aaE b u s i t e l (k+1) _ _ (hd.set f) (λj r=>by have:=hlk (j+1) (by simp;omega);simpa[Nat.add_assoc,Nat.add_comm 1 j]using this) (by simp only[ζ]at hk;omega) q h
def aaH{id}(n c){l:List ZX}{a w}(S)(z:P.follows .mixedOrders=V)(r:(Ze l.toArray&&aaJ .any l.toArray n (n+c)&&ZN .any l.toArray (l.length-n) n 0 (Zd l.length Z)&&decide (n+c<=l.length))=V)(t:∀c a (d:Option Nat) v w,Q (.panic c) (a.put d v) w->Q (.panic c) a w)(A:S w.drew)(h:fp P l.toArray S (λa'=>pA P l.toArray Q S (ZE P l.toArray Q<|l.drop<|n+c) c n a' w.drew) (l.take n) a):(Zv id l.toArray V).wp P Q a w:=by
 simp only[ι,decide_eq_true_eq]at r;obtain⟨⟨⟨k,f⟩,i⟩,B⟩:=r;refine wp_region_any z ?_;have b:(l.take n).length=n:=by simp;omega
 have o:(l.drop<|n+c).length=l.length-(n+c):=by simp
 have q:=Any.aaE (P:=P) (md:=.any) (ops:=l.toArray) (Q:=Q) (S:=S) (m:=n+c) (n:=n) (g:=l.length-n) (w:=w.drew) k t f (by omega) A (L:=λa'=>pA P l.toArray Q S (ZE P l.toArray Q<|l.drop<|n+c) c n a' w.drew)
  (λlisted a' e h=>?_) (l.take n) 0 (Zd l.length Z) a (λj C y s=>?_) (λj p=>by rw[b]at p;simp[p]) (by simpa using b) (by rw[b];exact i) h
 have:=q.out;rw[b,show n+(l.length-n)=l.toArray.size by simp;omega]at this;simpa using this;have u:l.length-n=c+(l.length-(n+c)):=by omega
 rw[u]at e⊢;refine Any.afK (λlisted a w hs x=>?_) c n listed a' w.drew rfl e h;have:=Any.rest (P:=P) (md:=.any) (ops:=l.toArray) (Q:=Q) (S:=S) (m:=n+c) (l.drop<|n+c) (n+c) listed a w .refl (λj=>by simp[List.getElem?_drop]) (by rw[o];exact hs) x;rwa[o]at this;exfalso;have p:=(Ω.1 y).1;simp at p;simp[p]at s
def wp_cut{id n}{l:List ZX}{a w}(S)(b:P.follows .mixedOrders=V)(g:(Ze l.toArray&&aaJ .any l.toArray n (n+2)&&ZN .any l.toArray (l.length-n) n 0 (Zd l.length Z)&&decide (n+2<=l.length))=V)(i:∀c a (d:Option Nat) v w,Q (.panic c) (a.put d v) w->Q (.panic c) a w)(f:S w.drew)(h:fp P l.toArray S (λa'=>wpOp P l.toArray Q n (λa1 w1=>S w1/\wpOp P l.toArray Q (n+1) (λe w2=>S w2/\ZE P l.toArray Q (l.drop<|n+2) e w2) a1 w1) a' w.drew) (l.take n) a):(Zv id l.toArray V).wp P Q a w:=aaH n 2 S b g i f h
end
end Rg
namespace Kn
open Go Go.RowKit Go.Shelf Md
section
variable{w:Y}{B:Nat}
attribute [local go_sem] YJ
theorem zL(a:HV->Bool):∀(vs l:List HV),l.length<=(visit a l vs).length
 |[],l=>.refl
 |v::vs,l=>by
  have:=zL a vs (if a v then meet l v else l);have b:l.length<=(if a v then meet l v else l).length:=by
   split
   unfold meet;split<;>simp
   simp
  exact Nat.le_trans b this
def wn.jw{f a}(h:wn f a):uQ a:=by
 obtain⟨_,rfl⟩|⟨_,rfl⟩:=h
 exact .inl rfl;exact .inr rfl
def Wc(W:Y)(p q):eI (W.alloc<|Δ #[χ ω p,χ ω q] 50) (.slice W.heap.size 1 1) [(p,q)]:=by
 refine⟨_,1,rfl,.refl,by decide,λ_=>⟨W.heap.size,0,rfl,by simp,λi k n e=>?_⟩⟩;cases i with
 |zero=>simp_all
 |succ i=>simp at e
def IN{W bs bm so l}(h:bS W B bs bm so l):wm W bs bm so:=⟨λe=>by have:=h.Q4.1;omega,λe=>by have:=h.Q4.2;omega,λe=>by have:=(h.2.2.2.1.lt _ e).2;omega⟩
def Ps{W v so l d bs bm}(h:eI w v l)(hs:bS W w bs bm so d):Q5 v bs bm so:=λa n m e h0=>by
 obtain⟨f,g,rfl,_,_,c⟩:=h;cases e
 obtain⟨b,o,e,hb,_⟩:=c h0;cases e
 exact hs.low hb
def Dy{b:Nat}{g n o m row}(hb:w.heap[b]?=U (Δ #[n,o,row (0,0),row (0,1),row (0,2),m] 114 (0,0)))(J:RC w B n (cellsOf row 3 g.new))(H:RC w B o (cellsOf row 4 g.old))(h4:kD w B row g){p q}(hi:zH g (p,q))(K:g.new.length+g.old.length<=100000):∃x j ar l,row (p,q)=.slice ar (cellAt g (p,q)).2.length l/\w ((x:Nat),j*2)=U (χ ω (cellAt g (p,q)).1)/\
 w ((x:Nat),j*2+1)=U (.slice ar (cellAt g (p,q)).2.length l)/\eI w (.slice ar (cellAt g (p,q)).2.length l) (cellAt g (p,q)).2/\x<w/\
 ∀w1,R w w w1->ZV prog 199 #[.pointer b,.agg #[χ ω p,χ ω q]] w1 λe w'=>e=.returned (.pointer ((x:Nat),j*2))/\R w1 w1 w':=by
 have s:=(Ω.1 hb).1;obtain⟨e,r,G⟩|⟨e,r,G⟩:=hi
 dsimp only at e r G;subst e;obtain⟨i,rfl⟩:=ZC r;have hi:i<g.new.length:=by omega
 obtain⟨y,A,d⟩:=cQ hi;obtain⟨gn,t,rfl,_,k,D,_,u⟩:=J.cells (by rw[aT];omega);obtain⟨C,F⟩:=jx dW (λv=>χ ω v.1) (λv=>v.2) (λ_=>rfl) _ i _<|bH (row:=row) (kind:=3) d;obtain⟨z,E⟩:=J8 d;have a:=(h4.1 _ z).reads;rw[E]at a;dsimp only at a;obtain⟨ar,l,f,_⟩:=id a;rw[(by simp[cellAt,ZP,d]:cellAt g (3,(i:Int))=(y,A))];dsimp only;rw[f]at a;refine⟨gn,i,ar,l,f,u _ _ C,?_,a,k,λw1 h=>?_⟩;rw[<-f];exact u _ _ F;have c:w1 b=U (.slice gn g.new.length t):=by rw[h.cell (p:=⟨b,0,M⟩) s];simp[Ψ,hb,aT]
 exact zD w1 b gn g.new.length t i c hi (by omega);dsimp only at e r G;subst e;obtain⟨i,rfl⟩:=ZC r;have hi:i<g.old.length:=by omega
 obtain⟨y,A,d⟩:=cQ hi;obtain⟨gn,t,rfl,_,k,D,_,u⟩:=H.cells (by rw[aT];omega);obtain⟨C,F⟩:=jx dW (λv=>χ ω v.1) (λv=>v.2) (λ_=>rfl) _ i _<|bH (row:=row) (kind:=4) d;obtain⟨z,E⟩:=B1 d;have a:=(h4.1 _ z).reads;rw[E]at a;dsimp only at a;obtain⟨ar,l,f,_⟩:=id a;rw[(by simp[cellAt,ZP,d]:cellAt g (4,(i:Int))=(y,A))];dsimp only;rw[f]at a;refine⟨gn,i,ar,l,f,u _ _ C,?_,a,k,λw1 h=>?_⟩;rw[<-f];exact u _ _ F;have c:w1 (b,1)=U (.slice gn g.old.length t):=by rw[h.cell (p:=⟨b,1,M⟩) s];simp[Ψ,hb,aT]
 exact ol w1 b gn g.old.length t i c hi (by omega)
def EV{b g}(k:dm w B b g){p q}(hi:zH g (p,q))(d:g.new.length+g.old.length<=100000):∃a j ar c,w ((a:Nat),j*2)=U (χ ω (cellAt g (p,q)).1)/\
 w ((a:Nat),j*2+1)=U (.slice ar (cellAt g (p,q)).2.length c)/\eI w (.slice ar (cellAt g (p,q)).2.length c) (cellAt g (p,q)).2/\a<w/\
 ∀w1,R w w w1->ZV prog 199 #[.pointer b,.agg #[χ ω p,χ ω q]] w1 λe w'=>e=.returned (.pointer ((a:Nat),j*2))/\R w1 w1 w':=by
 obtain⟨n,o,m,row,l,hb,i,f,h3,h4⟩:=k;obtain⟨a,j,ar,c,_,h⟩:=Dy hb i f h4 hi d;exact⟨a,j,ar,c,h⟩
def po(f y)(L:wn f y)(w B b g more ms)(hg:dm w B b g)(hv:eI w more ms)(hc:jB g)(hs:∀v∈cJ g,zI g v)(hm:∀v∈ms,zI g v)(hml:ms.length<=100000)(hn:g.new.length+g.old.length<=100000)(hsl:(cJ g).length<=100000)(hvl:∀c∈g.new++g.old,c.2.length<=100000):
 ZV prog 150 #[.pointer b,.func (.func f) #[] #[],more] w λe w'=>(∃bs bm so,e=.returned (.pointer (bs:Nat))/\bS w' w bs bm so (bV g y ms))/\R w w w':=by
 have hmm:=@run_makeMap prog;have HG:=I hg;have HV:=I hv;have HS:=I hs;have HM:=I hm;clear hs hm;obtain⟨am,mm,rfl,_,_,_⟩:=hv;refine(Zb (n:=6)).1 ?_;refine callsIn_of_wp_marks (fU func150 rfl) rfl trivial ?_ rfl;simp only[ntmps150,List.size_toArray,ζ,ZB,Nat.reduceAdd,Nat.reduceSub,Array.replicate_succ,Array.replicate_zero,List.push_toArray,List.append_toArray,List.nil_append,List.cons_append]
 gi_wp2_with (refine⟨trivial,?_⟩;gi_at_call 198;refine(Zb.2<|II _ b).mono ?_;rintro e w' ⟨rfl,rfl⟩)
 clear hmm;have h0:=IM w f b;have hbg:((((((w.alloc (Δ #[.func (.func f) #[] #[]] 181)).alloc (.map #[] 0)).alloc (Δ #[κ M 0 0,.map (U (w.heap.size+1))] 112)).alloc (Δ #[.pointer (w.heap.size+1+1:Nat)] 106)).alloc
  (Δ #[.func (.func 196) #[] #[.pointer w.heap.size,.pointer (w.heap.size+1+1+1:Nat)]] 232)).alloc (Δ #[.pointer b] 104)) (w.heap.size+1+1+1+1+1:Nat)=U (.pointer b):=by go_simp
 have X:((((((w.alloc (Δ #[.func (.func f) #[] #[]] 181)).alloc (.map #[] 0)).alloc (Δ #[κ M 0 0,.map (U (w.heap.size+1))] 112)).alloc (Δ #[.pointer (w.heap.size+1+1:Nat)] 106)).alloc
  (Δ #[.func (.func 196) #[] #[.pointer w.heap.size,.pointer (w.heap.size+1+1+1:Nat)]] 232)).alloc (Δ #[.pointer b] 104)).heap.size=w.heap.size+1+1+1+1+1+1:=by simp
 generalize (((((w.alloc (Δ #[.func (.func f) #[] #[]] 181)).alloc (.map #[] 0)).alloc (Δ #[κ M 0 0,.map (U (w.heap.size+1))] 112)).alloc (Δ #[.pointer (w.heap.size+1+1:Nat)] 106)).alloc
  (Δ #[.func (.func 196) #[] #[.pointer w.heap.size,.pointer (w.heap.size+1+1+1:Nat)]] 232)).alloc (Δ #[.pointer b] 104)=w6 at h0 hbg X⊢
 have Z6:=I X;have N:w.heap.size+1<w6:=by omega
 have anh:w.heap.size<=w6:=by omega
 clear X;refine wpIn_rangeFunc_ownH rfl (by omega) (gf:=231) (lb:=#[.pointer (w.heap.size+1+1+1+1+1:Nat)]) rfl trivial (enters_of (fU func231 rfl) (by kernel_rfl) rfl)
  (wu 5 (by omega) b (w.heap.size+1+1+1+1+1) g w w6 h0.below hbg HG.out.reads) tb.trans (tb.book anh) (Γ _ _) (λ_=>rfl)
  (λF W=>∃so,RS w W f so<|visit y [] F) (λ_ _ _=>False)
  (λs A C row hs' hg' hr=>by obtain⟨so,h⟩:=hs';exact⟨so,h.grown N hg' hr⟩) (λ_ _ _ _ _ h _ _=>h) ⟨_,h0⟩
  (λx a' W=>∃Bx,W.heap[Bx]?=U (Δ #[χ ω x.1,χ ω x.2] 50 (0,0))/\a'={tmps:=#[.pointer b,.func (.func f) #[] #[],.slice am ms.length mm,undef,.pointer w.heap.size,undef,Y2 M,.pointer (w.heap.size+1+1+1:Nat),.pointer (w.heap.size+1+1+1+1:Nat),.pointer (Bx:Nat),undef,.map<|U<|w.heap.size+1,.agg #[κ M 0 0,.map<|U<|w.heap.size+1],.pointer (w.heap.size+1+1:Nat),.func (.func 196) #[] #[.pointer w.heap.size,.pointer (w.heap.size+1+1+1:Nat)],.pointer b,.func (.func 231) #[] #[.pointer (w.heap.size+1+1+1+1+1:Nat)],ns x,undef,undef,undef,undef,undef,undef,undef,undef,undef,undef,undef,undef,undef,undef,undef,undef,undef,undef,undef,undef,undef,undef,undef,undef,undef,undef,undef,undef,undef,undef,undef],defers:=[]})
  (λx a' s A C row hs' hg' hr=>by
    obtain⟨Bx,h1,h2⟩:=hs';refine⟨Bx,(hg'.block Bx (Ω.1 h1).1 λe=>?_).trans h1,h2⟩;obtain⟨_,o,ho,hc'⟩:=hr Bx e.symm;rw[h1]at ho;cases ho
    cases hc') ?assign ?body ?done ?stop
 case assign=>
  rintro l F ⟨p,q⟩ W K ⟨so,P⟩ H;unfold ns
  gi_wp2
  exact H _ _ ((KeepsOthers.alloc _ _).from _) ((tb.refl _ _).alloc P.below.size _) ⟨so,P.low<|af W _⟩ ⟨W.heap.size,ξ W _,rfl⟩
 case body=>
  rintro l F ⟨p,q⟩ a' W hl ⟨r,hr⟩ ⟨so,P⟩ ⟨Bx,S,rfl⟩ hlt;have cf:=P.zK;have x0:W (Bx:Nat)=U (χ ω p):=by simp[Ψ,S]
  have x1:W ((Bx:Nat),1)=U (χ ω q):=by simp[Ψ,S]
  have G:=I P;clear hr S P;unfold ns
  gi_wp2_with fail
  refine⟨trivial,?_⟩;have hb1:=af W<|Δ #[χ ω p,χ ω q] 50;have E:=G.out.low hb1;have am0:=lW y F [];simp only[ZB,Nat.zero_add]at am0;refine(CallsIn.inRound l<|Zb.2<|wo f y L _ w _ _ _ _ so _ (visit y [] F) [(p,q)] E.scan (Wc W p q) (λa n m e _=>by cases e;exact IN G.out.scan) E.IK E.uR E.zJ E.uS (by simp;omega)).mono ?_;rintro e W3 ⟨rfl,so3,hs3,ht3⟩
  gi_wp2_with fail
  have T:=(cz.bK (bs:=w.heap.size+1+1) (bm:=w.heap.size+1) (so:=so) hb1).trans ht3;have Js:visit y (visit y [] F) [(p,q)]=visit y [] (F++[(p,q)]):=by simp[visit]
  rw[Js]at hs3;exact⟨G.out.keeps T N,G.out.kps T,so3,G.out.to hs3 T⟩
 case done=>
  rintro D xs W hD rfl ⟨so,P⟩ H;have cf:=P.zK;have G:=I P;clear P
  gi_wp2_with fail
  refine⟨trivial,?_⟩;have am1:=lW y (cJ g) [];simp only[ZB,Nat.zero_add]at am1;refine(Zb.2<|wo f y L _ w _ _ _ _ so _ (visit y []<|cJ g) ms G.out.scan (HV.out.below<|G.out.below) (Ps HV.out G.out.scan) G.out.IK G.out.uR G.out.zJ G.out.uS<|by omega).mono ?_;rintro e W1 ⟨rfl,rs,hs1,ht1⟩;have E:=G.out.to hs1 ht1;have hK1:=(G.out.keeps ht1 N).same D _ hD H rfl;have c21:=E.zJ;have z:=I E;have HK:=I hK1;clear E hs1 ht1 H hK1 cf G;have O:=((c9.nil g y).visit (vs:=cJ g) λv hv S=>HS.out v hv<|L.jw.cell S).visit (vs:=ms) λv hv S=>HM.out v hv<|L.jw.cell S;have hR:bV g y ms=Dm g y (g.new.length+g.old.length+1-0) 0 (visit y (visit y []<|cJ g) ms):=rfl;generalize visit y (visit y []<|cJ g) ms=o1 at z O hR;have HR:=I hR;have HO:=I O;clear hR O
  gi_wp2_with fail
  clear c21
  gi_loopw [10] (λi wr=>∃k:Nat,∃so o,i=χ ω k/\k<=o.length/\Hid (bV g y ms=Dm g y (g.new.length+g.old.length+1-k) k o)/\Hid (RS w wr f so o)/\Hid (c9 g y o)/\Hid (wr.heap[D]?=U (.deferred<|U []))) (λi _=>g.new.length+g.old.length-(intOf i).toNat)
  case atStart=>exact⟨0,rs,o1,rfl,Nat.zero_le _,HR,z,HO,HK⟩
  case round=>
   clear z HO HK HR;obtain⟨k,so,o,rfl,hk,HR,z,HO,HK⟩:=hrel;have hol:=HO.out.len;have c2:=z.out.zJ;have hbs:=z.out.scan.2.2.1;obtain⟨aso,mso,hso,hle,_,_⟩:=aF z.out.scan.2.2.2.1;have c0:wr (w.heap.size+1+1:Nat)=U (.slice aso o.length mso):=by simp[Ψ,hbs,hso]
   clear hbs;by_cases hlt:k<o.length
   ·obtain⟨p,q,e1⟩:=ep hlt;subst hso;obtain⟨gs,cs,e,_⟩:=z.out.scan.2.2.2.1.form (by omega);obtain rfl:aso=U ⟨gs,0,M⟩:=by injection e
    clear e;obtain⟨d1,d2,_,_,_⟩:=OV.at_ z.out.scan.2.2.2.1 e1;obtain⟨hin,_⟩:=HO.out.ok _<|Ξ e1;have hcl:=hvl _<|j9 hin;obtain⟨bn,j,ar,mr,t1,t2,t3,t4,t5⟩:=EV HG.out hin hn;have cf:=z.out.zK;have J:=z.out.below;have HFV:=I<|Ps t3 z.out.scan;have HT3:=I t3;have HT5:=I t5;have E1:=I e1;clear e1 t3 t5 t1 hin;have hk0:(0:Int)<=(k:Int):=by omega
    have hk1:(k:Int)<(o.length:Int):=by omega
    gi_wp2_with fail
    refine wpIn_wide.2 ?_;have hbw:=(Γ wr wr).drew;refine wp_region_noPanic ?_;refine Rg.aaH 9 4 (λx=>x (w.heap.size+1+1+1+1:Nat)=U (.func (.func 196) #[] #[.pointer w.heap.size,.pointer (w.heap.size+1+1+1:Nat)])/\x (w.heap.size+1+1+1:Nat)=U (.pointer (w.heap.size+1+1:Nat))/\x (w.heap.size+1+1:Nat)=U (.slice gs o.length mso)/\x (gs,k*2)=U (χ ω p)/\x (gs,k*2+1)=U (χ ω q)) (by kernel_rfl) (by kernel_rfl) (λc a d v w h=>h) ⟨cf,c2,c0,d1,d2⟩ ?_;simp only[Nat.reduceAdd,List.take_succ_cons,List.take_zero,List.drop_succ_cons,List.drop_zero]
    iterate 9
     (refine Rg.fp.step (v:=?_) (by rfl) (λu hu=>?_) ?_
      rotate_left
      (obtain⟨hu0,hu1,hu2,hu3,hu4⟩:=hu
       go_simp
       try rfl))
    refine Rg.fp.nil<|Rg.pA.succ ?_;simp only[Act.put,List.setIfInBounds_toArray,List.set_cons_zero,List.set_cons_succ];refine YQ rfl λK H=>?_;go_simp;refine(HT5.out _<|J.trans<|hbw.mono J.size).mono ?_;rintro e w3 ⟨rfl,hb3⟩;have t:=hbw.trans<|hb3.mono<|by simp
    have q2:=((J.trans<|t.mono J.size).cell (p:=⟨bn,j*2+1,M⟩) t4).trans t2;have s3:=((z.out.low t).zK);have hz3:=t.size;have z0:=cG t cf<|az cf;have z1:=cG t c2<|az c2;have z2:=cG t c0<|az c0;have z3:=cG t d1<|az d1;have z4:=cG t d2<|az d2;refine H _ _ ⟨⟨z0,z1,z2,z3,z4⟩,Rg.pA.succ ?_⟩;clear H K;refine YQ rfl λK H=>?_;go_simp;refine H _ _ ⟨⟨z0,z1,z2,z3,z4⟩,Rg.pA.succ ?_⟩;clear H K;refine YQ rfl λK H=>?_;go_simp;refine H _ _ ⟨⟨z0,z1,z2,z3,z4⟩,Rg.pA.succ ?_⟩;clear H K;refine YQ rfl λK H=>?_;go_simp;refine H _ _ ⟨⟨z0,z1,z2,z3,z4⟩,Rg.pA.zero ?_⟩;clear H K z0 z1 z2 z3 z4
    go_wp2_with (go_at_call 196;refine(wo f y L _ w _ _ _ _ _ _ o (cellAt g (p,q)).2 (z.out.low t).scan (HT3.out.below<|J.trans<|t.mono J.size) HFV.out (z.out.low t).IK (z.out.low t).uR (z.out.low t).zJ (z.out.low t).uS<|by omega).mono ?_;rintro e w4 ⟨rfl,so4,hs4,ht4⟩;have H4:=I<|(z.out.low t).to hs4 ht4;have hK4:=(((z.out.low t).keeps ht4 N).same D _ hD (((t.block D (Ω.1 HK.out).1)).trans HK.out) rfl);have HK4:=I hK4;clear hK4;have s4:=H4.out.zK)
    refine NoPanic.normal ?_
    gi_wp2_with fail
    refine⟨⟨k+1,so4,visit y o (cellAt g (p,q)).2,by go_num,?_,I ?_,H4,I<|HO.out.round L.jw hc E1.out,HK4⟩,by simp[intOf];omega⟩;have:=zL y (cellAt g (p,q)).2 o;omega;rw[<-IL E1.out (by omega)];exact HR.out
   ·have hre:=HR.out;rw[N9 (by omega)]at hre;have HRE:=I hre;clear hre
    gi_wp2_with fail
    refine⟨by simp,.inl ⟨_,_,rfl,run_takeDeferred HK.out,?_⟩⟩;have Q:=z.out.grown (row:=U D) N (grownBy_putObj' wr D<|.deferred M) (λr e=>by cases e;exact⟨hD,_,HK.out,rfl⟩);have hsc:=Q.scan;rw[<-HRE.out]at hsc;exact⟨_,results_tmp rfl _ _ _,⟨w.heap.size+1+1,w.heap.size+1,so,rfl,hsc⟩,Q.below⟩
 case stop=>rintro D c F W _ _ h _;exact h.elim
end
end Kn
namespace Kn
open Go Go.RowKit Md
section
def ww(w:Y)(B:Nat)(KS:List HV)(row:HV->ο)(eT:HV->List HV):Prop:=(∀k∈KS,OV w B (row k)<|eT k)/\∀k∈KS,∀k'∈KS,k≠k'->Apart (row k) (row k')
def ww.step{w w' B b row eT k d}(h:ww w B b row eT)(f:k∈b)(j:w.grownBy w' (row k).ownBlock)(l:OV w' B (row k) d):ww w' B b row (λx=>if x=k then d else eT x):=by
 refine⟨λx c=>?_,h.2⟩;by_cases e:x=k
 grind
 simp only[e];exact aS (h.1 x c) λg a=>j.block g ((h.1 x c).lt g a).2 λi=>h.2 x c k f e g a i.symm
def ww.low{w w' B a row eT}(h:ww w B a row eT)(c:R w.heap.size w w'):ww w' B a row eT:=⟨λx b=>(h.1 x b).below c,h.2⟩
def fQ(f:List HV->List HV)(nj:HV->List HV)(KS:List HV)(i:Nat)(x:HV):List HV:=if x∈KS.take i then f (nj x)else nj x
def pZ{f a b i k}(m:b.Nodup)(e:b[i]?=U k):
 (λx=>if x=k then f (fQ f a b i k)else fQ f a b i x)=fQ f a b (i+1):=by
 funext x
 have n:k∉b.take i:=by
  intro l;obtain⟨j,d⟩:=Z3.1 l;have c:j<i:=by have:=(Θ.1 d).1;simp at this;omega
  rw[φ,if_pos c]at d;have h:=(Θ.1 d);have g:=(Θ.1 e);have:=(Z1.1 m) j i h.1 g.1 c;exact this<|h.2.trans g.2.symm
 unfold fQ;rw[bW e]
 grind
def xt{f a c i k}(n:c.Nodup)(m:c[i]?=U k):fQ f a c i k=a k:=by
 have d:k∉c.take i:=by
  intro l;obtain⟨j,e⟩:=Z3.1 l;have b:j<i:=by grind
  rw[φ,if_pos b]at e;have h:=(Θ.1 e);have g:=(Θ.1 m);have:=(Z1.1 n) j i h.1 g.1 b;exact this<|h.2.trans g.2.symm
 simp[fQ,d]
def BK{f a b k}(c:k∈b):fQ f a b b.length k=f (a k):=by simp[fQ,c]
def zM{f a b}:fQ f a b 0=a:=by rfl
def TC(w:Y)(B B0:Nat)(v:ο)(l:List (Int×ο)):Prop:=OC w B0 v l\/(RC w B v l/\∃a,v=.slice a l.length l.length)
def TC.rc{w B B0 v l}(h:TC w B B0 v l)(a:B<=B0):RC w B v l:=by
 obtain h|h:=h
 exact(h.less a).rc
 grind
def TC.low{w w' B B0 v l}(h:TC w B B0 v l)(a:R w.heap.size w w'):TC w' B B0 v l:=by
 obtain h|h:=h
 exact .inl<|h.below a;exact .inr ⟨h.1.low a,h.2⟩
section
variable{ops:Array ZX}{rest:List ZX}{o:ZX}{a:Zk}{w:Y}{Q:YV->Zk->Y->Prop}
def tL(m:o.guard=M)(s x)(E:o.op=.call {callee:=.builtin .append,args:=#[s,x],argTypes:=#[22,22]})(B B0 v l)(hs:a.eval s=v)(d:TC w B B0 v l)(ad c u)(G:u.2.oneCell'=V)(F:a.eval x=κ (U ad) 1 c)(C:w.cell? (ad.add 0)=U (χ ω u.1)/\w.cell? (ad.add 1)=U u.2)(K:l.length<=1000000000)(D:B0<=w.heap.size)(h:∀f w',OC w' B0 f (l++[u]) ->R B0 w w'->ZE prog ops Q rest (a.put o.dst f) w'):ZE prog ops Q (o::rest) a w:=by
 obtain d|⟨hrc,a0,rfl⟩:=d
 exact wh m s x E B0 v l hs d ad c u G F C K D λf w' r p _=>h f w' r p;obtain⟨J,hi,q,t,A⟩:=Y1 ni;refine wpList_append_grows w m s x 22 E 76 J _ 2 32 mF hi q t A rfl (by decide) a0 l.length l.length (l.flatMap dW) hs (λe=>?_) (su l) (λb e j H n=>?_) ad 1 c (dW u) F rfl (λj z i=>?_) (λz hz=>?_) (by omega) (by unfold ZA;omega) (by omega) λf w' r p=>?_;obtain⟨N,L,y,_,_,h3,_⟩:=hrc;cases y
 exact⟨h3 e,h3 e⟩;have h0:0<l.length:=by
  obtain h0|h0:=Nat.eq_zero_or_pos l.length
  have:=υ h0;subst this;simp at n;exact h0
 obtain⟨g,L,y,_,_,_,_,hc⟩:=hrc.cells h0;cases y
 cases e
 have:(⟨g,0,M⟩:Addr).add j=⟨g,j,M⟩:=by unfold Zu;split<;>simp_all
 rw[this];exact hc j H n
 ·match j,i with
  |0,i=>cases i;exact C.1
  |1,i=>cases i;exact C.2
  |j+2,i=>simp[dW]at i
 simp[dW]at hz;obtain rfl|rfl:=hz
 rfl;exact G;refine h f w' ?_<|(Γ B0 w).grown p D λk e=>by cases e
 have:w'.ownsRow B0 76 2 f (l++[u]).length ((l++[u]).flatMap dW):=by rw[Z0,Z9];simpa using (eV r D)
 exact this
end
def RC.take{w B a n m s l}(h:RC w B (.slice a n m) l)(hs:s<=l.length):RC w B (.slice a s s) (l.take s)/\(a=M->s=0):=by
 obtain⟨o,q,e,p,k,h3,h4⟩:=h;cases e
 have c:(l.take s).length=s:=by simp;omega
 refine⟨⟨a,s,by rw[c],by omega,by omega,λe=>by have:=h3 e;omega,λh0=>?_⟩,λe=>by have:=h3 e;omega⟩;obtain⟨g,b,rfl,f,j,i⟩:=h4 (by omega);refine⟨g,b,rfl,f,j,?_⟩;rw[c];have d:(l.take s).flatMap dW=(l.flatMap dW).take (s*2):=by rw[(by rw[<-Z0,List.take_append_drop]:l.flatMap dW=(l.take s).flatMap dW++(l.drop s).flatMap dW),<-(by rw[su,c]:((l.take s).flatMap dW).length=s*2),List.take_left]
 rw[d,<-i,List.take_take]
 congr 1
 omega
end
section
variable{stay:Nat}{w':Y}{J:Nat->Prop}{g:GH}
def bC(stay:Nat)(order:List HV):List HV:=(ZR stay).map (λi:Nat=>((4,(i:Int)):HV))++order
def rowsOf(g:GH)(row:HV->ο)(ks:List HV):List (Int×ο):=ks.map λk=>((cellAt g k).1,row k)
def fo(stay order):(bC stay order).length=stay+order.length:=by simp[bC]
def nk(g row a):(rowsOf g row a).length=a.length:=by simp[rowsOf]
def wy{row order}(h:stay<=g.old.length):(cellsOf row 4 g.old).take stay=(rowsOf g row<|bC stay order).take stay:=by
 apply Zj;intro i;rw[φ,φ];by_cases hi:i<stay
 rw[if_pos hi];obtain⟨p,q,e⟩:=cQ (by omega:i<g.old.length);rw[bH e];simp[rowsOf,bC,Zi,ZH,hi,cellAt,ZP,e]
 grind
def zN{row k order v}(h:order[k]?=U v):(rowsOf g row<|bC stay order).take (stay+(k+1))=(rowsOf g row<|bC stay order).take (stay+k)++[((cellAt g v).1,row v)]:=by
 rw[<-Nat.add_assoc];apply bW;have:(bC stay order)[stay+k]?=U v:=by unfold bC;rw[Y9 (by simp)];simpa using h
 simp[rowsOf,Zi,this]
def gB(stay:Nat)(order:List HV):List HV:=bC stay order++[(0,0),(0,2),(0,1)]
def sA{order k}(h:k∈bC stay order):(∃i,i<stay/\k=(4,(i:Int)))\/k∈order:=by
 obtain h|h:=ZY.1 h
 grind
 grind
def jC{order}(a:∀v∈order,zH g v){k}(h:k∈bC stay order):k.1≠0:=by
 obtain⟨i,_,rfl⟩|h:=sA h
 simp;obtain⟨e,_⟩|⟨e,_⟩:=a k h<;>omega
def IP{order}(hs:stay<=g.old.length)(a:∀v∈order,zH g v){k}(h:k∈bC stay order):zH g k:=by
 obtain⟨i,hi,rfl⟩|h:=sA h
 exact .inr ⟨rfl,by omega⟩
 grind
def IQ{order}(hs:stay<=g.old.length)(a:∀v∈order,zH g v){k}(h:k∈gB stay order):IsKey g k:=by
 obtain h|h:=ZY.1 h
 obtain h|h:=IP hs a h
 ·exact .inr<|.inl h
 exact .inr<|.inr h;simp at h;obtain rfl|rfl|rfl:=h
 exact .inl ⟨rfl,by decide,by decide⟩;exact .inl ⟨rfl,by decide,by decide⟩;exact .inl ⟨rfl,by decide,by decide⟩
def Kd{g:GH}{order}(f:order.Nodup)(d:(∀v∈order,v.1=3)\/stay=0):(bC stay order).Nodup:=by
 unfold bC;rw[ZG];refine⟨?_,f,λa h b hb e=>?_⟩;rw[List.Nodup,YP];refine(List.nodup_range).imp λ{i j} c e=>c ?_
 grind
 grind
def BL{order}(h:order.Nodup)(c:(∀v∈order,v.1=3)\/stay=0)(d:∀v∈order,zH g v):(gB stay order).Nodup:=by
 unfold gB;rw[ZG];refine⟨Kd (g:=g) h c,by decide,λa f b hb e=>?_⟩;have:=jC d f
 grind
def PU{w B row d}(h:kD w B row g)(b:∀k∈d,IsKey g k):ww w B d row (bd g):=⟨λk a=>h.1 k<|b k a,λk i e f c=>h.2 k e (b k i) (b e f) c⟩
def IR{order}(hs:stay<=g.old.length):g.old.take stay++order.map (cellAt g)=(bC stay order).map (cellAt g):=by
 unfold bC;rw[Z7]
 congr 1
 apply Zj;intro i;rw[φ];by_cases hi:i<stay
 rw[if_pos hi];obtain⟨p,q,e⟩:=cQ (by omega:i<g.old.length);simp[hi,cellAt,ZP,e];rw[if_neg hi];simp[hi]
def sB{order}(hs:stay<=g.old.length):(Md.move g order stay).old=(bC stay order).map λk=>B6 order stay (cellAt g k):=by show(g.old.take stay++order.map (cellAt g)).map (B6 order stay)=_;rw[IR hs,List.map_map];rfl
def cR(w:Y)(B b:Nat)(g:GH)(J:Nat->Prop):Prop:=∃n o m row,B<=b/\w.heap[b]?=U (Δ #[n,o,row (0,0),row (0,1),row (0,2),m] 114 (0,0))/\
 RC w B n (cellsOf row 3 g.new)/\RC w B o (cellsOf row 4 g.old)/\OI w B m g.marked/\kD w B row g/\∀j,J j->j≠b/\∀k,IsKey g k->(row k).ownBlock≠U j
def cR.own{w B b}(h:cR w B b g J):dm w B b g:=by obtain⟨n,o,m,row,d,hb,a,c,h3,h4,_⟩:=h;exact⟨n,o,m,row,d,hb,a,c,h3,h4⟩
def cR.wC{w B b}(h:dm w B b g)(l:∀j,J j->j<B):cR w B b g J:=by
 obtain⟨n,o,m,row,i,hb,f,d,h3,h4⟩:=h;refine⟨n,o,m,row,i,hb,f,d,h3,h4,λj c=>⟨λe=>?_,λk a e=>?_⟩⟩
 grind
 have:=l j c;have:=((h4.1 k a).lt j e).1;omega
def cR.below{w w' B b g J}(h:cR w B b g J)(a:R w.heap.size w w'):cR w' B b g J:=by obtain⟨n,o,m,row,f,hb,e,d,h3,h4,h5⟩:=h;exact⟨n,o,m,row,f,(a.block b (Ω.1 hb).1).trans hb,e.low a,d.low a,h3.below a,⟨λk c=>(h4.1 k c).below a,h4.2⟩,h5⟩
def IS{w B b order row v}(P:B<=b)(hb:w.heap[b]?=U (Δ #[κ M 0 0,v,row (0,0),row (0,1),row (0,2),κ M 0 0] 114 (0,0)))(O:RC w B v (rowsOf g row<|bC stay order))(D:ww w B (gB stay order) row (fQ (Y8<|lr order stay) (bd g) (gB stay order) (gB stay order).length))(X:(bC stay order).Nodup)(hs:stay<=g.old.length)(A:∀v∈order,zH g v)(E:∀j,J j->j≠b/\∀k∈gB stay order,(row k).ownBlock≠U j):cR w B b (Md.move g order stay) J:=by
 have n:∀k,k∈gB stay order->OV w B (row k) ((bd g k).map<|lr order stay):=λk h=>by have:=D.1 k h;rwa[BK h]at this
 have C:(0,0)∈gB stay order:=by simp[gB]
 have m1:(0,1)∈gB stay order:=by simp[gB]
 have m2:(0,2)∈gB stay order:=by simp[gB]
 have s:(Md.move g order stay).old.length=(bC stay order).length:=by rw[sB hs];simp
 have l:∀k,IsKey (Md.move g order stay) k->(∃i:Nat,i<(bC stay order).length/\k=(4,(i:Int)))\/k=(0,0)\/k=(0,1)\/k=(0,2):=by
  rintro⟨a,c⟩ (⟨o,x,h3⟩|⟨o,x,h3⟩|⟨o,x,h3⟩);dsimp only at o x h3;subst o;have:c=0\/c=1\/c=2:=by omega
  obtain rfl|rfl|rfl:=this<;>simp
  dsimp only at o x h3;have:(Md.move g order stay).new.length=0:=rfl;omega;dsimp only at o x h3;subst o;rw[s]at h3;exact .inl ⟨c.toNat,by omega,by simp;omega⟩
 obtain⟨f,d⟩:∃r:HV->ο,r=λk=>if k.1=4 then row ((bC stay order).getD k.2.toNat (0,0))else row k:=⟨_,rfl⟩
 have m:∀i:Nat,i<(bC stay order).length->∃k,(bC stay order)[i]?=U k/\f (4,(i:Int))=row k:=λi hi=>by obtain⟨k,e⟩:∃k,(bC stay order)[i]?=U k:=⟨_,η hi⟩;exact⟨k,e,by simp[d,ZP,e]⟩
 have N:f (0,0)=row (0,0):=by simp[d]
 have K:f (0,1)=row (0,1):=by simp[d]
 have G:f (0,2)=row (0,2):=by simp[d]
 clear d;refine⟨κ M 0 0,v,κ M 0 0,f,P,by rw[N,K,G];exact hb,?_,?_,OI.nil _ _,⟨?_,?_⟩,λj t=>⟨(E j t).1,λk y=>?_⟩⟩;exact⟨M,0,rfl,.refl,by simp[ZA],λ_=>rfl,λh=>absurd h<|Nat.lt_irrefl 0⟩;have e:cellsOf f 4 (Md.move g order stay).old=rowsOf g row (bC stay order):=by
  apply Zj;intro i;obtain hi|hi:=Nat.lt_or_ge i (bC stay order).length
  obtain⟨k,z,er⟩:=m i hi;have T:(Md.move g order stay).old[i]?=U (B6 order stay<|cellAt g k):=by rw[sB hs];simp[z]
  rw[bH T,er];simp[rowsOf,z,B6];rw[Zy (by rw[aT,s];exact hi),Zy (by rw[nk];exact hi)]
 rw[e];exact O
 ·intro k y;obtain⟨i,hi,rfl⟩|rfl|rfl|rfl:=l k y
  obtain⟨k,z,er⟩:=m i hi;rw[er];have S:=Ξ z;have hv:bd (Md.move g order stay) (4,(i:Int))=(bd g k).map (lr order stay):=by simp[bd,jC A S,cellAt,ZP,sB hs,z,B6]
  rw[hv];exact n k<|θ _ S;rw[N];exact n _ C;rw[K];exact n _ m1;rw[G];exact n _ m2
 ·intro k W o x u;obtain⟨i,hi,rfl⟩|rfl|rfl|rfl:=l k o<;>obtain⟨j,t,rfl⟩|rfl|rfl|rfl:=l W x
  obtain⟨p,F,er⟩:=m i hi;obtain⟨q,eq,Q⟩:=m j t;rw[er,Q];refine D.2 p (θ _<|Ξ F) q (θ _<|Ξ eq) λe=>u ?_;subst e;have L:=Θ.1 F;have H:=Θ.1 eq;have:=Z1.1 X;obtain h|h|h:=Nat.lt_trichotomy i j
  exact absurd (L.2.trans H.2.symm)<|this i j L.1 H.1 h;rw[h];exact absurd (H.2.trans L.2.symm)<|this j i H.1 L.1 h
  all_goals (try rw[N])
  all_goals (try rw[K])
  all_goals (try rw[G])
  all_goals first
   |exact absurd rfl u
   |(obtain⟨p,F,er⟩:=m i hi
     rw[er];exact D.2 p (θ _ (Ξ F)) _ (by first|exact C|exact m1|exact m2) (λe=>by have:=jC A (Ξ F);rw[e]at this;exact this rfl))
   |(obtain⟨q,eq,Q⟩:=m j t
     rw[Q];exact D.2 _ (by first|exact C|exact m1|exact m2) q (θ _ (Ξ eq)) (λe=>by have:=jC A (Ξ eq);rw[<-e]at this;exact this rfl))
   |exact D.2 _ (by first|exact C|exact m1|exact m2) _ (by first|exact C|exact m1|exact m2) u
 obtain⟨i,hi,rfl⟩|rfl|rfl|rfl:=l k y
 ·obtain⟨k,z,er⟩:=m i hi;rw[er];exact(E j t).2 k<|θ _<|Ξ z
 rw[N];exact(E j t).2 _ C;rw[K];exact(E j t).2 _ m1;rw[G];exact(E j t).2 _ m2
def qb(w w':Y):Prop:=∀(j:Nat) c,w.heap[j]?=U (.cells c 131 (0,0)) ->w'.heap[j]?=w.heap[j]?
def qb.trans{w w1 w2}(b:qb w w1)(d:qb w1 w2):qb w w2:=λj c a=>(d j c<|(b j c a).trans a).trans<|b j c a
def qb.bK{w}(h:R w.heap.size w w'):qb w w':=λj c a=>h.block j (Ω.1 a).1
def qb.sC{w x}(h:w.grownBy w' x)(d:∀g,x=U g->∃a,w.heap[g]?=U (.cells a 50 (0,0))):qb w w':=λj c b=>h.block j (Ω.1 b).1 λe=>by grind
def qb.IT{w}{b:Nat}{c0}(hb:w.heap[b]?=U (.cells c0 114 (0,0)))(h:∀k,k≠b->w'.heap[k]?=w.heap[k]?):qb w w':=λj c a=>h j λe=>by grind
structure MS(w W:Y)(B b bs bm:Nat)(order:List HV)(v:ο)(L:List (Int×ο))(KS:List HV)(row:HV->ο)(eT:HV->List HV):Prop where
 below:R B w W
 rc:RC W B v L
 kr:ww W B KS row eT
 hb:W.heap[b]?=w.heap[b]?
 hs:W.heap[bs]?=w.heap[bs]?/\qb w W/\∀j,j<w.heap.size->j≠b->(∀k∈KS,(row k).ownBlock≠U j) ->W.heap[j]?=w.heap[j]?
 met:jA W bm order
def MS.low{w W g B b bs bm order v L f row eT}(h:MS w W B b bs bm order v L f row eT)(a:R W.heap.size W g)(k:B<=W.heap.size)(c:b<W.heap.size)(d:bs<W.heap.size):MS w g B b bs bm order v L f row eT:=⟨h.below.trans<|a.mono k,h.rc.low a,h.kr.low a,(a.block b c).trans h.hb,⟨(a.block bs d).trans h.hs.1,h.hs.2.1.trans<|qb.bK a,λj e i h3=>(a.block j<|Nat.lt_of_lt_of_le e h.below.size).trans<|h.hs.2.2 j e i h3⟩,h.met.of_block<|a.block bm h.met.lt⟩
def MS.rename{w W q B b bs bm order v L o row eT k s c1 c2}(h:MS w W B b bs bm order v L o row eT)(m:k∈o)(f:W.grownBy q (row k).ownBlock)(z:OV q B (row k) s)(hb:w.heap[b]?=U (.cells c1 114 (0,0)))(hs:w.heap[bs]?=U (.cells c2 112 (0,0)))(C:B<=W.heap.size):MS w q B b bs bm order v L o row (λx=>if x=k then s else eT x):=by
 have a:∀g,(row k).ownBlock=U g->∃d,W.heap[g]?=U (.cells d 50 (0,0)):=λg e=>by obtain⟨_,⟨p,_⟩|⟨D,y,d,p,_,i,_⟩⟩:=h.kr.1 k m;rw[p]at e;cases e;rw[p]at e;cases e;exact⟨d,i⟩
 have l:=h.hb.trans hb;have n:=h.hs.1.trans hs;refine⟨h.below.grown f C λg e=>(h.kr.1 k m).lt g e|>.1,h.rc.below λg d i=>f.block g (Ω.1 i).1 λe=>?_,h.kr.step m f z,(f.block b (Ω.1 l).1 λe=>?_).trans h.hb,⟨(f.block bs (Ω.1 n).1 λe=>?_).trans h.hs.1,h.hs.2.1.trans (qb.sC f a),λj r t h3=>(f.block j (Nat.lt_of_lt_of_le r h.below.size) λe=>h3 _ m e.symm).trans (h.hs.2.2 j r t h3)⟩,
  h.met.of_block (f.block bm h.met.lt λe=>?_)⟩
 grind
 obtain⟨c,hc⟩:=a b e.symm;rw[l]at hc;cases hc
 grind
 obtain⟨c,hc⟩:=a bm e.symm;obtain⟨E,u,A,_⟩:=h.met;rw[A]at hc;cases hc
end
def qd{W B b v l c t fr}(d:OV W B v l)(hb:W.heap[b]?=U (.cells c t fr))(i:t≠50):v.ownBlock≠U b:=by
 intro e;obtain⟨_,⟨rfl,_⟩|⟨g,f,a,rfl,_,h,_⟩⟩:=d;cases e
 cases e
 grind
def IU{w B v a l}(h:v=a)(k:OV w B v l):OV w B a l:=h▸k
def BM(w B b Bs bs bm so g mv order stay){J}(hg:cR w B b g J)(hs:bS w Bs bs bm so order)(S:c9 g mv order)(hst:(stay=g.old.length/\∀v∈order,v.1=3)\/stay=0)(hB:B<=w)(hn:g.new.length+g.old.length<=1000)(hvl:∀c∈g.new++g.old,c.2.length<=100000)(hr:g.roots.length<=100000)(hwl:g.aA.length<=100000)(hdl:g.done.length<=100000):
 ZV prog 191 #[.pointer b,.pointer bs,χ ω stay] w λe w'=>e=.returned (.tuple #[])/\cR w' B b (Md.move g order stay) J/\R B w w'/\w'.heap[bs]?=w.heap[bs]?/\qb w w'/\∀j,J j->j<w->w'.heap[j]?=w.heap[j]?:=by
 have HG:=I hg;have HS:=I hs;have HO:=I S;obtain⟨n,o,m,row,hBb,hb,h1,h2,h3,h4,h5⟩:=hg;have HJ:=I h5;clear h5;have hol:=S.len;have f:stay<=g.old.length:=by obtain⟨h,_⟩|h:=hst<;>omega
 have hbl:=(Ω.1 hb).1;have hc1:w (b,1)=U o:=by simp[Ψ,hb]
 have hcs0:w bs=U so:=by simp[Ψ,hs.2.2.1]
 have am4:=hs.Q4.1;obtain⟨as0,ms0,hso,hsm,aar,_⟩:=aF hs.2.2.2.1;unfold ZA at aar;obtain⟨ao,mo,ho,hm1,hm2,Fw,_⟩:=id h2;rw[aT]at ho hm1;subst ho;subst hso;obtain⟨htk,F⟩:=h2.take (s:=stay) (by rw[aT];exact f);rw[wy (order:=order) f]at htk;have ae4:TC w B w (.slice ao stay stay) ((rowsOf g row<|bC stay order).take<|stay+0):=.inr ⟨htk,ao,by simp[rowsOf,bC]⟩;have ae5:=I ae4;have HB:=I hb;have HR:=I h4;have HM2:=I hm2;have H1:=I h1;have H2:=I h2;have HM3:=I Fw;have HNo:=I F;have hk0:(0:Int)<=(stay:Int):=by omega
 have hk1:(stay:Int)<=(mo:Int):=by omega
 have hk2:(stay:Int)<=(stay:Int):=by omega
 have hmo:mo<=9223372036854775807:=by unfold ZA at hm2;exact hm2
 obtain⟨r0,r1,r2⟩:=h4.roots;obtain⟨a0,m0,hr0,_⟩:=aF r0;obtain⟨a1,m1,hr1,_⟩:=aF r1;obtain⟨a2,m2,hr2,_⟩:=aF r2;have HR0:=I hr0;have HR1:=I hr1;have HR2:=I hr2;clear hb h1 h2 h3 h4 htk ae4 hs S hm2 Fw F hr0 hr1 hr2 r0 r1 r2
 go_enter (fU func191 rfl),ntmps191
 go_wp2_with fail
 go_loopw [6,26] (λv i wr=>∃k:Nat,k<=order.length/\i=χ ω k/\TC wr B w v ((rowsOf g row<|bC stay order).take<|stay+k)/\R w w wr) (λ_ i _=>order.length-(intOf i).toNat)
 case atStart=>exact⟨0,Nat.zero_le _,rfl,ae5.out,Γ _ _⟩
 case round=>
  obtain⟨k,N,rfl,L,a⟩:=hrel;clear hc1 hcs0;by_cases r:k<order.length
  ·obtain⟨p,q,e1⟩:=ep r;obtain⟨gs,cs,e,_⟩:=HS.out.2.2.2.1.form (by omega);obtain rfl:as0=U ⟨gs,0,M⟩:=by injection e
   clear e;obtain⟨d1,d2,_,_,hgl⟩:=OV.at_ HS.out.2.2.2.1 e1;obtain⟨A,_⟩:=HO.out.ok _<|Ξ e1;obtain⟨bn,j,ar,mr,t0,t1,t2,t3,t4,t5⟩:=Dy HB.out H1.out H2.out HR.out A (by omega);have HT0:=I t0;clear t0;have f1:=cG a d1 hgl;have f2:=cG a d2 hgl;have HT1:=I t1;have HT2:=I t2;have HT5:=I t5;have E1:=I e1;have HTC:=I L;have hz:=a.size;clear t1 t2 t3 t5 e1 L d1 d2 A
   go_wp2_with fail
   refine(HT5.out _<|a.trans<|(af wr _).mono hz).mono ?_;rintro e w3 ⟨rfl,hb3⟩;have hB3:=a.trans<|((af wr<|Δ #[χ ω p,χ ω q] 50).mono hz).trans<|hb3.mono (by simp;omega);have q1:=cG hB3 HT1.out t4;have q2:=cG hB3 HT2.out t4;clear f1 f2;have hcl:=hvl _<|j9 (HO.out.ok _<|Ξ E1.out).1;have hz3:=hB3.size;have H:((rowsOf g row<|bC stay order).take<|stay+k).length<=1000000000:=by have:=YU (stay+k)<|rowsOf g row<|bC stay order;omega
   go_wp2_with (at_builtin;refine tL rfl _ _ rfl B w _ _ rfl (HTC.out.low<|((af wr<|Δ #[χ ω p,χ ω q] 50).trans<|hb3.mono<|by simp).alloc (by have:=hb3.size;simp at this;omega) _) w3.heap.size _ ((cellAt g (p,q)).1,.slice ar (cellAt g (p,q)).2.length mr) rfl rfl (by simp[go_sem,Zu]) H (by simp;omega) ?_;intro v' w5 Pk hb5)
   go_wp2_with fail
   go_roundw
   case rel=>exact⟨k+1,by omega,by go_num,.inl (by rw[zN E1.out,HT0.out];exact Pk),(hB3.alloc hz3 _).trans hb5⟩
   case measure=>simp[intOf];omega
  ·have O:k=order.length:=by omega
   subst O;obtain⟨w1,hw1⟩:∃w1,w1=wr:=⟨_,rfl⟩;subst hw1;have T:(rowsOf g row<|bC stay order).take (stay+order.length)=rowsOf g row (bC stay order):=Y3 (by rw[nk,fo];exact .refl);rw[T]at L;have hrc:=L.rc hB;clear L T ae5;have WJ:(rowsOf g row<|bC stay order).length=stay+order.length:=by rw[nk,fo]
   obtain⟨av,G,hv,hvm,arm,_,_⟩:=id hrc;rw[WJ]at hv hvm;subst hv;have A:∀v∈order,zH g v:=λv hv=>(HO.out.ok v hv).1;have K:(∀v∈order,v.1=3)\/stay=0:=hst.elim (λh=>.inl h.2) .inr;have hND:=Kd (g:=g) (stay:=stay) HO.out.nodup K;have hKN:=BL (g:=g) (stay:=stay) HO.out.nodup K A;have hms:MS w w1 B b bs bm order (.slice av (stay+order.length) G) (rowsOf g row<|bC stay order) (gB stay order) row (fQ (Y8<|lr order stay) (bd g) (gB stay order) 0):=by rw[zM];exact⟨a.mono hB,hrc,(PU HR.out λk N=>IQ f A N).low a,a.block b hbl,⟨a.block bs am4,qb.bK a,λj h1 _ _=>a.block j h1⟩,HS.out.2.2.2.2.of_block<|a.block bm HS.out.Q4.2⟩
   have hzw:=a.size;have HMS:=I hms;have HND:=I hND;have z:=I hKN;have Q:=I A;have ae7:=I WJ;clear hrc hms hND hKN A WJ r a hst K
   go_wp2_with fail
   go_loopw [41] (λi wr=>∃k:Nat,k<=stay+order.length/\i=χ ω k/\w1.heap.size<=wr/\Hid (MS w wr B b bs bm order (.slice av (stay+order.length) G) (rowsOf g row<|bC stay order) (gB stay order) row<|fQ (Y8<|lr order stay) (bd g) (gB stay order) k)) (λi _=>stay+order.length-(intOf i).toNat)
   case atStart=>exact⟨0,Nat.zero_le _,rfl,.refl,HMS⟩
   case round=>
    obtain⟨k,N,rfl,hzx,u⟩:=hrel;clear HMS;by_cases r:k<stay+order.length
    ·obtain⟨d,ek⟩:∃d,(bC stay order)[k]?=U d:=⟨_,η (by rw[fo];exact r)⟩;have eK:(gB stay order)[k]?=U d:=by unfold gB;rw[ZH (by rw[fo];exact r)];exact ek
     have eL:(rowsOf g row<|bC stay order)[k]?=U ((cellAt g d).1,row d):=by simp[rowsOf,ek]
     obtain⟨f1,f2⟩:=jx dW (λv=>χ ω v.1) (λv=>v.2) (λ_=>rfl) _ k _ eL;obtain⟨gv,mv2,e,_,hgv,_,_,hx⟩:=u.out.rc.cells (by rw[ae7.out];omega);rw[ae7.out]at e;obtain rfl:av=U ⟨gv,0,M⟩:=by injection e
     clear e;have c1:=hx _ _ f1;have c2:=hx _ _ f2;have t:=Ξ eK;have x:=u.out.kr.1 d t;rw[xt z.out eK]at x;have hkl:(bd g d).length<=100000:=by have hmk:=Ξ ek;have h1:=jC Q.out hmk;have h2:=hvl _<|j9<|IP f Q.out hmk;simpa[bd,h1]using h2
     obtain⟨ar,mr,l,_⟩:=aF x;rw[l]at c2;have HOV:=I x;have C:=I l;have EK:=I eK;clear hx f1 f2 x l eL ek eK;have hbx:b<wr:=by omega
     have hsx:bs<wr:=by omega
     have hBx:B<=wr:=by omega
     have hal:=u.out.low (af wr<|Δ #[χ ω (cellAt g d).1,.slice ar (bd g d).length mr] 76) hBx hbx hsx
     go_wp2_with fail
     refine(uO _ B bs bm _ (.slice as0 order.length ms0) (bd g d) order stay (IU C.out (by have:=hal.kr.1 d t;rwa[xt z.out EK.out]at this)) (hal.hs.1.trans HS.out.2.2.1) hal.met (by omega) (by omega) (by omega)<|by omega).mono ?_;rintro e w4 ⟨rfl,P,D⟩
     go_wp2_with fail
     refine⟨⟨k+1,by omega,by go_num,?_,I ?_⟩,by simp[intOf];omega⟩;have:=D.size;simp at this;omega;rw[<-pZ z.out EK.out];have:=hal.rename t (by rw[C.out];exact D) (IU C.out.symm P) HB.out HS.out.2.2.1 (by simp;omega);rw[xt z.out EK.out];exact this
    ·have O:k=stay+order.length:=by omega
     subst O;have a:=u.out.hb.trans HB.out;have e2:wr (b,2)=U (.slice a0 g.roots.length m0):=by simp[Ψ,a,HR0.out]
     have e3:wr (b,3)=U (.slice a1 g.aA.length m1):=by simp[Ψ,a,HR1.out]
     have e4:wr (b,4)=U (.slice a2 g.done.length m2):=by simp[Ψ,a,HR2.out]
     have hbx:b<wr:=by omega
     have hsx:bs<wr:=by omega
     have hBx:B<=wr:=by omega
     clear a
     go_wp2_with fail
     go_region_held3 (λw'=>w' (b,2)=U (.slice a0 g.roots.length m0)/\w' (b,3)=U (.slice a1 g.aA.length m1)/\w' (b,4)=U (.slice a2 g.done.length m2)) (go_keep) (fail)
     go_wp2_with fail
     clear e2 e3 e4;have BP:R wr wr ((wr.alloc<|Δ #[.slice a0 g.roots.length m0,.slice a2 g.done.length m2,.slice a1 g.aA.length m1] 23).drew):=(af wr _).drew;have Jt:((wr.alloc<|Δ #[.slice a0 g.roots.length m0,.slice a2 g.done.length m2,.slice a1 g.aA.length m1] 23).drew).heap[wr.heap.size]?=U (Δ #[.slice a0 g.roots.length m0,.slice a2 g.done.length m2,.slice a1 g.aA.length m1] 23 (0,0)):=ξ wr _;have hM9:=u.out.low BP hBx hbx hsx;have hz9:=BP.size;generalize (wr.alloc _).drew=w9 at BP Jt hM9 hz9⊢;have hL:∀j:Nat,j<3->∃aj mj d,(gB stay order)[stay+order.length+j]?=U d/\row d=.slice aj (bd g d).length mj/\(bd g d).length<=100000/\
      (∀X:Y,X.heap[wr.heap.size]?=U (Δ #[.slice a0 g.roots.length m0,.slice a2 g.done.length m2,.slice a1 g.aA.length m1] 23 (0,0)) ->X (wr.heap.size,j)=U (.slice aj (bd g d).length mj)):=by
      have hat:∀j:Nat,(gB stay order)[stay+order.length+j]?=([(0,0),(0,2),(0,1)]:List HV)[j]?:=λj=>by unfold gB;rw[Y9 (by rw[fo];omega),fo,Nat.add_sub_cancel_left]
      intro j E
      match j,E with
      |0,_=>exact⟨a0,m0,(0,0),hat 0,HR0.out,hr,λX e=>by simp[Ψ,e];rfl⟩
      |1,_=>exact⟨a2,m2,(0,2),hat 1,HR2.out,hdl,λX e=>by simp[Ψ,e];rfl⟩
      |2,_=>exact⟨a1,m1,(0,1),hat 2,HR1.out,hwl,λX e=>by simp[Ψ,e];rfl⟩
     have HL:=I hL;have HM9:=I hM9;have HX9:=I Jt;have aro:wr.heap.size<w9:=(Ω.1 Jt).1;obtain⟨W2,hW2⟩:∃W2,W2=wr:=⟨_,rfl⟩;subst hW2;clear hL hM9 Jt BP u
     go_loopw [68] (λi wr=>∃k:Nat,k<=3/\i=χ ω k/\w9.heap.size<=wr/\Hid (wr.heap[W2.heap.size]?=U (Δ #[.slice a0 g.roots.length m0,.slice a2 g.done.length m2,.slice a1 g.aA.length m1] 23 (0,0)))/\Hid (MS w wr B b bs bm order (.slice av (stay+order.length) G) (rowsOf g row<|bC stay order) (gB stay order) row<|fQ (Y8<|lr order stay) (bd g) (gB stay order)<|stay+order.length+k)) (λi _=>3-(intOf i).toNat)
     case atStart=>exact⟨0,Nat.zero_le _,rfl,.refl,HX9,HM9⟩
     case round=>
      obtain⟨k,N,rfl,hzx,HXr,u⟩:=hrel;clear HM9 HX9;by_cases r:k<3
      ·obtain⟨aj,mj,d,eK,l,hkl,hcx⟩:=HL.out k r;have c1:=hcx wr HXr.out;have t:=Ξ eK;have x:=u.out.kr.1 d t;rw[xt z.out eK,l]at x;have hBr:B<=wr:=by omega
       have hx3:W2.heap.size<wr:=by omega
       have HOV:=I x;have C:=I l;have EK:=I eK;clear hcx x l eK
       go_wp2_with fail
       refine(uO _ B bs bm _ (.slice as0 order.length ms0) (bd g d) order stay HOV.out (u.out.hs.1.trans HS.out.2.2.1) u.out.met (by omega) (by omega) (by omega)<|by omega).mono ?_;rintro e w4 ⟨rfl,P,D⟩
       go_wp2_with fail
       refine⟨⟨k+1,by omega,by go_num,?_,I ?_,I ?_⟩,by simp[intOf];omega⟩;have:=D.size;omega;exact(D.block _ hx3<|Zf<|qd HOV.out HXr.out<|by decide).trans HXr.out;rw[<-Nat.add_assoc,<-pZ z.out EK.out];have:=u.out.rename t (by rw[C.out];exact D) (IU C.out.symm P) HB.out HS.out.2.2.1 hBr;rw[xt z.out EK.out];exact this
      ·have O:k=3:=by omega
       subst O;have a:=u.out.hb.trans HB.out;have e0:wr b=U n:=by simp[Ψ,a]
       have e1:wr (b,1)=U (.slice ao g.old.length mo):=by simp[Ψ,a]
       have e5:wr (b,5)=U m:=by simp[Ψ,a]
       have q0:wr.frozen? b=Z:=by simp[ZZ,a]
       have q1:wr.frozen? (b,1)=Z:=by simp[ZZ,a]
       have q5:wr.frozen? (b,5)=Z:=by simp[ZZ,a]
       have HBW:=I a;clear a r
       go_wp2_with fail
       go_end0;have s1:=heap_setCell_same (i:=1) (v:=.slice av (stay+order.length) G) HBW.out;have s2:=heap_setCell_same (i:=0) (v:=κ M 0 0) s1;have s3:=heap_setCell_same (i:=5) (v:=κ M 0 0) s2;have y:∀g':Nat,g'≠b->(((wr.setCell (b,1)<|.slice av (stay+order.length) G).setCell b<|κ M 0 0).setCell (b,5)<|κ M 0 0).heap[g']?=wr.heap[g']?:=λg' h=>by rw[ψ _ _ _ _ h,ψ _ _ _ _ h,ψ _ _ _ _ h]
       have H:stay+order.length+3=(gB stay order).length:=by simp[gB,fo]
       have W:=u.out.kr;rw[H]at W;refine⟨rfl,IS hBb (by simpa using s3) (u.out.rc.below λg' cur hg'=>y g' (by rintro rfl;rw[HBW.out]at hg';cases hg')) ⟨λk N=>aS (W.1 k N) λg' e=>y g' (by rintro rfl;exact qd (W.1 k N) HBW.out (by decide) e),W.2⟩ HND.out f Q.out λj E=>⟨(HJ.out j E).1,λk N=>(HJ.out j E).2 k<|IQ f Q.out N⟩,?_,?_,λj c E=>(y j (by rintro rfl;rw[HB.out]at E;cases E)).trans<|u.out.hs.2.1 j c E,λj E r=>(y j (HJ.out j E).1).trans<|u.out.hs.2.2 j r (HJ.out j E).1 λk N=>(HJ.out j E).2 k<|IQ f Q.out N⟩;exact((u.out.below.setCell (p:=⟨b,1,M⟩) hBb _).setCell (p:=⟨b,0,M⟩) hBb _).setCell (p:=⟨b,5,M⟩) hBb _;refine(y bs ?_).trans u.out.hs.1;rintro rfl;have:=HS.out.2.2.1;rw[HB.out]at this;cases this
def aX{P w ops o a K Q E}(e:o.guard=M)(s x t)(f:o.op=.call {callee:=.builtin .append,args:=#[s,x],argTypes:=#[t,t]})(v v2)(hs:a.eval s=v)(j:a.eval x=v2)(b:ο->Y->Prop)(d:∃c w',(ε #[t,t] o.type #[v,v2]).run P w=.ok c w'/\b c w')(h:∀c w',b c w'->K (a.put o.dst c) w'):
 if Zt o (yielded ops a.tmps)=V then Za P o a w K Q else E:=by
 rw[if_pos (by simp[Zt,e])];obtain⟨c,w',i,g⟩:=d;unfold Za execOp;simp only[f,resolve,invoke,builtin,ZL,Zz,Z4,YM,ZF,Yz,hs,j,i];exact h c w' g
def tN{w ty a n l l2 v2}(h:eI w (.slice a n n) l)(C:eI w v2 l2)(L:l.length<=1000000)(D:l2.length<=1000000):
 ∃g w',(ε #[23,23] ty #[.slice a n n,v2]).run prog w=.ok g w'/\(eI w' g (l++l2)/\R w.heap.size w w'/\∃a' q,g=.slice a' (l++l2).length q):=by
 obtain⟨x,hi,r,s,t⟩:=Y1 nh;obtain⟨a',q,e,K,h3,h4⟩:=id h;cases e
 obtain⟨y,m2,rfl,H,J,G⟩:=id C;obtain h0|h0:=Nat.eq_zero_or_pos l2.length
 have d:l2=[]:=υ h0;subst d;refine⟨.slice a l.length l.length,w,?_,by simpa using h,Γ _ _,a,l.length,by simp⟩;obtain _|y:=y
 simp[ε,Z8 lx,sizeOf,typeInfo,hi,YL,Builtin.firstCells,YB];cases a<;>simp
 have E:=run_firstCells_some (P:=prog) w x.size 0 y 0 m2 [] (by simp) (by simp);simp[ε,Z8 lx,sizeOf,typeInfo,hi,YL,YB,E];cases a<;>simp[YB]
 obtain⟨A,z,rfl,F,i⟩:=G h0;obtain _|a:=a
 have d:l=[]:=by
  obtain h5|h5:=Nat.eq_zero_or_pos l.length
  exact υ h5;obtain⟨_,_,e,_⟩:=h4 h5;cases e
 subst d;obtain⟨g,w',f,r1,r2,_⟩:=Y0 (P:=prog) w w.heap.size 23 ty 50 x _ 2 16 lx hi r s t rfl (by decide) (κ M 0 0) 0 [] (Zp w _ 50 2) ⟨A,z,M⟩ l2.length m2 (l2.flatMap lU) (fx l2) (zt i) (V1 l2) (by unfold ZA;omega) (by omega) .refl;have c:OV w' w.heap.size g l2:=by unfold OV;simpa using r1
 obtain⟨a',q,m,_⟩:=aF c;exact⟨g,w',f,by simpa using c.reads,(Γ _ w).grown r2 .refl (λk e=>by cases e),a',q,by simpa using m⟩
 ·have p:∀j u,(l.flatMap lU)[j]?=U u->w.cell? (a.add j)=U u:=by
   intro j u B;obtain h5|h5:=Nat.eq_zero_or_pos l.length
   have:l=[]:=υ h5;subst this;simp at B;obtain⟨b,o,e,hb,v⟩:=h4 h5;cases e
   exact zt v j u B
  obtain⟨g,w',f,r1,r2⟩:=Zo (P:=prog) w 23 ty 50 x _ 2 16 lx hi r s t rfl (by decide) a l.length l.length (l.flatMap lU) (fx l) p ⟨A,z,M⟩ l2.length m2 (l2.flatMap lU) (fx l2) (zt i) (by omega) (by unfold ZA;omega) (by omega);have c:OV w' w.heap.size g (l++l2):=by unfold OV;rw[Z0,Z9];exact r1
  obtain⟨a',q,m,_⟩:=aF c;exact⟨g,w',f,c.reads,(Γ _ w).grown r2 .refl (λk e=>by cases e),a',q,m⟩
section
variable(w:Y)(B b:Nat)
structure im(g:GH):Prop where
 cells:jB g
 cJ:∀v∈cJ g,zI g v
 news:g.new.length<=400
 bw:g.old.length<=400
 roots:g.roots.length<=10000
 aA:g.aA.length<=10000
 done:g.done.length<=10000
 eT:∀c∈g.new++g.old,c.2.length<=100
 marks:∀n∈g.marked,0<=n/\n<g.old.length
 marked:g.marked.length<=1000
def im.pp{g}(h:im g):(Md.cJ g).length<=100000:=by have:=h.roots;have:=h.aA;have:=h.done;simp[Md.cJ];omega
theorem sD{g:GH}(h:im g):∀(l:List Int),(∀n∈l,0<=n/\n<g.old.length) ->(l.flatMap λn=>(g.old.getD n.toNat (0,[])).2).length<=l.length*100
 |[],_=>.refl
 |n::l,hm=>by
  have c:=sD h l λx b=>hm x<|Zw _ b;have d:=hm n ZK;have a:n.toNat<g.old.length:=by omega
  rw[YN,Z9,ζ];have h4:(g.old.getD n.toNat (0,[])).2.length<=100:=by rw[ZP,η a];exact h.eT (g.old[n.toNat])<|Zx _<|YK a
  omega
def im.more{g}(h:im g):(ka g).length<=100000:=by have:=sD h g.marked h.marks;have:=h.marked;unfold ka;omega
def im.zO{g}(h:im g):∀v∈ka g,zI g v:=by
 intro v a;obtain⟨n,c,a⟩:=List.mem_flatMap.1 a;have d:=h.marks n c;have b:n.toNat<g.old.length:=by omega
 rw[ZP,η b]at a;exact h.cells _ (Zx _<|YK b) v a
def EW{g:GH}{l}{n:Int}:(l++[n]).flatMap (λn=>(g.old.getD n.toNat (0,[])).2)=l.flatMap (λn=>(g.old.getD n.toNat (0,[])).2)++(g.old.getD n.toNat (0,[])).2:=by simp
def dv{w}:eI w (κ M 0 0) []:=⟨M,0,rfl,.refl,by decide,λh=>absurd h<|Nat.lt_irrefl 0⟩
def bS.less{w B B' bs bm so l}(h:bS w B bs bm so l)(a:B'<=B):bS w B' bs bm so l:=⟨Nat.le_trans a h.1,Nat.le_trans a h.2.1,h.2.2.1,h.2.2.2.1.less a,h.2.2.2.2⟩
def eI.tight{w a n m l}(h:eI w (.slice a n m) l):n=l.length/\eI w (.slice a n n) l:=by
 obtain⟨c,f,e,d,b,h3⟩:=h;cases e
 exact⟨rfl,a,l.length,rfl,.refl,by omega,h3⟩
def BN(g)(i:dm w B b g)(h:im g):
 ZV prog 307 #[.agg #[],.pointer b] w λe w'=>(∃bs bm so,e=.returned (.tuple #[.pointer (bs:Nat),χ ω 0])/\bS w' w bs bm so (bV g co []))/\R w w w':=by
 have j:=I i;have a:=I h;clear i h
 go_enter (fU func307 rfl),ntmps307
 go_wp2_with fail
 have d:=af w<|Δ #[] 119;refine(po 168 co (.inr ⟨rfl,rfl⟩) _ B b g _ [] (j.out.below d) dv a.out.cells a.out.cJ (λv k=>by cases k) (by simp) (by have:=a.out.news;have:=a.out.bw;omega) a.out.pp (λc hc=>by have:=a.out.eT c hc;omega)).mono ?_;rintro e l ⟨⟨bs,bm,so,rfl,hs⟩,f⟩
 go_wp2_with fail
 go_ret2
 exact⟨⟨bs,bm,so,rfl,hs.less<|by simp⟩,d.trans<|f.mono<|by simp⟩
def zP(g)(i:dm w B b g)(h:im g):
 ZV prog 309 #[.agg #[],.pointer b] w λe w'=>(∃bs bm so,e=.returned (.tuple #[.pointer (bs:Nat),χ ω 0])/\bS w' w bs bm so (bV g co []))/\R w w w':=by
 have j:=I i;have a:=I h;clear i h
 go_enter (fU func309 rfl),ntmps309
 go_wp2_with fail
 have d:=af w<|Δ #[] 120;refine(po 168 co (.inr ⟨rfl,rfl⟩) _ B b g _ [] (j.out.below d) dv a.out.cells a.out.cJ (λv k=>by cases k) (by simp) (by have:=a.out.news;have:=a.out.bw;omega) a.out.pp (λc hc=>by have:=a.out.eT c hc;omega)).mono ?_;rintro e l ⟨⟨bs,bm,so,rfl,hs⟩,f⟩
 go_wp2_with fail
 go_ret2
 exact⟨⟨bs,bm,so,rfl,hs.less<|by simp⟩,d.trans<|f.mono<|by simp⟩
def qe(g)(hg:dm w B b g)(hp:im g):
 ZV prog 83 #[.agg #[],.pointer b] w λe w'=>(∃bs bm so,e=.returned (.tuple #[.pointer (bs:Nat),χ ω (g.old.length:Int)])/\bS w' w bs bm so (bV g dy<|ka g))/\R w w w':=by
 have HG:=I hg;have f:=I hp;obtain⟨n,o,m,row,hBb,hb,W,h2,h3,h4⟩:=hg;have j:=(Ω.1 hb).1;obtain⟨am,mm,Q,hm1,hm2,T⟩:=h3.reads;have S:w (b,5)=U (.slice am g.marked.length mm):=by simp[Ψ,hb,Q]
 obtain⟨ao,mo,F,ho1,ho2,_⟩:=h2.reads h4.Du;have q:w (b,1)=U (.slice ao g.old.length mo):=by simp[Ψ,hb,F]
 have E:=I q;have HM:=I T;have HB:=I hb;have H1:=I W;have H2:=I h2;have H4:=I h4;clear hp hb W h2 h3 h4 T F Q q;have X:=af w<|Δ #[] 102
 go_enter (fU func83 rfl),ntmps83
 go_wp2_with fail
 have O:=cG X S j
 go_loopw [6,15] (λv i wr=>∃k:Nat,k<=g.marked.length/\i=χ ω k/\eI wr v ((g.marked.take k).flatMap λn=>(g.old.getD n.toNat (0,[])).2)/\R w w wr) (λ_ i _=>g.marked.length-(intOf i).toNat)
 case atStart=>exact⟨0,Nat.zero_le _,rfl,dv,X⟩
 case round=>
  obtain⟨k,hk,rfl,z,a⟩:=hrel;clear S O;by_cases hlt:k<g.marked.length
  ·obtain⟨ba,oa,e,hba,P⟩:=HM.out (by omega);cases e
   obtain⟨n0,e1⟩:=lw hlt;have d1:=(P.below a hba) k n0 e1;obtain⟨J,hn1⟩:=f.out.marks n0<|Ξ e1;obtain⟨i,rfl⟩:=ZC J;have hi:i<g.old.length:=by omega
   obtain⟨kd,y,D⟩:=cQ hi;have r:=bH (row:=row) (kind:=4) D;obtain⟨gn,mn,e,_,hgn,_,_,hx⟩:=H2.out.cells (by rw[aT];omega);subst e;have q:wr (b,1)=U (.slice gn g.old.length mn):=by have:=HB.out;rw[aT]at this;rw[a.cell (p:=⟨b,1,M⟩) j];simp[Ψ,this]
   obtain⟨f1,f2⟩:=jx dW (λv=>χ ω v.1) (λv=>v.2) (λ_=>rfl) _ i _ r;obtain⟨ky,kv⟩:=B1 D;have d:=(H4.out.1 _ ky).reads;rw[kv]at d;dsimp only at d;obtain⟨ar,mr,hr,_⟩:=id d;rw[hr]at d;have c2:wr (gn,i*2+1)=U (.slice ar y.length mr):=by rw[a.cell (p:=⟨gn,i*2+1,M⟩) hgn,<-hr];exact hx _ _ f2
   have hvl:=f.out.eT (kd,y)<|Zx _<|Ξ D;have WJ:((g.marked.take k).flatMap λn=>(g.old.getD n.toNat (0,[])).2).length<=100000:=by have W:=sD f.out (g.marked.take k) λx hx=>f.out.marks x<|List.mem_of_mem_take hx;have h2:=YU k g.marked;have h3:=f.out.marked;omega
   have A:(g.old.getD (Int.toNat (i:Int)) (0,[])).2=y:=by simp[ZP,D]
   have G:((g.marked.take<|k+1).flatMap λn=>(g.old.getD n.toNat (0,[])).2)=((g.marked.take k).flatMap λn=>(g.old.getD n.toNat (0,[])).2)++y:=by rw[bW e1,EW,A]
   have K:=I G;obtain⟨av,mv,rfl,s,hv2,_⟩:=id z;have HV:=I z;have HVS:=I d;have hi0:(0:Int)<=(i:Int):=by omega
   have hL0:(0:Int)<=(((g.marked.take k).flatMap λn=>(g.old.getD n.toNat (0,[])).2).length:Int):=by omega
   have hL1:(((g.marked.take k).flatMap λn=>(g.old.getD n.toNat (0,[])).2).length:Int)<=(mv:Int):=by omega
   clear P e1 J r f1 f2 d hr z G A D hx kv ky;generalize ((g.marked.take k).flatMap λn=>(g.old.getD n.toNat (0,[])).2)=L at K HV WJ hL0 hL1 s⊢
   go_wp2_with fail
   go_region_law ((refine aX rfl _ _ 23 (by rfl) (.slice av L.length L.length) (.slice ar y.length mr) (by rfl) (by rfl) _ (tN (l:=L) (l2:=y) ((HV.out.tight.2).below (Γ _ wr).drew) (HVS.out.below<|a.trans<|(Γ _ wr).drew.mono a.size) (by omega)<|by omega) ?_;intro v' w1 W))
   all_goals
    obtain⟨k1,k2,_⟩:=W
    go_wp2_with fail
    go_roundw
    case rel=>exact⟨k+1,by omega,by go_num,by rw[K.out];exact k1,a.trans<|((Γ _ wr).drew.trans k2).mono a.size⟩
    case measure=>simp[intOf];omega
  ·have hke:k=g.marked.length:=by omega
   subst hke;rw[Y3 .refl]at z;have u:eI wr _ (ka g):=z;clear z;have H:=f.out.more;have N:=I f.out.zO;obtain⟨av,mv,rfl,s,hv2,_⟩:=id u;have HV:=I u;have q:=cG a E.out j;clear u;obtain⟨ms,t⟩:∃ms,ms=ka g:=⟨_,rfl⟩;rw[<-t]at HV N s H⊢;have HMS:=I t;clear t
   go_wp2_with fail
   have h:=a.trans<|(Γ _ wr).drew.mono a.size
   go_region_held3 (λw'=>w' (b,1)=U (.slice ao g.old.length mo)) (first|assumption|go_keep)
    (first|(go_at_call 150;(refine(po 151 dy (.inl ⟨rfl,rfl⟩) _ B b g _ ms (HG.out.below h) (HV.out.below (Γ _ wr).drew) f.out.cells f.out.cJ N.out H (by have:=f.out.news;have:=f.out.bw;omega) f.out.pp (λc hc=>by have:=f.out.eT c hc;omega)).mono ?_);rintro e w3 ⟨⟨bs,bm,so,rfl,hs⟩,hb3⟩;have C:=h.trans<|hb3.mono h.size;have hc3:=cG C E.out j))
   go_wp2_with fail
   go_ret2
   exact⟨⟨bs,bm,so,rfl,by rw[<-HMS.out];exact hs.less h.size⟩,C⟩
end
section
variable{c:Array ο}{b:Nat}(w:Y){J:Nat->Prop}(g:GH){B:Nat}
def cq(J:Nat->Prop)(B b:Nat)(g:GH)(s:uH)(w:Y)(e:Ending)(w':Y):Prop:=
 match Md.collect s g with
 |none=>e=.returned (.tuple #[χ ω 0,.bool Z])/\cR w' B b g J/\R B w w'/\qb w w'/\∀j,J j->j<w->w'.heap[j]?=w.heap[j]?
 |some (n,g')=>e=.returned (.tuple #[χ ω (n:Int),.bool V])/\cR w' B b g' J/\R B w w'/\qb w w'/\∀j,J j->j<w->w'.heap[j]?=w.heap[j]?
def cF{w:Y}{e size n v xs t fr}(d:w.ownsRow B e size v n xs)(hb:w.heap[b]?=U (.cells c t fr))(i:t≠e):v.ownBlock≠U b:=by
 intro h;obtain⟨_,⟨rfl,_⟩|⟨g,f,a,rfl,_,j,_⟩⟩:=d;cases h
 cases h
 grind
def cR.ne{w j g}(h:cR w B b g J)(a:J j):j≠b:=by obtain⟨n,o,m,row,f,c,e,d,h3,h4,h5⟩:=h;exact(h5 j a).1
def cR.copy{w L g}(h:cR w B L g J)(p:∀j,J j->j≠b)(hb:w.heap[b]?=U (.cells c 114 (0,0)))(l:B<=b):
 ∃a0 D e a1 P m1 f S m2 C x v F y Q E u N,w.heap[L]?=U (Δ #[.slice a0 D e,.slice a1 P m1,.slice f S m2,.slice C x v,.slice F y Q,.slice E u N] 114 (0,0))/\
  ∀w',w'.heap[b]?=U (Δ #[.slice a0 D e,.slice a1 P m1,.slice f S m2,.slice C x v,.slice F y Q,.slice E u N] 114 (0,0)) ->(∀k,k≠b->w'.heap[k]?=w.heap[k]?) ->cR w' B b g J:=by
 obtain⟨n,o,m,row,hB,r,A,t,h3,h4,h5⟩:=h;obtain⟨r0,r1,r2⟩:=h4.roots;obtain⟨an,mn,K,_⟩:=id A;obtain⟨X,W,H,_⟩:=id t;obtain⟨T,mm,G,_⟩:=aF h3;obtain⟨a0,e,s,_⟩:=aF r0;obtain⟨a1,m1,e1,_⟩:=aF r1;obtain⟨f,m2,e2,_⟩:=aF r2;refine⟨an,_,mn,X,_,W,a0,_,e,a1,_,m1,f,_,m2,T,_,mm,by rw[r,K,H,G,s,e1,e2],λw' i a=>?_⟩;refine⟨n,o,m,row,l,by rw[i,K,H,G,s,e1,e2],A.below λg q d=>a g (by rintro rfl;rw[hb]at d;cases d),t.below λg q d=>a g (by rintro rfl;rw[hb]at d;cases d),aS h3 λg d=>a g (by rintro rfl;exact cF h3 hb (by decide) d),⟨λk z=>aS (h4.1 k z) λg d=>a g (by rintro rfl;exact cF (h4.1 k z) hb (by decide) d),h4.2⟩,λj O=>⟨p j O,(h5 j O).2⟩⟩
def dm.obj{w g}(h:dm w B b g):B<=b/\b<w/\∃c,w.heap[b]?=U (.cells c 114 (0,0)):=by obtain⟨n,o,m,row,a,hb,_⟩:=h;exact⟨a,(Ω.1 hb).1,_,hb⟩
def wD{w:Y}{v0 v1 v2 v3 v4 v5}(hb:w.heap[b]?=U (.cells c 114 (0,0)))(hc:c.size=6):
 ((((((w.setCell b v0).setCell (b,1) v1).setCell (b,2) v2).setCell (b,3) v3).setCell (b,4) v4).setCell (b,5) v5).heap[b]?=U (Δ #[v0,v1,v2,v3,v4,v5] 114 (0,0))/\
 ∀k,k≠b->((((((w.setCell b v0).setCell (b,1) v1).setCell (b,2) v2).setCell (b,3) v3).setCell (b,4) v4).setCell (b,5) v5).heap[k]?=w.heap[k]?:=by
 constructor
 ·have h:=heap_setCell_same (i:=5) (v:=v5) (heap_setCell_same (i:=4) (v:=v4)<|heap_setCell_same (i:=3) (v:=v3)<|heap_setCell_same (i:=2) (v:=v2)<|heap_setCell_same (i:=1) (v:=v1)<|heap_setCell_same (i:=0) (v:=v0) hb);rw[h];clear h;obtain⟨l⟩:=c;have d:l.length=6:=hc;clear hc hb;obtain _|⟨x0,_|⟨x1,_|⟨x2,_|⟨x3,_|⟨x4,_|⟨x5,_|⟨x6,l⟩⟩⟩⟩⟩⟩⟩:=l
  all_goals first
   |(exfalso;simp at d;done)
   |rfl
 intro k a;rw[ψ _ _ _ _ a,ψ _ _ _ _ a,ψ _ _ _ _ a,ψ _ _ _ _ a,ψ _ _ _ _ a,ψ _ _ _ _ a]
def mH:Md.collect .minor g=if 32<g.old.length+(bV g dy<|ka g).length then M else U ((bV g dy<|ka g).length,Md.move g (bV g dy<|ka g) g.old.length):=rfl
def ou:Md.collect .full g=if 32<(bV g co []).length then M else U ((bV g co []).length,Md.move g (bV g co []) 0):=by show(if 32<0+_ then _ else _)=_;simp
def mI:Md.collect .major g=if 32<(bV (iF g) co []).length then M else U ((bV (iF g) co []).length,Md.move (iF g) (bV (iF g) co []) 0):=by show(if 32<0+_ then _ else _)=_;simp
def IV:(ZD (.iface 102<|.agg #[]) 171 120 V).run prog w=.ok (.tuple #[.agg #[],.bool Z]) w:=by kernel_rfl
def Oa:(ZD (.iface 119<|.agg #[]) 171 120 V).run prog w=.ok (.tuple #[.agg #[],.bool Z]) w:=by kernel_rfl
def IW:(ZD (.iface 120<|.agg #[]) 171 120 V).run prog w=.ok (.tuple #[.agg #[],.bool V]) w:=by kernel_rfl
def IX:(YZ 463 102 (.agg #[]) "caracole/gc.plan").run prog w=.ok (83,.agg #[]) w:=by kernel_rfl
def IY:(YZ 463 102 (.agg #[]) "caracole/gc.sort").run prog w=.ok (306,.agg #[]) w:=by kernel_rfl
def Ob:(YZ 463 119 (.agg #[]) "caracole/gc.plan").run prog w=.ok (307,.agg #[]) w:=by kernel_rfl
def IZ:(YZ 463 120 (.agg #[]) "caracole/gc.plan").run prog w=.ok (309,.agg #[]) w:=by kernel_rfl
def I0:(YZ 463 120 (.agg #[]) "caracole/gc.sort").run prog w=.ok (310,.agg #[]) w:=by kernel_rfl
def lz(B b g)(hg:cR w B b g J)(hp:im g)(X:B<=w):
 ZV prog 144 #[.pointer b,.iface 102<|.agg #[]] w (cq J B b g .minor w):=by
 have O:=I hg;have l:=I hp;clear hg hp;have W:=IV;have hmp:=IX
 go_enter (fU func144 rfl),ntmps144
 go_wp2_with fail
 clear W hmp;have K:=af w<|Δ #[] 120;refine(qe _ B b g (O.out.own.below K) l.out).mono ?_;rintro e w3 ⟨⟨N,bm,so,rfl,hs⟩,hb3⟩;obtain⟨order,h⟩:∃o,o=bV g dy (ka g):=⟨_,rfl⟩;rw[<-h]at hs;have r:c9 g dy order:=by rw[h];exact c9.bV (.inl rfl) l.out.cells l.out.cJ l.out.zO
 have a:=K.trans<|hb3.mono<|by simp
 obtain⟨z,D,F,hsm,aar,_⟩:=aF hs.2.2.2.1;have C:w3 N=U (.slice z order.length D):=by simp[Ψ,hs.2.2.1,F]
 have hol:=r.len;have hn1:=l.out.news;have hn2:=l.out.bw;have HO:=I h;have HK:=I r;have HS:=I hs;have A:=O.out.below a;have x:=I A;clear h r hs F A;by_cases q:32<g.old.length+order.length
 ·have s:(32:Int)<(g.old.length:Int)+(order.length:Int):=by omega
  go_wp2_with fail
  go_ret2
  have T:Md.collect .minor g=M:=by rw[mH,<-HO.out,if_pos q]
  unfold cq;rw[T];exact⟨rfl,x.out,a.mono X,qb.bK a,λj _ m=>a.block j m⟩
 ·have s:¬(32:Int)<(g.old.length:Int)+(order.length:Int):=by omega
  go_wp2_with fail
  refine(BM w3 B b _ N bm so g dy order g.old.length x.out HS.out HK.out (.inl ⟨rfl,λv hv=>by have:=(HK.out.ok v hv).2;simpa[dy]using this⟩) (Nat.le_trans X a.size) (by omega) (λc hc=>by have:=l.out.eT c hc;omega) (by have:=l.out.roots;omega) (by have:=l.out.aA;omega) (by have:=l.out.done;omega)).mono ?_;rintro e w4 ⟨rfl,u,H,y,G,E⟩;have hcs:w4 N=U (.slice z order.length D):=by have:=C;simp only[Ψ]at this⊢;rw[y];exact this
  obtain⟨f,hbl,c,t⟩:=u.own.obj;obtain⟨a0,n0,m0,a1,n1,m1,a2,n2,m2,a3,n3,m3,a4,n4,m4,a5,n5,m5,n,k⟩:=u.copy (λj L=>O.out.ne L) t f;have e0:w4 b=U (.slice a0 n0 m0):=by simp[Ψ,n]
  have e1:w4 (b,1)=U (.slice a1 n1 m1):=by simp[Ψ,n]
  have e2:w4 (b,2)=U (.slice a2 n2 m2):=by simp[Ψ,n]
  have e3:w4 (b,3)=U (.slice a3 n3 m3):=by simp[Ψ,n]
  have e4:w4 (b,4)=U (.slice a4 n4 m4):=by simp[Ψ,n]
  have e5:w4 (b,5)=U (.slice a5 n5 m5):=by simp[Ψ,n]
  have d:∀i,w4.frozen? ⟨b,i,M⟩=Z:=λi=>by simp[ZZ,n]
  have f0:=d 0;have f1:=d 1;have f2:=d 2;have f3:=d 3;have f4:=d 4;have f5:=d 5;have hne:N≠b:=by rintro rfl;have:=HS.out.2.2.1;obtain⟨_,_,c',S⟩:=x.out.own.obj;rw[S]at this;cases this
  have HC:=I k;have Q:=I<|(qb.bK a).trans G;have WN:=I<|And.intro E t;clear G E;have H2:=I n;have H4:=I H;clear d k n t u H y C
  go_wp2_with fail
  go_ret2
  obtain⟨k1,P⟩:=wD (v0:=.slice a0 n0 m0) (v1:=.slice a1 n1 m1) (v2:=.slice a2 n2 m2) (v3:=.slice a3 n3 m3) (v4:=.slice a4 n4 m4) (v5:=.slice a5 n5 m5) H2.out rfl;have T:Md.collect .minor g=U (order.length,Md.move g order g.old.length):=by rw[mH,<-HO.out,if_neg q]
  unfold cq;rw[T];exact⟨rfl,HC.out _ k1 P,(a.mono X).trans<|(((((H4.out.setCell (p:=⟨b,0,M⟩) f _).setCell (p:=⟨b,1,M⟩) f _).setCell (p:=⟨b,2,M⟩) f _).setCell (p:=⟨b,3,M⟩) f _).setCell (p:=⟨b,4,M⟩) f _).setCell (p:=⟨b,5,M⟩) f _,Q.out.trans<|qb.IT H2.out P,λj L m=>(P j<|O.out.ne L).trans<|(WN.out.1 j L<|Nat.lt_of_lt_of_le m a.size).trans<|a.block j m⟩
def tO(B b g)(hg:cR w B b g J)(hp:im g)(X:B<=w):
 ZV prog 144 #[.pointer b,.iface 119<|.agg #[]] w (cq J B b g .full w):=by
 have O:=I hg;have n:=I hp;clear hg hp;have W:=Oa;have hmp:=Ob
 go_enter (fU func144 rfl),ntmps144
 go_wp2_with fail
 clear W hmp;have K:=af w<|Δ #[] 120;refine(BN _ B b g (O.out.own.below K) n.out).mono ?_;rintro e w3 ⟨⟨N,bm,so,rfl,hs⟩,hb3⟩;obtain⟨order,h⟩:∃o,o=bV g co []:=⟨_,rfl⟩;rw[<-h]at hs;have r:c9 g co order:=by rw[h];exact c9.bV (.inr rfl) n.out.cells n.out.cJ (λv hv=>by cases hv)
 have a:=K.trans<|hb3.mono<|by simp
 obtain⟨z,D,F,hsm,aar,_⟩:=aF hs.2.2.2.1;have C:w3 N=U (.slice z order.length D):=by simp[Ψ,hs.2.2.1,F]
 have hol:=r.len;have hn1:=n.out.news;have hn2:=n.out.bw;have HO:=I h;have HK:=I r;have HS:=I hs;have A:=O.out.below a;have x:=I A;clear h r hs F A;by_cases q:32<order.length
 ·have s:(32:Int)<(order.length:Int):=by omega
  go_wp2_with fail
  go_ret2
  have T:Md.collect .full g=M:=by rw[ou,<-HO.out,if_pos q]
  unfold cq;rw[T];exact⟨rfl,x.out,a.mono X,qb.bK a,λj _ l=>a.block j l⟩
 ·have s:¬(32:Int)<(order.length:Int):=by omega
  go_wp2_with fail
  refine(BM w3 B b _ N bm so g co order 0 x.out HS.out HK.out (.inr rfl) (Nat.le_trans X a.size) (by omega) (λc hc=>by have:=n.out.eT c hc;omega) (by have:=n.out.roots;omega) (by have:=n.out.aA;omega) (by have:=n.out.done;omega)).mono ?_;rintro e w4 ⟨rfl,u,H,y,G,E⟩;have hcs:w4 N=U (.slice z order.length D):=by have:=C;simp only[Ψ]at this⊢;rw[y];exact this
  obtain⟨f,hbl,c,t⟩:=u.own.obj;obtain⟨a0,n0,m0,a1,n1,m1,a2,n2,m2,a3,n3,m3,a4,n4,m4,a5,n5,m5,m,k⟩:=u.copy (λj L=>O.out.ne L) t f;have e0:w4 b=U (.slice a0 n0 m0):=by simp[Ψ,m]
  have e1:w4 (b,1)=U (.slice a1 n1 m1):=by simp[Ψ,m]
  have e2:w4 (b,2)=U (.slice a2 n2 m2):=by simp[Ψ,m]
  have e3:w4 (b,3)=U (.slice a3 n3 m3):=by simp[Ψ,m]
  have e4:w4 (b,4)=U (.slice a4 n4 m4):=by simp[Ψ,m]
  have e5:w4 (b,5)=U (.slice a5 n5 m5):=by simp[Ψ,m]
  have d:∀i,w4.frozen? ⟨b,i,M⟩=Z:=λi=>by simp[ZZ,m]
  have f0:=d 0;have f1:=d 1;have f2:=d 2;have f3:=d 3;have f4:=d 4;have f5:=d 5;have hne:N≠b:=by rintro rfl;have:=HS.out.2.2.1;obtain⟨_,_,c',S⟩:=x.out.own.obj;rw[S]at this;cases this
  have HC:=I k;have Q:=I<|(qb.bK a).trans G;have WN:=I<|And.intro E t;clear G E;have H2:=I m;have H4:=I H;clear d k m t u H y C
  go_wp2_with fail
  go_ret2
  obtain⟨k1,P⟩:=wD (v0:=.slice a0 n0 m0) (v1:=.slice a1 n1 m1) (v2:=.slice a2 n2 m2) (v3:=.slice a3 n3 m3) (v4:=.slice a4 n4 m4) (v5:=.slice a5 n5 m5) H2.out rfl;have T:Md.collect .full g=U (order.length,Md.move g order 0):=by rw[ou,<-HO.out,if_neg q]
  unfold cq;rw[T];exact⟨rfl,HC.out _ k1 P,(a.mono X).trans<|(((((H4.out.setCell (p:=⟨b,0,M⟩) f _).setCell (p:=⟨b,1,M⟩) f _).setCell (p:=⟨b,2,M⟩) f _).setCell (p:=⟨b,3,M⟩) f _).setCell (p:=⟨b,4,M⟩) f _).setCell (p:=⟨b,5,M⟩) f _,Q.out.trans<|qb.IT H2.out P,λj L l=>(P j<|O.out.ne L).trans<|(WN.out.1 j L<|Nat.lt_of_lt_of_le l a.size).trans<|a.block j l⟩
end
end Kn
namespace Kn
open Go Go.RowKit Md
open Go.ChangeMaps (setBlock)
section
variable{w':Y}{r b:Nat}{left:List Int}(ty:YO)(n:Int){w:Y}
def zQ(n:Int):ο×ο:=(χ ω n,.bool V)
structure We(es:Array MapEntry)(clk:Nat)(l:List Int):Prop where
 keys:es.toList.map (λe=>(e.key,e.val))=l.map zQ
 born:(es.toList.map (·.born)).Nodup
 old:∀e∈es.toList,e.born<clk
def bk(w:Y)(b:Nat)(l:List Int):Prop:=∃es clk,w.heap[b]?=U (.map es clk)/\We es clk l
def nl:prog.underlying 205=U (.map 3 4):=by kernel_rfl
def ae8:prog.underlying 3=U (.int ω):=by kernel_rfl
def sE(e)(n:Int)(w):(YH e 10000 3 n).run prog w=.ok () w:=by unfold YH;simp
theorem uU(n:Int):∀(es:List MapEntry) (l:List Int) (i:Nat),es.map (λe=>(e.key,e.val))=l.map zQ->
 Y6 (.int ω) n es i=U (if n∈l then U (i+l.idxOf n,.bool V)else M)
 |[],l,i,h=>by
  obtain _|⟨a,l⟩:=l
  simp[Y6];simp at h
 |e::es,l,i,h=>by
  obtain _|⟨a,l⟩:=l
  simp at h;simp only[ZF,List.cons.injEq,zQ,Prod.mk.injEq]at h;obtain⟨⟨b,d⟩,h3⟩:=h;unfold Y6;rw[b];simp only[Instr.sameNow,if_true];by_cases c:n=a
  grind
  have hb:(n==a)=Z:=by simp[c]
  rw[hb];simp only[(uU n es l (i+1) h3)]
  grind
def jb(w es)(l:List Int)(h:es.map (λe=>(e.key,e.val))=l.map zQ):
 (YD 3 n es).run prog w=.ok (if n∈l then U (l.idxOf n,.bool V)else M) w:=by
 unfold YD;rw[ZL,Z8 ae8,Z4,uU n es l 0 h];simp
def run_get{es a}(h:w.heap[b]?=U (.map es a)):(getObj b).run prog w=.ok (.map es a) w:=by simp[getObj,YY,h]
theorem gL{b c:Type}(f:b->c):∀(l:List b) (i:Nat),(l.eraseIdx i).map f=(l.map f).eraseIdx i
 |[],i=>by simp
 |a::l,0=>by simp
 |a::l,i+1=>by simp[gL f l i]
def ke{l}(h:bk w b l):
 (YA 205 (.map<|U b) n V).run prog w=.ok (.tuple #[.bool (decide<|n∈l),.bool<|decide<|n∈l]) w:=by
 obtain⟨c,e,hb,a⟩:=h;unfold YA;simp only[ZL,Z8 nl,Z4,run_get hb,Zz,sE,(jb n w c.toList l a.keys)];by_cases d:n∈l
 simp[d]
 simp_all
def bk.made(w:Y):bk (w.alloc<|.map #[] 0) w.heap.size []:=⟨#[],0,ξ w _,⟨rfl,YE,λe a=>by simp at a⟩⟩
def bk.lt{l}(h:bk w b l):b<w:=by obtain⟨c,a,hb,_⟩:=h;exact(Ω.1 hb).1
def bk.of_block{l}(h:bk w b l)(hb:w'.heap[b]?=w.heap[b]?):bk w' b l:=by obtain⟨c,a,e,r⟩:=h;exact⟨c,a,hb.trans e,r⟩
def bk.below{l}(h:bk w b l)(a:R w w w'):bk w' b l:=h.of_block<|a.block b h.lt
def sF{es a l}(h:We es a l):es.size=l.length:=by have:=congrArg List.length h.keys;simpa using this
def sG(w:Y)(b o):w.grownBy {w with heap:=w.heap.setIfInBounds b o} (U b):=⟨rfl,rfl,rfl,by simp,λk c a=>by have:k≠b:=λe=>a (by rw[e]);simp[Zf this]⟩
theorem kh{c d:Type}(f:c->d)(g:c->c):∀(l:List c) (i:Nat),(∀a,l[i]?=U a->f (g a)=f a) ->(l.modify i g).map f=l.map f
 |[],i,h=>by simp
 |a::l,0,h=>by simp[h a rfl]
 |a::l,i+1,h=>by
  have:=kh f g l i λb hb=>h b<|by grind
  simp[this]
def ki{l}(h:bk w b l):
 ∃w',(Zc 205 (.map<|U b) (χ ω n)<|.bool V).run prog w=.ok () w'/\bk w' b (ml l n)/\w.grownBy w' (U b)/\w'.heap.size=w.heap.size:=by
 obtain⟨g,f,hb,i⟩:=h;have q:=jb n w g.toList l i.keys;have m:=(Ω.1 hb).1;by_cases o:n∈l
 have hi:=Y' o;have t:=sF i;have k:∀e,g.toList[l.idxOf n]?=U e->e.key=χ ω n/\e.val=.bool V:=by intro e c;have j:=congrArg (λz=>z[l.idxOf n]?) i.keys;simp only[Zi,c,Option.map_some]at j;rw[η hi]at j;simp[zQ]at j;exact j
 refine⟨{w with heap:=w.heap.setIfInBounds b<|.map (g.modify (l.idxOf n) λe=>{e with key:=χ ω n,val:=.bool V}) f},?_,?_,sG w b _,by simp⟩;unfold Zc;simp only[ZL,Z8 nl,Z4,run_get hb,Zz,sE,q,if_pos o];have u:(((g[l.idxOf n]?).map (·.key)).getD<|χ ω n)=χ ω n:=by have:g[l.idxOf n]?=U (g[l.idxOf n]'(by omega)):=ZI (by omega);rw[this];exact(k _<|by simp).1
 rw[u];simp[Instr.keyThatStays,Instr.sameBits,setObj,YY,hb];have d:ml l n=l:=by unfold ml;rw[if_pos (by simpa using o)]
 rw[d];refine⟨g.modify (l.idxOf n) λe=>{e with key:=χ ω n,val:=.bool V},f,by simp[m],⟨?_,?_,?_⟩⟩;rw[<-i.keys,Zs];exact kh _ _ _ _ λe c=>by rw[(k e c).1,(k e c).2]
 rw[Zs];have:=kh (λe:MapEntry=>e.born) (λe:MapEntry=>{e with key:=χ ω n,val:=Value.bool V}) g.toList (l.idxOf n) λe _=>rfl;rw[this];exact i.born;intro e c;rw[Zs]at c;have:e.born∈(g.toList.modify (l.idxOf n) λe=>{e with key:=χ ω n,val:=.bool V}).map (·.born):=YT c;rw[(kh (λe:MapEntry=>e.born) (λe:MapEntry=>{e with key:=χ ω n,val:=Value.bool V}) g.toList (l.idxOf n) λe _=>rfl)]at this;obtain⟨p,j,r⟩:=Zl.1 this;rw[<-r];exact i.old p j;refine⟨{w with heap:=w.heap.setIfInBounds b<|.map (g.push {key:=χ ω n,val:=.bool V,born:=f})<|f+1},?_,?_,sG w b _,by simp⟩
 ·unfold Zc;simp only[ZL,Z8 nl,Z4,run_get hb,Zz,sE,q,if_neg o];simp[setObj,YY,hb]
 have d:ml l n=l++[n]:=by unfold ml;rw[if_neg (by simpa using o)]
 rw[d];refine⟨_,f+1,by simp[m];rfl,⟨?_,?_,?_⟩⟩;rw[Zn,Z7,i.keys,Z7];simp[zQ];rw[Zn,Z7,ZG];refine⟨i.born,by simp,λa s b hb e=>?_⟩;simp at hb;subst hb;subst e;obtain⟨p,j,r⟩:=Zl.1 s;have:=i.old p j;omega;intro e c;rw[Zn]at c;obtain c|c:=ZY.1 c
 have:=i.old e c;omega;simp at c;subst c;exact Nat.lt_succ_self _
def uV{l}(h:bk w b l):(YG #[205] ty #[.map (U b)]).run prog w=.ok (χ ω (l.length:Int)) w:=by obtain⟨d,c,hb,a⟩:=h;simp[YG,run_get hb,(sF a)];rfl
def wE{l}(h:bk w b l):
 ∃w',(Zg #[205,3] ty #[.map (U b),χ ω n]).run prog w=.ok (.tuple #[]) w'/\bk w' b (l.erase n)/\w.grownBy w' (U b)/\w'.heap.size=w:=by
 obtain⟨g,c,hb,f⟩:=h;have o:=jb n w g.toList l f.keys;have k:=(Ω.1 hb).1;by_cases m:n∈l
 refine⟨{w with heap:=w.heap.setIfInBounds b<|.map (g.eraseIdxIfInBounds<|l.idxOf n) c},?_,?_,sG w b _,by simp⟩
 ·simp[Zg,Z8 nl,run_get hb,sE,o,if_pos m,setObj,YY,hb]
 have hi:=Y' m;have p:=sF f;have d:(g.eraseIdxIfInBounds<|l.idxOf n).toList=g.toList.eraseIdx (l.idxOf n):=by unfold Array.eraseIdxIfInBounds;rw[dif_pos (by omega)];simp
 refine⟨_,c,by simp[k];rfl,⟨?_,?_,?_⟩⟩;rw[d,gL,f.keys,<-gL,List.erase_eq_eraseIdx_of_idxOf (a:=n) (i:=l.idxOf n) rfl];rw[d,gL];exact f.born.sublist<|YX _ _;intro e j;rw[d]at j;exact f.old e<|(YX _ _).subset j;refine⟨{w with heap:=w.heap.setIfInBounds b<|.map g c},?_,?_,sG w b _,by simp⟩
 ·simp[Zg,Z8 nl,run_get hb,sE,o,if_neg m,setObj,YY,hb]
 rw[List.erase_of_not_mem m];exact⟨g,c,by simp[k],f⟩
def eD(w:Y)(r b:Nat)(l left:List Int):Prop:=∃es clk since seen c0,w.heap[b]?=U (.map es clk)/\We es clk l/\w.heap[r]?=U (.mapIter (U b) since seen c0)/\(∀e∈es.toList,e.born<since)/\since<=c0/\since<=clk/\
 (Zm es seen).toList.map (·.key)=left.map (χ ω)
def eD.keys{l}(h:eD w r b l left):bk w b l:=by obtain⟨f,c,a,seen,c0,e,d,_⟩:=h;exact⟨f,c,e,d⟩
def eD.of_block{l}(h:eD w r b l left)(hb:w'.heap[b]?=w.heap[b]?)(e:w'.heap[r]?=w.heap[r]?):eD w' r b l left:=by obtain⟨g,c,a,seen,c0,f,d,h3,h4⟩:=h;exact⟨g,c,a,seen,c0,hb.trans f,d,e.trans h3,h4⟩
def eD.lt{l}(h:eD w r b l left):r<w/\b<w/\r≠b:=by
 obtain⟨f,c,a,seen,c0,e,d,h3,h4⟩:=h
 grind
def qg{l}(h:bk w b l):
 ∃w',(Instr.range 205<|.map<|U b).run prog w=.ok (.pointer w.heap.size) w'/\eD w' w b l l/\w.grownBy w' M/\w'.heap.size=w.heap.size+1:=by
 obtain⟨c,a,hb,d⟩:=h;refine⟨_,run_range_map w 205 3 4 b c a nl hb,⟨c,a,a,#[],a,(ZT w _ b<|(Ω.1 hb).1).trans hb,d,ξ w _,d.old,.refl,.refl,?_⟩,World.grownBy_alloc w _ M,by simp⟩;have:Zm c #[]=c:=by unfold Zm;simp
 rw[this];have:=congrArg (Y8 Prod.fst) d.keys;simpa[zQ,Function.comp_def]using this
theorem filter_one{b c:Type}[DecidableEq c](f:b->c):∀(L:List b) (e:b),(L.map f).Nodup->e∈L->∃A B,L=A++e::B/\L.filter (λx=>!(f x==f e))=A++B
 |[],e,_,h=>by cases h
 |a::L,e,hn,h=>by
  rw[ZF,List.nodup_cons]at hn;obtain rfl|h:=List.mem_cons.1 h
  refine⟨[],L,rfl,?_⟩
  simp_all
  obtain⟨A,B,g,d⟩:=filter_one f L e hn.2 h
  grind
def sH{l}(h:eD w r b l left):
 (left=[]/\(Instr.next (.pointer r) Z ty).run prog w=.ok (.tuple #[.bool Z]) w)\/
 ∃A B n w',left=A++n::B/\(Instr.next (.pointer r) Z ty).run prog w=.ok (.tuple #[.bool V,χ ω n,.bool V]) w'/\eD w' r b l (A++B)/\w.grownBy w' (U r)/\w'.heap.size=w/\
  (Instr.entry<|.pointer r).run prog w'=.ok (.tuple #[χ ω n,.bool V]) w':=by
 obtain⟨H,y,D⟩:=h.lt;obtain⟨f,c,a,seen,c0,O,u,h3,h4,h5,m,v⟩:=h;obtain⟨h0,d⟩|⟨e,j,i,p,d⟩:=run_next_at (P:=prog) w ty r b a c0 seen f c h3 O h4 h5
 left;refine⟨?_,d⟩;have:(Zm f seen).toList=[]:=by simpa using h0
 rw[this]at v;simpa using v.symm;right;have s:e∈f.toList:=by unfold Zm at j;simp at j;simpa using j.1
 have G:∃n,e.key=χ ω n/\e.val=.bool V:=by have:(e.key,e.val)∈f.toList.map (λe=>(e.key,e.val)):=YT s;rw[u.keys]at this;obtain⟨n,_,L⟩:=Zl.1 this;simp[zQ]at L;exact⟨n,L.1.symm,L.2.symm⟩
 obtain⟨n,z,Q⟩:=G;have J:((Zm f seen).toList.map (·.born)).Nodup:=by unfold Zm;rw[Zr];exact u.born.sublist<|List.Sublist.map _ List.filter_sublist
 obtain⟨A,B,C,W⟩:=filter_one (λe:MapEntry=>e.born) _ e J j;rw[C,Z7,ZF]at v;obtain⟨T,C',rfl,K,N⟩:=List.map_eq_append_iff.1 v.symm;obtain⟨X,S,rfl,o,F⟩:=List.map_eq_cons_iff.1 N;rw[z]at o;cases o
 have g:i.heap=w.heap:=by obtain rfl|rfl:=p<;>rfl
 have q:w.grownBy (setBlock i r<|.mapIter (U b) a (seen.push e.born) c) (U r):=by
  have:=sG i r<|.mapIter (U b) a (seen.push e.born) c;obtain rfl|rfl:=p
  exact this;exact⟨this.os,this.tape,this.output,this.size,this.block⟩
 have E:(setBlock i r<|.mapIter (U b) a (seen.push e.born) c).heap.size=w:=by rw[<-g];simp[setBlock]
 have k:(setBlock i r<|.mapIter (U b) a (seen.push e.born) c).heap[r]?=U (.mapIter (U b) a (seen.push e.born) c):=by simp[setBlock,g,H]
 have t:(setBlock i r<|.mapIter (U b) a (seen.push e.born) c).heap[b]?=U (.map f c):=by rw[q.block b y (λj=>D (Zq j).symm)];exact O
 refine⟨T,S,n,_,rfl,?_,⟨f,c,a,seen.push e.born,c,t,u,k,h4,m,m,?_⟩,q,E,?_⟩;rw[d,z,Q];have:(Zm f<|seen.push e.born).toList=(Zm f seen).toList.filter (λx=>!(x.born==e.born)):=by unfold Zm;rw[Zr,Zr,List.filter_filter];refine List.filter_congr λx _=>?_;rw[Array.contains_push,Bool.not_or,Bool.and_comm]
 rw[this,W,Z7,Z7,K,F]
 ·have:=run_entry_at (P:=prog) _ r b a seen f c e k t s u.born;rw[this,z,Q]
end
end Kn
namespace Kn
open Go Go.RowKit Md
section
variable(w:Y)(a:Option Addr)(n:Nat)(s:ο)(m b:Nat)
def qw(w:Y)(b:Nat)(h:PH):Prop:=∃c r wi d,w b=U c/\w (b,1)=U r/\w (b,2)=U wi/\w (b,3)=U d/\sa w c h.cells/\eI w r h.roots/\n9 w wi h.aA/\n9 w d h.done
def qw.below{w w':Y}{b h}(a:R w w w')(e:qw w b h):qw w' b h:=by
 obtain⟨c,r,f,d,c0,c1,c2,c3,i,g,h3,h4⟩:=e;refine⟨c,r,f,d,?_,?_,?_,?_,i.below a,g.below a,h3.below a,h4.below a⟩
 all_goals rw[a.cell (az c0)];assumption
def dq(e):ZV prog 219 #[.bool Z,χ ω e] w λr w'=>r=.returned (.tuple #[])/\w'=w:=by
 go_enter (fU func219 rfl),ntmps219
 go_wp2
 go_end0;exact⟨rfl,rfl⟩
def sI:ZV prog 181 #[.agg #[χ ω 0,.slice a n m]] w λe w'=>e=.returned (.iface 264<|.agg #[χ ω 0,.slice a n m])/\R w w w':=by
 go_enter (fU func181 rfl),ntmps181
 go_wp2
 go_ret;exact⟨rfl,((Γ _ _).alloc .refl _)⟩
def sJ:ZV prog 181 #[.agg #[χ ω 1,.slice a n m]] w λe w'=>e=.returned (.iface 265<|.agg #[χ ω 1,.slice a n m])/\R w w w':=by
 go_enter (fU func181 rfl),ntmps181
 go_wp2
 go_ret;exact⟨rfl,((Γ _ _).alloc .refl _)⟩
def Oc(name)(f:Nat)(h:name= "caracole/heap.least"/\f=317\/name= "caracole/heap.most"/\f=319\/name= "caracole/heap.keeps"/\f=316\/name= "caracole/heap.loses"/\f=318):
 (YZ 463 264 (.agg #[χ ω 0,s]) name).run prog w=.ok (f,.agg #[χ ω 0,s]) w:=by
 obtain⟨rfl,rfl⟩|⟨rfl,rfl⟩|⟨rfl,rfl⟩|⟨rfl,rfl⟩:=h<;>kernel_rfl
def Od(name)(f:Nat)(h:name= "caracole/heap.least"/\f=323\/name= "caracole/heap.most"/\f=325\/name= "caracole/heap.keeps"/\f=322\/name= "caracole/heap.loses"/\f=324):
 (YZ 463 265 (.agg #[χ ω 1,s]) name).run prog w=.ok (f,.agg #[χ ω 1,s]) w:=by
 obtain⟨rfl,rfl⟩|⟨rfl,rfl⟩|⟨rfl,rfl⟩|⟨rfl,rfl⟩:=h<;>kernel_rfl
def Oe:ZV prog 317 #[.agg #[χ ω 0,.slice a n m]] w λe w'=>e=.returned (χ ω 0)/\R w w w':=by
 go_enter (fU func317 rfl),ntmps317
 go_wp2
 go_ret;exact⟨rfl,((Γ _ _).alloc .refl _)⟩
def Wf:ZV prog 319 #[.agg #[χ ω 0,.slice a n m]] w λe w'=>e=.returned (χ ω 4)/\R w w w':=by
 go_enter (fU func319 rfl),ntmps319
 go_wp2
 go_ret;exact⟨rfl,((Γ _ _).alloc .refl _)⟩
def Of:ZV prog 323 #[.agg #[χ ω 1,.slice a n m]] w λe w'=>e=.returned (χ ω 1)/\R w w w':=by
 go_enter (fU func323 rfl),ntmps323
 go_wp2
 go_ret;exact⟨rfl,((Γ _ _).alloc .refl _)⟩
def Wh:ZV prog 325 #[.agg #[χ ω 1,.slice a n m]] w λe w'=>e=.returned (χ ω 1)/\R w w w':=by
 go_enter (fU func325 rfl),ntmps325
 go_wp2
 go_ret;exact⟨rfl,((Γ _ _).alloc .refl _)⟩
def Og:ZV prog 318 #[.agg #[χ ω 0,.slice a n m],.map<|U b] w λe w'=>e=.returned (.bool Z)/\R w w w':=by
 go_enter (fU func318 rfl),ntmps318
 go_wp2
 go_ret;exact⟨rfl,((Γ _ _).alloc .refl _)⟩
def afa(l v)(h:bk w b l):ZV prog 180 #[.map (U b),ns v] w λe w'=>e=.returned (.bool<|has l v)/\R w w w':=by
 obtain⟨k,n⟩:=v;unfold ns;dsimp only;by_cases c:k=1
 ·subst c;have f:=ke n<|h.of_block (w':=w.alloc<|Δ #[χ ω 1,χ ω n] 50)<|ZT w _ b h.lt;have a:has l (1,n)=decide (n∈l):=by unfold has;simp
  rw[a];have g:=I h;clear a h;generalize decide (n∈l)=t at f⊢
  go_enter (fU func180 rfl),ntmps180
  go_wp2
  go_ret;exact⟨rfl,((Γ _ _).alloc .refl _)⟩
 ·have a:has l (k,n)=V:=by unfold has;simp[c]
  rw[a];have d:(k==1)=Z:=by simp[c]
  clear a h
  go_enter (fU func180 rfl),ntmps180
  go_wp2
  go_ret;exact⟨rfl,((Γ _ _).alloc .refl _)⟩
def Oh(l v vs)(h:bk w b l)(hs:eI w s (v::vs)):ZV prog 324 #[.agg #[χ ω 1,s],.map<|U b] w λe w'=>e=.returned (.bool<|!has l v)/\R w w w':=by
 obtain⟨a,m,rfl,u,t,k⟩:=hs;obtain⟨p,q⟩:=v;obtain⟨bv,o,rfl,hb,d⟩:=k (by simp);obtain⟨r,i⟩:=d 0 p q rfl;have c:=af w<|Δ #[χ ω 1,.slice (bv,o) ((p,q)::vs).length m] 265;have e1:=cG c r hb;have e2:=cG c i hb;simp only[Nat.zero_mul,Nat.add_zero]at e1 e2;have f:(0:Int)<(((p,q)::vs).length:Int):=by simp
 have j:=I<|h.below c;generalize ((p,q)::vs).length=n at c e1 e2 f j⊢;clear h d k r i
 go_enter (fU func324 rfl),ntmps324
 go_wp2_with fail
 refine(afa _ b l (p,q) j.out).mono ?_;rintro e x ⟨rfl,g⟩
 go_wp2_with fail
 go_ret;exact⟨rfl,c.trans<|g.mono<|by simp⟩
def I1:ZV prog 261 #[.iface 264 (.agg #[χ ω 0,.slice a n m])] w λe w'=>e=.returned (.slice a n m)/\R w w w':=by
 have b:∀w:Y,(ZD (.iface 264<|.agg #[χ ω 0,.slice a n m]) 208 264 V).run prog w=.ok (.tuple #[.agg #[χ ω 0,.slice a n m],.bool V]) w:=λw=>by kernel_rfl
 go_enter (fU func261 rfl),ntmps261
 go_wp2
 go_ret;exact⟨rfl,((Γ _ _).alloc .refl _)⟩
end
def EX{h n}(e:Ik h n=0):∃(i:Nat) (k:Int) (vs:List HV),n=(i:Int)/\h.cells[i]?=U (k,vs)/\k≠3:=by
 unfold Ik at e
 grind
def I2(w b h n)(l:qw w b h)(A:h.cells.length<=1000000)(e:Ik h n=0):ZV prog 221 #[Y2 (U ⟨b,0,M⟩),χ ω n] w λe w'=>e=.returned (.tuple #[])/\R w.heap.size w w':=by
 obtain⟨i,k,q,rfl,g,h3⟩:=EX e;obtain⟨c,r,y,d,c0,c1,c2,c3,t,_⟩:=l;obtain⟨a,m,rfl,z,u,j⟩:=t;have hi:=(Θ.1 g).1;obtain⟨bc,o,rfl,hb,f⟩:=j (by omega);obtain⟨B,_⟩:=f i k q g;have v:¬((i:Int)<0):=by omega
 have p:¬((h.cells.length:Int)<=(i:Int)):=by omega
 have s:(i:Int)<(h.cells.length:Int):=by omega
 have x:(k==3)=Z:=by simp[h3]
 clear f j e g h3
 go_enter (fU func221 rfl),ntmps221
 go_wp2_with fail
 ((with_reducible refine(dq _ _).mono ?_))
 rintro e w' ⟨rfl,rfl⟩
 go_wp2_with fail
 ((with_reducible refine(dq _ _).mono ?_))
 rintro e w' ⟨rfl,rfl⟩
 go_wp2
 go_end0;exact⟨rfl,Γ _ _⟩
def pq(w b h p q)(d:qw w b h)(g:h.cells.length<=1000000)(e:uI h (p,q)=0):ZV prog 220 #[Y2 (U ⟨b,0,M⟩),.agg #[χ ω p,χ ω q]] w λe w'=>e=.returned (.tuple #[])/\R w.heap.size w w':=by
 have i:=I d;clear d;by_cases h0:p=0
 ·subst h0;have a:¬(q< -99)/\¬(99<q):=by simp[uI]at e;omega
  obtain⟨a,c⟩:=a;clear e
  go_enter (fU func220 rfl),ntmps220
  go_wp2_with fail
  ((with_reducible refine(dq _ _).mono ?_))
  rintro e w' ⟨rfl,rfl⟩
  go_wp2
  go_end0;exact⟨rfl,af _ _⟩
 ·by_cases a:p=1
  ·subst a;have f:Ik h q=0:=by simpa[uI]using e
   have HR:=I f;clear e f h0
   go_enter (fU func220 rfl),ntmps220
   go_wp2_with fail
   refine(I2 _ b h q (i.out.below<|af _ _) g HR.out).mono ?_;rintro e w' ⟨rfl,hw⟩
   go_wp2
   go_end0;exact⟨rfl,(af _ _).trans<|hw.mono<|by simp⟩
  ·have c:p=2/\q=0:=by
    unfold uI at e;dsimp only at e;rw[if_neg h0,if_neg a]at e;split at e
    rename_i c;split at e
    rename_i h3;exact⟨c,h3⟩;cases e
    cases e
   obtain⟨rfl,rfl⟩:=c;have j:=nc 2 0;clear e h0 a
   go_enter (fU func220 rfl),ntmps220
   go_wp2_with fail
   ((with_reducible refine(dq _ _).mono ?_))
   rintro e w' ⟨rfl,rfl⟩
   go_wp2
   go_end0;exact⟨rfl,af _ _⟩
structure WF(h:PH):Prop where
 kinds:∀c∈h.cells,(c.1=0/\c.2.length<=4)\/(c.1=1/\c.2.length=1)
 eT:∀c∈h.cells,∀v∈c.2,uI h v=0
 many:h.cells.length<=40
 four:h.roots.length=4
 roots:∀v∈h.roots,uI h v=0
 aA:h.aA=[]
 done:h.done=[]
section
variable{m B n:Nat}{w:Y}{l:List (Int×ο)}
def afc{g:Nat}(h:OC w B (.slice g n m) l):∀j u,(l.flatMap dW)[j]?=U u->w ((g:Addr).add j)=U u:=by
 intro j u c;have b:0<l.length:=by grind
 obtain⟨a,d,e,_,_,h3⟩:=aF h;cases e
 obtain⟨f,e,_,_,_,hc⟩:=h3 b;cases e
 have:=hc j u c;unfold Zu;split
 rename_i h0;subst h0;exact this;simpa using this
def Dz{a:Option Addr}(h:OC w B (.slice a n m) l):n=l.length/\(a=M\/∃g,a=U ⟨g,0,M⟩):=by
 obtain⟨e,_⟩|⟨g,c,b,e,_⟩:=h.2
 grind
 grind
def tP{ty:YO}{bx:Nat}{a:Option Addr}{k:Int}{x:ο}{t:YO}{fr:Nat×Nat}(h:OC w B (.slice a n m) l)(D:w.heap[bx]?=U (Δ #[χ ω k,x] t fr))(E:x.oneCell'=V)(F:l.length<=1000000):
 ∃b w',(ε #[22,22] ty #[.slice a n n,.slice bx 1 1]).run prog w=.ok b w'/\OC w' w b (l++[(k,x)])/\R w w w'/\∃g y,b=.slice (g:Nat) (l.length+1) y:=by
 obtain⟨A,hi,i,o,p⟩:=Y1 ni;have d:∀j u,(dW (k,x))[j]?=U u->w ((bx:Addr).add j)=U u:=by
  intro j u f
  match j,f with
  |0,f=>cases f;simp[Ψ,D,Zu]
  |1,f=>cases f;simp[Ψ,D,Zu]
  |j+2,f=>simp[dW]at f
 have v:∀u∈dW (k,x),u.oneCell'=V:=by
  intro u C;simp[dW]at C;obtain rfl|rfl:=C
  rfl;exact E
 have fin:∀b w',w'.ownsRow w 76 2 b (l.length+1) (l.flatMap dW++dW (k,x)) ->OC w' w b (l++[(k,x)])/\∃g y,b=.slice (g:Nat) (l.length+1) y:=by
  intro b w' r1;have r:OC w' w b (l++[(k,x)]):=by unfold OC;rw[Z0,Z9];simpa using r1
  refine⟨r,?_⟩;obtain⟨g,s,e,_⟩:=r1.form (by omega);exact⟨g,s,e⟩
 obtain⟨rfl,rfl|⟨g,rfl⟩⟩:=Dz h;have q:l=[]:=by
  obtain h5|h5:=Nat.eq_zero_or_pos l.length
  exact υ h5;obtain⟨_,_,e,_,_,h4⟩:=aF h;cases e
  obtain⟨_,e,_⟩:=h4 h5;cases e
 subst q;obtain⟨b,w',c,r1,r2,_⟩:=Y0 (P:=prog) w w 22 ty 76 A _ 2 32 mF hi i o p rfl (by decide) (κ M 0 0) 0 [] (Zp w _ 76 2) bx 1 1 (dW (k,x)) rfl d v (by unfold ZA;omega) (by omega) .refl;obtain⟨q1,z⟩:=fin b w' (by simpa using r1);exact⟨b,w',c,q1,(Γ _ w).grown r2 .refl (λk e=>by cases e),z⟩
 ·obtain⟨b,w',c,r1,r2⟩:=Zo (P:=prog) w 22 ty 76 A _ 2 32 mF hi i o p rfl (by decide) (g:Nat) l.length l.length (l.flatMap dW) (iu l) (afc h) bx 1 1 (dW (k,x)) rfl d (by omega) (by unfold ZA;omega) (by omega);obtain⟨q1,z⟩:=fin b w' r1;exact⟨b,w',c,q1,(Γ _ w).grown r2 .refl (λk e=>by cases e),z⟩
def zR{g l z}(b:l.length=n)(c:B<=g)(hw:w.heap[g]?=U (.cells (l.flatMap lU++(madeCells z<|n*2).toList.drop (l.flatMap lU).length).toArray 50 (0,0)))(d:n<=1000000):OV w B (.slice g n n) l:=by
 subst b;have a:=fx l;rw[(List.drop_eq_nil_of_le (by rw[a];have:=jz z<|l.length*2;simp at this⊢;omega))]at hw;refine⟨a,.inr ⟨g,l.length,_,rfl,c,hw,.refl,by unfold ZA;omega,by simpa using a,?_⟩⟩
 grind
def aa{b i k:Nat}{v}(h:k≠b):(w.setCell (b,i) v).heap[k]?=w.heap[k]?:=ψ _ _ _ _ h
end
section
def d6:ο->Option Nat
 |κ (U a) _ _=>U a.block
 |_=>M
def OQ(w:Y)(B:Nat)(s:ο)(l:List Int):Prop:=∃a m,s=.slice a l.length m/\l.length<=m/\m<=9223372036854775807/\(a=M->m=0)/\
 ∀ad,a=U ad->∃g o cur,ad=⟨g,o,M⟩/\B<=g/\w.heap[g]?=U (.cells cur 3 (0,0))/\o+m<=cur.size/\∀i n,l[i]?=U n->cur[o+i]?=U (χ ω n)
def OQ.nil(w B):OQ w B (κ M 0 0) []:=⟨M,0,rfl,.refl,by decide,λ_=>rfl,λad e=>by cases e⟩
def OQ.lt{w B s l}(h:OQ w B s l){g}(c:d6 s=U g):B<=g/\g<w/\∃b,w.heap[g]?=U (.cells b 3 (0,0)):=by
 obtain⟨a,m,rfl,_,_,_,h5⟩:=h;obtain _|ad:=a
 cases c
 cases c
 grind
def OQ.of_block{w w' B s l}(h:OQ w B s l)(c:∀g,d6 s=U g->w'.heap[g]?=w.heap[g]?):OQ w' B s l:=by obtain⟨a,m,rfl,d,h3,h4,h5⟩:=h;refine⟨a,m,rfl,d,h3,h4,λad e=>?_⟩;subst e;obtain⟨g,o,b,rfl,f,hb,r⟩:=h5 _ rfl;exact⟨g,o,b,rfl,f,(c g rfl).trans hb,r⟩
def OQ.below{w w' B s l}(h:OQ w B s l)(b:R w w w'):OQ w' B s l:=h.of_block λg a=>b.block g (h.lt a).2.1
def Ny:prog.underlying 24=U (.slice 3):=se
def Wi{w:Y}{bx:Nat}{n t fr}(b:w.heap[bx]?=U (Δ #[χ ω n] t fr)):∀j u,([χ ω n])[j]?=U u->w ((bx:Addr).add j)=U u:=by
 intro j u a
 match j,a with
 |0,a=>cases a;simp[Ψ,b,Zu]
 |j+1,a=>simp at a
theorem Wj:∀l:List Int,(l.flatMap eP).length=l.length
 |[]=>rfl
 |a::l=>by rw[YN,Z9,Wj l];simp[eP];omega
def wF(w:Y)(b o v):w.setCells b o [v]=w.setCell (b,o) v:=by rfl
def aB{w:Y}{b:Nat}{a t fr}(h:w.heap[b]?=U (.cells a t fr))(i v):(w.setCell (b,i) v).heap[b]?=U (.cells (a.setIfInBounds i v) t fr):=by simp[Y5,Array.getElem?_modify,h]
def wG{w ty}{B bx:Nat}{s l n t fr}(h:OQ w B s l)(L:w.heap[bx]?=U (Δ #[χ ω n] t fr))(hl:l.length<=1000000)(hB:B<=w):
 ∃s' w',(ε #[24,24] ty #[s,.slice bx 1 1]).run prog w=.ok s' w'/\OQ w' B s' (l++[n])/\w.grownBy w' (d6 s)/\(∀g,d6 s'=U g->d6 s=U g\/w.heap.size<=g)/\∃a' m',s'=.slice a' (l.length+1) m':=by
 obtain⟨i0,hi,C,q,F⟩:=Y1 Dq;obtain⟨a,m,rfl,h2,h3,h4,h5⟩:=h;have d:=Wi L;have fin:∀f w',w'.ownsRow w 3 1 f (l.length+1) (l.flatMap eP++[χ ω n]) ->OQ w' B f (l++[n])/\(∀g,d6 f=U g->w.heap.size<=g)/\∃a' m',f=.slice a' (l.length+1) m':=by
  intro f w' r1;obtain⟨g,S,rfl,hg1,hg2⟩:=r1.form (by omega);obtain⟨e,_⟩|⟨g',cap',G,e,r,hb,hle,W,z,O⟩:=r1.2
  cases e
  injection e with e1 e2 e3
  injection e1 with e1
  injection e1 with e1 _ _
  subst e1;subst e3;refine⟨⟨U (g:Nat),S,by simp,by simpa using hle,by unfold ZA at W;omega,⟨λe=>(by cases e),λad e=>?_⟩⟩,λg0 e=>(by cases e;exact r),_,_,rfl⟩;cases e
  refine⟨g,0,G,rfl,Nat.le_trans hB r,hb,by rw[Nat.zero_add,z,Nat.mul_one];exact Nat.le_refl _,λi x c=>?_⟩;have v:(l.flatMap eP++[χ ω n]).length=l.length+1:=by rw[Z9,Wj];rfl
  have E:(l.flatMap eP++[χ ω n])[i]?=U (χ ω x):=by have:=zn eP (λn=>χ ω n) (λ_=>rfl) (l++[n]) i x c;rw[Z0]at this;simpa[eP]using this
  rw[<-O]at E;rw[φ]at E;split at E
  rw[Nat.zero_add];simpa using E;cases E
 obtain _|ad:=a
 have T:=h4 rfl;subst T;have H:l=[]:=υ (by omega);subst H;obtain⟨f,w',b,r1,r2,_⟩:=Y0 (P:=prog) w w 24 ty 3 i0 _ 1 8 se hi C q F rfl (by decide) (κ M 0 0) 0 [] (Zp w _ 3 1) bx 1 1 [χ ω n] rfl d (by simp[YF]) (by unfold ZA;omega) (by omega) .refl;obtain⟨q1,q2,X⟩:=fin f w' (by simpa using r1);exact⟨f,w',b,q1,r2,λg K=>.inr<|q2 g K,X⟩;obtain⟨g,o,G,rfl,r,hb,z,D⟩:=h5 _ rfl;have K:=(Ω.1 hb).1;by_cases p:l.length+1<=m
 have b:=run_append_room_cells (P:=prog) w 24 ty 3 i0 se hi g o l.length m bx 1 1 [χ ω n] (by rw[q];rfl) d (by simp[YF]) p
  (λj A=>by rw[q];simp at A;subst A;simp[Ψ,hb];omega)
  (λj A=>by simp[ZZ,hb])
 rw[q,Nat.mul_one,wF]at b;refine⟨_,_,b,⟨U ((g:Nat),o),m,by simp,by simpa using p,h3,⟨λe=>(by cases e),λad e=>?_⟩⟩,⟨rfl,rfl,rfl,by simp[Y5],λk hk N=>ψ _ _ _ _ λe=>N (by rw[e];rfl)⟩,λg0 hg0=>.inl hg0,_,_,rfl⟩;cases e
 refine⟨g,o,_,rfl,r,aB hb (o+l.length)<|χ ω n,by simpa using z,λi x c=>?_⟩;obtain J|J:=Nat.lt_or_ge i l.length
 rw[ZH J]at c;rw[Zh (by omega)];exact D i x c;have hie:i=l.length:=by have:=(Θ.1 c).1;simp at this;omega
 subst hie;simp at c;subst c;rw[Array.getElem?_setIfInBounds_self_of_lt (by omega)];have v:(l.flatMap eP).length=l.length*1:=by rw[Wj,Nat.mul_one]
 have y:∀j u,(l.flatMap eP)[j]?=U u->w ((((g:Nat),o):Addr).add j)=U u:=by
  intro j u A;have Q:j<l.length:=by have:=(Θ.1 A).1;omega
  obtain⟨x,L⟩:=lw Q;rw[(zn eP (λn=>χ ω n) (λ_=>rfl) l j x L)]at A;cases A
  have:=D j x L;unfold Zu;split
  rename_i h0;subst h0;simpa[Ψ,hb]using this;simpa[Ψ,hb]using this
 obtain⟨f,w',b,r1,r2⟩:=Zo (P:=prog) w 24 ty 3 i0 _ 1 8 se hi C q F rfl (by decide) ((g:Nat),o) l.length m (l.flatMap eP) v y bx 1 1 [χ ω n] rfl d (by omega) (by unfold ZA;omega) (by omega);obtain⟨q1,q2,X⟩:=fin f w' r1;exact⟨f,w',b,q1,⟨r2.os,r2.tape,r2.output,r2.size,λk hk _=>r2.block k hk<|by simp⟩,λg K=>.inr<|q2 g K,X⟩
def ow{P w ops rest o a Q}(e:o.guard=M)(s x t)(f:o.op=.call {callee:=.builtin .append,args:=#[s,x],argTypes:=#[t,t]})(v v2)(hs:a.eval s=v)(k:a.eval x=v2)(b:ο->Y->Prop)(d:∃c w',(ε #[t,t] o.type #[v,v2]).run P w=.ok c w'/\b c w')(h:∀c w',b c w'->ZE P ops Q rest (a.put o.dst c) w'):ZE P ops Q (o::rest) a w:=by refine wpList_plain e λK j=>?_;obtain⟨c,w',i,g⟩:=d;unfold Za execOp;simp only[f,resolve,invoke,builtin,ZL,Zz,Z4,YM,ZF,Yz,hs,k,i];exact j _ _<|h c w' g
def zS(w:Y)(B bq:Nat)(s:ο)(l:List Int):Prop:=w.heap[bq]?=U (Δ #[s] 305 (0,0))/\OQ w B s l
structure Kf(w w':Y)(bq bm:Nat)(s s':ο):Prop where
 os:w'.os=w.os
 tape:w'.tape=w.tape
 output:w'.output=w.output
 size:w.heap.size<=w'
 block:∀k,k<w.heap.size->k≠bq->k≠bm->d6 s≠U k->w'.heap[k]?=w.heap[k]?
 own:∀k,d6 s'=U k->d6 s=U k\/w.heap.size<=k
def Kf.bK{w w':Y}{bq bm s}(h:R w w w'):Kf w w' bq bm s s:=⟨h.os,h.tape,h.output,h.size,λk a _ _ _=>h.block k a,λk e=>.inl e⟩
def Kf.trans{w w' b bq bm s s' a}(h:Kf w w' bq bm s s')(k:Kf w' b bq bm s' a):Kf w b bq bm s a:=
 ⟨k.os.trans h.os,k.tape.trans h.tape,k.output.trans h.output,Nat.le_trans h.size k.size,
   λi hi d c h3=>(k.block i (Nat.lt_of_lt_of_le hi h.size) d c (λe=>by obtain e|e:=h.own i e;exact h3 e;omega)).trans<|h.block i hi d c h3,
   λi e=>by
    obtain e|e:=k.own i e
    exact h.own i e;exact .inr (Nat.le_trans h.size e)⟩
def Kf.below{w w' B bq bm s s' l}(h:Kf w w' bq bm s s')(a:OQ w B s l)(d:B<=bq)(c:B<=bm)(f:B<=w):R B w w':=⟨h.os,h.tape,h.output,h.size,λk b=>h.block k (by omega) (by omega) (by omega) (λe=>by have:=(a.lt e).1;omega)⟩
def zS.ne{w B bq s cs l}(hb:w.heap[bq]?=U (.cells cs 305 (0,0)))(b:OQ w B s l):d6 s≠U bq:=λe=>by
 obtain⟨_,_,a,hc⟩:=b.lt e
 grind
section
variable{w w1:Y}{B bq n0:Nat}{s s':ο}{l l':List Int}{o:Obj}
def pr(hb:w.heap[bq]?=U (Δ #[s] 305 (0,0)))(c:OQ w B s l)(b:(w.alloc o).grownBy w1 (d6 s)):w1.heap[bq]?=U (Δ #[s] 305 (0,0)):=by have a:=(Ω.1 hb).1;rw[b.block bq (by simp;omega) (Zf<|zS.ne hb c),ZT w o bq a];exact hb
def I4(hb:w.heap[bq]?=U (Δ #[s] 305 (0,0)))(b:OQ w B s l)(a:(w.alloc o).grownBy w1 (d6 s)):w1 bq=U s:=by simp[Ψ,pr hb b a]
def BO(hb:w.heap[bq]?=U (Δ #[s] 305 (0,0)))(b:OQ w B s l)(a:(w.alloc o).grownBy w1 (d6 s)):w1.frozen? bq=Z:=by simp[ZZ,pr hb b a]
def Oj{bm}(hb:w.heap[bq]?=U (Δ #[s] 305 (0,0)))(m:OQ w B s l)(f:OQ w1 B s' l')(a:(w.alloc o).grownBy w1 (d6 s))(p:∀g,d6 s'=U g->d6 s=U g\/(w.alloc o).heap.size<=g):
 ∃c,zS (w1.setCell ⟨bq,0,M⟩ s') B bq c l'/\Kf w (w1.setCell ⟨bq,0,M⟩ s') bq bm s c:=by
 have b:=pr hb m a;have d:w.heap.size<=w1.heap.size:=by have:=a.size;simp at this;omega
 refine⟨s',⟨?_,f.of_block λg e=>ψ _ _ _ _ λe2=>?_⟩,⟨a.os,a.tape,a.output,by simpa[Y5]using d,λk j i q n=>?_,λk e=>?_⟩⟩;rw[aB b];rfl;subst e2;exact zS.ne b f e;rw[ψ _ _ _ _ i,a.block k (by simp;omega)<|Zf n,ZT w o k j];obtain h|h:=p k e
 ·exact .inl h
 right;simp at h;omega
end
def afd(w B bq bm s l n)(h:zS w B bq s l)(v:B<=w)(j:l.length<=1000000):
 ZV prog 258 #[Y2 (U ⟨bq,0,M⟩),χ ω n] w λe w'=>e=.returned (.tuple #[])/\∃s',zS w' B bq s' (l++[n])/\Kf w w' bq bm s s':=by
 obtain⟨hb,f⟩:=h;have g:=(Ω.1 hb).1;have b:=I f;obtain⟨a,m,rfl,r,h3,h4,h5⟩:=f;have c0:w bq=U (.slice a l.length m):=by simp[Ψ,hb]
 have c:=I hb;clear h5 h4 hb
 go_enter (fU func258 rfl),ntmps258
 go_wp2_with (at_builtin;refine ow rfl _ _ 24 rfl (.slice a l.length m) (.slice w.heap.size 1 1) rfl rfl _ (wG (b.out.below<|af w _) (ξ w _) j (by simp;omega)) ?_;rintro q o ⟨i,d,k,t,x,rfl⟩;have u:=I4 c.out b.out d;have p:=BO c.out b.out d)
 go_end0;exact⟨rfl,Oj c.out b.out i d k⟩
end
section
def sK(w:Y)(B bo:Nat)(t:YO)(rest:List ο)(cs:List HC):Prop:=∃sc l,B<=bo/\w.heap[bo]?=U (.cells (sc::rest).toArray t (0,0))/\OC w B sc l/\df w B l cs
def fy{w w':Y}{B p e e2 size b n o v s xs d}(h:w.ownsRow B e size v n xs)(hs:w.ownsRow p e2 b s o d)(t:e≠e2)(q:w.grownBy w' s.ownBlock):w'.ownsRow B e size v n xs:=
 aS h λg a=>q.block g (h.lt g a).2 λc=>by
  obtain⟨e1,_⟩|⟨r,i,k,e1,_,l,_⟩:=h.2
  rw[e1]at a;cases a;rw[e1]at a;cases a;obtain⟨e3,_⟩|⟨u,j,f,e3,_,m,_⟩:=hs.2
  rw[e3]at c;cases c;rw[e3]at c;cases c
  grind
def hZ{w w':Y}{B b:Nat}{e size n v xs c t fr}(h:w.ownsRow B e size v n xs)(hb:w.heap[b]?=U (.cells c t fr))(f:t≠e)(i:∀k,k≠b->w'.heap[k]?=w.heap[k]?):w'.ownsRow B e size v n xs:=aS h λg a=>i g λd=>by subst d;exact cF h hb f a
section
variable{w w1 w2 w3:Y}{B bo:Nat}{t:YO}{rest:List ο}{cs:List HC}
def sK.below(h:sK w B bo t rest cs)(a:R w w w1):sK w1 B bo t rest cs:=by obtain⟨c,l,e,hb,d,b⟩:=h;exact⟨c,l,e,(a.block bo (Ω.1 hb).1).trans hb,d.below a,b.below a⟩
def Ok{y s' l k x vs}(E:B<=bo)(hb:w.heap[bo]?=U (.cells (y::rest).toArray t (0,0)))(H:OC w B y l)(s:df w B l cs)(m:B<=w)(r:t≠76/\t≠50)(o:R w w w2)(D:OV w2 w x vs)(n:w2.grownBy w3 y.ownBlock)(K:OC w3 B s' (l++[(k,x)])):
 sK (w3.setCell bo s') B bo t rest (cs++[(k,vs)])/\R B w (w3.setCell bo s'):=by
 have c:=H.below o;have b:=s.below o;have a:=(o.block bo (Ω.1 hb).1).trans hb;have f:=(n.block bo (Ω.1 a).1 (λe=>by
  obtain⟨e1,_⟩|⟨L,C,F,e1,_,z,_⟩:=c.2
  rw[e1]at e;cases e;rw[e1]at e;cases e;rw[z]at a;injection a with a
  injection a with _ h4 _
  exact r.1 h4.symm)).trans a
 have d:df w3 B l cs:=⟨b.1,λi k x q vs e1 e2=>⟨(b.2.1 i k x q vs e1 e2).1,fy (b.2.1 i k x q vs e1 e2).2 c (by decide) n⟩,b.2.2⟩;have j:∀k,k≠bo->(w3.setCell bo s').heap[k]?=w3.heap[k]?:=λk h=>aa h;refine⟨⟨s',l++[(k,x)],E,?_,hZ K f r.1 j,?_⟩,?_⟩;rw[aB f];simp;have A:df (w3.setCell bo s') B l cs:=⟨d.1,λi k x q vs e1 e2=>⟨(d.2.1 i k x q vs e1 e2).1,hZ (d.2.1 i k x q vs e1 e2).2 f r.2 j⟩,d.2.2⟩;refine A.snoc (OV.less (hZ (fy D c (by decide) n) f r.2 j) m) λi p hi g n u=>?_;have v:i<cs.length:=by rw[<-s.1];exact(Θ.1 hi).1
 obtain⟨G,J,e3⟩:=cQ v;have:=((s.2.1 i p.1 p.2 G J hi e3).2.lt g n).2;have:=(D.lt g u).1;omega;refine((o.mono m).grown n (Nat.le_trans m o.size) λk e=>?_).setCell (p:=⟨bo,0,M⟩) E _;exact(c.lt k e).1
end
end
section
variable{r d:ο}{b:Nat}{ln:List (Int×ο)}{wi:ο}{cs:List HC}{w':Y}{l:List (Int×ο)}{S0:Nat}{lo:List (Int×ο)}{w:Y}{B:Nat}
def I5{g n o m}(hB:B<=b)(hb:w.heap[b]?=U (Δ #[n,o,r,wi,d,m] 114 (0,0)))(hn:OC w B n ln)(G:df w B ln g.new)(X:OC w B o lo)(F:df w B lo g.old)(hr:OV w B r g.roots)(hw:OV w B wi g.aA)(hd:OV w B d g.done)(hm:OI w B m g.marked)(K:∀p∈ln,∀q∈lo,Apart p.2 q.2)(S:∀p∈ln,Apart p.2 r/\Apart p.2 wi/\Apart p.2 d)(W:∀p∈lo,Apart p.2 r/\Apart p.2 wi/\Apart p.2 d)(L:Apart r wi)(O:Apart r d)(b3:Apart wi d):dm w B b g:=by
 have c3:cellsOf (dp ln lo r wi d) 3 g.new=ln:=by simpa using iY (ln:=ln) (lo:=lo) (r:=r) (wi:=wi) (d:=d) (kind:=3) (.inl rfl) (by simpa using G)
 have Q:cellsOf (dp ln lo r wi d) 4 g.old=lo:=by simpa using iY (ln:=ln) (lo:=lo) (r:=r) (wi:=wi) (d:=d) (kind:=4) (.inr rfl) (by simpa using F)
 have l:∀i:Nat,i<g.new.length->∃p c,ln[i]?=U p/\g.new[i]?=U c/\dp ln lo r wi d (3,(i:Int))=p.2:=by intro i hi;obtain⟨p,q,e⟩:=cQ hi;have:=bH (row:=dp ln lo r wi d) (kind:=3) e;rw[c3]at this;exact⟨_,_,this,e,rfl⟩
 have f:∀i:Nat,i<g.old.length->∃p c,lo[i]?=U p/\g.old[i]?=U c/\dp ln lo r wi d (4,(i:Int))=p.2:=by intro i hi;obtain⟨p,q,e⟩:=cQ hi;have:=bH (row:=dp ln lo r wi d) (kind:=4) e;rw[Q]at this;exact⟨_,_,this,e,rfl⟩
 have s:∀k,IsKey g k->(∃i:Nat,i<g.new.length/\k=(3,(i:Int)))\/(∃i:Nat,i<g.old.length/\k=(4,(i:Int)))\/k=(0,0)\/k=(0,1)\/k=(0,2):=by
  rintro⟨a,c⟩ (⟨v,C,h3⟩|⟨v,C,h3⟩|⟨v,C,h3⟩);dsimp only at v C h3;subst v;have:c=0\/c=1\/c=2:=by omega
  obtain rfl|rfl|rfl:=this<;>simp
  dsimp only at v C h3;subst v;exact .inl ⟨c.toNat,by omega,by simp;omega⟩;dsimp only at v C h3;subst v;exact .inr<|.inl ⟨c.toNat,by omega,by simp;omega⟩
 refine⟨n,o,m,dp ln lo r wi d,hB,hb,by rw[c3];exact hn.rc,by rw[Q];exact X.rc,hm,λk J=>?_,λk T J H u=>?_⟩;obtain⟨i,hi,rfl⟩|⟨i,hi,rfl⟩|rfl|rfl|rfl:=s k J
 ·obtain⟨p,c,e1,e2,e3⟩:=l i hi;rw[e3,(J8 e2).2];exact(G.2.1 i p.1 p.2 c.1 c.2 e1 e2).2
 obtain⟨p,c,e1,e2,e3⟩:=f i hi;rw[e3,(B1 e2).2];exact(F.2.1 i p.1 p.2 c.1 c.2 e1 e2).2;exact hr;exact hw;exact hd;have z:∀i:Nat,i<g.new.length->Apart (dp ln lo r wi d (3,(i:Int))) r/\Apart (dp ln lo r wi d (3,(i:Int))) wi/\Apart (dp ln lo r wi d (3,(i:Int))) d:=λi hi=>by obtain⟨p,c,e1,e2,e3⟩:=l i hi;rw[e3];exact S p<|Ξ e1
 have A:∀i:Nat,i<g.old.length->Apart (dp ln lo r wi d (4,(i:Int))) r/\Apart (dp ln lo r wi d (4,(i:Int))) wi/\Apart (dp ln lo r wi d (4,(i:Int))) d:=λi hi=>by obtain⟨p,c,e1,e2,e3⟩:=f i hi;rw[e3];exact W p<|Ξ e1
 have D:∀i j:Nat,i<g.new.length->j<g.old.length->Apart (dp ln lo r wi d (3,(i:Int))) (dp ln lo r wi d (4,(j:Int))):=λi j hi t=>by obtain⟨p,c,e1,e2,e3⟩:=l i hi;obtain⟨y,N,x,P,E⟩:=f j t;rw[e3,E];exact K p (Ξ e1) y<|Ξ x
 obtain⟨i,hi,rfl⟩|⟨i,hi,rfl⟩|rfl|rfl|rfl:=s k J<;>obtain⟨j,t,rfl⟩|⟨j,t,rfl⟩|rfl|rfl|rfl:=s T H
 obtain⟨p,c,e1,e2,e3⟩:=l i hi;obtain⟨y,N,x,P,E⟩:=l j t;rw[e3,E];obtain h|h|h:=Nat.lt_trichotomy i j
 exact G.2.2 i j p y h e1 x;subst h;exact absurd rfl u;exact Apart.symm<|G.2.2 j i y p h x e1;exact D i j hi t;exact(z i hi).1;exact(z i hi).2.1;exact(z i hi).2.2;exact(D j i t hi).symm;obtain⟨p,c,e1,e2,e3⟩:=f i hi;obtain⟨y,N,x,P,E⟩:=f j t;rw[e3,E];obtain h|h|h:=Nat.lt_trichotomy i j
 exact F.2.2 i j p y h e1 x;subst h;exact absurd rfl u;exact Apart.symm<|F.2.2 j i y p h x e1;exact(A i hi).1;exact(A i hi).2.1;exact(A i hi).2.2;exact(z j t).1.symm;exact(A j t).1.symm;exact absurd rfl u;exact L;exact O;exact(z j t).2.1.symm;exact(A j t).2.1.symm;exact L.symm;exact absurd rfl u;exact b3;exact(z j t).2.2.symm;exact(A j t).2.2.symm;exact O.symm;exact b3.symm;exact absurd rfl u
def eJ{e size n v xs c t fr}(h:w.ownsRow B e size v n xs)(hb:w.heap[b]?=U (.cells c t fr))(j:t≠e):v.ownBlock≠U b:=λa=>by
 obtain⟨e1,_⟩|⟨i,d,f,e1,_,g,_⟩:=h.2
 rw[e1]at a;cases a;rw[e1]at a;cases a
 grind
def Ol(w:Y)(B b S0:Nat)(r wi d:ο)(news bw:List HC):Prop:=∃sn so ln lo,B<=b/\w.heap[b]?=U (Δ #[sn,so,r,wi,d,κ M 0 0] 114 (0,0))/\OC w B sn ln/\df w S0 ln news/\OC w B so lo/\df w S0 lo bw/\Apart sn so/\∀p∈ln,∀q∈lo,Apart p.2 q.2
def uW{e size n v s xs}(h:w.ownsRow B e size v n xs)(c:Apart v s)(b:w.grownBy w' s.ownBlock):w'.ownsRow B e size v n xs:=aS h λg a=>b.block g (h.lt g a).2 λd=>c g a d.symm
def kj{l2 s}(h:df w S0 l cs)(hs:OC w B s l2)(c:w.grownBy w' s.ownBlock):df w' S0 l cs:=⟨h.1,λi k x a b e1 e2=>⟨(h.2.1 i k x a b e1 e2).1,fy (h.2.1 i k x a b e1 e2).2 hs (by simp) c⟩,h.2.2⟩
def lA{c t fr}(h:df w S0 l cs)(hb:w.heap[b]?=U (.cells c t fr))(f:t≠50)(e:∀k,k≠b->w'.heap[k]?=w.heap[k]?):df w' S0 l cs:=⟨h.1,λi k x d a e1 e2=>⟨(h.2.1 i k x d a e1 e2).1,hZ (h.2.1 i k x d a e1 e2).2 hb f e⟩,h.2.2⟩
def lY(h:df w S0 l cs){p}(c:p∈l){g}(e:p.2.ownBlock=U g):S0<=g/\g<w:=by
 obtain⟨i,hi⟩:=Z3.1 c;have a:i<cs.length:=by rw[<-h.1];exact(Θ.1 hi).1
 obtain⟨b,d,e3⟩:=cQ a;exact(h.2.1 i p.1 p.2 b d hi e3).2.lt g e
def I6{w2 m u so s' news bw k x vs}(E:B<=b)(hb:w.heap[b]?=U (Δ #[u,so,r,wi,d,κ M 0 0] 114 (0,0)))(F:OC w B u ln)(C:df w S0 ln news)(h3:OC w B so lo)(h4:df w S0 lo bw)(h5:Apart u so)(H:∀p∈ln,∀q∈lo,Apart p.2 q.2)(v:B<=w)(J:S0<=w)(j:R w w w2)(A:OV w2 w x vs)(n:w2.grownBy m u.ownBlock)(G:OC m B s' (ln++[(k,x)]))(y:s'.ownBlock=u.ownBlock\/∀g,s'.ownBlock=U g->w2.heap.size<=g):
 Ol (m.setCell b s') B b S0 r wi d (news++[(k,vs)]) bw/\R B w (m.setCell b s'):=by
 have f:=F.below j;have t:=h3.below j;have l:=(j.block b (Ω.1 hb).1).trans hb;have a:=(n.block b (Ω.1 l).1 (λe=>by have:=eJ f l (by decide);exact this e.symm)).trans l
 have c:∀k,k≠b->(m.setCell b s').heap[k]?=m.heap[k]?:=λk h=>aa h;refine⟨⟨s',so,ln++[(k,x)],lo,E,?_,hZ G a (by decide) c,?_,hZ (uW t h5.symm n) a (by decide) c,lA (kj (h4.below j) f n) a (by decide) c,?_,?_⟩,?_⟩;rw[aB a];simp;refine(lA (kj (C.below j) f n) a (by decide) c).snoc (OV.less (hZ (fy A f (by decide) n) a (by decide) c) J) λi p hi g z s=>?_;have:=(lY C (Ξ hi) z).2;have:=(A.lt g s).1;omega;intro g e1 e2;obtain y|y:=y
 rw[y]at e1;exact h5 g e1 e2;have:=y g e1;have:=(t.lt g e2).2;omega;intro p o q D;obtain o|o:=ZY.1 o
 exact H p o q D;simp at o;subst o;intro g e1 e2;have:=(A.lt g e1).1;have:=(lY h4 D e2).2;omega;exact((j.mono v).grown n (Nat.le_trans v j.size) λk e=>(f.lt k e).1).setCell (p:=⟨b,0,M⟩) E _
def I7{w2 m y so s' news bw k x vs}(E:B<=b)(hb:w.heap[b]?=U (Δ #[y,so,r,wi,d,κ M 0 0] 114 (0,0)))(F:OC w B y ln)(C:df w S0 ln news)(h3:OC w B so lo)(h4:df w S0 lo bw)(h5:Apart y so)(H:∀p∈ln,∀q∈lo,Apart p.2 q.2)(u:B<=w)(J:S0<=w)(j:R w w w2)(A:OV w2 w x vs)(n:w2.grownBy m so.ownBlock)(G:OC m B s' (lo++[(k,x)]))(v:s'.ownBlock=so.ownBlock\/∀g,s'.ownBlock=U g->w2.heap.size<=g):
 Ol (m.setCell (b,1) s') B b S0 r wi d news (bw++[(k,vs)])/\R B w (m.setCell (b,1) s'):=by
 have t:=F.below j;have f:=h3.below j;have l:=(j.block b (Ω.1 hb).1).trans hb;have a:=(n.block b (Ω.1 l).1 (λe=>by have:=eJ f l (by decide);exact this e.symm)).trans l
 have c:∀k,k≠b->(m.setCell (b,1) s').heap[k]?=m.heap[k]?:=λk h=>aa h;refine⟨⟨y,s',ln,lo++[(k,x)],E,?_,hZ (uW t h5 n) a (by decide) c,lA (kj (C.below j) f n) a (by decide) c,hZ G a (by decide) c,?_,?_,?_⟩,?_⟩;rw[aB a];simp;refine(lA (kj (h4.below j) f n) a (by decide) c).snoc (OV.less (hZ (fy A f (by decide) n) a (by decide) c) J) λi p hi g z s=>?_;have:=(lY h4 (Ξ hi) z).2;have:=(A.lt g s).1;omega;intro g e1 e2;obtain v|v:=v
 rw[v]at e2;exact h5 g e1 e2;have:=v g e2;have:=(t.lt g e1).2;omega;intro p D q o;obtain o|o:=ZY.1 o
 exact H p D q o;simp at o;subst o;intro g e1 e2;have:=(A.lt g e2).1;have:=(lY C D e1).2;omega;exact((j.mono u).grown n (Nat.le_trans u j.size) λk e=>(f.lt k e).1).setCell (p:=⟨b,1,M⟩) E _
end
end Kn
namespace Rg
open Go Go.RowKit
section
variable{id:Nat}
variable{P:ZO}{Q:YV->Zk->Y->Prop}{l:List ZX}{m:Nat}{A:Nat->Bool}{F:Nat->ο->Y->Prop}{a0:Zk}{w0:Y}
def d6(v:ο):Nat:=match v with
 |Y2 (U a)=>a.block
 |_=>0
def h9(l:List ZX)(i:Nat):Option Tmp:=(l[i]?).bind (·.dst)
def Pv(l:List ZX)(m:Nat):Bool:=
 decide (m<=l.length)&&((ZR m).all λi=>match l[i]? with
  |some o=>o.dst.isSome&&o.guard.isNone&&o.after.all λe=>!μ .any e||decide (e.on<i)
  |none=>Z)&&
 decide ((ZR m).Pairwise λi j=>h9 l i≠h9 l j)&&aaJ .any l.toArray m m&&Z2 .any l.toArray (l.length-m) m (ZU m V++ZU (l.length-m) Z).toArray
def XA(l:List ZX)(m s:Nat):Bool:=(ZR m).all λi=>h9 l i !=U s
def Hop(P:ZO)(Q:YV->Zk->Y->Prop)(l:List ZX)(m:Nat)(A:Nat->Bool)(F:Nat->ο->Y->Prop)(a0:Zk)(w0:Y)(i:Nat)(o:ZX):Prop:=
 ∀a w,R w0 w0 w->(∀s,XA l m s=V->a.tmps.getD s undef=a0.tmps.getD s undef) ->(∀e∈o.after,μ .any e=V->∀d,h9 l e.on=U d->F e.on (a.tmps.getD d undef) w) ->
  Za P o a w (λa' w'=>∃v,a'=a.put o.dst v/\R w w w'/\F i v w'/\(A i=V->w.heap.size<=d6 v/\d6 v<w')) Q
def G':List ZX->Nat->(Nat->ο) ->Zk->Zk
 |[],_,_,a=>a
 |o::l,k,vs,a=>G' l (k+1) vs<|a.put o.dst<|vs k
structure aav(l:List ZX)(m:Nat)(A:Nat->Bool)(F:Nat->ο->Y->Prop)(a0:Zk)(w0:Y)(listed:Array Bool)(a:Zk)(w:Y):Prop where
 below:R w0 w0 w
 size:a.tmps.size=a0.tmps.size
 defers:a.defers=a0.defers
 base:∀s,(∀i,i<m->listed.getD i Z=V->h9 l i≠U s) ->a.tmps.getD s undef=a0.tmps.getD s undef
 has:∀i d,i<m->listed.getD i Z=V->h9 l i=U d->F i (a.tmps.getD d undef) w
 low:∀i d,i<m->A i=V->listed.getD i Z=V->h9 l i=U d->d6 (a.tmps.getD d undef)<w
 agp:∀i j d e,i<m->j<m->i≠j->A i=V->A j=V->listed.getD i Z=V->listed.getD j Z=V->h9 l i=U d->h9 l j=U e->d6 (a.tmps.getD d undef)≠d6 (a.tmps.getD e undef)
def NF(a:Zk)(d v):(a.put d v).tmps.size=a.tmps.size:=by cases d<;>simp[Act.put]
def put_defers(a:Zk)(d v):(a.put d v).defers=a.defers:=by cases d<;>rfl
def Rh{a:Zk}{d:Option Tmp}{s:Nat}(v)(h:d≠U s):(a.put d v).tmps[s]?=a.tmps[s]?:=by
 obtain _|d:=d
 rfl;have:d≠s:=λe=>h<|e▸rfl;simp[Act.put,Zh this]
def put_eq{a:Zk}{s}(v)(h:s<a.tmps.size):(a.put (U s) v).tmps[s]?=U v:=by simp[Act.put,h]
def Rz{x y:Array ο}{s}(h:x[s]?=y[s]?):x.getD s undef=y.getD s undef:=by simp[h]
theorem XH:∀(l:List ZX) (k:Nat) (vs:Nat->ο) (a:Zk),(G' l k vs a).tmps.size=a.tmps.size/\(G' l k vs a).defers=a.defers
 |[],_,_,_=>⟨rfl,rfl⟩
 |o::l,k,vs,a=>by have:=XH l (k+1) vs<|a.put o.dst<|vs k;exact⟨this.1.trans<|NF _ _ _,this.2.trans<|put_defers _ _ _⟩
theorem PW:∀(l:List ZX) (k:Nat) (vs:Nat->ο) (a:Zk) (s:Nat),(∀o∈l,o.dst≠U s) ->(G' l k vs a).tmps[s]?=a.tmps[s]?
 |[],_,_,_,_,_=>rfl
 |o::l,k,vs,a,s,h=>(PW l (k+1) vs _ s λo b=>h o<|Zw _ b).trans<|Rh _<|h o ZK
theorem RB:∀(l:List ZX) (k:Nat) (vs:Nat->ο) (a:Zk) (i:Nat) (o:ZX) (s:Nat),l[i]?=U o->o.dst=U s->s<a.tmps.size->(∀j o',i<j->l[j]?=U o'->o'.dst≠U s) ->(G' l k vs a).tmps[s]?=U (vs<|k+i)
 |[],_,_,_,_,_,_,h,_,_,_=>by simp at h
 |o::l,k,vs,a,0,o',s,h,hd,hs,hn=>by
  cases h
  show(G' l (k+1) vs _).tmps[s]?=_;rw[PW l (k+1) vs _ s λx b=>by obtain⟨j,c⟩:=Z3.1 b;exact hn (j+1) x (by omega) c,hd]
  exact put_eq _ hs
 |o::l,k,vs,a,i+1,o',s,h,hd,hs,hn=>by show(G' l (k+1) vs _).tmps[s]?=_;rw[RB l (k+1) vs _ i o' s h hd (by rw[NF];exact hs) λj x c b=>hn (j+1) x (by omega) b,Nat.add_right_comm,Nat.add_assoc]
def Qk(h:Pv l m=V):m<=l.length/\(∀i,i<m->∃o d,l[i]?=U o/\o.dst=U d/\h9 l i=U d/\o.guard=M/\∀e∈o.after,μ .any e=V->e.on<i)/\
 (∀i j,i<j->j<m->h9 l i≠h9 l j)/\aaJ .any l.toArray m m=V/\Z2 .any l.toArray (l.length-m) m (ZU m V++ZU (l.length-m) Z).toArray=V:=by
 unfold Pv at h;simp only[ι,decide_eq_true_eq]at h;obtain⟨⟨⟨⟨n,g⟩,h3⟩,h4⟩,h5⟩:=h;refine⟨n,λi hi=>?_,λi j a p=>?_,h4,h5⟩;have:=ZQ.1 g i<|ZJ.2 hi;cases ho:l[i]? with
 |none=>simp[ho]at this
 |some o=>simp only[ho,ι,Array.all_eq_true]at this;obtain⟨⟨t1,t2⟩,c⟩:=this;obtain⟨d,hd⟩:=Option.isSome_iff_exists.1 t1;refine⟨o,d,rfl,hd,by simp[h9,ho,hd],by simpa using t2,λe f hb=>?_⟩;obtain⟨k,b,rfl⟩:=Array.mem_iff_getElem.1 f;have:=c k b;simpa[hb]using this
 rw[Z1]at h3;have:=h3 i j (by simp;omega) (by simp;omega) a;simpa using this
def aav.act(B:m<=l.length)(v:∀i,i<m->∃o d,l[i]?=U o/\o.dst=U d/\h9 l i=U d)(h3:∀i j,i<j->j<m->h9 l i≠h9 l j)(x:∀i d,i<m->h9 l i=U d->d<a0.tmps.size){listed a w}(n:∀i,i<m->listed.getD i Z=V)(h:aav l m A F a0 w0 listed a w):a=G' (l.take m) 0 (λi=>a.tmps.getD ((h9 l i).getD 0) undef) a0:=by
 obtain⟨q,p⟩:=XH (l.take m) 0 (λi=>a.tmps.getD ((h9 l i).getD 0) undef) a0;have e:a.tmps=(G' (l.take m) 0 (λi=>a.tmps.getD ((h9 l i).getD 0) undef) a0).tmps:=by
  refine Array.ext (by rw[q,h.size]) λs c k=>?_;have f:s<a0.tmps.size:=by rw[<-h.size];exact c
  have g:(G' (l.take m) 0 (λi=>a.tmps.getD ((h9 l i).getD 0) undef) a0).tmps[s]?=a.tmps[s]?:=by
   by_cases hw:∃i,i<m/\h9 l i=U s
   obtain⟨i,hi,b⟩:=hw;obtain⟨o,d,e1,e2,e3⟩:=v i hi;rw[b]at e3;cases e3
   rw[RB (l.take m) 0 _ a0 i o s (by rw[φ,if_pos hi];exact e1) e2 f λj C u e hd=>?_];simp[b,c];rw[φ]at e;split at e
   exact h3 i j u (by assumption) (by rw[b];simp[h9,e,hd]);cases e
   rw[PW (l.take m) 0 _ a0 s λo r hd=>hw ?_]
   ·have:=h.base s λi hi _ b=>hw ⟨i,hi,b⟩;simp[c,f]at this⊢;exact this.symm
   obtain⟨i,hi⟩:=Z3.1 r;rw[φ]at hi;split at hi
   exact⟨i,by assumption,by simp[h9,hi,hd]⟩;cases hi
  exact(Zq<|(ZI k).symm.trans<|g.trans<|ZI c).symm
 cases a with
 |mk t d=>
  cases hp:G' (l.take m) 0 (λi=>t.getD ((h9 l i).getD 0) undef) a0 with
  |mk z y=>simp only[hp]at e p;have:=h.defers;simp only at this;rw[e,this,<-p]
def XB(hB:Pv l m=V)(T:∀i d,i<m->h9 l i=U d->d<a0.tmps.size)(hst:∀i v w w',R w.heap.size w w'->F i v w->F i v w')(hop:∀i o,i<m->l[i]?=U o->Hop P Q l m A F a0 w0 i o)(O:∀vs w,R w0 w0 w->(∀i,i<m->F i (vs i) w) ->(∀i j,i<m->j<m->i≠j->A i=V->A j=V->d6 (vs i)≠d6 (vs j)) ->ZE P l.toArray Q (l.drop m) (G' (l.take m) 0 vs a0) w):
 ∀f listed a w,listed.size=l.length->listed.toList.countP (λb=>!b)=f->(∀j,m<=j->listed.getD j Z=Z) ->Down .any l.toArray listed->aav l m A F a0 w0 listed a w->wpAny P .any l.toArray Q f listed a w:=by
 obtain⟨h1,G,h3,h4,h5⟩:=Qk hB;have fin:∀(f:Nat) (listed:Array Bool) (a:Zk) (w:Y),listed.size=l.length->listed.toList.countP (λb=>!b)=f->(∀j,m<=j->listed.getD j Z=Z) ->(∀i,i<m->listed.getD i Z=V) ->aav l m A F a0 w0 listed a w->wpAny P .any l.toArray Q f listed a w:=by
  intro f listed a w hs hc J n r;have hl:listed=(ZU m V++ZU (l.length-m) Z).toArray:=by
   refine Array.ext (by simp;omega) λi K hi2=>?_;by_cases hi:i<m
   have:=n i hi;simp[K]at this;simp[this,YS,hi];have:=J i (by omega);simp[K]at this;simp[this,YS,hi]
  have hf:f=(l.drop m).length:=by rw[<-hc,hl];simp[List.countP_append,YW]
  subst hf;refine wpAny_of_seq (l.drop m) m listed a w (λj=>by simp) (by rw[hl,List.length_drop];exact h5) ?_;rw[r.act h1 (λi hi=>by obtain⟨o,d,e1,e2,e3,_⟩:=G i hi;exact⟨o,d,e1,e2,e3⟩) h3 T n];refine O _ w r.below (λi hi=>?_) λi j hi p c ai z=>?_;obtain⟨o,d,e1,e2,e3,_⟩:=G i hi;have:=r.has i d hi (n i hi) e3;rw[e3];exact this;obtain⟨_,d,_,_,e3,_⟩:=G i hi;obtain⟨_,d',_,_,e4,_⟩:=G j p;have:=r.agp i j d d' hi p c ai z (n i hi) (n j p) e3 e4;rw[e3,e4];exact this
 intro f
 induction f with
 |zero=>intro listed a w hs hc J hd r;refine fin 0 listed a w hs hc J (λi hi=>?_) r;rw[List.countP_eq_zero]at hc;have:=hc listed[i] (by simp);simpa[(by omega:i<listed.size)]using this
 |succ f ih=>
  intro listed a w hs hc J hd r;by_cases n:∀i,i<m->listed.getD i Z=V
  exact fin _ listed a w hs hc J n r
  ·
   have hex:∃k,k<m/\listed.getD k Z=Z/\∀i,i<k->listed.getD i Z=V:=by
    have:∃k,k<m/\listed.getD k Z=Z:=by
     apply Classical.byContradiction;intro hn;exact n λi hi=>by
      cases hb:listed.getD i Z with
      |true=>rfl
      |false=>exact absurd ⟨i,hi,hb⟩ hn
    obtain⟨k,H⟩:=this
    induction k using Nat.strongRecOn with
    |_ k ihk=>
     by_cases p:∃j,j<k/\listed.getD j Z=Z
     obtain⟨j,hj1,hj2⟩:=p;exact ihk j hj1 ⟨by omega,hj2⟩;refine⟨k,H.1,H.2,λi hi=>?_⟩;cases hb:listed.getD i Z with
     |true=>rfl
     |false=>exact absurd ⟨i,hi,hb⟩ p
   obtain⟨k,L,X,hkl⟩:=hex;refine⟨λW=>?_,λi hi=>?_⟩;exfalso;obtain⟨o,d,e1,e2,e3,e4,e5⟩:=G k L;have:k∈ZW .any l.toArray listed:=by rw[Y7];exact⟨by simpa[(by omega:k<listed.size)]using X,o,by simpa using e1,λe he hb=>hkl _<|e5 e he hb⟩
   rw[W]at this;cases this
   obtain⟨u1,o,u2,u3⟩:=Y7.1 hi;have N:l[i]?=U o:=by simpa using u2
   have x:i<m:=by
    apply Nat.lt_of_not_le;intro hle;have hb:=ZQ.1 h4 i<|ZJ.2 (Ω.1 u2).1;simp only[YI,decide_eq_true_eq]at hb;obtain hb|hb:=hb
    omega;have:=aaB hd _ i o u2 u3<|ZQ.1 hb k<|ZJ.2 L;rw[X]at this;cases this
   obtain⟨o',d,e1,e2,e3,e4,e5⟩:=G i x;obtain rfl:=Zq<|N.symm.trans e1;have hil:i<l.length:=by omega
   have y:i<listed.size:=by omega
   have hif:listed.getD i Z=Z:=by simp[y]at u1⊢;exact u1
   have hq:=hop i o x N a w r.below (λs hs=>r.base s λj p _ hsl=>by have:=ZQ.1 hs j<|ZJ.2 p;simp[hsl]at this) (λe he hb d hd'=>r.has e.on d (by have:=e5 e he hb;omega) (u3 e he hb) hd')
   unfold wpOp;simp only[u2];rw[if_pos (by simp[Zt,e4])];refine .inl<|Yy (λa' w' h'=>?_) hq;obtain⟨v,rfl,hb,hv,hA⟩:=h';refine ih (listed.setIfInBounds i V) _ w' (by simpa using hs) ?_ (λj p=>?_) (hd.set hi) ?_;simp only[Array.toList_setIfInBounds];rw[List.countP_set (by simpa using y)];have hpos:0<listed.toList.countP (λb=>!b):=by omega
   have:listed.toList[i]'(by simpa using y)=Z:=by simpa[y]using hif
   rw[this,hc];simp;rw[ZM Z (by omega)];exact J j p;have hold:∀j q,j<m->j≠i->h9 l j=U q->(a.put o.dst v).tmps.getD q undef=a.tmps.getD q undef:=λj q p c g=>by
    have C:o.dst≠U q:=λe=>by
     obtain h'|h':=Nat.lt_or_ge i j
     exact h3 i j h' p<|e3.trans<|e2.symm.trans<|e.trans g.symm;exact h3 j i (by omega) x<|g.trans<|e.symm.trans<|e2.trans e3.symm
    exact Rz<|Rh v C
   have t:∀di,h9 l i=U di->(a.put o.dst v).tmps.getD di undef=v:=λdi hi=>by
    rw[e3]at hi;cases hi
    rw[e2];have:=put_eq (a:=a) v (s:=d) (by rw[r.size];exact T i d x e3);simp[this]
   have u:∀j q,j<m->A j=V->(listed.setIfInBounds i V).getD j Z=V->h9 l j=U q->(j≠i->d6 ((a.put o.dst v).tmps.getD q undef)<w):=λj q p z h g c=>by rw[hold j q p c g];rw[ZM Z (λe=>c e.symm)]at h;exact r.low j q p z h g
   refine⟨r.below.trans<|hb.mono r.below.size,by rw[NF,r.size],by rw[put_defers,r.defers],λs hs=>?_,λj q p h g=>?_,λj q p z h g=>?_,λj k q dk p H S z ak h E g B=>?_⟩;have C:o.dst≠U s:=λe=>hs i x (by simp[y])<|e3.trans<|e2.symm.trans e;rw[Rz (Rh v C)];refine r.base s λj p h=>hs j p ?_;exact aaD h;by_cases c:j=i
   ·subst c;rw[t q g];exact hv
   rw[hold j q p c g];rw[ZM Z (λe=>c e.symm)]at h;exact hst _ _ _ _ hb<|r.has j q p h g;by_cases c:j=i
   ·subst c;rw[t q g];exact(hA z).2
   exact Nat.lt_of_lt_of_le (u j q p z h g c) hb.size;by_cases c:j=i
   ·subst c;rw[t q g];have:=u k dk H ak E B<|Zf S;have:=(hA z).1;omega
   by_cases D:k=i
   ·subst D;rw[t dk B];have:=u j q p z h g c;have:=(hA ak).1;omega
   rw[hold j q p c g,hold k dk H D B];rw[ZM Z (λe=>c e.symm)]at h;rw[ZM Z (λe=>D e.symm)]at E;exact r.agp j k q dk p H S z ak h E g B
def aaw{w:Y}(m A F)(k:P.follows .mixedOrders=V)(p:Pv l m=V)(g:∀i d,i<m->h9 l i=U d->d<a0.tmps.size)(c:∀i v w w',R w.heap.size w w'->F i v w->F i v w')(f:∀i o,i<m->l[i]?=U o->Hop P Q l m A F a0 w.drew i o)(b:∀vs w1,R w w.drew w1->(∀i,i<m->F i (vs i) w1) ->(∀i j,i<m->j<m->i≠j->A i=V->A j=V->d6 (vs i)≠d6 (vs j)) ->ZE P l.toArray Q (l.drop m) (G' (l.take m) 0 vs a0) w1):(Zv id l.toArray V).wp P Q a0 w:=by
 refine wp_region_any k ?_;refine XB p g c f b _ _ a0 _ (by simp) (by simp[YW]) (λj q=>?_) (λj s r n=>?_) ⟨.refl _ _,rfl,rfl,λ_ _=>rfl,λi d hi a _=>?_,λi d hi _ a _=>?_,λi j d e hi _ _ _ _ a _ _ _=>?_⟩;by_cases h:j<l.length<;>simp[h]
 by_cases h:j<l.length<;>simp[h]at n
 by_cases h:i<l.length<;>simp[h]at a
 by_cases h:i<l.length<;>simp[h]at a
 by_cases h:i<l.length<;>simp[h]at a
structure SP where
 p:ο->Y->Prop
 st:∀v w w',R w.heap.size w w'->p v w->p v w'
def SP.eq(x:ο):SP:=⟨λv _=>v=x,λ_ _ _ _ h=>h⟩
def gN(L:List SP)(i:Nat)(v:ο)(w:Y):Prop:=((L[i]?).getD ⟨λ_ _=>True,λ_ _ _ _ h=>h⟩).p v w
def agq(P:ZO)(Q:YV->Zk->Y->Prop)(l:List ZX)(L:List SP)(A:Nat->Bool)(a0:Zk)(w0:Y)(i:Nat)(o:ZX):Prop:=
 ∀a w,R w0 w0 w->(∀s,XA l L.length s=V->(a.tmps[s]?).getD undef=(a0.tmps[s]?).getD undef) ->(∀j d,(o.after.toList.any λe=>μ .any e&&e.on==j)=V->h9 l j=U d->gN L j ((a.tmps[d]?).getD undef) w) ->
  Za P o a w (λa' w'=>∃v,a'=a.put o.dst v/\R w w w'/\gN L i v w'/\(A i=V->w.heap.size<=d6 v/\d6 v<w')) Q
def Pl(P:ZO)(Q:YV->Zk->Y->Prop)(l:List ZX)(L:List SP)(A:Nat->Bool)(a0:Zk)(w0:Y):Nat->List ZX->Prop
 |_,[]=>True
 |i,o::r=>agq P Q l L A a0 w0 i o/\Pl P Q l L A a0 w0 (i+1) r
def Pl.at_{L}:∀r k i o,Pl P Q l L A a0 w0 k r->r[i]?=U o->agq P Q l L A a0 w0 (k+i) o
 |o::r,k,0,_,h,e=>by cases e;exact h.1
 |o::r,k,i+1,o',h,e=>by have:=Pl.at_ r (k+1) i o' h.2 e;rwa[Nat.add_right_comm,Nat.add_assoc]at this
 |[],_,_,_,_,e=>by simp at e
def aic(P:ZO)(Q:YV->Zk->Y->Prop)(l:List ZX)(L:List SP)(a0:Zk)(w0:Y)(i:Nat)(o:ZX):Prop:=
 ∀a w,R w0 w0 w->(∀s,XA l L.length s=V->(a.tmps[s]?).getD undef=(a0.tmps[s]?).getD undef) ->(∀j d,(o.after.toList.any λe=>μ .any e&&e.on==j)=V->h9 l j=U d->gN L j ((a.tmps[d]?).getD undef) w) ->
  Za P o a w (λa' w'=>∃v,a'=a.put o.dst v/\R w w w'/\gN L i v w') Q
def XC(P:ZO)(Q:YV->Zk->Y->Prop)(l:List ZX)(L:List SP)(a0:Zk)(w0:Y):Nat->List ZX->Prop
 |_,[]=>True
 |i,o::r=>aic P Q l L a0 w0 i o/\XC P Q l L a0 w0 (i+1) r
def Pl.none{L}:∀r k,XC P Q l L a0 w0 k r->Pl P Q l L (λ_=>Z) a0 w0 k r
 |[],_,_=>trivial
 |o::r,k,h=>⟨λa w c b h3=>Yy (λf d ⟨v,e1,e2,e3⟩=>⟨v,e1,e2,e3,λe=>by cases e⟩)<|h.1 a w c b h3,Pl.none r (k+1) h.2⟩
def RD:List SP->Nat->(Nat->ο) ->Y->Prop
 |[],_,_,_=>True
 |s::L,k,vs,w=>s.p (vs k) w/\RD L (k+1) vs w
theorem Ql{L:List SP}{vs:Nat->ο}{w:Y}(h:∀i,i<L.length->gN L i (vs i) w):∀(a:List SP) (k:Nat),(∀j,a[j]?=L[k+j]?) ->RD a k vs w
 |[],_,_=>trivial
 |s::a,k,e=>by have b:=e 0;simp at b;refine⟨?_,Ql h a (k+1) λj=>by have:=e<|j+1;simpa[Nat.add_assoc,Nat.add_comm 1 j]using this⟩;have:=h k<|(Θ.1 b.symm).1;simpa[gN,<-b]using this
def Py{w:Y}(L A)(m:P.follows .mixedOrders=V)(r:Pv l L.length=V)(u:((ZR L.length).all λi=>decide<|(h9 l i).getD 0<a0.tmps.size)=V)(k:Pl P Q l L A a0 w.drew 0 (l.take L.length))(f:∀vs w1,R w w.drew w1->RD L 0 vs w1->(∀i j,i<L.length->j<L.length->i≠j->A i=V->A j=V->d6 (vs i)≠d6 (vs j)) ->ZE P l.toArray Q (l.drop L.length) (G' (l.take L.length) 0 vs a0) w1):(Zv id l.toArray V).wp P Q a0 w:=by
 refine aaw L.length A (gN L) m r (λi d hi hd=>?_) (λi v w x hb h=>?_) (λi o hi n=>?_) λvs w1 hb h hd=>f vs w1 hb (Ql h L 0 λj=>by rw[Nat.zero_add]) hd
 grind
 exact SP.st _ _ _ _ hb h;have:=Pl.at_ (l.take L.length) 0 i o k (by rw[φ,if_pos hi];exact n);rw[Nat.zero_add]at this;intro a t hb c g;refine this a t hb (λs hs=>by have:=c s hs;simpa using this) λj d p hd=>?_;obtain⟨e,q,b⟩:=List.any_eq_true.1 p;simp only[ι,beq_iff_eq]at b;have:=g e (by simpa using q) b.1 d (by rw[b.2];exact hd);rw[b.2]at this;simpa using this
def pT{w:Y}(L)(d:P.follows .mixedOrders=V)(e:Pv l L.length=V)(c:((ZR L.length).all λi=>decide<|(h9 l i).getD 0<a0.tmps.size)=V)(b:XC P Q l L a0 w.drew 0 (l.take L.length))(a:∀vs w1,R w w.drew w1->RD L 0 vs w1->ZE P l.toArray Q (l.drop L.length) (G' (l.take L.length) 0 vs a0) w1):(Zv id l.toArray V).wp P Q a0 w:=by refine Py L (λ_=>Z) d e c (Pl.none _ _ b) λvs w1 hb h _=>a vs w1 hb h
def lT{L j x v w}(h:gN L j x w)(e:L[j]?=U (.eq v)):x=v:=by unfold gN at h;rw[e]at h;exact h
attribute [go_sem] G'
end
end Rg
