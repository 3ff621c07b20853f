/- A part of the proof of GcKnown; no conditions. -/
import Derived.Test.YtbnmpafbfoaggaaGreatDoorQ3
import Derived.Test.YtbnmpafbfoaggaaGreatDoorQ1
import Derived.ScopeJumps
import Derived.WalkMore
import Derived.LoopNIn
import Derived.Maps.RangeWalk
import Derived.Maps.OwnSet
import Derived.Defers
import Derived.Recover
import Derived.Laws.Pointers
set_option linter.unusedVariables false
set_option linter.unusedSimpArgs false
set_option maxRecDepth 100000
set_option maxHeartbeats 16000000
noncomputable section
open Array renaming getElem?_eq_some_iff->Ω
open Go.Lib renaming hid->Ψ
open Go.Value renaming pointer->Ξ,slice->Γ,int->χ,map->Z3
open Go.World renaming cell?->Θ,frozen?->μ,size_alloc->η,putObj_heap_other->Z7
open Go.Obj renaming cells->Δ
open And renaming intro->ω
open Go renaming heap_alloc_new->ψ,World->υ,Value->ο,callsIn_wide->ξ,step_scope->ζ,wpIn_rangeFunc_ownH->ε,TypeId->Z8,Calls->Z4
open Go.IntKind renaming i64->φ
open Option.some renaming inj->κ
open Bool renaming false->ι
open Int renaming eq_ofNat_of_zero_le->θ
open Ne renaming symm->Z9
namespace Go.Proofs.YtbnmpafbfoaggaaGreatDoor
namespace Kn
open Go Go.RowKit Go.Shelf Md
section
def i2(l:List Int)(x:List Int×List Int):List Int×List Int:=l.foldl iG x
def dJ(l:List HV)(x:List Int×List Int):List Int×List Int:=i2 (dI l) x
structure Sr where
 q:List Int
 met:List Int
 al:List Int
def zW(h:PH)(x:Sr):Sr:=
 match x.q with
 |[]=>x
 |n::q=>
  let c:=h.cells.getD n.toNat (0,[])
  let y:=if c.1=0 then dJ c.2 (q,x.met)else(q,x.met)
  ⟨y.1,y.2,nb x.al n⟩
def dP(h:PH):Nat->Sr->Sr
 |0,x=>x
 |k+1,x=>zW h (dP h k x)
def gD(h:PH)(al:List Int):Sr:=⟨(dJ h.roots ([],[])).1,(dJ h.roots ([],[])).2,al⟩
def Wt(h:PH)(N:Nat)(al:List Int):List Int:=(dP h N (gD h al)).al
def jE(h:PH)(N:Nat):Nat->List Int
 |0=>[]
 |r+1=>Wt h N (jE h N r)
structure lZ(h:PH)(N R:Nat):Prop where
 fin:∀r,r<=R->(dP h N (gD h (jE h N r))).q=[]
 refs:∀r,r<=R->∀k,k<=N->∀n∈(dP h k (gD h (jE h N r))).q,0<=n/\n<h.cells.length
 short:∀r,r<=R->∀k,k<=N->(dP h k (gD h (jE h N r))).q.length<=1000
 grow:∀r,r<R->(jE h N r).length<(jE h N (r+1)).length
 stop:¬(jE h N R).length<(jE h N (R+1)).length
 sM:(dI h.roots).length<=1000
 pos:∀v∈h.roots,v.1=1->0<=v.2
 Wu:∀c∈h.cells,∀v∈c.2,v.1=1->0<=v.2
 kinds:∀c∈h.cells,c.1=0\/c.1=1
 wW:∀c∈h.cells,c.2.length<=1000
theorem sN(l:List Int)(n:Int)(x:List Int×List Int):i2 (l++[n]) x=iG (i2 l x) n:=by simp[i2]
theorem E4(x:List Int×List Int)(n:Int):(iG x n).1.length<=x.1.length+1:=by unfold iG;split<;>simp
theorem pt:∀(l:List Int) (x:List Int×List Int),(i2 l x).1.length<=x.1.length+l.length
 |[],x=>by simp[i2]
 |n::l,x=>by have h1:=pt l (iG x n);have h2:=E4 x n;show(i2 l (iG x n)).1.length<=_;simp only[List.length_cons];omega
theorem sO{h:PH}{x:Sr}{k:Nat}(hq:(dP h k x).q=[]):∀N,k<=N->dP h N x=dP h k x
 |0,hk=>by
  have:k=0:=by omega
  rw[this]
 |N+1,hk=>by
  rcases Nat.lt_or_ge N k with h1|h1
  ·have:k=N+1:=by omega
   rw[this]
  ·have ih:=sO hq N h1;show zW h (dP h N x)=_;rw[ih];unfold zW;rw[hq]
theorem BS{h:PH}{x:Sr}{k:Nat}{n:Int}{q:List Int}(hq:(dP h k x).q=n::q):dP h (k+1) x=⟨(if(h.cells.getD n.toNat (0,[])).1=0 then dJ (h.cells.getD n.toNat (0,[])).2 (q,(dP h k x).met)else(q,(dP h k x).met)).1,
 (if(h.cells.getD n.toNat (0,[])).1=0 then dJ (h.cells.getD n.toNat (0,[])).2 (q,(dP h k x).met)else(q,(dP h k x).met)).2,nb (dP h k x).al n⟩:=by
 show zW h (dP h k x)=_;unfold zW;rw[hq]
theorem zX(l:List HV)(v:HV)(x:List Int×List Int):dJ (l++[v]) x=if v.1=1 then iG (dJ l x) v.2 else dJ l x:=by
 unfold dJ;rw[lB];split
 ·rw[sN]
 ·rfl
theorem BT(l:List HV):(dI l).length<=l.length:=by unfold dI;rw[List.length_map];exact List.length_filter_le _ _
theorem BU{F:Fence}{n:Nat}{P:Program}{Q:Exit->Act->υ->Prop}{a:Act}{w:υ}{c:Code}(I:Nat->Act->υ->Prop)(N:Nat)(h0:I 0 a w)
 (round:∀k a w,k<=N->I k a w->c.wpIn F n P (Exit.then (fun a' w'=>k<N/\I (k+1) a' w') Q) a w):(Code.loop c).wpIn F n P Q a w:=by
 have d:∀m k a w,k+m=N+1->k<=N->I k a w->Code.roundsIn F n P c Q m a w:=by
  intro m
  induction m with
  |zero=>intro k a w f b _;omega
  |succ m i=>
   intro k a w f b g;rw[roundsIn_succ];refine wpIn_mono (round k a w b g) fun e a' w' h=>?_
   cases e with
   |normal=>exact i (k+1) a' w' (by omega) (by have:=h.1;omega) h.2
   |_=>exact h
 exact wpIn_loop_rounds (N+1) (d (N+1) 0 a w (by omega) (Nat.zero_le _) h0)
theorem qy{P:Program}{a:Act}{w:υ}{Q:Exit->Act->υ->Prop}{c rest:Code}(l:Nat)(J:Nat->Act->υ->Prop)(N:Nat)(hf:findLabel c l=some (.seq .skip rest))
 (first:(∀a w,J 0 a w->rest.wp P (Exit.jump l (fun a' w'=>0<N/\J 1 a' w') Q) a w) ->c.wp P (Exit.jump l (fun a' w'=>0<N/\J 1 a' w') Q) a w)
 (pass:∀k a w,k<=N->J k a w->rest.wp P (Exit.jump l (fun a' w'=>k<N/\J (k+1) a' w') Q) a w):(Code.scope c).wp P Q a w:=by
 intro b k cs;have p:∀k a w,k<=N->J k a w->(Code.seq .skip rest).wp P (Exit.jump l (fun a' w'=>k<N/\J (k+1) a' w') Q) a w:=fun k a w u y=>wp_seq (wp_skip (pass k a w u y))
 have B:gotoIn l (.inScope c::k)=some (.code (.seq .skip rest)::.inScope c::k):=by simp[gotoIn,hf]
 have z:∀m j a w,j+m=N->J j a w->∃e a' w',Q e a' w'/\Arrives P (lone (b.at a (.code (.seq .skip rest)::.inScope c::k)) cs w) b k cs e a' w':=by
  intro m
  induction m with
  |zero=>
   intro j a w D y;obtain⟨e,g,d,n,f⟩:=p j a w (by omega) y b (.inScope c::k) cs;cases e with
   |normal=>exact⟨.normal,g,d,n,Steps.trans f (.one step_inScope)⟩
   |exit id=>exact⟨.exit id,g,d,n,fun x u=>f x (by simp[exitTo,u])⟩
   |goto C=>obtain⟨_,v,_⟩:=n;omega
   |ret=>exact⟨_,g,d,n,f⟩
   |panic A=>exact⟨_,g,d,n,f⟩
   |outgrown=>exact⟨_,g,d,n,f⟩
  |succ m E=>
   intro j a w D y;obtain⟨e,g,d,n,f⟩:=p j a w (by omega) y b (.inScope c::k) cs;cases e with
   |normal=>exact⟨.normal,g,d,n,Steps.trans f (.one step_inScope)⟩
   |exit id=>exact⟨.exit id,g,d,n,fun x u=>f x (by simp[exitTo,u])⟩
   |goto C=>obtain⟨rfl,v,t⟩:=n;obtain⟨q,r,s,o,i⟩:=E (j+1) g d (by omega) t;exact⟨q,r,s,o,.of_steps (f _ B) i⟩
   |ret=>exact⟨_,g,d,n,f⟩
   |panic A=>exact⟨_,g,d,n,f⟩
   |outgrown=>exact⟨_,g,d,n,f⟩
 obtain⟨e,g,d,n,f⟩:=first (fun a w h=>pass 0 a w (Nat.zero_le _) h) b (.inScope c::k) cs
 cases e with
 |normal=>exact⟨.normal,g,d,n,.head ζ (Steps.trans f (.one step_inScope))⟩
 |exit id=>exact⟨.exit id,g,d,n,fun x u=>.head ζ (f x (by simp[exitTo,u]))⟩
 |goto C=>obtain⟨rfl,v,t⟩:=n;obtain⟨q,r,s,o,i⟩:=z (N-1) 1 g d (by omega) t;exact⟨q,r,s,o,.of_steps (.head ζ (f _ B)) i⟩
 |ret=>exact⟨_,g,d,n,.of_steps (.one ζ) f⟩
 |panic A=>exact⟨_,g,d,n,.of_steps (.one ζ) f⟩
 |outgrown=>exact⟨_,g,d,n,.of_steps (.one ζ) f⟩
def Jh(D:Nat):Deferred:={target:=.collected D,args:=#[]}
def Marks(W:υ)(lo:Nat)(Ds:List Nat):Prop:=Ds.Nodup/\∀D∈Ds,lo<=D/\W.heap[D]?=some (.deferred (some []))
theorem Marks.nil(W:υ)(lo:Nat):Marks W lo []:=⟨List.nodup_nil,fun D h=>by cases h⟩
theorem Marks.of_block{W W':υ}{lo:Nat}{Ds:List Nat}(h:Marks W lo Ds)(hk:∀D∈Ds,W.heap[D]?=some (.deferred (some [])) ->W'.heap[D]?=W.heap[D]?):Marks W' lo Ds:=⟨h.1,fun D a=>⟨(h.2 D a).1,(hk D a (h.2 D a).2).trans (h.2 D a).2⟩⟩
theorem Marks.lt{W:υ}{lo:Nat}{Ds:List Nat}(h:Marks W lo Ds){D:Nat}(hD:D∈Ds):D<W.heap.size:=(Ω.1 (h.2 D hD).2).1
theorem oz{F:Fence}{n:Nat}{P:Program}{fn:Func}{tmps:Array ο}{R:Ending->υ->Prop}:∀(Ds:List Nat) (W:υ) (lo:Nat),Marks W lo Ds->
 (∀W',W'.heap.size=W.heap.size->W'.os=W.os->W'.tape=W.tape->W'.output=W.output->(∀k,k∉Ds->W'.heap[k]?=W.heap[k]?) ->LeavesInM F n P fn tmps R [] .returning W') ->
 LeavesInM F n P fn tmps R (Ds.map Jh) .returning W
 |[],W,lo,hm,h=>h W rfl rfl rfl rfl fun _ _=>rfl
 |D::Ds,W,lo,hm,h=>by
  have hD:=(hm.2 D List.mem_cons_self).2;have hn:=List.nodup_cons.1 hm.1;refine⟨by simp,.inl ⟨D,_,rfl,run_takeDeferred hD,?_⟩⟩;refine oz Ds _ lo ⟨hn.2,fun D' hD'=>⟨(hm.2 D' (List.mem_cons_of_mem _ hD')).1,?_⟩⟩ fun W' h1 h2 h3 h4 h5=>?_
  ·rw[Z7 (by rintro rfl;exact hn.1 hD')];exact(hm.2 D' (List.mem_cons_of_mem _ hD')).2
  ·refine h W' (by rw[h1];simp[World.putObj]) h2 h3 h4 fun k hk=>?_
   rw[h5 k (fun e=>hk (List.mem_cons_of_mem _ e)),Z7 (by rintro rfl;exact hk List.mem_cons_self)]
theorem OQ.Q7{w:υ}{B B':Nat}{s:ο}{l:List Int}(h:OQ w B s l)(hB:B'<=B):OQ w B' s l:=by obtain⟨a,m,rfl,d,j,f,i⟩:=h;refine⟨a,m,rfl,d,j,f,fun ad e=>?_⟩;obtain⟨g,o,b,e2,c,r⟩:=i ad e;exact⟨g,o,b,e2,Nat.le_trans hB c,r⟩
def hdI(l:List Int):Int:=l.headD 0
def isI(l:List Int):Bool:=!l.isEmpty
theorem Ow:hdI []=0:=rfl
theorem Ox:isI []=ι:=rfl
theorem Ji(n:Int)(l:List Int):hdI (n::l)=n:=rfl
theorem Jj(n:Int)(l:List Int):isI (n::l)=true:=rfl
theorem BV(w:υ)(B bq bm:Nat)(s:ο)(l:List Int)(h:zS w B bq s l)(hl:l.length<=1000000):
 Z4 aD.prog 260 #[Ξ (some ⟨bq,0,none⟩)] w fun e w'=>e=.returned (.tuple #[χ φ (hdI l),.bool (isI l)])/\∃s',zS w' B bq s' l.tail/\ox w w' bq bm s s':=by
 cases l with
 |nil=>exact(EY w B bq s h).mono fun e w' ⟨b,a⟩=>⟨b,s,by rw[a];exact h,by rw[a];exact ox.bK (Below.refl _ _)⟩
 |cons n l=>exact EZ w B bq bm s n l h (by simp at hl;omega)
structure AO(w W:υ)(A:List Int)(Ds:List Nat):Prop where
 c3:W.heap[w.heap.size]?=some (Δ #[χ φ (-1)] 3 (0,0))
 al:bk W (w.heap.size+1) A
 E5:Marks W (w.heap.size+2) Ds
 below:Below w.heap.size w W
structure AQ(w W:υ)(q0:Nat)(A:List Int)(s:ο)(q met:List Int)(Ds:List Nat):Prop extends AO w W A Ds where
 lo:w.heap.size+1<q0
 qa:zS W q0 q0 s q
 mt:bk W (q0+1) met
 mc:W.heap[q0+1+1]?=some (Δ #[.map (some (q0+1))] 205 (0,0))
 me:W.heap[q0+1+1+1]?=some (Δ #[.func (.func 257) #[] #[Ξ (some ⟨q0+1+1,0,none⟩),Ξ (some ⟨w.heap.size,0,none⟩),Ξ (some ⟨q0,0,none⟩)]] 256 (0,0))
section
variable{w W W':υ}{q0:Nat}{A A':List Int}{s s':ο}{q q' met met':List Int}{Ds:List Nat}
theorem AQ.keep(h:AQ w W q0 A s q met Ds)(ht:ox W W' q0 (q0+1) s s'){k:Nat}{o:Obj}(hk:W.heap[k]?=some o)(h1:k≠q0)(h2:k≠q0+1)(h3:q0<=k->∀cur fr,o≠.cells cur 3 fr):W'.heap[k]?=some o:=by
 refine(ht.block k (Ω.1 hk).1 h1 h2 fun e=>?_).trans hk;obtain⟨a,_,cur,hc⟩:=h.qa.2.lt e;rw[hk]at hc;cases hc
 exact h3 a _ _ rfl
theorem AQ.to(h:AQ w W q0 A s q met Ds)(hq:zS W' q0 q0 s' q')(hm:bk W' (q0+1) met')(ht:ox W W' q0 (q0+1) s s'):AQ w W' q0 A s' q' met' Ds:=by
 have f:=h.lo;have i:=h.below.size;refine⟨⟨h.keep ht h.c3 (by omega) (by omega) (fun e=>by omega),?_,?_,?_⟩,f,hq,hm,h.keep ht h.mc (by omega) (by omega) (fun _ a fr e=>by cases e),h.keep ht h.me (by omega) (by omega) (fun _ a fr e=>by cases e)⟩
 ·obtain⟨j,c,hb,r⟩:=h.al;exact⟨j,c,h.keep ht hb (by omega) (by omega) (fun e=>by omega),r⟩
 ·refine h.E5.of_block fun D k hb=>?_
  have g:D≠q0:=fun e=>by subst e;rw[h.qa.1]at hb;cases hb
  have d:D≠q0+1:=fun e=>by subst e;obtain⟨j,c,b,_⟩:=h.mt;rw[hb]at b;cases b
  rw[h.keep ht hb g d (fun _ a fr e=>by cases e),hb]
 ·exact h.below.trans (ht.below (B:=w.heap.size) (h.qa.2.Q7 (by omega)) (by omega) (by omega) i)
theorem AQ.low(h:AQ w W q0 A s q met Ds)(hk:Below W.heap.size W W'):AQ w W' q0 A s q met Ds:=h.to ⟨(hk.block q0 (Ω.1 h.qa.1).1).trans h.qa.1,h.qa.2.below hk⟩ (h.mt.below hk) (ox.bK hk)
theorem AQ.grown(h:AQ w W q0 A s q met Ds){row:Option Nat}{n0:Nat}(hq:q0+1+1+1<n0)(hD:∀D∈Ds,D<n0)(hg:W.grownBy W' row)(hr:∀r,row=some r->n0<=r/\∃o:Obj,W.heap[r]?=some o/\o.isCells=ι):AQ w W' q0 A s q met Ds:=by
 have c:=h.lo;have l:=h.below.size;have b:∀k,k<n0->k<W.heap.size->W'.heap[k]?=W.heap[k]?:=fun k t p=>hg.block k p fun e=>by have:=(hr k e.symm).1;omega
 have a:∀{k:Nat} {o:Obj},W.heap[k]?=some o->k<W.heap.size:=fun e=>(Ω.1 e).1
 refine⟨⟨(b _ (by omega) (a h.c3)).trans h.c3,h.al.of_block (b _ (by omega) h.al.lt),h.E5.of_block fun D j hb=>b D (hD D j) (a hb),h.below.grown hg l (fun k e=>by have:=(hr k e).1;omega)⟩,c,
  ⟨(b _ (by omega) (a h.qa.1)).trans h.qa.1,h.qa.2.of_block fun g i=>?_⟩,h.mt.of_block (b _ (by omega) h.mt.lt),(b _ (by omega) (a h.mc)).trans h.mc,(b _ (by omega) (a h.me)).trans h.me⟩
 obtain⟨_,f,n,hc⟩:=h.qa.2.lt i;refine hg.block g f fun e=>?_
 obtain⟨_,o,m,d⟩:=hr g e.symm;rw[hc]at m;cases m
 cases d
theorem AQ.alive(h:AQ w W q0 A s q met Ds)(hal:bk W' (w.heap.size+1) A')(hg:W.grownBy W' (some (w.heap.size+1))):AQ w W' q0 A' s q met Ds:=by
 have c:=h.lo;have j:=h.below.size;have b:∀k,k≠w.heap.size+1->k<W.heap.size->W'.heap[k]?=W.heap[k]?:=fun k m l=>hg.block k l fun e=>m (κ e)
 have a:∀{k:Nat} {o:Obj},W.heap[k]?=some o->k<W.heap.size:=fun e=>(Ω.1 e).1
 refine⟨⟨(b _ (by omega) (a h.c3)).trans h.c3,hal,h.E5.of_block fun D i hb=>b D (by have:=(h.E5.2 D i).1;omega) (a hb),h.below.grown hg j (fun k e=>by have:=κ e;omega)⟩,c,
  ⟨(b _ (by omega) (a h.qa.1)).trans h.qa.1,h.qa.2.of_block fun g f=>?_⟩,h.mt.of_block (b _ (by omega) h.mt.lt),(b _ (by omega) (a h.mc)).trans h.mc,(b _ (by omega) (a h.me)).trans h.me⟩
 obtain⟨n,d,_⟩:=h.qa.2.lt f;exact b g (by omega) d
theorem AQ.mark(h:AQ w W q0 A s q met Ds){D:Nat}(hD:W.heap[D]?=some (.deferred (some [])))(hn:D∉Ds)(hlo:w.heap.size+2<=D):AQ w W q0 A s q met (D::Ds):=
 ⟨⟨h.c3,h.al,⟨List.nodup_cons.2 ⟨hn,h.E5.1⟩,fun b a=>by
   rcases List.mem_cons.1 a with rfl|a
   ·exact⟨hlo,hD⟩
   ·exact h.E5.2 b a⟩,h.below⟩,h.lo,h.qa,h.mt,h.mc,h.me⟩
theorem AQ.keeps(h:AQ w W q0 A s q met Ds)(ht:ox W W' q0 (q0+1) s s'){B:Nat}(hB:q0+1<B):KeepsFrom B W W':=⟨ht.size,fun k o c b hc=>h.keep ht b (by omega) (by omega) (fun _ a fr e=>by subst e;cases hc)⟩
theorem AQ.kpb(h:AQ w W q0 A s q met Ds)(ht:ox W W' q0 (q0+1) s s'){bg:Nat}{cs:Array ο}{t:Z8}{fr:Nat×Nat}(hb:W.heap[bg]?=some (.cells cs t fr))(h1:bg≠q0)(h2:bg≠q0+1)(h3:t≠3):uY w.heap.size bg W W':=⟨ht.below (B:=w.heap.size) (h.qa.2.Q7 (by have:=h.lo;omega)) (by have:=h.lo;omega) (by have:=h.lo;omega) h.below.size,(h.keep ht hb h1 h2 (fun _ a fr e=>by cases e;exact h3 rfl)).trans hb.symm⟩
theorem AO.low(h:AO w W A Ds)(hk:Below W.heap.size W W'):AO w W' A Ds:=⟨(hk.block _ (Ω.1 h.c3).1).trans h.c3,h.al.below hk,h.E5.of_block fun D a hb=>hk.block D (Ω.1 hb).1,h.below.trans (hk.mono h.below.size)⟩
theorem AO.round(h:AO w W A Ds):AQ w ((((W.alloc (Δ #[Γ none 0 0] 305)).alloc (.map #[] 0)).alloc (Δ #[.map (some (W.heap.size+1))] 205)).alloc (Δ #[.func (.func 257) #[] #[Ξ (some ⟨W.heap.size+1+1,0,none⟩),Ξ (some ⟨w.heap.size,0,none⟩),Ξ (some ⟨W.heap.size,0,none⟩)]] 256)) W.heap.size A (Γ none 0 0) [] [] Ds:=by
 have g:=ψ W (Δ #[Γ none 0 0] 305);have b:=ψ (W.alloc (Δ #[Γ none 0 0] 305)) (.map #[] 0);have d:=ψ ((W.alloc (Δ #[Γ none 0 0] 305)).alloc (.map #[] 0)) (Δ #[.map (some (W.heap.size+1))] 205);have c:=ψ (((W.alloc (Δ #[Γ none 0 0] 305)).alloc (.map #[] 0)).alloc (Δ #[.map (some (W.heap.size+1))] 205)) (Δ #[.func (.func 257) #[] #[Ξ (some ⟨W.heap.size+1+1,0,none⟩),Ξ (some ⟨w.heap.size,0,none⟩),Ξ (some ⟨W.heap.size,0,none⟩)]] 256);simp only[η]at b d c;have push:∀(w:υ) (o:Obj) (k:Nat),k<w.heap.size->(w.alloc o).heap[k]?=w.heap[k]?:=fun w o k h=>Below.heap_alloc w o k h
 have a:w.heap.size+1<W.heap.size:=h.al.lt;refine⟨h.low ((((af W _).alloc (by simp) _).alloc (by simp;omega) _).alloc (by simp;omega) _),a,⟨?_,OQ.nil _ _⟩,⟨#[],0,?_,⟨rfl,List.nodup_nil,fun e f=>by simp at f⟩⟩,?_,c⟩
 ·rw[push _ _ _ (by simp;omega),push _ _ _ (by simp;omega),push _ _ _ (by simp)];exact g
 ·rw[push _ _ _ (by simp),push _ _ _ (by simp)];exact b
 ·rw[push _ _ _ (by simp)];exact d
theorem Jk(w:υ):AO w ((w.alloc (Δ #[χ φ (-1)] 3)).alloc (.map #[] 0)) [] []:=by have a:=ψ (w.alloc (Δ #[χ φ (-1)] 3)) (.map #[] 0);simp only[η]at a;exact⟨(Below.heap_alloc _ _ _ (by simp)).trans (ψ w _),⟨#[],0,a,⟨rfl,List.nodup_nil,fun e b=>by simp at b⟩⟩,Marks.nil _ _,(af w _).alloc (by simp) _⟩
end
end
section
attribute [local go_sem] Oper.semAt_some
theorem BW(w:υ)(b:Nat)(h:PH)(N R:Nat)(hg:qw w b h)(ho:lZ h N R)(hd:h.done=[]):
 Z4 aD.prog 222 #[Ξ (some ⟨b,0,none⟩),χ φ (-1)] w fun e w'=>(∃m,e=.returned (.map (some m))/\w.heap.size<=m/\bk w' m (jE h N (R+1)))/\Below w.heap.size w w':=by
 have hmm:=@run_makeMap aD.prog;have HG:=Ψ hg;have HO:=Ψ ho;clear hg ho;refine(ξ (n:=9)).1 ?_;refine callsIn_of_wp_marks aD.func222 rfl trivial ?_ rfl;simp only[Tryz.ntmps222,List.size_toArray,List.length_cons,List.length_nil,Nat.reduceAdd,Nat.reduceSub,Array.replicate_succ,Array.replicate_zero,List.push_toArray,List.append_toArray,List.nil_append,List.cons_append];refine wpIn_wide.2 ?_
 go_wp2_with fail
 refine qy 0 (fun r a' W=>∃(Ds:List Nat) (u6 u7 u8 u9 u10 u11 u12 u13 u14 u15 u16 u17 u18 u19 u20 u21 u22 u23 u24 u25 u26 u27 u28 u29 u30 u31 u32 u33 u34 u35 u36 u37 u38 u39 u40 u41 u42 u43 u44 u45 u46 u47 u48 u49 u50 u51 u52 u53 u54 u55 u56 u57 u58 u59 u60 u61 u62 u63 u64 u65 u66 u67 u68:ο),a'={tmps:=#[Ξ (some ⟨b,0,none⟩),χ φ (-1),undef,Ξ (some ⟨w.heap.size,0,none⟩),.map none,.map (some (w.heap.size+1)),u6,u7,u8,u9,u10,u11,u12,u13,u14,u15,u16,u17,u18,u19,u20,u21,u22,u23,u24,u25,u26,u27,u28,u29,u30,u31,u32,u33,u34,u35,u36,u37,u38,u39,u40,u41,u42,u43,u44,u45,u46,u47,u48,u49,u50,u51,u52,u53,u54,u55,u56,u57,u58,u59,u60,u61,u62,u63,u64,u65,u66,u67,u68],defers:=Ds.map Jh}/\AO w W (jE h N r) Ds) R (by rfl) ?first ?pass
 case first=>
  intro hrest
  go_wp2_with fail
  go_step3
  rename_i V;exact V _ _ (hrest _ _ ⟨[],_,_,_,_,_,_,_,_,_,_,_,_,_,_,_,_,_,_,_,_,_,_,_,_,_,_,_,_,_,_,_,_,_,_,_,_,_,_,_,_,_,_,_,_,_,_,_,_,_,_,_,_,_,_,_,_,_,_,_,_,_,_,_,rfl,Jk w⟩)
 case pass=>
  rintro r a' W Q ⟨Ds,u6,u7,u8,u9,u10,u11,u12,u13,u14,u15,u16,u17,u18,u19,u20,u21,u22,u23,u24,u25,u26,u27,u28,u29,u30,u31,u32,u33,u34,u35,u36,u37,u38,u39,u40,u41,u42,u43,u44,u45,u46,u47,u48,u49,u50,u51,u52,u53,u54,u55,u56,u57,u58,u59,u60,u61,u62,u63,u64,u65,u66,u67,u68,rfl,hA⟩;have HA:=Ψ hA;have hlen:=uV 3 hA.al;refine(wpIn_wide (n:=9)).1 ?_;have arK:=hA.below;clear hA
  gi_wp2_with (refine⟨trivial,?_⟩;gi_at_call 259;refine(ξ.2 (Jg _ b)).mono ?_;rintro e w' ⟨rfl,rfl⟩)
  clear hmm hlen;have hq0:=HA.out.round;have hD0:=fun D (hD:D∈Ds)=>HA.out.E5.lt hD
  have KU:(((((W.alloc (Δ #[Γ none 0 0] 305)).alloc (Obj.map #[] 0)).alloc (Δ #[Z3 (some (W.heap.size+1))] 205)).alloc (Δ #[.func (.func 257) #[] #[Ξ (some ⟨W.heap.size+1+1,0,none⟩),Ξ (some ⟨w.heap.size,0,none⟩),Ξ (some ⟨W.heap.size,0,none⟩)]] 256)).alloc (Δ #[Ξ (some {block:=b,off:=0})] 155)).heap.size=W.heap.size+1+1+1+1+1:=by simp
  have hq5:=hq0.low (af _ (Δ #[Ξ (some {block:=b,off:=0})] 155));have hbh:(((((W.alloc (Δ #[Γ none 0 0] 305)).alloc (Obj.map #[] 0)).alloc (Δ #[Z3 (some (W.heap.size+1))] 205)).alloc (Δ #[.func (.func 257) #[] #[Ξ (some ⟨W.heap.size+1+1,0,none⟩),Ξ (some ⟨w.heap.size,0,none⟩),Ξ (some ⟨W.heap.size,0,none⟩)]] 256)).alloc (Δ #[Ξ (some {block:=b,off:=0})] 155)).heap[W.heap.size+1+1+1+1]?=some (Δ #[Ξ (some ⟨b,0,none⟩)] 155 (0,0)):=by have:=ψ ((((W.alloc (Δ #[Γ none 0 0] 305)).alloc (Obj.map #[] 0)).alloc (Δ #[Z3 (some (W.heap.size+1))] 205)).alloc (Δ #[.func (.func 257) #[] #[Ξ (some ⟨W.heap.size+1+1,0,none⟩),Ξ (some ⟨w.heap.size,0,none⟩),Ξ (some ⟨W.heap.size,0,none⟩)]] 256)) (Δ #[Ξ (some {block:=b,off:=0})] 155);simpa using this
  generalize (((((W.alloc (Δ #[Γ none 0 0] 305)).alloc (Obj.map #[] 0)).alloc (Δ #[Z3 (some (W.heap.size+1))] 205)).alloc (Δ #[.func (.func 257) #[] #[Ξ (some ⟨W.heap.size+1+1,0,none⟩),Ξ (some ⟨w.heap.size,0,none⟩),Ξ (some ⟨W.heap.size,0,none⟩)]] 256)).alloc (Δ #[Ξ (some {block:=b,off:=0})] 155))=W5 at hbh KU hq5⊢;have hsA:=HA.out.al.lt;generalize ann:W.heap.size=f at KU hbh hq5 hD0 hsA⊢;have Z5:=Ψ KU;have HD0:=Ψ hD0;clear hq0 KU hD0 ann;have hW5:=hq5.below;have hb5:w.heap.size<=W5.heap.size:=hW5.size;have hq3:f+1+1+1<W5.heap.size:=by rw[Z5.out];omega
  refine ε rfl (by omega) (gf:=276) (lb:=#[Ξ (some ⟨f+1+1+1+1,0,none⟩)]) rfl trivial (enters_of aD.func276 (by kernel_rfl) rfl)
   (wH 8 (by omega) b (f+1+1+1+1) h w W5 hW5 hbh HG.out hd HO.out.pos) uY.trans (uY.book hb5 (by rw[Z5.out];omega)) (Below.refl _ _) (fun _=>rfl)
   (fun g W=>(∃s,AQ w W f (jE h N r) s (i2 (g.map KT) ([],[])).1 (i2 (g.map KT) ([],[])).2 Ds)/\W.heap[f+1+1+1+1]?=some (Δ #[Ξ (some ⟨b,0,none⟩)] 155 (0,0))) (fun _ _ _=>False)
   (fun s A C row I E Q=>by
     obtain⟨⟨M,h⟩,h2⟩:=I;refine⟨⟨M,h.grown hq3 (fun D hD=>by have:=HD0.out D hD;rw[Z5.out];omega) E Q⟩,(E.block _ (Ω.1 h2).1 fun e=>?_).trans h2⟩;obtain⟨_,o,ho,hc'⟩:=Q _ e.symm;rw[h2]at ho;cases ho
     cases hc') (fun _ _ _ _ _ h _ _=>h) ⟨⟨_,hq5⟩,hbh⟩
   (fun x a' W=>∃Bx,W.heap[Bx]?=some (Δ #[χ φ (x.1:Int),Γ (some ⟨x.2,0,none⟩) 1 1] 310 (0,0))/\a'={tmps:=#[Ξ (some ⟨b,0,none⟩),χ φ (-1),undef,Ξ (some ⟨w.heap.size,0,none⟩),.map none,.map (some (w.heap.size+1)),χ φ ((jE h N r).length:Int),Ξ (some ⟨f,0,none⟩),Ξ (some ⟨f+1+1,0,none⟩),Ξ (some ⟨f+1+1+1,0,none⟩),Ξ (some ⟨Bx,0,none⟩),u11,u12,u13,u14,u15,u16,.map (some (w.heap.size+1)),χ φ ((jE h N r).length:Int),.map (some (f+1)),.func (.func 257) #[] #[Ξ (some ⟨f+1+1,0,none⟩),Ξ (some ⟨w.heap.size,0,none⟩),Ξ (some ⟨f,0,none⟩)],Ξ (some ⟨b,0,none⟩),.func (.func 276) #[] #[Ξ (some ⟨f+1+1+1+1,0,none⟩)],stV x,u24,u25,u26,u27,u28,u29,u30,u31,u32,u33,u34,u35,u36,u37,u38,u39,u40,u41,u42,u43,u44,u45,u46,u47,u48,u49,u50,u51,u52,u53,u54,u55,u56,u57,u58,u59,u60,u61,u62,u63,u64,u65,u66,u67,u68],defers:=[]})
   (fun x a' s A C row I E Q=>by
     obtain⟨Bx,Y,h2⟩:=I;refine⟨Bx,(E.block Bx (Ω.1 Y).1 (fun e=>?_)).trans Y,h2⟩;obtain⟨_,o,ho,hc'⟩:=Q Bx e.symm;rw[Y]at ho;cases ho
     cases hc') ?assign ?body ?done ?stop
  case assign=>
   rintro l g ⟨p,q⟩ L K ⟨⟨M,B⟩,y⟩ V;unfold stV
   gi_wp2
   have hbb:=af L (Δ #[Value.int IntKind.i64 (p:Int),Γ (some {block:=q,off:=0}) 1 1] 310);exact V _ _ ((KeepsOthers.alloc _ _).from _) (uY.alloc (uY.refl _ _ _) B.below.size (Ω.1 y).1 _) ⟨⟨M,B.low hbb⟩,(hbb.block _ (Ω.1 y).1).trans y⟩ ⟨L.heap.size,ψ L _,rfl⟩
  case body=>
   rintro l g ⟨p,q⟩ a' L hl ⟨rr,hrr⟩ ⟨⟨M,B⟩,y⟩ ⟨Bx,hx,rfl⟩ hlt;have cf:L.cell? ⟨f+1+1+1,0,none⟩=some (.func (.func 257) #[] #[Ξ (some ⟨f+1+1,0,none⟩),Ξ (some ⟨w.heap.size,0,none⟩),Ξ (some ⟨f,0,none⟩)]):=by simp[Θ,B.me]
   have x0:L.cell? ⟨Bx,0,none⟩=some (χ φ (p:Int)):=by simp[Θ,hx]
   have G:=Ψ B;have HI2:=Ψ y;have hbl:=HO.out.sM;have hvl:=pt (g.map KT) ([],[]);simp only[List.length_nil,Nat.zero_add,List.length_map]at hvl;clear hrr hx B y;unfold stV
   gi_wp2_with fail
   refine⟨trivial,?_⟩;refine(CallsIn.inRound l (ξ.2 (DC L f w.heap.size f (f+1) (f+1+1) M _ _ (p:Int) G.out.qa G.out.mt (by simp[Θ,G.out.mc]) (by simp[Θ,G.out.c3]) (by omega) (by have:=(Ω.1 G.out.qa.1).1;omega) (by omega)))).mono ?_;rintro e W3 ⟨rfl,so3,U,Fw,ht3⟩
   gi_wp2_with fail
   have hmx:iG ((i2 (g.map KT) ([],[])).1,(i2 (g.map KT) ([],[])).2) (p:Int)=i2 ((g++[(p,q)]).map KT) ([],[]):=by rw[List.map_append];exact(sN _ _ _).symm
   rw[hmx]at U Fw;exact⟨G.out.keeps ht3 (by omega),G.out.kpb ht3 HI2.out (by omega) (by omega) (by decide),⟨so3,G.out.to U Fw ht3⟩,(G.out.keep ht3 HI2.out (by omega) (by omega) (fun _ cur fr e=>by cases e))⟩
  case done=>
   rintro D xs L hD T ⟨⟨M,B⟩,_⟩ V;have F:i2 (xs.map KT) ([],[])=dJ h.roots ([],[]):=by unfold dJ;rw[<-T]
   rw[F]at B;clear F T;have hDn:D∉Ds:=fun e=>by have:=HD0.out D e;have:=Z5.out;omega
   have u:=Ψ (B.mark V hDn (by have:=B.lo;omega));have hsh:(dJ h.roots ([],[])).1.length<=1000:=HO.out.short r Q 0 (Nat.zero_le _);clear B V
   gi_wp2_with (refine⟨trivial,?_⟩;gi_at_call 260;refine(ξ.2 (BV L f f f M _ u.out.qa (by omega))).mono ?_;rintro e W1 ⟨rfl,so1,hq1,ht1⟩)
   have hI1:=Ψ (u.out.to hq1 (u.out.mt.of_block (ht1.block _ u.out.mt.lt (by omega) (by omega) (fun e=>by obtain⟨_,_,cur,hc⟩:=u.out.qa.2.lt e;obtain⟨es,clk,hb,_⟩:=u.out.mt;rw[hc]at hb;cases hb))) ht1.ye)
   clear u hq1 ht1;refine BU (fun k a W=>∃(O:List Nat) (s:ο) (u10 u13 u14 u15 u16 u23 u24 u25 u26 u27 u28 u29 u30 u31 u32 u33 u34 u35 u36 u37 u38 u39 u40 u41 u42 u43 u44 u45 u46 u47 u48 u49 u50 u51 u52 u53 u54 u55 u56 u57 u58 u59 u60 u61 u62 u63 u64 u65 u66 u67 u68:ο),a={tmps:=#[Ξ (some ⟨b,0,none⟩),χ φ (-1),undef,Ξ (some ⟨w.heap.size,0,none⟩),.map none,.map (some (w.heap.size+1)),χ φ ((jE h N r).length:Int),Ξ (some ⟨f,0,none⟩),Ξ (some ⟨f+1+1,0,none⟩),Ξ (some ⟨f+1+1+1,0,none⟩),u10,χ φ (hdI (dP h k (gD h (jE h N r))).q),.bool (isI (dP h k (gD h (jE h N r))).q),u13,u14,u15,u16,.map (some (w.heap.size+1)),χ φ ((jE h N r).length:Int),.map (some (f+1)),.func (.func 257) #[] #[Ξ (some ⟨f+1+1,0,none⟩),Ξ (some ⟨w.heap.size,0,none⟩),Ξ (some ⟨f,0,none⟩)],Ξ (some ⟨b,0,none⟩),.func (.func 276) #[] #[Ξ (some ⟨f+1+1+1+1,0,none⟩)],u23,u24,u25,u26,u27,u28,u29,u30,u31,u32,u33,u34,u35,u36,u37,u38,u39,u40,u41,u42,u43,u44,u45,u46,u47,u48,u49,u50,u51,u52,u53,u54,u55,u56,u57,u58,u59,u60,u61,u62,u63,u64,u65,u66,u67,u68],defers:=O.map Jh}/\AQ w W f (dP h k (gD h (jE h N r))).al s (dP h k (gD h (jE h N r))).q.tail (dP h k (gD h (jE h N r))).met O) N ?atStart ?loop
   case atStart=>exact⟨D::Ds,so1,_,_,_,_,_,_,_,_,_,_,_,_,_,_,_,_,_,_,_,_,_,_,_,_,_,_,_,_,_,_,_,_,_,_,_,_,_,_,_,_,_,_,_,_,_,_,_,_,_,_,_,rfl,hI1.out⟩
   case loop=>
    rintro k a1 W2 hkN ⟨O,s2,u10,u13,u14,u15,u16,u23,u24,u25,u26,u27,u28,u29,u30,u31,u32,u33,u34,u35,u36,u37,u38,u39,u40,u41,u42,u43,u44,u45,u46,u47,u48,u49,u50,u51,u52,u53,u54,u55,u56,u57,u58,u59,u60,u61,u62,u63,u64,u65,u66,u67,u68,rfl,y⟩;have G:=Ψ y;clear hI1 y;rcases hqk:(dP h k (gD h (jE h N r))).q with _|⟨n,q⟩
    ·have hfin:=sO hqk N hkN;have Wv:jE h N (r+1)=(dP h k (gD h (jE h N r))).al:=by show(dP h N (gD h (jE h N r))).al=_;rw[hfin]
     have hln:=uV 3 G.out.al;rw[<-Wv]at hln;have HH:=Ψ Wv;clear hfin Wv;rw[Ow,Ox];by_cases hgr:(jE h N r).length<(jE h N (r+1)).length
     ·have hrR:r<R:=by
       rcases Nat.lt_or_ge r R with Y|Y
       ·exact Y
       ·have:r=R:=by omega
        subst this;exact absurd hgr HO.out.stop
      have hgi:decide (((jE h N r).length:Int)<((jE h N (r+1)).length:Int))=true:=by simpa using hgr
      have hao:=G.out.toAO;rw[<-HH.out]at hao;have HAO:=Ψ hao;clear hao
      gi_wp2_with fail
      refine wpIn_goto ?_;exact⟨rfl,hrR,O,_,_,_,_,_,_,_,_,_,_,_,_,_,_,_,_,_,_,_,_,_,_,_,_,_,_,_,_,_,_,_,_,_,_,_,_,_,_,_,_,_,_,_,_,_,_,_,_,_,_,_,_,_,_,_,_,_,_,_,_,_,_,_,rfl,HAO.out⟩
     ·have hrR:r=R:=by
       rcases Nat.lt_or_ge r R with Y|Y
       ·exact absurd (HO.out.grow r Y) hgr
       ·omega
      subst hrR;have hgi:decide (((jE h N r).length:Int)<((jE h N (r+1)).length:Int))=ι:=by simpa using hgr
      gi_wp2_with fail
      refine oz O W2 (w.heap.size+2) G.out.E5 fun W9 e1 e2 e3 e4 e5=>?_
      have hkeys:=G.out.al.of_block (w':=W9) (e5 _ fun e=>by have:=(G.out.E5.2 _ e).1;omega);rw[<-HH.out]at hkeys;exact⟨_,results_tmp rfl _ _ _,⟨w.heap.size+1,rfl,by omega,hkeys⟩,G.out.below.trans ⟨e2,e3,e4,by omega,fun k hk=>e5 k fun e=>by have:=(G.out.E5.2 _ e).1;omega⟩⟩
    ·obtain⟨hn0,hn1⟩:=HO.out.refs r Q k hkN n (by rw[hqk];exact List.mem_cons_self);obtain⟨i,rfl⟩:=θ hn0;have hi:i<h.cells.length:=by omega
     obtain⟨kd,v,ec⟩:=cQ hi;have hmem:=List.mem_of_getElem? ec;have hkind:=HO.out.kinds _ hmem;have hcp:=Ψ (HO.out.Wu _ hmem);have hfew:=HO.out.wW _ hmem;have afk:=HO.out.short r Q k hkN;rw[hqk]at afk;simp only[List.length_cons]at afk;dsimp only at hkind hfew;have hkl:k<N:=by
      rcases Nat.lt_or_ge k N with Y|Y
      ·exact Y
      ·have:k=N:=by omega
       subst this;have:=HO.out.fin r Q;rw[hqk]at this;cases this
     have F:=BS hqk;have hgd:h.cells.getD (Int.toNat (i:Int)) (0,[])=(kd,v):=by simp[List.getD,ec]
     rw[hgd]at F;dsimp only at F;have y:=G.out;rw[hqk]at y;generalize hx0:dP h k (gD h (jE h N r))=X at F y;clear hx0 hqk hgd hmem;simp only[List.tail_cons]at y;obtain⟨W3,hup,hal3,hg3,hs3⟩:=ki (i:Int) y.al;have hI3:=y.alive hal3 hg3;obtain⟨c,r0,wi,d,c0,_,_,_,hcs,_⟩:=HG.out;obtain⟨ac,mc,rfl,_,_,hac⟩:=hcs;have hb:=az c0;obtain⟨bc0,oc,e,afl,hat⟩:=hac (by omega);subst e;have hbw3:=hI3.below;have e0:=(hbw3.cell (p:=⟨b,0,none⟩) hb).trans c0;obtain⟨f1,xv,f2,hxv⟩:=(hat.below hbw3 afl) i kd v ec;have hxw:eI w xv v:=by
      obtain⟨_,xv',f2',anp⟩:=hat i kd v ec;have:=(hbw3.cell (p:=⟨bc0,oc+i*2+1,none⟩) afl).symm.trans f2;rw[show(Θ w ⟨bc0,oc+i*2+1,none⟩)=some xv' from f2']at this;cases this
      exact anp
     obtain⟨ax,mx,rfl,_,_,_⟩:=id hxv;have HXW:=Ψ hxw;have S:=Ψ hI3;have hi0:(0:Int)<=(i:Int):=by omega
     have hi1:(i:Int)<(h.cells.length:Int):=by omega
     rw[Ji,Jj];clear G y hal3 hg3 hI3 hac hat hxv hxw hn0 hn1 c0 ec;rcases hkind with rfl|rfl
     ·have hmt:=fun w=>Oc w (.slice ax v.length mx) "caracole/heap.keeps" 316 (.inr (.inr (.inl ⟨rfl,rfl⟩)))
      gi_wp2_with fail
      clear hup;refine⟨trivial,?_⟩;refine(ξ.2 (sI _ _ _ _)).mono ?_;rintro e W4 ⟨rfl,hb4⟩
      gi_wp2_with fail
      refine⟨trivial,?_⟩;refine(ξ.2 (Ou _ _ _ _ _)).mono ?_;rintro e W6 ⟨bt,bf,rfl,Z,hbf,lbt,lbf,hb6⟩
      gi_wp2_with fail
      have hz4:=hb4.size;have H:Below W3.heap.size W3 W6:=hb4.trans (((af W4 _).trans (hb6.mono (by simp))).mono hz4);have hcI:W6.heap[W4.heap.size]?=some (Δ #[.iface 264 (.agg #[χ φ 0,.slice ax v.length mx])] 208 (0,0)):=(hb6.block _ (by simp)).trans (ψ W4 _);obtain⟨bc,hbc⟩:∃bc,bc=W4.heap.size:=⟨_,rfl⟩;have hI6:=S.out.low H;have hz6:=H.size;simp only[η]at lbt lbf;have hq0:=(Ω.1 S.out.me).1;have Ww:=(Ω.1 Z).1;have Wx:=(Ω.1 hbf).1;have Wy:=(Ω.1 hcI).1;have hn1:d6 s2≠some bt:=fun e=>by have:=(S.out.qa.2.lt e).2.1;omega
      have hn2:d6 s2≠some bf:=fun e=>by have:=(S.out.qa.2.lt e).2.1;omega
      have hDl:=Ψ (fun D hD=>hI6.E5.lt (D:=D) hD);rw[<-hbc]at hcI Wy⊢;have anq:W3.heap.size<=bc:=by omega
      have anr:W3.heap.size<=bt:=by omega
      have ant:W3.heap.size<=bf:=by omega
      clear hbc H hb4 hb6 lbt lbf hz4;refine ε rfl (by omega) (gf:=321) (lb:=#[Ξ (some ⟨bt,0,none⟩),Ξ (some ⟨bf,0,none⟩)]) rfl trivial (enters_of aD.func321 (by kernel_rfl) rfl)
       (oy 8 (by omega) bt bf v.length W6 Z hbf (by omega)) tR.trans (tR.book Ww Wx) (Below.refl _ _) (fun _=>rfl)
       (fun g W=>(∃s,AQ w W f (nb X.al (i:Int)) s (dJ (g.map fun x=>v.getD x.val (0,0)) (q,X.met)).1 (dJ (g.map fun x=>v.getD x.val (0,0)) (q,X.met)).2 O/\d6 s≠some bt/\d6 s≠some bf)/\
         W.heap[bc]?=some (Δ #[.iface 264 (.agg #[χ φ 0,.slice ax v.length mx])] 208 (0,0))/\(∃x,W.heap[bt]?=some (.cells x 3 (0,0)))/\(∃x,W.heap[bf]?=some (.cells x 3 (0,0)))) (fun _ _ _=>False)
       (fun s A C row I E Q=>by
         obtain⟨⟨M,h,Y,h2⟩,h3,⟨x4,h4⟩,⟨x5,h5⟩⟩:=I;have key:∀{k:Nat} {x:Array ο} {t:Z8} {fr:Nat×Nat},A.heap[k]?=some (.cells x t fr) ->C.heap[k]?=some (.cells x t fr):=fun {k x t fr} hk=>(E.block k (Ω.1 hk).1 fun e=>by
          obtain⟨_,o,ho,hc'⟩:=Q _ e.symm;rw[hk]at ho;cases ho
          cases hc').trans hk
         exact⟨⟨M,h.grown (by omega) hDl.out E Q,Y,h2⟩,key h3,⟨x4,key h4⟩,⟨x5,key h5⟩⟩) (fun _ _ _ _ _ h _ _=>h) ⟨⟨s2,hI6,hn1,hn2⟩,hcI,⟨_,Z⟩,⟨_,hbf⟩⟩
       (fun x a' W=>∃(u10 u15 u16 u23 u24 u25 u26 u27 u28 u29 u30 u31 u32 u33 u34 u35 u36 u37 u38 u39 u40 u41 u42 u43 u44 u45 u46 u47 u48 u49 u50 u51 u52 u53 u54 u55 u56 u57 u58 u59 u60 u61 u62 u63 u64 u65 u66 u67 u68:ο),a'={tmps:=#[Ξ (some ⟨b,0,none⟩),χ φ (-1),undef,Ξ (some ⟨w.heap.size,0,none⟩),.map none,.map (some (w.heap.size+1)),χ φ ((jE h N r).length:Int),Ξ (some ⟨f,0,none⟩),Ξ (some ⟨f+1+1,0,none⟩),Ξ (some ⟨f+1+1+1,0,none⟩),u10,χ φ (i:Int),.bool true,Ξ (some ⟨bc,0,none⟩),inV x,u15,u16,.map (some (w.heap.size+1)),χ φ ((jE h N r).length:Int),.map (some (f+1)),.func (.func 257) #[] #[Ξ (some ⟨f+1+1,0,none⟩),Ξ (some ⟨w.heap.size,0,none⟩),Ξ (some ⟨f,0,none⟩)],Ξ (some ⟨b,0,none⟩),.func (.func 276) #[] #[Ξ (some ⟨f+1+1+1+1,0,none⟩)],u23,u24,u25,u26,u27,u28,u29,u30,u31,u32,u33,u34,u35,u36,u37,u38,u39,u40,u41,u42,u43,u44,u45,u46,u47,u48,u49,u50,u51,u52,u53,u54,u55,u56,u57,u58,u59,u60,u61,u62,u63,u64,u65,u66,u67,u68],defers:=[]})
       (fun x a' s A C row I E Q=>I) ?assign2 ?body2 ?done2 ?stop2
      case assign2=>
       rintro l g x L K B V
       gi_wp2
       exact V _ _ ((KeepsOthers.refl _).from _) (tR.refl _ _ _) B ⟨_,_,_,_,_,_,_,_,_,_,_,_,_,_,_,_,_,_,_,_,_,_,_,_,_,_,_,_,_,_,_,_,_,_,_,_,_,_,_,_,_,_,_,_,_,_,_,_,_,rfl⟩
      case body2=>
       rintro l g x a' L hl ⟨rr,hrr⟩ ⟨⟨M,B,qv,eq⟩,hcW,⟨x4,h4⟩,⟨x5,h5⟩⟩ ⟨u10,u15,u16,u23,u24,u25,u26,u27,u28,u29,u30,u31,u32,u33,u34,u35,u36,u37,u38,u39,u40,u41,u42,u43,u44,u45,u46,u47,u48,u49,u50,u51,u52,u53,u54,u55,u56,u57,u58,u59,u60,u61,u62,u63,u64,u65,u66,u67,u68,rfl⟩ hlt;have cI:L.cell? ⟨bc,0,none⟩=some (.iface 264 (.agg #[χ φ 0,.slice ax v.length mx])):=by simp[Θ,hcW]
       have G:=Ψ B;have HC:=Ψ (ω hcW (ω h4 h5));have HS:=Ψ (ω qv eq);obtain⟨xv,Wz⟩:=x;clear hrr B hcW h4 h5 qv eq;unfold inV;dsimp only
       gi_wp2_with fail
       refine⟨trivial,?_⟩;refine(CallsIn.inRound l (ξ.2 (I1 L ax v.length mx))).mono ?_;rintro e W7 ⟨rfl,hb7⟩;have hI7:=G.out.low hb7;obtain⟨a9,m9,e9,_,_,hh9⟩:=HXW.out.below hI7.below;cases e9
       obtain⟨ba2,oa2,e,afb,afq⟩:=hh9 (by omega);cases e
       obtain⟨p,nn,e1⟩:=ep Wz;obtain⟨g1,g2⟩:=afq xv p nn e1;have hx0:(0:Int)<=(xv:Int):=by omega
       have hx1:(xv:Int)<(v.length:Int):=by omega
       have hgd:v.getD xv (0,0)=(p,nn):=by simp[List.getD,e1]
       have hmv:=zX (g.map fun x:Fin v.length=>v.getD x.val (0,0)) (p,nn) (q,X.met);have hpm:((g++[(⟨xv,Wz⟩:Fin v.length)]).map fun x:Fin v.length=>v.getD x.val (0,0))=(g.map fun x:Fin v.length=>v.getD x.val (0,0))++[(p,nn)]:=by
        rw[List.map_append]
        congr 1
        simp only[List.map_cons,List.map_nil];rw[hgd]
       have hml:=pt (dI (g.map fun x:Fin v.length=>v.getD x.val (0,0))) (q,X.met);have hrl:=BT (g.map fun x:Fin v.length=>v.getD x.val (0,0));rw[List.length_map]at hrl;dsimp only at hml;have afr:(dJ (g.map fun x:Fin v.length=>v.getD x.val (0,0)) (q,X.met)).1.length<=1000000:=by show(i2 _ _).1.length<=_;omega
       have KV:=Ψ hI7;have HML:=Ψ afr;have HPM:=Ψ hpm;have HE:=Ψ e1;clear hI7 hh9 afq hgd hml hrl afr hpm e1;have cf:W7.cell? ⟨f+1+1+1,0,none⟩=some (.func (.func 257) #[] #[Ξ (some ⟨f+1+1,0,none⟩),Ξ (some ⟨w.heap.size,0,none⟩),Ξ (some ⟨f,0,none⟩)]):=by simp[Θ,KV.out.me]
       have Dv:=af W7 (Δ #[χ φ p,χ φ nn] 50);have J:=hb7.trans (Dv.mono hb7.size);have cf9:=(Dv.cell (p:=⟨f+1+1+1,0,none⟩) (az cf)).trans cf;obtain⟨k3,k4,k5⟩:=HC.out;have l3:=(Ω.1 k3).1;have l4:=(Ω.1 k4).1;have l5:=(Ω.1 k5).1;by_cases hp1:p=1
       ·subst hp1;obtain⟨nm,rfl⟩:=θ (hcp.out _ (List.mem_of_getElem? HE.out) rfl);rw[if_pos rfl]at hmv;have HMV:=Ψ hmv;clear hmv
        gi_wp2_with fail
        refine⟨trivial,?_⟩;have P:=KV.out.low Dv;refine(CallsIn.inRound l (ξ.2 (DC _ f w.heap.size f (f+1) (f+1+1) M _ _ (nm:Int) P.qa P.mt (by simp[Θ,P.mc]) (by simp[Θ,P.c3]) (by omega) (by have:=(Ω.1 P.qa.1).1;omega) HML.out))).mono ?_;rintro e W10 ⟨rfl,so3,U,Fw,ht3⟩
        gi_wp2_with fail
        have hmx:iG ((dJ (g.map fun x:Fin v.length=>v.getD x.val (0,0)) (q,X.met)).1,(dJ (g.map fun x:Fin v.length=>v.getD x.val (0,0)) (q,X.met)).2) (nm:Int)=dJ ((g++[(⟨xv,Wz⟩:Fin v.length)]).map fun x:Fin v.length=>v.getD x.val (0,0)) (q,X.met):=by rw[HPM.out,HMV.out]
        rw[hmx]at U Fw;obtain⟨s1,s2'⟩:=HS.out;have sz9:=J.size;have htt:=(ox.bK (bq:=f) (bm:=f+1) (s:=M) J).trans ht3;have kp4:=htt.block bt l4 (by omega) (by omega) s1;have kp5:=htt.block bf l5 (by omega) (by omega) s2';refine⟨G.out.keeps htt (by omega),⟨kp4,kp5⟩,⟨so3,P.to U Fw ht3,fun e=>?_,fun e=>?_⟩,G.out.keep htt k3 (by omega) (by omega) (fun _ cur fr e=>by cases e),⟨_,kp4.trans k4⟩,⟨_,kp5.trans k5⟩⟩
        ·rcases htt.own _ e with e|e
         ·exact s1 e
         ·omega
        ·rcases htt.own _ e with e|e
         ·exact s2' e
         ·omega
       ·have hp1':(p==1)=ι:=by simp[hp1]
        rw[if_neg hp1,<-HPM.out]at hmv;have HMV:=Ψ hmv;clear hmv
        gi_wp2_with fail
        have P:=KV.out.low Dv;rw[<-HMV.out]at P;refine⟨G.out.keeps (ox.bK (bq:=f) (bm:=f+1) (s:=M) J) (by omega),tR.bK J l4 l5,⟨M,P,HS.out.1,HS.out.2⟩,(J.block _ l3).trans k3,⟨_,(J.block _ l4).trans k4⟩,⟨_,(J.block _ l5).trans k5⟩⟩
      case done2=>
       rintro D2 xs L hD2 T ⟨⟨M,B,_,_⟩,_,_,_⟩ V;have hvs:(xs.map fun x=>v.getD x.val (0,0))=v:=by
        have:=congrArg (List.map fun j=>v.getD j (0,0)) T;rw[List.map_map]at this;refine Eq.trans this ?_;refine List.ext_getElem? fun j=>?_
        by_cases hj:j<v.length
        ·rw[List.getElem?_map,List.getElem?_range hj];simp[List.getD,List.getElem?_eq_getElem hj]
        ·rw[List.getElem?_eq_none (by simp;omega),List.getElem?_eq_none (by omega)]
       rw[hvs]at B;have u:=Ψ (B.mark V (fun e=>by have:=hDl.out D2 e;omega) (by have:=B.lo;omega));have z:=HO.out.short r Q (k+1) hkl;rw[F]at z;dsimp only at z;simp only[if_true]at F z;clear B V hvs T
       gi_wp2_with (refine⟨trivial,?_⟩;gi_at_call 260;refine(ξ.2 (BV L f f f M _ u.out.qa (by omega))).mono ?_;rintro e W8 ⟨rfl,so8,hq8,V9⟩)
       have hI8:=u.out.to hq8 (u.out.mt.of_block (V9.block _ u.out.mt.lt (by omega) (by omega) (fun e=>by obtain⟨_,_,cur,hc⟩:=u.out.qa.2.lt e;obtain⟨es,clk,hb,_⟩:=u.out.mt;rw[hc]at hb;cases hb))) V9.ye
       refine⟨hkl,?_⟩;rw[F];exact⟨D2::O,so8,_,_,_,_,_,_,_,_,_,_,_,_,_,_,_,_,_,_,_,_,_,_,_,_,_,_,_,_,_,_,_,_,_,_,_,_,_,_,_,_,_,_,_,_,_,_,_,_,_,_,_,rfl,hI8⟩
      case stop2=>rintro D2 c2 g L _ _ hx _;exact hx.elim
     ·have hmt:=fun w=>Od w (.slice ax v.length mx) "caracole/heap.keeps" 322 (.inr (.inr (.inl ⟨rfl,rfl⟩)))
      gi_wp2_with fail
      clear hup;refine⟨trivial,?_⟩;refine(ξ.2 (sJ _ _ _ _)).mono ?_;rintro e W4 ⟨rfl,hb4⟩
      gi_wp2_with fail
      refine⟨trivial,?_⟩;refine(ξ.2 (Ov _ _ _ _ _)).mono ?_;rintro e W6 ⟨bt,bf,rfl,Z,hbf,lbt,lbf,hb6⟩
      gi_wp2_with fail
      have hz4:=hb4.size;have H:Below W3.heap.size W3 W6:=hb4.trans (((af W4 _).trans (hb6.mono (by simp))).mono hz4);have hcI:W6.heap[W4.heap.size]?=some (Δ #[.iface 265 (.agg #[χ φ 1,.slice ax v.length mx])] 208 (0,0)):=(hb6.block _ (by simp)).trans (ψ W4 _);obtain⟨bc,hbc⟩:∃bc,bc=W4.heap.size:=⟨_,rfl⟩;have hI6:=S.out.low H;have hz6:=H.size;simp only[η]at lbt lbf;have hq0:=(Ω.1 S.out.me).1;have Ww:=(Ω.1 Z).1;have Wx:=(Ω.1 hbf).1;have Wy:=(Ω.1 hcI).1;have hn1:d6 s2≠some bt:=fun e=>by have:=(S.out.qa.2.lt e).2.1;omega
      have hn2:d6 s2≠some bf:=fun e=>by have:=(S.out.qa.2.lt e).2.1;omega
      have hDl:=Ψ (fun D hD=>hI6.E5.lt (D:=D) hD);rw[<-hbc]at hcI Wy⊢;have anq:W3.heap.size<=bc:=by omega
      have anr:W3.heap.size<=bt:=by omega
      have ant:W3.heap.size<=bf:=by omega
      clear hbc H hb4 hb6 lbt lbf hz4;refine ε rfl (by omega) (gf:=321) (lb:=#[Ξ (some ⟨bt,0,none⟩),Ξ (some ⟨bf,0,none⟩)]) rfl trivial (enters_of aD.func321 (by kernel_rfl) rfl)
       (oy 8 (by omega) bt bf 0 W6 Z hbf (by omega)) tR.trans (tR.book Ww Wx) (Below.refl _ _) (fun _=>rfl)
       (fun g W=>(∃s,AQ w W f (nb X.al (i:Int)) s (dJ (g.map fun x=>([]:List HV).getD x.val (0,0)) (q,X.met)).1 (dJ (g.map fun x=>([]:List HV).getD x.val (0,0)) (q,X.met)).2 O/\d6 s≠some bt/\d6 s≠some bf)/\
         W.heap[bc]?=some (Δ #[.iface 265 (.agg #[χ φ 1,.slice ax v.length mx])] 208 (0,0))/\(∃x,W.heap[bt]?=some (.cells x 3 (0,0)))/\(∃x,W.heap[bf]?=some (.cells x 3 (0,0)))) (fun _ _ _=>False)
       (fun s A C row I E Q=>by
         obtain⟨⟨M,h,Y,h2⟩,h3,⟨x4,h4⟩,⟨x5,h5⟩⟩:=I;have key:∀{k:Nat} {x:Array ο} {t:Z8} {fr:Nat×Nat},A.heap[k]?=some (.cells x t fr) ->C.heap[k]?=some (.cells x t fr):=fun {k x t fr} hk=>(E.block k (Ω.1 hk).1 fun e=>by
          obtain⟨_,o,ho,hc'⟩:=Q _ e.symm;rw[hk]at ho;cases ho
          cases hc').trans hk
         exact⟨⟨M,h.grown (by omega) hDl.out E Q,Y,h2⟩,key h3,⟨x4,key h4⟩,⟨x5,key h5⟩⟩) (fun _ _ _ _ _ h _ _=>h) ⟨⟨s2,hI6,hn1,hn2⟩,hcI,⟨_,Z⟩,⟨_,hbf⟩⟩
       (fun x a' W=>∃(u10 u15 u16 u23 u24 u25 u26 u27 u28 u29 u30 u31 u32 u33 u34 u35 u36 u37 u38 u39 u40 u41 u42 u43 u44 u45 u46 u47 u48 u49 u50 u51 u52 u53 u54 u55 u56 u57 u58 u59 u60 u61 u62 u63 u64 u65 u66 u67 u68:ο),a'={tmps:=#[Ξ (some ⟨b,0,none⟩),χ φ (-1),undef,Ξ (some ⟨w.heap.size,0,none⟩),.map none,.map (some (w.heap.size+1)),χ φ ((jE h N r).length:Int),Ξ (some ⟨f,0,none⟩),Ξ (some ⟨f+1+1,0,none⟩),Ξ (some ⟨f+1+1+1,0,none⟩),u10,χ φ (i:Int),.bool true,Ξ (some ⟨bc,0,none⟩),inV x,u15,u16,.map (some (w.heap.size+1)),χ φ ((jE h N r).length:Int),.map (some (f+1)),.func (.func 257) #[] #[Ξ (some ⟨f+1+1,0,none⟩),Ξ (some ⟨w.heap.size,0,none⟩),Ξ (some ⟨f,0,none⟩)],Ξ (some ⟨b,0,none⟩),.func (.func 276) #[] #[Ξ (some ⟨f+1+1+1+1,0,none⟩)],u23,u24,u25,u26,u27,u28,u29,u30,u31,u32,u33,u34,u35,u36,u37,u38,u39,u40,u41,u42,u43,u44,u45,u46,u47,u48,u49,u50,u51,u52,u53,u54,u55,u56,u57,u58,u59,u60,u61,u62,u63,u64,u65,u66,u67,u68],defers:=[]})
       (fun x a' s A C row I E Q=>I) ?assign2 ?body2 ?done2 ?stop2
      case assign2=>
       rintro l g x L K B V
       gi_wp2
       exact V _ _ ((KeepsOthers.refl _).from _) (tR.refl _ _ _) B ⟨_,_,_,_,_,_,_,_,_,_,_,_,_,_,_,_,_,_,_,_,_,_,_,_,_,_,_,_,_,_,_,_,_,_,_,_,_,_,_,_,_,_,_,_,_,_,_,_,_,rfl⟩
      case body2=>rintro l g x;exact absurd x.isLt (by omega)
      case done2=>
       rintro D2 xs L hD2 T ⟨⟨M,B,_,_⟩,_,_,_⟩ V;have hvs:(xs.map fun x=>([]:List HV).getD x.val (0,0))=([]:List HV):=by have:=congrArg List.length T;simp at this;rw[this];rfl
       rw[hvs]at B
       change AQ w L f (nb X.al (i:Int)) M q X.met O at B
       have u:=Ψ (B.mark V (fun e=>by have:=hDl.out D2 e;omega) (by have:=B.lo;omega));have z:=HO.out.short r Q (k+1) hkl;rw[F]at z;dsimp only at z;simp only[show ¬((1:Int)=0) by decide,if_false]at F z;clear B V hvs T
       gi_wp2_with (refine⟨trivial,?_⟩;gi_at_call 260;refine(ξ.2 (BV L f f f M _ u.out.qa (by omega))).mono ?_;rintro e W8 ⟨rfl,so8,hq8,V9⟩)
       have hI8:=u.out.to hq8 (u.out.mt.of_block (V9.block _ u.out.mt.lt (by omega) (by omega) (fun e=>by obtain⟨_,_,cur,hc⟩:=u.out.qa.2.lt e;obtain⟨es,clk,hb,_⟩:=u.out.mt;rw[hc]at hb;cases hb))) V9.ye
       refine⟨hkl,?_⟩;rw[F];exact⟨D2::O,so8,_,_,_,_,_,_,_,_,_,_,_,_,_,_,_,_,_,_,_,_,_,_,_,_,_,_,_,_,_,_,_,_,_,_,_,_,_,_,_,_,_,_,_,_,_,_,_,_,_,_,_,rfl,hI8⟩
      case stop2=>rintro D2 c2 g L _ _ hx _;exact hx.elim
  case stop=>rintro D c g L _ _ hx _;exact hx.elim
end
end Kn
namespace Kn
open Go Go.RowKit Md
section
theorem DD(w:υ)(b:Nat)(h:PH)(N R:Nat)(hg:qw w b h)(ho:lZ h N R)(hd:h.done=[]):
 Z4 aD.prog 179 #[Ξ (some ⟨b,0,none⟩)] w fun e w'=>(∃m,e=.returned (.map (some m))/\w.heap.size<=m/\bk w' m (jE h N (R+1)))/\Below w.heap.size w w':=by
 have f:=Ψ hg;clear hg
 go_enter aD.func179,Tryz.ntmps179
 go_wp2_with fail
 refine(BW _ b h N R f.out ho hd).mono ?_;rintro e w' ⟨⟨m,rfl,a,c⟩,d⟩
 go_wp2_with fail
 go_ret;exact⟨⟨m,rfl,a,c⟩,d⟩
def dQ(w:υ)(B b:Nat)(c:ο)(cs:List HC)(roots:List HV):Prop:=∃r aw mw ad md l,B<=b/\w.heap[b]?=some (Δ #[c,r,.slice aw 0 mw,.slice ad 0 md] 159 (0,0))/\mw<=9223372036854775807/\md<=9223372036854775807/\
 OC w B c l/\df w B l cs/\OV w B r roots/\∀(i:Nat) p,l[i]?=some p->∀g,p.2.ownBlock=some g->r.ownBlock≠some g
theorem mp.named{w:υ}{B b:Nat}{cs:List HC}{roots:List HV}(h:mp w B b cs roots):∃c,dQ w B b c cs roots:=by obtain⟨c,r,aw,a,ad,d,l,h⟩:=h;exact⟨c,r,aw,a,ad,d,l,h⟩
theorem dQ.own{w:υ}{B b:Nat}{c:ο}{cs:List HC}{roots:List HV}(h:dQ w B b c cs roots):mp w B b cs roots:=by obtain⟨r,aw,a,ad,d,l,h⟩:=h;exact⟨c,r,aw,a,ad,d,l,h⟩
theorem dQ.below{w w':υ}{B b:Nat}{c:ο}{cs:List HC}{roots:List HV}(h:dQ w B b c cs roots)(hk:Below w.heap.size w w'):dQ w' B b c cs roots:=by obtain⟨r,aw,m,ad,d,l,j,hb,g,e,k,f,i,a⟩:=h;exact⟨r,aw,m,ad,d,l,j,(hk.block b (Ω.1 hb).1).trans hb,g,e,k.below hk,f.below hk,i.below hk,a⟩
section
variable{w:υ}{B b:Nat}{c:ο}{cs:List HC}{roots:List HV}
theorem dQ.cells(h:dQ w B b c cs roots):B<=b/\b<w.heap.size/\w.cell? ⟨b,0,none⟩=some c/\(∃aw mw,w.cell? ⟨b,2,none⟩=some (.slice aw 0 mw))/\(∀i,w.frozen? ⟨b,i,none⟩=ι)/\∃a m,c=.slice a cs.length m/\cs.length<=m:=by obtain⟨r,aw,mw,ad,n,l,g,hb,p,o,j,d,q,k⟩:=h;obtain⟨a,m,e,f,_⟩:=aF j;exact⟨g,(Ω.1 hb).1,by simp[Θ,hb],⟨aw,mw,by simp[Θ,hb]⟩,fun i=>by simp[μ,hb],a,m,by rw[e,d.1],by rw[<-d.1];exact f⟩
theorem pu(x:Int×ο):∀(l:List (Int×ο)) (k:Nat),k<l.length->(l.set k x).flatMap dW=((l.flatMap dW).set (k*2) (χ φ x.1)).set (k*2+1) x.2
 |[],k,h=>by simp at h
 |a::l,0,h=>by simp[dW]
 |a::l,k+1,h=>by have:=pu x l k (by simpa using h);rw[List.set_cons_succ,List.flatMap_cons,List.flatMap_cons,this,show(k+1)*2=k*2+1+1 by omega];simp[dW]
theorem OC.anz{w:υ}{B g n m k:Nat}{l:List (Int×ο)}{x:Int×ο}(h:OC w B (Γ (some ⟨g,0,none⟩) n m) l)(hk:k<l.length):
 OC ((w.setCell ⟨g,k*2,none⟩ (χ φ x.1)).setCell ⟨g,k*2+1,none⟩ x.2) B (Γ (some ⟨g,0,none⟩) n m) (l.set k x):=by
 rcases h with⟨d,⟨h0,_⟩|⟨p,e,a,c,f,j,o,b,hs,i⟩⟩
 ·cases h0
 ·cases c
  refine⟨by rw[pu x l k hk];simpa using d,.inr ⟨g,m,(a.setIfInBounds (k*2) (χ φ x.1)).setIfInBounds (k*2+1) x.2,by simp,f,?_,by simpa using o,b,by simpa using hs,?_⟩⟩
  ·simp[World.setCell,Array.getElem?_modify,j]
  ·rw[pu x l k hk,<-i];simp only[Array.toList_setIfInBounds,List.length_set,List.take_set]
theorem eX{w:υ}{g i j:Nat}{u v:ο}{k:Nat}(h:k≠g):((w.setCell ⟨g,i,none⟩ u).setCell ⟨g,j,none⟩ v).heap[k]?=w.heap[k]?:=by rw[Below.heap_setCell _ _ _ _ h,Below.heap_setCell _ _ _ _ h]
theorem uZ{w:υ}{B g i j:Nat}{u v:ο}(h:B<=g):Below B w ((w.setCell ⟨g,i,none⟩ u).setCell ⟨g,j,none⟩ v):=((Below.refl B w).setCell (p:=⟨g,i,none⟩) h u).setCell (p:=⟨g,j,none⟩) h v
theorem dQ.at_(h:dQ w B b c cs roots){i:Nat}{k:Int}{vs:List HV}(hi:cs[i]?=some (k,vs)):∃gc m x,c=Γ (some ⟨gc,0,none⟩) cs.length m/\cs.length<=m/\B<=gc/\w.cell? ⟨gc,i*2,none⟩=some (χ φ k)/\w.cell? ⟨gc,i*2+1,none⟩=some x/\(∀j,w.frozen? ⟨gc,j,none⟩=ι)/\eI w x vs:=by
 obtain⟨r,aw,I,ad,F,l,K,hb,G,E,n,f,H,J⟩:=h;have s:i<l.length:=by rw[f.1];exact(List.getElem?_eq_some_iff.1 hi).1
 obtain⟨⟨z,x⟩,e⟩:∃p,l[i]?=some p:=⟨_,List.getElem?_eq_getElem s⟩;obtain⟨rfl,o⟩:=f.2.1 i z x k vs e hi;obtain⟨a,m,t,C,_,_⟩:=aF n;obtain⟨g,v,d,q,_⟩:=n.form (by omega);rw[t]at d;injection d with e1 e2 e3
 subst e1;subst t;obtain⟨y,u,D⟩:=OC.at_ n e;refine⟨g,m,x,by rw[f.1],by rw[<-f.1];exact C,q,y,u,fun j=>?_,o.reads⟩;obtain⟨_,_,A,hc,_⟩:=OC.block n;simp[μ,hc]
theorem dQ.BB(h:dQ w B b c cs roots){i j:Nat}{k:Int}{vs:List HV}(hi:cs[i]?=some (k,vs))(hj:j<vs.length)(v:HV):∃gc m g m2,c=Γ (some ⟨gc,0,none⟩) cs.length m/\w.cell? ⟨gc,i*2+1,none⟩=some (Γ (some ⟨g,0,none⟩) vs.length m2)/\vs.length<=m2/\
 (∃u,w.cell? ⟨g,j*2,none⟩=some u)/\(∃u,w.cell? ⟨g,j*2+1,none⟩=some u)/\(∀n,w.frozen? ⟨g,n,none⟩=ι)/\
 dQ ((w.setCell ⟨g,j*2,none⟩ (χ φ v.1)).setCell ⟨g,j*2+1,none⟩ (χ φ v.2)) B b c (cs.set i (k,vs.set j v)) roots/\Below B w ((w.setCell ⟨g,j*2,none⟩ (χ φ v.1)).setCell ⟨g,j*2+1,none⟩ (χ φ v.2)):=by
 obtain⟨gc,m,x,W,_,_,_,O,_,_⟩:=h.at_ hi;obtain⟨r,aw,mw,ad,Y,l,hB,hb,h1,V,E,o,h5,T⟩:=h;have C:=(List.getElem?_eq_some_iff.1 hi).1;have N:i<l.length:=by rw[o.1];exact C
 obtain⟨⟨k',S⟩,e⟩:∃p,l[i]?=some p:=⟨_,List.getElem?_eq_getElem N⟩;obtain⟨rfl,d⟩:=o.2.1 i k' S k vs e hi;subst W;have hx:S=x:=by have hn:=(Dz E).1;obtain⟨_,z,_⟩:=OC.at_ E e;rw[O]at z;exact(κ z).symm
 subst hx;obtain⟨g,m2,rfl,K,hgl⟩:=d.form (by omega);obtain⟨_,m2',e2,M,_,_⟩:=aF d;cases e2
 obtain⟨p,q,ej⟩:=ep hj;obtain⟨Z,f2,f3,_,_⟩:=OV.at_ d ej;have D:=OV.set (x:=v) d hj;obtain⟨P,J⟩:∃f,w.heap[g]?=some (.cells f 50 (0,0)):=by
  rcases d.2 with⟨G,_⟩|⟨g',cap,f,G,_,a,_⟩
  ·cases G
  ·cases G
   exact⟨f,a⟩
 have y:∀{R:Nat} {cs0:Array ο} {t:Z8} {fr:Nat×Nat},w.heap[R]?=some (.cells cs0 t fr) ->t≠50->R≠g:=fun Q X e=>by
  subst e;rw[J]at Q;cases Q
  exact X rfl
 refine⟨gc,m,g,m2,rfl,O,M,⟨_,Z⟩,⟨_,f2⟩,f3,⟨r,aw,mw,ad,Y,l,hB,(eX (y hb (by decide))).trans hb,h1,V,?_,⟨by simpa using o.1,fun F U x1 k2 I e1 e2=>?_,o.2.2⟩,?_,T⟩,uZ K⟩
 ·obtain⟨_,_,f,hc,_⟩:=OC.block E;exact aS E fun g0 a=>eX (by cases a;exact y hc (by decide))
 ·by_cases s:F=i
  ·subst s;rw[e]at e1;rw[List.getElem?_set_self C]at e2;cases e1
   cases e2
   exact⟨rfl,D⟩
  ·rw[List.getElem?_set_ne (Z9 s)]at e2;obtain⟨q1,q2⟩:=o.2.1 F U x1 k2 I e1 e2;refine⟨q1,aS q2 fun g0 a=>eX fun L=>?_⟩;subst L;rcases Nat.lt_or_gt_of_ne s with H|A
   ·exact o.2.2 F i _ _ H e1 e _ a rfl
   ·exact o.2.2 i F _ _ A e e1 _ rfl a
 ·refine aS h5 fun g0 a=>eX fun L=>?_
  subst L;exact T i _ e _ rfl a
theorem dQ.free(h:dQ w B b c cs roots){i:Nat}(hi:i<cs.length):∃gc m,c=Γ (some ⟨gc,0,none⟩) cs.length m/\cs.length<=m/\(∃u,w.cell? ⟨gc,i*2,none⟩=some u)/\(∃u,w.cell? ⟨gc,i*2+1,none⟩=some u)/\(∀n,w.frozen? ⟨gc,n,none⟩=ι)/\
 dQ ((w.setCell ⟨gc,i*2,none⟩ (χ φ 3)).setCell ⟨gc,i*2+1,none⟩ (Γ none 0 0)) B b c (cs.set i (3,[])) roots/\Below B w ((w.setCell ⟨gc,i*2,none⟩ (χ φ 3)).setCell ⟨gc,i*2+1,none⟩ (Γ none 0 0)):=by
 obtain⟨k,vs,U⟩:=cQ hi;obtain⟨gc,m,x,Q,Z,A,T,M,N,_⟩:=h.at_ U;obtain⟨r,aw,W,ad,S,l,hB,hb,V,O,I,s,H,h6⟩:=h;have f:i<l.length:=by rw[s.1];exact hi
 subst Q;obtain⟨_,_,X,hc,_⟩:=OC.block I;have p:=OC.anz (x:=(3,Γ none 0 0)) I f;have y:∀{G:Nat} {cs0:Array ο} {t:Z8} {fr:Nat×Nat},w.heap[G]?=some (.cells cs0 t fr) ->t≠76->G≠gc:=fun F R e=>by
  subst e;rw[hc]at F;cases F
  exact R rfl
 refine⟨gc,m,rfl,Z,⟨_,T⟩,⟨_,M⟩,N,⟨r,aw,W,ad,S,l.set i (3,Γ none 0 0),hB,(eX (y hb (by decide))).trans hb,V,O,?_,⟨by simpa using s.1,fun J L x1 k2 z e1 e2=>?_,fun q E D P v e1 e2 g0 a g=>?_⟩,?_,fun q D e1 g0 a Y=>?_⟩,uZ A⟩
 ·simpa using p
 ·by_cases o:J=i
  ·subst o;rw[List.getElem?_set_self f]at e1;rw[List.getElem?_set_self hi]at e2;cases e1
   cases e2
   exact⟨rfl,OV.nil _ _⟩
  ·rw[List.getElem?_set_ne (Z9 o)]at e1 e2;obtain⟨q1,K⟩:=s.2.1 J L x1 k2 z e1 e2;refine⟨q1,aS K fun g0 a=>eX fun C=>?_⟩;subst C;exact cF K hc (by decide) a
 ·by_cases d:q=i
  ·subst d;rw[List.getElem?_set_self f]at e1;cases e1
   cases a
  ·by_cases j:E=i
   ·subst j;rw[List.getElem?_set_self f]at e2;cases e2
    cases g
   ·rw[List.getElem?_set_ne (Z9 d)]at e1;rw[List.getElem?_set_ne (Z9 j)]at e2;exact s.2.2 q E D P v e1 e2 g0 a g
 ·refine aS H fun g0 a=>eX fun C=>?_
  subst C;exact cF H hc (by decide) a
 ·by_cases d:q=i
  ·subst d;rw[List.getElem?_set_self f]at e1;cases e1
   cases a
  ·rw[List.getElem?_set_ne (Z9 d)]at e1;exact h6 q D e1 g0 a Y
theorem dQ.Jl(h:dQ w B b c cs roots):dQ (w.setCell ⟨b,2,none⟩ (Γ none 0 0)) B b c cs roots/\Below B w (w.setCell ⟨b,2,none⟩ (Γ none 0 0)):=by
 obtain⟨r,aw,C,ad,t,l,n,hb,A,s,m,j,k,x⟩:=h;refine⟨⟨r,none,0,ad,t,l,n,?_,by decide,s,?_,⟨j.1,fun z q x1 y i e1 e2=>?_,j.2.2⟩,?_,x⟩,(Below.refl B w).setCell (p:=⟨b,2,none⟩) n _⟩
 ·rw[aB hb];rfl
 ·refine aS m fun g a=>aq fun e=>?_
  subst e;rcases m.2 with⟨f,_⟩|⟨D,u,v,f,_,d,_⟩
  ·rw[f]at a;cases a
  ·rw[f]at a;cases a
   rw[hb]at d;cases d
 ·obtain⟨q1,o⟩:=j.2.1 z q x1 y i e1 e2;exact⟨q1,aS o fun g a=>aq fun e=>by subst e;exact cF o hb (by decide) a⟩
 ·exact aS k fun g a=>aq fun e=>by subst e;exact cF k hb (by decide) a
end
end
section
theorem qz{w:υ}{ops:Array Oper}{rest:List Oper}{o:Oper}{a:Act}{Q:Exit->Act->υ->Prop}(hgd:o.guard=none)(m x:Operand)(ho:o.op=.call {callee:=.builtin .delete,args:=#[m,x],argTypes:=#[205,3]})
 (b:Nat) (l:List Int) (n:Int) (hm:a.eval m=.map (some b)) (hx:a.eval x=χ φ n) (hk:bk w b l) (h:∀w',bk w' b (l.erase n) ->w.grownBy w' (some b) ->w'.heap.size=w.heap.size->wpList aD.prog ops Q rest (a.put o.dst (.tuple #[])) w'):wpList aD.prog ops Q (o::rest) a w:=by
 refine wpList_plain hgd fun K e=>?_
 obtain⟨w',d,f,c,g⟩:=wE o.type n hk;unfold Oper.wp execOp;simp only[ho,resolve,invoke,builtin,Sem.run_bind,Sem.run_pure,Result.andThen_ok,List.map_toArray,List.map_cons,List.map_nil,hm,hx,d];exact e _ _ (h w' f c g)
def tS(a:List Int)(c:HC):HC:=if zm c a then(c.1,c.2.map fun _=>(2,0))else c
def DE(a:List Int)(cs:List HC)(k:Nat):List HC:=(cs.take k).map (tS a)++cs.drop k
theorem wI(a:List Int)(cs:List HC)(k:Nat):(DE a cs k).length=cs.length:=by unfold DE;simp;omega
theorem Jm{a:List Int}{cs:List HC}{k:Nat}(h:k<cs.length):(DE a cs k)[k]?=cs[k]?:=by
 unfold DE;rw[List.getElem?_append_right (by simp;omega)];simp
 congr 1
 omega
theorem zZ{a:List Int}{cs:List HC}{k:Nat}{c:HC}(h:cs[k]?=some c):DE a cs (k+1)=(DE a cs k).set k (tS a c):=by
 have b:=(List.getElem?_eq_some_iff.1 h).1;have hd:cs.drop k=c::cs.drop (k+1):=by
  rw[List.drop_eq_getElem_cons b]
  congr 1
  exact(List.getElem?_eq_some_iff.1 h).2
 unfold DE;rw[bW h,hd,List.map_append,List.set_append_right _ _ (by simp;omega)];have:k-((cs.take k).map (tS a)).length=0:=by simp;omega
 rw[this];simp
theorem Aa{a:List Int}{cs:List HC}{k:Nat}{c:HC}(h:cs[k]?=some c)(hc:tS a c=c):DE a cs (k+1)=DE a cs k:=by
 rw[zZ h,hc];have b:=(List.getElem?_eq_some_iff.1 h).1;have:=Jm (a:=a) b;rw[h]at this;exact List.ext_getElem? fun i=>by
  by_cases hi:i=k
  ·subst hi;rw[List.getElem?_set_self (by rw[wI];exact b)];exact this.symm
  ·rw[List.getElem?_set_ne (Z9 hi)]
theorem Oy(a:List Int)(cs:List HC):DE a cs cs.length=cs.map (tS a):=by unfold DE;simp
def freed(cs:List HC)(D left:List Int):List HC:=cs.zipIdx.map fun x=>if D.contains (x.2:Int)&&!left.contains (x.2:Int)then(3,[])else x.1
theorem vc(cs:List HC)(D left:List Int):(freed cs D left).length=cs.length:=by simp[freed]
theorem lC(cs:List HC)(D left:List Int)(i:Nat):(freed cs D left)[i]?=(cs[i]?).map fun c=>if D.contains (i:Int)&&!left.contains (i:Int)then(3,[])else c:=by
 unfold freed;rw[List.getElem?_map,List.getElem?_zipIdx];cases cs[i]? with
 |none=>rfl
 |some c=>simp
theorem Ab(cs:List HC)(D:List Int):freed cs D D=cs:=List.ext_getElem? fun i=>by
 rw[lC];cases cs[i]? with
 |none=>rfl
 |some c=>simp only[Option.map_some];cases h:D.contains (i:Int)<;>simp
theorem BX{cs:List HC}{D A B:List Int}{n:Nat}(hn:n<cs.length)(hD:(n:Int)∈D)(hnd:(A++(n:Int)::B).Nodup):freed cs D (A++B)=(freed cs D (A++(n:Int)::B)).set n (3,[]):=List.ext_getElem? fun i=>by
 have b:(n:Int)∉A++B:=by
  intro h;rw[List.nodup_append]at hnd;rcases List.mem_append.1 h with h|h
  ·exact hnd.2.2 _ h _ List.mem_cons_self rfl
  ·exact(List.nodup_cons.1 hnd.2.1).1 h
 by_cases hi:i=n
 ·subst hi;rw[List.getElem?_set_self (by rw[vc];exact hn),lC,List.getElem?_eq_getElem hn];have c:D.contains (i:Int)=true:=by simpa using hD
  have d:(A++B).contains (i:Int)=ι:=by simpa using b
  simp only[Option.map_some,c,d];rfl
 ·rw[List.getElem?_set_ne (Z9 hi),lC,lC];have a:((i:Nat):Int)≠(n:Int):=by omega
  have:(A++B).contains (i:Int)=(A++(n:Int)::B).contains (i:Int):=by rw[Bool.eq_iff_iff];simp[a]
  rw[this]
def oA(w:υ)(r m:Nat):Nat:=
 match w.heap[r]?,w.heap[m]? with
 |some (.mapIter _ _ seen _),some (.map es _)=>(leftOf es seen).size
 |_,_=>0
theorem eD.oA{w:υ}{r b:Nat}{l left:List Int}(h:eD w r b l left):oA w r b=left.length:=by obtain⟨k,e,a,seen,c0,f,i,g,j,m,c,d⟩:=h;unfold Kn.oA;rw[g,f];have:=congrArg List.length d;simpa using this
section
variable{w w':υ}{B b:Nat}{c:ο}{cs:List HC}{roots:List HV}
theorem dQ.grown(h:dQ w B b c cs roots){row:Option Nat}(hg:w.grownBy w' row)(hr:∀r,row=some r->w.heap.size<=r\/∃o:Obj,w.heap[r]?=some o/\o.isCells=ι):dQ w' B b c cs roots:=by
 have f:∀{k:Nat} {x:Array ο} {t:Z8} {fr:Nat×Nat},w.heap[k]?=some (.cells x t fr) ->w'.heap[k]?=w.heap[k]?:=fun q=>hg.block _ (Ω.1 q).1 fun e=>by
  rcases hr _ e.symm with y|⟨o,j,hc⟩
  ·have:=(Ω.1 q).1;omega
  ·rw[q]at j;cases j
   cases hc
 have a:∀{e:Z8} {size n:Nat} {v:ο} {xs:List ο},w.ownsRow B e size v n xs->w'.ownsRow B e size v n xs:=fun j=>aS j fun g d=>by
  rcases j.2 with⟨p,_⟩|⟨K,D,G,p,_,s,_⟩
  ·rw[p]at d;cases d
  ·rw[p]at d;cases d
   exact f s
 obtain⟨r,aw,F,ad,C,l,J,hb,y,A,H,m,E,I⟩:=h;exact⟨r,aw,F,ad,C,l,J,(f hb).trans hb,y,A,a H,⟨m.1,fun i k x z u e1 e2=>⟨(m.2.1 i k x z u e1 e2).1,a (m.2.1 i k x z u e1 e2).2⟩,m.2.2⟩,a E,I⟩
theorem bk.Ac{m:Nat}{l:List Int}(h:bk w m l):∃o:Obj,w.heap[m]?=some o/\o.isCells=ι:=by obtain⟨b,a,hb,_⟩:=h;exact⟨_,hb,rfl⟩
theorem bk.BY{m:Nat}{l:List Int}(h:bk w m l){g i:Nat}{u:ο}(hc:w.cell? ⟨g,i,none⟩=some u):m≠g:=fun e=>by obtain⟨b,a,hb,_⟩:=h;subst e;simp[Θ,hb]at hc
theorem bk.two{m:Nat}{l:List Int}(h:bk w m l){g i j n:Nat}{u v x:ο}(hc:w.cell? ⟨g,n,none⟩=some x):bk ((w.setCell ⟨g,i,none⟩ u).setCell ⟨g,j,none⟩ v) m l:=h.of_block (eX (h.BY hc))
theorem eD.two{r m:Nat}{l left:List Int}(h:eD w r m l left){g i j n:Nat}{u v x:ο}(hc:w.cell? ⟨g,n,none⟩=some x):eD ((w.setCell ⟨g,i,none⟩ u).setCell ⟨g,j,none⟩ v) r m l left:=h.of_block (eX (h.keys.BY hc)) (eX fun e=>by obtain⟨k,b,a,seen,c0,f,d,c,_⟩:=h;subst e;simp[Θ,c]at hc)
end
structure lD(n:Nat)(A left L:List Int):Prop where
 nodup:L.Nodup
 mem:∀x,x∈L↔((0<=x/\x<(n:Int))/\(x∈A->x∈left))
theorem lD.sM(n:Nat)(A:List Int):lD n A A ((List.range n).map fun i:Nat=>(i:Int)):=by
 refine⟨?_,fun x=>⟨fun h=>?_,fun h=>?_⟩⟩
 ·rw[List.Nodup,List.pairwise_map];exact List.nodup_range.imp fun h e=>h (by omega)
 ·obtain⟨i,hi,rfl⟩:=List.mem_map.1 h;have:=List.mem_range.1 hi;exact⟨⟨by omega,by omega⟩,fun h=>h⟩
 ·obtain⟨i,rfl⟩:=θ h.1.1;exact List.mem_map.2 ⟨i,List.mem_range.2 (by omega),rfl⟩
theorem lD.next{n:Nat}{A X Y L:List Int}{x:Int}(h:lD n A (X++x::Y) L)(hnd:(X++x::Y).Nodup)(hx:x∈A):lD n A (X++Y) (L.erase x):=by
 refine⟨h.nodup.erase x,fun y=>?_⟩;rw[List.Nodup.mem_erase_iff h.nodup,h.mem];constructor
 ·rintro⟨b,d,a⟩;refine⟨d,fun c=>?_⟩;have:=a c;simp only[List.mem_append,List.mem_cons]at this⊢;rcases this with h|h|h
  ·exact .inl h
  ·exact absurd h b
  ·exact .inr h
 ·rintro⟨d,a⟩;refine⟨fun e=>?_,d,fun c=>?_⟩
  ·subst e;have:=a hx;rw[List.nodup_append]at hnd;rcases List.mem_append.1 this with h|h
   ·exact hnd.2.2 _ h _ List.mem_cons_self rfl
   ·exact(List.nodup_cons.1 hnd.2.1).1 h
  ·have:=a c;simp only[List.mem_append,List.mem_cons]at this⊢;rcases this with h|h
   ·exact .inl h
   ·exact .inr (.inr h)
def wJ(cs:List HC)(a2:List Int):List HC:=cs.zipIdx.map fun x=>if a2.contains (x.2:Int)then x.1 else(3,[])
theorem E6{cs:List HC}{A L:List Int}(h:lD cs.length A [] L):freed cs L []=wJ cs A:=List.ext_getElem? fun i=>by
 rw[lC];unfold wJ;rw[List.getElem?_map,List.getElem?_zipIdx];rcases Nat.lt_or_ge i cs.length with hi|hi
 ·rw[List.getElem?_eq_getElem hi];have c:=h.mem (i:Int);by_cases a:(i:Int)∈A
  ·have b:¬(i:Int)∈L:=fun d=>by have:=(c.1 d).2 a;cases this
   simp[a,b]
  ·have b:(i:Int)∈L:=c.2 ⟨⟨by omega,by omega⟩,fun h=>absurd h a⟩;simp[a,b]
 ·rw[List.getElem?_eq_none hi];rfl
end
theorem e8{P:Program}{w:υ}{ops:Array Oper}{rest:List Oper}{o:Oper}{a:Act}{Q:Exit->Act->υ->Prop}(hgd:o.guard=none)(it:Operand)(ho:o.op=.next it ι)(v:ο)(hi:a.eval it=v)(r:ο)(w':υ)
 (hrun:(Instr.next v ι o.type).run P w=.ok r w') (h:wpList P ops Q rest (a.put o.dst r) w'):wpList P ops Q (o::rest) a w:=by
 refine wpList_plain hgd fun K b=>?_
 unfold Oper.wp;simp[execOp,ho,hi,hrun,Result.andThen];exact b _ _ h
def qv(cs:List HC)(roots:List HV)(N R:Nat):List HC:=cs.map (tS (jE ⟨cs,roots,[],[]⟩ N (R+1)))
def eq(cs:List HC)(roots:List HV)(N R:Nat):List HC:=wJ (qv cs roots N R) (jE ⟨qv cs roots N R,roots,[],[]⟩ N (R+1))
structure wK(cs:List HC)(roots:List HV)(N R:Nat):Prop where
 first:lZ ⟨cs,roots,[],[]⟩ N R
 second:lZ ⟨qv cs roots N R,roots,[],[]⟩ N R
 nodup:(jE ⟨qv cs roots N R,roots,[],[]⟩ N (R+1)).Nodup
 ye:∀c∈cs,c.1=1->c.2.length=1
 wW:cs.length<=1000
theorem BZ(w:υ)(B b:Nat)(cs:List HC)(roots:List HV)(N R:Nat)(h:mp w B b cs roots)(hB:B<=w.heap.size)(ho:wK cs roots N R):
 Z4 aD.prog 125 #[Ξ (some ⟨b,0,none⟩)] w fun e w'=>e=.returned (.tuple #[])/\mp w' B b (eq cs roots N R) roots/\Below B w w':=by
 obtain⟨c,hc⟩:=h.named;have H:=Ψ hc;have HO:=Ψ ho;have hcl:=ho.wW;have hmm:=@run_makeMap aD.prog;clear h hc ho
 go_enter aD.func125,Tryz.ntmps125
 go_wp2_with fail
 refine(DD _ b ⟨cs,roots,[],[]⟩ N R H.out.own.reads HO.out.first rfl).mono ?_;rintro e w1 ⟨⟨m1,rfl,hm1,hk1⟩,hb1⟩;have hP1:=H.out.below hb1;obtain⟨hBb,hbl,q0,⟨aw,mw,q2⟩,qf,ac,mc,hcv,hmc⟩:=hP1.cells;have HP1:=Ψ hP1;have hw1:=hb1.size;clear hP1
 go_wp2_with fail
 go_loopw [3,21] (fun v i wr=>v=Γ none 0 0/\i=χ φ 0/\wr=w1) (fun _ _ _=>0)
 case atStart=>exact⟨rfl,rfl,rfl⟩
 case round=>
  obtain⟨rfl,rfl,rfl⟩:=hrel;subst hcv;obtain⟨hP2,hb2⟩:=HP1.out.Jl;have q2f:=qf 2;have hk2:=hk1.of_block (w':=wr.setCell ⟨b,2,none⟩ (Γ none 0 0)) (aq (hk1.BY q0));have hq0:(wr.setCell ⟨b,2,none⟩ (Γ none 0 0)).cell? ⟨b,0,none⟩=some (.slice ac cs.length mc):=by obtain⟨_,_,q0',_⟩:=hP2.cells;exact q0'
  go_wp2_with fail
  have hB2:Below B w (wr.setCell ⟨b,2,none⟩ (Γ none 0 0)):=(hb1.mono hB).trans hb2;clear q2 q2f q0 hb2;generalize wr.setCell ⟨b,2,none⟩ (Γ none 0 0)=w2 at hP2 hk2 hq0 hB2⊢;obtain⟨a1,ha1⟩:∃a1,a1=jE ⟨cs,roots,[],[]⟩ N (R+1):=⟨_,rfl⟩;rw[<-ha1]at hk2;have HA1:=Ψ ha1;have HP2:=Ψ (ω hP2 (ω hk2 hB2));clear hP2 hk1 hk2 hB2 hq0 ha1 qf HP1 H hb1
  go_loopw [57] (fun i wr=>∃k:Nat,k<=cs.length/\i=χ φ k/\Hid (dQ wr B b (.slice ac cs.length mc) (DE a1 cs k) roots/\bk wr m1 a1/\Below B w wr)) (fun i _=>cs.length-(intOf i).toNat)
  case atStart=>exact⟨0,Nat.zero_le _,rfl,by simpa[DE]using HP2⟩
  case round=>
   clear HP2;obtain⟨k,hk,rfl,HP⟩:=hrel;have Q:=HP.out.2.2;have F:B<=wr.heap.size:=Nat.le_trans hB Q.size;by_cases hlt:k<cs.length
   ·obtain⟨kd,vs,ec⟩:=cQ hlt;have hat:=Jm (a:=a1) hlt;rw[ec]at hat
    obtain⟨gc,m,x,e,_,_,d1,d2,_,hxv⟩:=HP.out.1.at_ hat
    obtain⟨ax,mx,rfl,_,_,_⟩:=id hxv;rw[wI]at e;cases e
    have hmem:=List.mem_of_getElem? ec;have hkind:=HO.out.first.kinds _ hmem;have V:=HO.out.ye _ hmem;dsimp only at hkind V;have HX:=Ψ hxv;have HE:=Ψ (ω ec hat);have hb0:=af wr (Δ #[χ φ kd,.slice ax vs.length mx] 76);clear hat hxv ec hmem;rcases hkind with rfl|rfl
    ·have hmt:=fun w=>Oc w (.slice ax vs.length mx) "caracole/heap.loses" 318 (.inr (.inr (.inr ⟨rfl,rfl⟩)))
     go_wp2_with fail
     refine(sI _ _ _ _).mono ?_;rintro e w3 ⟨rfl,S⟩
     go_wp2_with fail
     refine(Og _ _ _ _ _).mono ?_;rintro e w4 ⟨rfl,hb4⟩
     go_wp2_with fail
     have d:Below wr.heap.size wr w4:=hb0.trans ((S.trans (hb4.mono S.size)).mono (by simp));have C:=Aa (a:=a1) HE.out.1 (by unfold tS zm;simp);exact⟨⟨k+1,by omega,by go_num,Ψ ⟨by rw[C];exact HP.out.1.below d,HP.out.2.1.below d,Q.trans (d.mono F)⟩⟩,by simp[intOf];omega⟩
    ·have hmt:=fun w=>Od w (.slice ax vs.length mx) "caracole/heap.loses" 324 (.inr (.inr (.inr ⟨rfl,rfl⟩)))
     obtain⟨v,rfl⟩:=List.length_eq_one_iff.1 (V rfl);clear V
     go_wp2_with fail
     refine(sJ _ _ _ _).mono ?_;rintro e w3 ⟨rfl,S⟩;have hz3:wr.heap.size<w3.heap.size:=by have:=S.size;rw[η]at this;omega
     have I:=hb0.trans (S.mono (by simp))
     go_wp2_with fail
     refine(Oh _ _ m1 a1 v [] (HP.out.2.1.below I) (HX.out.below I)).mono ?_;rintro e w4 ⟨rfl,hb4⟩;have d:Below wr.heap.size wr w4:=I.trans (hb4.mono I.size);have n4:w4.cell? ⟨wr.heap.size,1,none⟩=some (.slice ax 1 mx):=(hb4.cell (p:=⟨wr.heap.size,1,none⟩) hz3).trans ((S.cell (p:=⟨wr.heap.size,1,none⟩) (by simp)).trans (by go_simp));clear hb0 S I hb4;by_cases hh:has a1 v=true
     ·have C:=Aa (a:=a1) HE.out.1 (by unfold tS zm;simp[hh]);rw[hh]
      go_wp2_with fail
      exact⟨⟨k+1,by omega,by go_num,Ψ ⟨by rw[C];exact HP.out.1.below d,HP.out.2.1.below d,Q.trans (d.mono F)⟩⟩,by simp[intOf];omega⟩
     ·have hhf:has a1 v=ι:=by simpa using hh
      have C:=zZ (a:=a1) HE.out.1;have hbc:tS a1 (1,[v])=(1,[(2,0)]):=by unfold tS zm;simp[hhf]
      rw[hbc]at C;have hP4:=HP.out.1.below d;obtain⟨gc',m',g,m2,e1,s1,_,⟨u1,s2⟩,⟨u2,s3⟩,s4,hP5,Oz⟩:=hP4.BB (j:=0) HE.out.2 (by simp) (2,0);rw[wI]at e1;cases e1
      simp only[Nat.zero_mul,Nat.zero_add]at s2 s3 hP5 Oz;have s4a:=s4 0;have s4b:=s4 1;obtain⟨_,_,r0,_⟩:=hP4.cells;have hk4:=HP.out.2.1.below d;have hk5:=hk4.two (i:=0) (j:=1) (u:=χ φ 2) (v:=χ φ 0) s2;have HP5:=Ψ (ω hP5 (ω hk5 Oz));have HS:=Ψ C;have HB4:=Ψ d;have hlt':(k:Int)<(cs.length:Int):=by omega
      have hk0:(0:Int)<=(k:Int):=by omega
      rw[hhf];clear hP4 hP5 Oz hk4 hk5 C hbc s4 hh d
      go_wp2_with fail
      clear n4
      go_loopw [70] (fun i wr'=>(i=χ φ 0/\wr'=w4)\/(i=χ φ 1/\wr'=(w4.setCell ⟨g,0,none⟩ (χ φ 2)).setCell ⟨g,1,none⟩ (χ φ 0))) (fun i _=>1-(intOf i).toNat)
      case atStart=>exact .inl ⟨rfl,rfl⟩
      case round=>
       rcases hrel with⟨rfl,rfl⟩|⟨rfl,rfl⟩
       ·go_wp2_with fail
        exact⟨.inr ⟨rfl,trivial⟩,by simp[intOf]⟩
       ·go_wp2_with fail
        have anB:Below B w ((w4.setCell ⟨g,0,none⟩ (χ φ 2)).setCell ⟨g,1,none⟩ (χ φ 0)):=Q.trans ((HB4.out.mono F).trans HP5.out.2.2);exact⟨⟨k+1,by omega,by go_num,Ψ ⟨by rw[HS.out];exact HP5.out.1,HP5.out.2.1,anB⟩⟩,by simp[intOf];omega⟩
   ·have hke:k=cs.length:=by omega
    subst hke;have l:=HP.out.1;have C:DE a1 cs cs.length=qv cs roots N R:=by rw[Oy,HA1.out];rfl
    rw[C]at l;obtain⟨E,W⟩:∃x,x=qv cs roots N R:=⟨_,rfl⟩;have hl1:E.length=cs.length:=by rw[W];simp[qv]
    rw[<-W]at l;have HC1:=Ψ W;obtain⟨_,_,q0,_⟩:=l.cells;have HP9:=Ψ (ω l Q);have WA:=Ψ hl1;clear HP l W hl1 C
    go_wp2_with fail
    have hkd:bk (wr.alloc (.map #[] 0)) wr.heap.size (((List.range 0).map fun i:Nat=>(i:Int))):=bk.made wr;have hPa:=HP9.out.1.below (af wr (.map #[] 0));have hBa:=Q.trans (((af wr (.map #[] 0))).mono F);have HKD:=Ψ (ω hkd (ω hPa hBa));obtain⟨m3,Fw⟩:∃m3,m3=wr.heap.size:=⟨_,rfl⟩;rw[<-Fw]at HKD⊢;have aft:B<=m3:=by omega
    clear hkd hPa hBa q0 Fw
    go_loopw [94] (fun i wr=>∃k:Nat,k<=cs.length/\i=χ φ k/\Hid (bk wr m3 ((List.range k).map fun i:Nat=>(i:Int))/\dQ wr B b (.slice ac cs.length mc) E roots/\Below B w wr)) (fun i _=>cs.length-(intOf i).toNat)
    case atStart=>exact⟨0,Nat.zero_le _,rfl,HKD⟩
    case round=>
     clear HKD HP9 Q F;obtain⟨k,hk',rfl,HK⟩:=hrel;by_cases hlt2:k<cs.length
     ·obtain⟨w5,hup,hk5,hg5,hs5⟩:=ki (k:Int) HK.out.1;have hadd:nb ((List.range k).map fun i:Nat=>(i:Int)) (k:Int)=(List.range (k+1)).map fun i:Nat=>(i:Int):=by unfold nb;rw[if_neg (by simp;omega),List.range_succ,List.map_append];rfl
      rw[hadd]at hk5;have hP5:=HK.out.2.1.grown hg5 (fun r e=>.inr (by cases e;exact HK.out.1.Ac));have Oz:=HK.out.2.2.grown hg5 (Nat.le_trans hB HK.out.2.2.size) (fun r e=>by
       cases e
       exact aft)
      have HK5:=Ψ (ω hk5 (ω hP5 Oz));clear hk5 hP5 Oz hg5 hadd
      go_wp2_with fail
      exact⟨⟨k+1,by omega,by go_num,HK5⟩,by simp[intOf];omega⟩
     ·have hke:k=cs.length:=by omega
      subst hke;have F:=Nat.le_trans hB HK.out.2.2.size;have hse:=HO.out.second;have hnd:=HO.out.nodup;rw[<-HC1.out]at hse hnd;have HSE:=Ψ hse;have HND:=Ψ hnd;clear hse hnd
      go_wp2_with fail
      refine(DD _ b ⟨E,roots,[],[]⟩ N R HK.out.2.1.own.reads HSE.out rfl).mono ?_;rintro e w6 ⟨⟨m4,rfl,hm4,hk4⟩,hb6⟩;obtain⟨a2,ha2⟩:∃x,x=jE ⟨E,roots,[],[]⟩ N (R+1):=⟨_,rfl⟩;rw[<-ha2]at hk4 HND;obtain⟨w7,hrg,o,hg7,hs7⟩:=qg hk4;have hk6:=HK.out.1.below hb6;have hk7:=hk6.of_block (hg7.block m3 hk6.lt (by simp));have hP7:=(HK.out.2.1.below hb6).grown hg7 (fun r e=>by cases e);have Wm:=(HK.out.2.2.trans (hb6.mono F)).grown hg7 (Nat.le_trans F hb6.size) (fun r e=>by cases e);have afu:m3≠m4:=by have:=HK.out.1.lt;omega
      have WB:m3≠w6.heap.size:=by have:=hk6.lt;omega
      have HA2:=Ψ ha2;have KV:=Ψ (ω o (ω hk7 (ω hP7 Wm)));obtain⟨r4,hr4⟩:∃r,r=w6.heap.size:=⟨_,rfl⟩;have anD:B<=r4:=by rw[hr4];exact Nat.le_trans F hb6.size
      rw[<-hr4]at hrg KV WB;clear hr4;clear hk4 o hg7 hk6 hk7 hP7 Wm ha2 hb6 HK
      go_wp2_with fail
      clear hrg;have WC:=lD.sM E.length a2;rw[WA.out]at WC
      go_loopw [11] (fun _ wr=>∃f L,Hid (eD wr r4 m4 a2 f/\bk wr m3 L/\lD cs.length a2 f L/\f.Nodup/\(∀x∈f,x∈a2)/\dQ wr B b (.slice ac cs.length mc) E roots/\Below B w wr)) (fun _ wr=>oA wr r4 m4)
      case atStart=>exact⟨a2,_,Ψ ⟨KV.out.1,KV.out.2.1,WC,HND.out,fun x hx=>hx,KV.out.2.2.1,KV.out.2.2.2⟩⟩
      case round=>
       clear KV WC;obtain⟨f,L,HL⟩:=hrel;obtain⟨o,hkl,hsk,G,q,A,z⟩:=HL.out;rcases sH 0 o with⟨hnil,J⟩|⟨X,Y,x,w8,hXY,J,s,P,hs8,hen⟩
       ·subst hnil;have anF:=Nat.le_trans hB z.size;have HSK:=Ψ hsk;obtain⟨w9,afv,t,O,hs9⟩:=qg hkl;have l:=A.grown O (fun r e=>by cases e);have U:=z.grown O anF (fun r e=>by cases e);have T:=Ψ (ω t (ω l U));obtain⟨r5,hr5⟩:∃r,r=wr.heap.size:=⟨_,rfl⟩;rw[<-hr5]at afv T;have anH:B<=r5:=by omega
        clear hr5;clear HL o hkl hsk G q A z t O l U
        go_wp2_with (at_next;refine e8 rfl _ rfl _ rfl _ _ J ?_)
        clear J afv
        go_loopw [12] (fun _ wr=>∃f,Hid (eD wr r5 m3 L f/\f.Nodup/\(∀x∈f,x∈L)/\dQ wr B b (.slice ac cs.length mc) (freed E L f) roots/\Below B w wr)) (fun _ wr=>oA wr r5 m3)
        case atStart=>exact⟨L,Ψ ⟨T.out.1,HSK.out.nodup,fun x hx=>hx,by rw[Ab];exact T.out.2.1,T.out.2.2⟩⟩
        case round=>
         clear T;obtain⟨f,HF⟩:=hrel;obtain⟨o,G,q,A,z⟩:=HF.out;rcases sH 0 o with⟨hnil,J⟩|⟨X,Y,x,w8,hXY,J,s,P,hs8,hen⟩
         ·subst hnil;have hend:freed E L []=eq cs roots N R:=by have h1:=HSK.out;rw[<-WA.out]at h1;rw[E6 h1,HA2.out];unfold eq;rw[<-HC1.out]
          rw[hend]at A;have HPL:=Ψ (ω A z);clear HF o G q A z hend
          go_wp2_with (at_next;refine e8 rfl _ rfl _ rfl _ _ J ?_)
          go_end0;exact⟨rfl,HPL.out.1.own,HPL.out.2⟩
         ·subst hXY;have hxL:=q x (by simp);obtain⟨⟨hx0,hx1⟩,_⟩:=(HSK.out.mem x).1 hxL;obtain⟨n,rfl⟩:=θ hx0;have M:=A.grown P (fun r e=>.inr (by
           cases e
           obtain⟨es,clk,since,seen,c0,h1,h2,h3,_⟩:=o;exact⟨_,h3,rfl⟩))
          have K:=z.grown P (Nat.le_trans hB z.size) (fun r e=>by cases e;exact anH);have hfl:=vc E L (X++(n:Int)::Y);obtain⟨gc',m',e1,_,⟨u1,s1⟩,⟨u2,s2⟩,s3,l,U⟩:=M.free (i:=n) (by rw[hfl,WA.out];omega);rw[hfl,WA.out]at e1;cases e1
          have afw:=BX (cs:=E) (D:=L) (by rw[WA.out];omega) hxL G;rw[<-afw]at l;have t:=s.two (i:=n*2) (j:=n*2+1) (u:=χ φ 3) (v:=Γ none 0 0) s1;have afx:(X++Y).Nodup:=G.sublist (List.Sublist.append_left (List.sublist_cons_self _ _) _);have hm1:=o.oA;have hm2:=t.oA;obtain⟨_,_,r0,_⟩:=M.cells;have s3a:=s3 (n*2);have s3b:=s3 (n*2+1);have T:=Ψ (ω t (ω afx (ω (fun y (hy:y∈X++Y)=>q y (by simp at hy⊢;rcases hy with h|h;exact .inl h;exact .inr (.inr h))) (ω l (K.trans U)))));have HM:=Ψ (ω hm1 hm2);have hn1:(n:Int)<(cs.length:Int):=by omega
          have hn0:(0:Int)<=(n:Int):=by omega
          clear HF o G q A z hxL hx0 hx1 s P hs8 M K hfl l U afw t afx hm1 hm2 s3
          go_wp2_with (at_next;refine e8 rfl _ rfl _ rfl _ _ J ?_)
          go_roundw
          case rel=>exact⟨X++Y,T⟩
          case measure=>rw[HM.out.1,HM.out.2];simp
       ·subst hXY;have hxa:=q x (by simp);have hne:m3≠r4:=WB;have hk8:bk w8 m3 L:=hkl.of_block (P.block m3 hkl.lt (fun e=>hne (κ e)));have M:=A.grown P (fun r e=>.inr (by
         cases e
         obtain⟨es,clk,since,seen,c0,h1,h2,h3,_⟩:=o;exact⟨_,h3,rfl⟩))
        have K:=z.grown P (Nat.le_trans hB z.size) (fun r e=>by cases e;exact anD);have Z:=hsk.next G hxa;have OA:(X++Y).Nodup:=G.sublist (List.Sublist.append_left (List.sublist_cons_self _ _) _);have hm1:=o.oA;have HK8:=Ψ (ω s (ω Z (ω OA (ω (fun y (hy:y∈X++Y)=>q y (by simp at hy⊢;rcases hy with h|h;exact .inl h;exact .inr (.inr h))) (ω M K)))));have HKK:=Ψ hk8;have HM:=Ψ hm1;clear HL o hkl hsk G q A z s P hs8 hk8 M K Z OA hm1
        go_wp2_with (first|(at_next;refine e8 rfl _ rfl _ rfl _ _ J ?_)|(at_delete;refine qz rfl _ _ rfl m3 L x rfl rfl HKK.out ?_;intro w9 hk9 O hs9;go_frame))
        obtain⟨s,Z,OA,afy,M,K⟩:=HK8.out;have t:=s.of_block (w':=w9) (O.block m4 s.lt.2.1 (fun e=>afu (κ e).symm)) (O.block r4 s.lt.1 (fun e=>WB (κ e).symm));have l:=M.grown O (fun r e=>.inr (by cases e;exact HKK.out.Ac));have U:=K.grown O (Nat.le_trans hB K.size) (fun r e=>by cases e;exact aft)
        go_roundw
        case rel=>exact⟨X++Y,L.erase x,Ψ ⟨t,hk9,Z,OA,afy,l,U⟩⟩
        case measure=>rw[HM.out,t.oA];simp
theorem afz(w:υ)(B b:Nat)(cs:List HC)(roots:List HV)(k:Int)(v:ο)(vs:List HV)(h:mp w B b cs roots)(hv:eI w v vs)(hB:B<=w.heap.size)(hl:cs.length<=1000)(hvl:vs.length<=1000):
 Z4 aD.prog 176 #[Ξ (some ⟨b,0,none⟩),χ φ k,v] w fun e w'=>e=.returned (χ φ (cs.length:Int))/\mp w' B b (cs++[(k,vs)]) roots/\Below B w w':=by
 have H:=Ψ h;obtain⟨a,m,rfl,hm,hm2,ha⟩:=hv;obtain⟨c,r,aw,mw,ad,md,l,M,hb,N,F,Q,E,h5,h6⟩:=h;obtain⟨i0,hi,G,z,O⟩:=info_parts nh;have J:=Ψ E.1;have hll:l.length<=1000:=by have:=E.1;omega
 obtain⟨Z,mc,rfl,hmc,Y,_⟩:=aF Q;have q:=(Ω.1 hb).1;have y:w.cell? ⟨b,0,none⟩=some (.slice Z l.length mc):=by simp[Θ,hb]
 have R:=fun W=>BC vs.length vs.length (Nat.le_refl _) (by omega) W
 have HA:=Ψ ha;have HI:=Ψ hi;have D:=Ψ z;have H3:=Ψ Q;have HB:=Ψ hb;have HF:Hid (w.frozen? ⟨b,0,none⟩=ι):=Ψ (by simp[μ,hb]);have HE:=Ψ (fun t P T (K:Below w.heap.size w t) (n:OC t w.heap.size (Γ (some ⟨P,0,none⟩) (l.length+1) T) (l++[(k,Γ (some ⟨w.heap.size,0,none⟩) vs.length vs.length)])) (hx:OV t w.heap.size (Γ (some ⟨w.heap.size,0,none⟩) vs.length vs.length) vs)=>Oi M hb N F E h5 h6 K n hx hB);clear ha hi G z O Q hb E h5 h6
 go_enter aD.func176,Tryz.ntmps176
 go_wp2_with (with_reducible refine iW rfl (.tmp 11) (.tmp 12) 23 23 rfl 50 i0 2 w.heap.size vs.length vs.length a m _ 50 (vs.flatMap lU) lx HI.out D.out rfl rfl (ψ w _) (fx vs) (fun h0=>?N) (by rw[fx,jz];omega) (V1 vs) ?_)
 case N=>obtain⟨X,o,e,S,I⟩:=HA.out h0;refine⟨_,e,fun j u hu=>(World.cell?_alloc_lt w _ _ ?_).trans (zt I j u hu)⟩;rw[show((⟨X,o,none⟩:Addr).add j).block=X by unfold Addr.add;split<;>rfl];exact S
 ·intro f s A;rw[<-List.length_flatMap]at s;have d:Below w.heap.size w f:=(af w _).grown A (by simp) (fun k K=>by cases K;exact Nat.le_refl _);have C:OV f w.heap.size (Γ (some ⟨w.heap.size,0,none⟩) vs.length vs.length) vs:=zR rfl (Nat.le_refl _) s (by omega);have V:=(d.cell (p:=⟨b,0,none⟩) q).trans y;have i:=Nat.lt_of_lt_of_le q d.size;have U:=(d.frozen (p:=⟨b,0,none⟩) q).trans HF.out;have HX:=Ψ C;clear s A R HI D y C;have hl0:(0:Int)<=(l.length:Int):=by omega
  have hl1:(l.length:Int)<=(mc:Int):=by omega
  go_wp2_with fail
  go_region_law ((refine aX rfl _ _ 22 (by rfl) (.slice Z l.length l.length) (Γ (some ⟨f.heap.size,0,none⟩) 1 1) (by rfl) (by rfl) _ (tP (k:=k) (x:=Γ (some ⟨w.heap.size,0,none⟩) vs.length vs.length) ((H3.out.below d).below (by first|exact(af f _).drew|exact(af f _)|exact((Below.refl _ f).drew.alloc (Nat.le_refl _) _)|exact((Below.refl _ f).drew.alloc (Nat.le_refl _) _).drew)) (ψ f _) (by rfl) (by omega)) ?_;intro v' t F;obtain⟨n,L,P,T,rfl⟩:=F;have g:Below f.heap.size f t:=Below.trans (by first|exact(af f _).drew|exact(af f _)|exact((Below.refl _ f).drew.alloc (Nat.le_refl _) _)|exact((Below.refl _ f).drew.alloc (Nat.le_refl _) _).drew) (L.mono (by simp));have gc:=(g.cell (p:=⟨b,0,none⟩) i).trans V;have gf:=(g.frozen (p:=⟨b,0,none⟩) i).trans U))
  all_goals
   go_wp2
   go_ret;obtain⟨e1,e2⟩:=HE.out t P T (d.trans (g.mono d.size)) (n.less (by have:=d.size;simp;omega)) (HX.out.below g);exact⟨by rw[<-J.out];simp,e1,e2⟩
theorem B1{w:υ}{B b:Nat}{roots:List HV}{r:ο}{aw ad:Option Addr}{mw md:Nat}(hB:B<=b)(hb:w.heap[b]?=some (Δ #[Γ none 0 0,r,.slice aw 0 mw,.slice ad 0 md] 159 (0,0)))(h1:mw<=9223372036854775807)(h2:md<=9223372036854775807)(hr:OV w B r roots):mp w B b [] roots:=⟨_,r,aw,mw,ad,md,[],hB,hb,h1,h2,OC.nil _ _,⟨rfl,fun i k x c a e1 _=>by simp at e1,fun i j p q _ e1 _=>by simp at e1⟩,hr,fun i p e1=>by simp at e1⟩
theorem OB(w:υ)(v:ο)(h:PH)(hv:tH w v h)(hk:HOK h):Z4 aD.prog 122 #[v] w fun e w'=>(∃b,e=.returned (Ξ (some ⟨b,0,none⟩))/\mp w' w.heap.size b h.cells h.roots)/\Below w.heap.size w w':=by
 have K:=Ψ hk;obtain⟨c,r,wi,d,rfl,h1,h2,h3,h4⟩:=hv;have H1:=Ψ h1;have H2:=Ψ h2;have H3:=Ψ h3;have H4:=Ψ h4;obtain⟨F,mc,rfl,hmc,am9,R⟩:=h1;obtain⟨ar,t,rfl,hmr,aeW,_⟩:=h2;obtain⟨aw,C,rfl,hmw,aeX,_⟩:=h3;obtain⟨ad,z,rfl,hmd,aeY,_⟩:=h4;have HC:=Ψ R;have V:=af w (Δ #[.slice F h.cells.length mc,.slice ar h.roots.length t,.slice aw h.aA.length C,.slice ad h.done.length z] 56);have f:=V.alloc (by simp) (Δ #[.slice F h.cells.length mc,.slice ar h.roots.length t,.slice aw h.aA.length C,.slice ad h.done.length z] 159);have hP:qw ((w.alloc (Δ #[.slice F h.cells.length mc,.slice ar h.roots.length t,.slice aw h.aA.length C,.slice ad h.done.length z] 56)).alloc (Δ #[.slice F h.cells.length mc,.slice ar h.roots.length t,.slice aw h.aA.length C,.slice ad h.done.length z] 159)) (w.heap.size+1) h:=⟨_,_,_,_,by go_simp,by go_simp,by go_simp,by go_simp,H1.out.below f,H2.out.below f,H3.out.below f,H4.out.below f⟩
 have HP:=Ψ hP;have HB2:=Ψ f;have I:h.roots.length<=1000000:=by have:=hk.four;omega
 have P:h.aA.length<=1000000:=by have:=hk.aA;simp[this]
 have M:h.done.length<=1000000:=by have:=hk.done;simp[this]
 have WA:=Ψ I;have HL2:=Ψ P;have HL3:=Ψ M;clear hk R V f hP I P M
 go_enter aD.func122,Tryz.ntmps122
 go_wp2_with fail
 refine(I3 _ _ h HP.out K.out).mono ?_;rintro e g ⟨rfl,a⟩;have q:Below w.heap.size w g:=HB2.out.trans (a.mono (by simp;omega));have f0:g.cell? ⟨w.heap.size,0,none⟩=some (.slice F h.cells.length mc):=(a.cell (p:=⟨w.heap.size,0,none⟩) (by simp;omega)).trans (by go_simp);have f1:g.cell? ⟨w.heap.size,1,none⟩=some (.slice ar h.roots.length t):=(a.cell (p:=⟨w.heap.size,1,none⟩) (by simp;omega)).trans (by go_simp);have f2:g.cell? ⟨w.heap.size,2,none⟩=some (.slice aw h.aA.length C):=(a.cell (p:=⟨w.heap.size,2,none⟩) (by simp;omega)).trans (by go_simp);have f3:g.cell? ⟨w.heap.size,3,none⟩=some (.slice ad h.done.length z):=(a.cell (p:=⟨w.heap.size,3,none⟩) (by simp;omega)).trans (by go_simp);have hs3:w.heap.size<g.heap.size:=by have:=a.size;simp at this;omega
 clear a
 go_wp2_with fail
 have Z:=i1 ((Below.refl g.heap.size g).drew);have hs4:g.drew.heap.size=g.heap.size:=rfl
 go_region_held3 (fun x=>x.cell? ⟨w.heap.size,0,none⟩=some (.slice F h.cells.length mc)/\x.cell? ⟨w.heap.size,1,none⟩=some (.slice ar h.roots.length t)/\x.cell? ⟨w.heap.size,2,none⟩=some (.slice aw h.aA.length C)/\x.cell? ⟨w.heap.size,3,none⟩=some (.slice ad h.done.length z))
  (go_keep)
  (first
    |(go_at_call 148;(with_reducible refine(og _ (.slice ar h.roots.length t) h.roots (H2.out.below q.drew) WA.out).mono ?_);rintro e w6 ⟨⟨r6,rfl,y⟩,A⟩;have u:=q.drew.trans (A.mono q.size);have N:=i1 A;have Jc:=Ψ y;obtain⟨T,J,rfl,_⟩:=y.reads;clear y;have hs6:=A.size;simp only[World.size_drew]at hs6 N;have ht6:w.heap.size<w6.heap.size:=by omega)
    |(go_at_call 149;(with_reducible refine(wj _ (.slice aw h.aA.length C) h.aA (H3.out.below u) HL2.out).mono ?_);rintro e w7 ⟨⟨r7,rfl,s⟩,m⟩;have D:=u.trans (m.mono u.size);have hc7:=i1 m;have Je:=Ψ s;obtain⟨X,G,rfl,_⟩:=s.reads;clear s;have hs7:=m.size;have ht7:w.heap.size<w7.heap.size:=by omega)
    |(go_at_call 149;(with_reducible refine(wj _ (.slice ad h.done.length z) h.done (H4.out.below D) HL3.out).mono ?_);rintro e w8 ⟨⟨r8,rfl,o⟩,j⟩;have Wn:=D.trans (j.mono D.size);have hc8:=i1 j;have Y:=Ψ o;obtain⟨W,O,rfl,_⟩:=o.reads;clear o;have hs8:=j.size;have V9:w.heap.size<w8.heap.size:=by omega))
 clear f1 f2 f3 N hc7 hc8 Z;have H:(w8.alloc (Δ #[Γ none 0 0,.slice T h.roots.length J,.slice X h.aA.length G,.slice W h.done.length O] 159)).heap[w8.heap.size]?=some (Δ #[Γ none 0 0,.slice T h.roots.length J,.slice X 0 G,.slice W 0 O] 159 (0,0)):=by rw[ψ,K.out.aA,K.out.done];rfl
 have hm7:G<=9223372036854775807:=by
  obtain⟨_,_,e,_,hm,_⟩:=Je.out.reads;cases e
  exact hm
 have hm8:O<=9223372036854775807:=by
  obtain⟨_,_,e,_,hm,_⟩:=Y.out.reads;cases e
  exact hm
 have L:OV w8 w.heap.size (.slice T h.roots.length J) h.roots:=(((Jc.out.below m).below j).less (by simp;omega));have n:=B1 (B:=w.heap.size) (by omega) H hm7 hm8 (L.alloc _);have U:=Wn.alloc (by omega) (Δ #[Γ none 0 0,.slice T h.roots.length J,.slice X h.aA.length G,.slice W h.done.length O] 159);have hs9:w.heap.size<(w8.alloc (Δ #[Γ none 0 0,.slice T h.roots.length J,.slice X h.aA.length G,.slice W h.done.length O] 159)).heap.size:=by simp;omega
 have E:=Ψ (ω n U);clear H L n U
 go_wp2_with fail
 go_loopw [27] (fun i wr=>∃k:Nat,k<=h.cells.length/\i=χ φ k/\Hid (mp wr w.heap.size w8.heap.size (h.cells.take k) h.roots)/\Below w.heap.size w wr) (fun i _=>h.cells.length-(intOf i).toNat)
 case atStart=>exact⟨0,Nat.zero_le _,rfl,Ψ E.out.1,E.out.2⟩
 case round=>
  clear E;obtain⟨k,hk,rfl,E,l⟩:=hrel;have hsz:=l.size;by_cases hlt:k<h.cells.length
  ·obtain⟨ba,oa,e,hba,S⟩:=HC.out (by omega);cases e
   obtain⟨kd,vs,e1⟩:=cQ hlt;obtain⟨d1,x,d2,hx⟩:=(S.below l hba) k kd vs e1;have hvl:vs.length<=1000:=by have:=K.out.kinds _ (List.mem_of_getElem? e1);dsimp only at this;omega
   have hcl:(h.cells.take k).length<=1000:=by have:=K.out.many;simp;omega
   have HX:=Ψ hx;obtain⟨ax,mx,rfl,hmx,N4,hax⟩:=hx;have E1:=Ψ e1;clear S e1 hax
   go_wp2_with fail
   refine(afz _ w.heap.size w8.heap.size (h.cells.take k) h.roots kd _ vs (E.out.below (af wr _)) (HX.out.below (af wr _)) (by simp;omega) hcl hvl).mono ?_;rintro e w9 ⟨rfl,Q,BP⟩;have HO9:=Ψ Q;clear Q
   go_wp2_with fail
   exact⟨⟨k+1,by omega,by go_num,Ψ (by rw[bW E1.out];exact HO9.out),(l.alloc hsz _).trans BP⟩,by simp[intOf];omega⟩
  ·have hke:k=h.cells.length:=by omega
   subst hke
   go_wp2_with fail
   go_ret;have:=E.out;rw[List.take_of_length_le (Nat.le_refl _)]at this;exact⟨⟨_,rfl,this⟩,l⟩
section
variable(w:υ)
theorem Ad:Z4 aD.prog 121 #[.nilIface] w fun e w'=>e=.returned (χ φ 0)/\Below w.heap.size w w':=by
 have a:∀w:υ,(Instr.typeAssert .nilIface 20 174 true).run aD.prog w=.ok (.tuple #[.nilIface,.bool ι]) w:=fun w=>by kernel_rfl
 go_enter aD.func121,Tryz.ntmps121
 go_wp2
 go_ret;exact⟨rfl,Below.refl _ _⟩
theorem Ae(p:Addr)(x:ο)(w:υ)(hp:w.cell? p=some x)(hf:w.frozen? p=ι):
 CallsD aD.prog 124 #[Ξ (some p)] .returning w fun e u' w'=>e=.returned (.tuple #[])/\u'=.returning/\∃w1,Below w.heap.size w w1/\w'=w1.setCell p (χ φ 0):=by
 have b:p.block<w.heap.size:=block_lt_of_cell hp;refine callsD_of_wpS aD.func124 rfl fun a cs c=>?_
 apply wpS_region;simp[wpOpsS,go_sem,recoverD,c,Tryz.ntmps124,Exit.thenS];refine(Ad w).mono ?_;rintro e w1 ⟨rfl,hb⟩;have f:=(hb.cell b).trans hp;have d:=(hb.frozen b).trans hf;cases a
 simp_all [go_sem,bodyPostS,results,Tryz.results124]
 exact⟨w1,hb,rfl⟩
theorem B3(v:ο)(h:PH)(N R:Nat)(hv:tH w v h)(hk:HOK h)(ho:wK h.cells h.roots N R):
 Z4 aD.prog 64 #[v] w fun e w'=>(∃r,e=.returned (.tuple #[r,χ φ 0])/\tH w' r ⟨eq h.cells h.roots N R,h.roots,[],[]⟩)/\Below w.heap.size w w':=by
 have hmf:∀(fn:Fn) (first cap:Array ο) (w:υ),(Instr.makeFunc fn first cap).run aD.prog w=.ok (.func fn first cap) w:=fun _ _ _ _=>rfl
 have HV:=Ψ hv;have HK:=Ψ hk;have HO:=Ψ ho;obtain⟨c,r,wi,d,rfl,⟨S,mc,rfl,_⟩,⟨ar,O,rfl,_⟩,⟨aw,T,rfl,_⟩,⟨ad,P,rfl,_⟩⟩:=hv;clear hk ho
 go_enter_defers aD.func64,Tryz.ntmps64
 go_wp2_with fail
 have H:Below w.heap.size w (((w.alloc (Δ #[.slice S h.cells.length mc,.slice ar h.roots.length O,.slice aw h.aA.length T,.slice ad h.done.length P] 56)).alloc (Δ #[Γ none 0 0,Γ none 0 0,Γ none 0 0,Γ none 0 0] 56)).alloc (Δ #[χ φ 0] 34)):=((af w _).alloc (by simp) _).alloc (by simp;omega) _;have Y:(((w.alloc (Δ #[.slice S h.cells.length mc,.slice ar h.roots.length O,.slice aw h.aA.length T,.slice ad h.done.length P] 56)).alloc (Δ #[Γ none 0 0,Γ none 0 0,Γ none 0 0,Γ none 0 0] 56)).alloc (Δ #[χ φ 0] 34)).heap.size=w.heap.size+1+1+1:=by simp
 have x1:(((w.alloc (Δ #[.slice S h.cells.length mc,.slice ar h.roots.length O,.slice aw h.aA.length T,.slice ad h.done.length P] 56)).alloc (Δ #[Γ none 0 0,Γ none 0 0,Γ none 0 0,Γ none 0 0] 56)).alloc (Δ #[χ φ 0] 34)).heap[w.heap.size+1]?=some (Δ #[Γ none 0 0,Γ none 0 0,Γ none 0 0,Γ none 0 0] 56 (0,0)):=by rw[Below.heap_alloc _ _ _ (by simp)];have:=ψ (w.alloc (Δ #[.slice S h.cells.length mc,.slice ar h.roots.length O,.slice aw h.aA.length T,.slice ad h.done.length P] 56)) (Δ #[Γ none 0 0,Γ none 0 0,Γ none 0 0,Γ none 0 0] 56);simpa using this
 have x2:(((w.alloc (Δ #[.slice S h.cells.length mc,.slice ar h.roots.length O,.slice aw h.aA.length T,.slice ad h.done.length P] 56)).alloc (Δ #[Γ none 0 0,Γ none 0 0,Γ none 0 0,Γ none 0 0] 56)).alloc (Δ #[χ φ 0] 34)).heap[w.heap.size+1+1]?=some (Δ #[χ φ 0] 34 (0,0)):=by have:=ψ ((w.alloc (Δ #[.slice S h.cells.length mc,.slice ar h.roots.length O,.slice aw h.aA.length T,.slice ad h.done.length P] 56)).alloc (Δ #[Γ none 0 0,Γ none 0 0,Γ none 0 0,Γ none 0 0] 56)) (Δ #[χ φ 0] 34);simpa using this
 generalize (((w.alloc (Δ #[.slice S h.cells.length mc,.slice ar h.roots.length O,.slice aw h.aA.length T,.slice ad h.done.length P] 56)).alloc (Δ #[Γ none 0 0,Γ none 0 0,Γ none 0 0,Γ none 0 0] 56)).alloc (Δ #[χ φ 0] 34))=F at H Y x1 x2⊢;have HX:=Ψ (ω x1 x2);clear x1 x2;refine(OB _ _ h (HV.out.below H) HK.out).mono ?_;rintro e w4 ⟨⟨b,rfl,L⟩,V⟩;have HOW:=Ψ L;clear L
 go_wp2_with fail
 refine(BZ w4 F.heap.size b h.cells h.roots N R HOW.out V.size HO.out).mono ?_;rintro e w5 ⟨rfl,X,hb5⟩;have a:=V.trans hb5;have HR5:=Ψ X.reads;obtain⟨c5,r5,o,j,s,l,z,Oz,u,anI,W,U,h54,M,_⟩:=X;obtain⟨I,E,rfl,_⟩:=aF U;obtain⟨m,t,rfl,_⟩:=aF M;have HP5:=Ψ (ω U (ω h54 (ω M (ω anI W))));have g0:w5.cell? ⟨b,0,none⟩=some (.slice I z.length E):=by simp[Θ,u]
 have g1:w5.cell? ⟨b,1,none⟩=some (.slice m h.roots.length t):=by simp[Θ,u]
 have g2:w5.cell? ⟨b,2,none⟩=some (.slice o 0 j):=by simp[Θ,u]
 have g3:w5.cell? ⟨b,3,none⟩=some (.slice s 0 l):=by simp[Θ,u]
 have C:=(a.block (w.heap.size+1) (by omega)).trans HX.out.1;have y2:=(a.block (w.heap.size+1+1) (by omega)).trans HX.out.2;have HY:=Ψ (ω C y2);have z0:w5.cell? ⟨w.heap.size+1,0,none⟩=some (Γ none 0 0):=by simp[Θ,C]
 have z1:w5.cell? ⟨w.heap.size+1,1,none⟩=some (Γ none 0 0):=by simp[Θ,C]
 have z2:w5.cell? ⟨w.heap.size+1,2,none⟩=some (Γ none 0 0):=by simp[Θ,C]
 have z3:w5.cell? ⟨w.heap.size+1,3,none⟩=some (Γ none 0 0):=by simp[Θ,C]
 have ze:w5.cell? ⟨w.heap.size+1+1,0,none⟩=some (χ φ 0):=by simp[Θ,y2]
 have f0:w5.frozen? ⟨w.heap.size+1,0,none⟩=ι:=by simp[μ,C]
 have f1:w5.frozen? ⟨w.heap.size+1,1,none⟩=ι:=by simp[μ,C]
 have f2:w5.frozen? ⟨w.heap.size+1,2,none⟩=ι:=by simp[μ,C]
 have f3:w5.frozen? ⟨w.heap.size+1,3,none⟩=ι:=by simp[μ,C]
 have fe:w5.frozen? ⟨w.heap.size+1+1,0,none⟩=ι:=by simp[μ,y2]
 have HB:=Ψ (ω H (ω a (ω Y Oz)));clear H V hb5 a C y2 U h54 M u Oz
 go_wp2_with fail
 have e6:=aB (aB (aB (aB HY.out.1 0 (.slice I z.length E)) 1 (.slice m h.roots.length t)) 2 (.slice o 0 j)) 3 (.slice s 0 l);have e7:((((w5.setCell ⟨w.heap.size+1,0,none⟩ (.slice I z.length E)).setCell ⟨w.heap.size+1,1,none⟩ (.slice m h.roots.length t)).setCell ⟨w.heap.size+1,2,none⟩ (.slice o 0 j)).setCell ⟨w.heap.size+1,3,none⟩ (.slice s 0 l)).heap[w.heap.size+1+1]?=some (Δ #[χ φ 0] 34 (0,0)):=by rw[aq (by omega),aq (by omega),aq (by omega),aq (by omega)];exact HY.out.2
 have B:∀k,F.heap.size<=k->((((w5.setCell ⟨w.heap.size+1,0,none⟩ (.slice I z.length E)).setCell ⟨w.heap.size+1,1,none⟩ (.slice m h.roots.length t)).setCell ⟨w.heap.size+1,2,none⟩ (.slice o 0 j)).setCell ⟨w.heap.size+1,3,none⟩ (.slice s 0 l)).heap[k]?=w5.heap[k]?:=fun k hk=>by rw[aq (by omega),aq (by omega),aq (by omega),aq (by omega)]
 have Q:Below w.heap.size w5 ((((w5.setCell ⟨w.heap.size+1,0,none⟩ (.slice I z.length E)).setCell ⟨w.heap.size+1,1,none⟩ (.slice m h.roots.length t)).setCell ⟨w.heap.size+1,2,none⟩ (.slice o 0 j)).setCell ⟨w.heap.size+1,3,none⟩ (.slice s 0 l)):=((((Below.refl w.heap.size w5).setCell (p:=⟨w.heap.size+1,0,none⟩) (by simp) _).setCell (p:=⟨w.heap.size+1,1,none⟩) (by simp) _).setCell (p:=⟨w.heap.size+1,2,none⟩) (by simp) _).setCell (p:=⟨w.heap.size+1,3,none⟩) (by simp) _
 generalize ((((w5.setCell ⟨w.heap.size+1,0,none⟩ (.slice I z.length E)).setCell ⟨w.heap.size+1,1,none⟩ (.slice m h.roots.length t)).setCell ⟨w.heap.size+1,2,none⟩ (.slice o 0 j)).setCell ⟨w.heap.size+1,3,none⟩ (.slice s 0 l))=w6 at e6 e7 Q B⊢;have Z:(w6.setCell ⟨w.heap.size+1+1,0,none⟩ (χ φ 0)).heap[w.heap.size+1+1]?=some (Δ #[χ φ 0] 34 (0,0)):=by rw[aB e7];rfl
 have k1:(w6.setCell ⟨w.heap.size+1+1,0,none⟩ (χ φ 0)).heap[w.heap.size+1]?=some (Δ #[.slice I z.length E,.slice m h.roots.length t,.slice o 0 j,.slice s 0 l] 56 (0,0)):=by rw[aq (by omega),e6];rfl
 have J:=Q.setCell (p:=⟨w.heap.size+1+1,0,none⟩) (by simp;omega) (χ φ 0);have A:∀k,F.heap.size<=k->(w6.setCell ⟨w.heap.size+1+1,0,none⟩ (χ φ 0)).heap[k]?=w5.heap[k]?:=fun k hk=>by rw[aq (by omega)];exact B k hk
 generalize (w6.setCell ⟨w.heap.size+1+1,0,none⟩ (χ φ 0))=w7 at k1 Z J A⊢;clear e6 e7 Q B;refine leaves_cons (f:=124) (args:=#[Ξ (some ⟨w.heap.size+1+1,0,none⟩)]) (by simp) (by simp[go_sem]) ?_;refine(Ae ⟨w.heap.size+1+1,0,none⟩ (χ φ 0) _ (by simp[Θ,Z]) (by simp[μ,Z])).mono ?_;rintro e u' w'' ⟨rfl,rfl,w9,G,rfl⟩;have hl1:=(Ω.1 k1).1;have hl2:=(Ω.1 Z).1;have n2:=(G.block _ hl2).trans Z;have n1:=(G.block _ hl1).trans k1;have m2:(w9.setCell ⟨w.heap.size+1+1,0,none⟩ (χ φ 0)).heap[w.heap.size+1+1]?=some (Δ #[χ φ 0] 34 (0,0)):=by rw[aB n2];rfl
 have m1:(w9.setCell ⟨w.heap.size+1+1,0,none⟩ (χ φ 0)).heap[w.heap.size+1]?=some (Δ #[.slice I z.length E,.slice m h.roots.length t,.slice o 0 j,.slice s 0 l] 56 (0,0)):=by rw[aq (by omega)];exact n1
 have a:=HB.out.2.1;have hw5:w.heap.size<=w7.heap.size:=by have:=a.size;have:=J.size;omega
 have hb8:=G.mono hw5;have K:=(J.trans hb8).setCell (p:=⟨w.heap.size+1+1,0,none⟩) (by simp;omega) (χ φ 0);have y:∀k,F.heap.size<=k->k<w5.heap.size->(w9.setCell ⟨w.heap.size+1+1,0,none⟩ (χ φ 0)).heap[k]?=w5.heap[k]?:=fun k hk hk2=>by rw[aq (by omega),G.block k (by have:=J.size;omega)];exact A k hk
 generalize (w9.setCell ⟨w.heap.size+1+1,0,none⟩ (χ φ 0))=q at m1 m2 K y⊢;have r0:q.cell? ⟨w.heap.size+1,0,none⟩=some (.slice I z.length E):=by simp[Θ,m1]
 have r1:q.cell? ⟨w.heap.size+1,1,none⟩=some (.slice m h.roots.length t):=by simp[Θ,m1]
 have r2:q.cell? ⟨w.heap.size+1,2,none⟩=some (.slice o 0 j):=by simp[Θ,m1]
 have r3:q.cell? ⟨w.heap.size+1,3,none⟩=some (.slice s 0 l):=by simp[Θ,m1]
 have r4:q.cell? ⟨w.heap.size+1+1,0,none⟩=some (χ φ 0):=by simp[Θ,m2]
 simp[Leaves,settle,results,Tryz.results64,go_sem,r0,r1,r2,r3,r4];obtain⟨p53,D,p55,q1,q2⟩:=HP5.out;have wl:∀{e:Z8} {size n:Nat} {v:ο} {xs:List ο},w5.ownsRow F.heap.size e size v n xs->q.ownsRow F.heap.size e size v n xs:=fun ho=>aS ho fun g hg=>by obtain⟨h1,h2⟩:=ho.lt g hg;exact y g h1 h2
 have t53:OC q F.heap.size _ z:=wl p53;have t54:df q F.heap.size z _:=⟨D.1,fun i k x k' vs e1 e2=>⟨(D.2.1 i k x k' vs e1 e2).1,wl (D.2.1 i k x k' vs e1 e2).2⟩,D.2.2⟩;have t55:OV q F.heap.size _ h.roots:=wl p55;exact⟨⟨_,_,_,_,rfl,t53.reads t54.hold,t55.reads,qP q1,qP q2⟩,HB.out.1.trans ((a.mono HB.out.1.size).trans K)⟩
end
section
variable{w:υ}
structure Jn(g:GH)(N R:Nat):Prop where
 small:Small g
 ir:HOK (plain g)
 afA:wK (plain g).cells (plain g).roots N R
 Ct:Md.lu (plain g)=⟨eq (plain g).cells (plain g).roots N R,(plain g).roots,[],[]⟩
 res:I' (Md.lu (plain g))
theorem RC.less{B B':Nat}{v:ο}{l:List (Int×ο)}(h:RC w B v l)(hB:B'<=B):RC w B' v l:=by obtain⟨a,m,rfl,e,d,i,h⟩:=h;refine⟨a,m,rfl,e,d,i,fun h0=>?_⟩;obtain⟨g,b,rfl,c,j,f⟩:=h h0;exact⟨g,b,rfl,Nat.le_trans hB c,j,f⟩
theorem dm.less{w:υ}{B B' b:Nat}{g:GH}(h:dm w B b g)(hB:B'<=B):dm w B' b g:=by obtain⟨n,o,m,row,a,hb,f,e,i,c⟩:=h;exact⟨n,o,m,row,Nat.le_trans hB a,hb,f.less hB,e.less hB,eV i hB,fun k d=>eV (c.1 k d) hB,c.2⟩
theorem dm.Jo{B b:Nat}{g:GH}(h:dm w B b g):∃a m,w.cell? ⟨b,1,none⟩=some (.slice a g.old.length m):=by obtain⟨n,o,m,row,i,hb,f,⟨d,e,c,_⟩,_⟩:=h;rw[aT]at c;refine⟨d,e,?_⟩;rw[<-c];simp[Θ,hb]
theorem tH.form{v:ο}{h:PH}(hv:tH w v h):∃ac mc ar mr aw mw ad md,v=.agg #[.slice ac h.cells.length mc,.slice ar h.roots.length mr,.slice aw h.aA.length mw,.slice ad h.done.length md]:=by obtain⟨c,r,a,d,rfl,⟨ac,mc,rfl,_⟩,⟨ar,mr,rfl,_⟩,⟨aw,mw,rfl,_⟩,⟨ad,md,rfl,_⟩⟩:=hv;exact⟨_,_,_,_,_,_,_,_,rfl⟩
theorem OD(w:υ)(B b:Nat)(g:GH)(N R:Nat)(hg:dm w B b g)(hs:Jn g N R):
 Z4 aD.prog 190 #[Ξ (some ⟨b,0,none⟩)] w fun e w'=>(∃b2,e=.returned (Ξ (some ⟨b2,0,none⟩))/\dm w' w.heap.size b2 (Md.iF g))/\Below w.heap.size w w':=by
 have V:=Ψ hg;have y:=Ψ hs;obtain⟨W,C,_⟩:=hg.obj;obtain⟨X,T,s⟩:=hg.Jo;have D:g.old.length<=1000000:=by have:=hs.small.bw;omega
 have K:((0:Int) !=0)=ι:=rfl;clear hg hs
 go_enter aD.func190,Tryz.ntmps190
 go_wp2_with fail
 refine(DB _ b g V.out.reads y.out.small).mono ?_;rintro e w1 ⟨⟨r1,rfl,M⟩,o⟩;have P:=Ψ M;clear M
 go_wp2_with fail
 refine(B3 _ r1 (plain g) N R P.out y.out.ir y.out.afA).mono ?_;rintro e c ⟨⟨r2,rfl,A⟩,m⟩;rw[<-y.out.Ct]at A;have n:Below w.heap.size w c:=o.trans (m.mono o.size);have G:=Ψ A;obtain⟨i,mc,ar,k,aw,j,ad,f,rfl⟩:=A.form;clear A o m P;generalize Q:Md.lu (plain g)=a at G⊢;have S:=Ψ Q;clear Q
 go_wp2_with fail
 ((with_reducible refine(cd _ _).mono ?_))
 rintro e w' ⟨rfl,rfl⟩
 go_wp2_with fail
 have q:=af c (Δ #[.slice i a.cells.length mc,.slice ar a.roots.length k,.slice aw a.aA.length j,.slice ad a.done.length f] 56);have z:(c.alloc (Δ #[.slice i a.cells.length mc,.slice ar a.roots.length k,.slice aw a.aA.length j,.slice ad a.done.length f] 56)).cell? ⟨c.heap.size,0,none⟩=some (.slice i a.cells.length mc):=by go_simp
 have q1:(c.alloc (Δ #[.slice i a.cells.length mc,.slice ar a.roots.length k,.slice aw a.aA.length j,.slice ad a.done.length f] 56)).cell? ⟨c.heap.size,1,none⟩=some (.slice ar a.roots.length k):=by go_simp
 have I:(c.alloc (Δ #[.slice i a.cells.length mc,.slice ar a.roots.length k,.slice aw a.aA.length j,.slice ad a.done.length f] 56)).cell? ⟨c.heap.size,2,none⟩=some (.slice aw a.aA.length j):=by go_simp
 have E:(c.alloc (Δ #[.slice i a.cells.length mc,.slice ar a.roots.length k,.slice aw a.aA.length j,.slice ad a.done.length f] 56)).cell? ⟨c.heap.size,3,none⟩=some (.slice ad a.done.length f):=by go_simp
 have d:Below w.heap.size w (c.alloc (Δ #[.slice i a.cells.length mc,.slice ar a.roots.length k,.slice aw a.aA.length j,.slice ad a.done.length f] 56)):=n.trans (q.mono n.size);have L:=Ψ (G.out.below q);generalize (c.alloc (Δ #[.slice i a.cells.length mc,.slice ar a.roots.length k,.slice aw a.aA.length j,.slice ad a.done.length f] 56))=J at z q1 I E d L⊢;have O:=(d.cell (p:=⟨b,1,none⟩) C).trans s;clear G n q s;generalize c.heap.size=l at z q1 I E⊢;have h:=az z;have v:=az O
 go_region_held3 (fun x=>x.cell? ⟨l,0,none⟩=some (.slice i a.cells.length mc)/\x.cell? ⟨l,1,none⟩=some (.slice ar a.roots.length k)/\x.cell? ⟨l,2,none⟩=some (.slice aw a.aA.length j)/\x.cell? ⟨l,3,none⟩=some (.slice ad a.done.length f)/\x.cell? ⟨b,1,none⟩=some (.slice X g.old.length T))
  ((refine⟨?_,?_,?_,?_,?_⟩<;>(repeat (first|with_reducible assumption|with_reducible refine dO ?_))))
  ((go_at_call 226;(with_reducible refine(On _ _ a g.old.length (L.out.below (Below.refl _ _).drew) (S.out▸y.out.res) D).mono ?_);rintro e w5 ⟨⟨U,rfl,t⟩,u⟩;have H:=Ψ t;clear t;have F:Below w.heap.size w w5:=d.trans (((Below.refl _ _).drew.trans u).mono d.size);have r:Below J.heap.size J w5:=(Below.refl _ _).drew.trans u;have p0:=(r.cell (p:=⟨l,0,none⟩) h).trans z;have p1:=(r.cell (p:=⟨l,1,none⟩) h).trans q1;have p2:=(r.cell (p:=⟨l,2,none⟩) h).trans I;have Y:=(r.cell (p:=⟨l,3,none⟩) h).trans E;have Z:=(r.cell (p:=⟨b,1,none⟩) v).trans O))
 go_wp2_with fail
 go_ret;refine⟨⟨U,rfl,?_⟩,F⟩;have:=H.out.less d.size;rw[<-S.out]at this;exact this
end
theorem cR.less{w:υ}{B B' b:Nat}{g:GH}{J:Nat->Prop}(h:cR w B b g J)(hB:B'<=B):cR w B' b g J:=by obtain⟨n,o,m,row,a,hb,f,e,j,c,i⟩:=h;exact⟨n,o,m,row,Nat.le_trans hB a,hb,f.less hB,e.less hB,eV j hB,⟨fun k d=>eV (c.1 k d) hB,c.2⟩,i⟩
theorem dm.six{w:υ}{B b:Nat}{g:GH}{c:Array ο}(h:dm w B b g)(hc:w.heap[b]?=some (.cells c 114 (0,0))):c.size=6:=by
 obtain⟨n,o,m,row,a,hb,_⟩:=h;rw[hb]at hc;cases hc
 rfl
theorem E7{w:υ}{b:Nat}{c:Array ο}(h:w.heap[b]?=some (.cells c 114 (0,0)))(hc:c.size=6):∃x0 x1 x2 x3 x4 x5,w.cell? ⟨b,0,none⟩=some x0/\w.cell? ⟨b,1,none⟩=some x1/\w.cell? ⟨b,2,none⟩=some x2/\w.cell? ⟨b,3,none⟩=some x3/\w.cell? ⟨b,4,none⟩=some x4/\w.cell? ⟨b,5,none⟩=some x5:=by
 obtain⟨l⟩:=c;have a:l.length=6:=hc;clear hc;rcases l with _|⟨x0,_|⟨x1,_|⟨x2,_|⟨x3,_|⟨x4,_|⟨x5,_|⟨x6,l⟩⟩⟩⟩⟩⟩⟩
 all_goals first
  |(exfalso;simp at a;done)
  |exact⟨x0,x1,x2,x3,x4,x5,by simp[Θ,h],by simp[Θ,h],by simp[Θ,h],by simp[Θ,h],by simp[Θ,h],by simp[Θ,h]⟩
theorem sP(w:υ)(B b:Nat)(g:GH){J:Nat->Prop}(hJ:∀j,J j->j<w.heap.size)(hg:cR w B b g J)(N R:Nat)(hsw:Jn g N R)(hp:im (Md.iF g))(hB:B<=w.heap.size):
 Z4 aD.prog 144 #[Ξ (some ⟨b,0,none⟩),.iface 120 (.agg #[])] w (cq J B b g .major w):=by
 have T:=Ψ hg;have s:=Ψ hp;have HW:=Ψ hsw;obtain⟨Z,I,c0',t⟩:=hg.own.obj;have hbx:b<w.heap.size:=I;have K:=Ψ t;clear hg hp hsw t;have hta:=IW;have hmp:=IZ
 go_enter aD.func144,Tryz.ntmps144
 go_wp2_with fail
 clear hta;have r:=af w (Δ #[] 120);refine(OD _ B b g N R (T.out.own.below r) HW.out).mono ?_;rintro e w2 ⟨⟨x,rfl,m⟩,O⟩;have arY:=m.obj.1;replace m:=m.less r.size;have U:=Ψ m;have A:=r.trans (O.mono r.size);clear m O
 go_wp2_with fail
 clear hmp;refine(zP _ w.heap.size x (Md.iF g) U.out s.out).mono ?_;rintro e w3 ⟨⟨L,bm,so,rfl,hs⟩,P⟩;have arZ:w2.heap.size<=L:=hs.1;obtain⟨a,k⟩:∃o,o=bV (Md.iF g) co []:=⟨_,rfl⟩;rw[<-k]at hs;have z:c9 (Md.iF g) co a:=by rw[k];exact c9.bV (.inr rfl) s.out.cells s.out.cJ (fun v hv=>by cases hv)
 have d:=A.trans (P.mono A.size);obtain⟨H,S,W,hsm,N',_⟩:=aF hs.2.2.2.1;have Q:w3.cell? ⟨L,0,none⟩=some (.slice H a.length S):=by simp[Θ,hs.2.2.1,W]
 have hol:=z.len;have hn1:=s.out.news;have hn2:=s.out.bw;have HO:=Ψ k;have HK:=Ψ z;have HS:=Ψ hs;have M:=(cR.wC (J:=J) U.out hJ).below P;have HG3:=Ψ M;clear k z hs W M;by_cases y:32<a.length
 ·have C:(32:Int)<(a.length:Int):=by omega
  go_wp2_with fail
  go_ret2
  have hm:Md.collect .major g=none:=by rw[mI,<-HO.out,if_pos y]
  unfold cq;rw[hm];exact⟨rfl,T.out.below d,d.mono hB,qb.bK d,fun j _ q=>d.block j q⟩
 ·have C:¬(32:Int)<(a.length:Int):=by omega
  go_wp2_with fail
  refine(BM w3 w.heap.size x _ L bm so (Md.iF g) co a 0 HG3.out HS.out HK.out (.inr rfl) d.size (by omega) (fun c hc=>by have:=s.out.eT c hc;omega) (by have:=s.out.roots;omega) (by have:=s.out.aA;omega) (by have:=s.out.done;omega)).mono ?_;rintro e w4 ⟨rfl,Y,F,G,X,V⟩;have hcs:w4.cell? ⟨L,0,none⟩=some (.slice H a.length S):=by have:=Q;simp only[Θ]at this⊢;rw[G];exact this
  have u:Below w.heap.size w w4:=d.trans F;have n:=(u.block b hbx).trans K.out;have h:=Z;obtain⟨a0,n0,m0,a1,n1,m1,a2,n2,m2,a3,n3,m3,a4,n4,m4,a5,n5,m5,D,l⟩:=(Y.less hB).copy (fun j hj=>T.out.ne hj) n h;have e0:w4.cell? ⟨x,0,none⟩=some (.slice a0 n0 m0):=by simp[Θ,D]
  have e1:w4.cell? ⟨x,1,none⟩=some (.slice a1 n1 m1):=by simp[Θ,D]
  have e2:w4.cell? ⟨x,2,none⟩=some (.slice a2 n2 m2):=by simp[Θ,D]
  have e3:w4.cell? ⟨x,3,none⟩=some (.slice a3 n3 m3):=by simp[Θ,D]
  have e4:w4.cell? ⟨x,4,none⟩=some (.slice a4 n4 m4):=by simp[Θ,D]
  have e5:w4.cell? ⟨x,5,none⟩=some (.slice a5 n5 m5):=by simp[Θ,D]
  have f:∀i,w4.frozen? ⟨b,i,none⟩=ι:=fun i=>by simp[μ,n]
  have E:c0'.size=6:=T.out.own.six K.out;obtain⟨x0,x1,x2,x3,x4,x5,y0,y1,y2,y3,y4,y5⟩:=E7 n E;have f0:=f 0;have f1:=f 1;have f2:=f 2;have f3:=f 3;have f4:=f 4;have f5:=f 5;have hne:L≠b:=by have:=A.size;omega
  have HC:=Ψ l;have HFR:=Ψ ((qb.bK d).trans X);have HFJ:=Ψ V;clear X V;have H2:=Ψ (ω n E);have H4:=Ψ F;clear f l D n E u Y F G Q
  go_wp2_with fail
  go_ret2
  obtain⟨k1,k2⟩:=wD (v0:=.slice a0 n0 m0) (v1:=.slice a1 n1 m1) (v2:=.slice a2 n2 m2) (v3:=.slice a3 n3 m3) (v4:=.slice a4 n4 m4) (v5:=.slice a5 n5 m5) H2.out.1 H2.out.2;have hm:Md.collect .major g=some (a.length,Md.move (Md.iF g) a 0):=by rw[mI,<-HO.out,if_neg y]
  unfold cq;rw[hm];exact⟨rfl,HC.out _ k1 k2,(d.mono hB).trans (((((((H4.out.mono hB).setCell (p:=⟨b,0,none⟩) h _).setCell (p:=⟨b,1,none⟩) h _).setCell (p:=⟨b,2,none⟩) h _).setCell (p:=⟨b,3,none⟩) h _).setCell (p:=⟨b,4,none⟩) h _).setCell (p:=⟨b,5,none⟩) h _),HFR.out.trans (qb.IT H2.out.1 k2),fun j hj q=>(k2 j (T.out.ne hj)).trans ((HFJ.out j hj (Nat.lt_of_lt_of_le q d.size)).trans (d.block j q))⟩
end Kn
