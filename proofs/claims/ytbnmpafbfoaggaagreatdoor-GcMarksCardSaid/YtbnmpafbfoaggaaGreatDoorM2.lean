/- A part of the proof of GcMarks; no conditions. -/
import Derived.Test.YtbnmpafbfoaggaaGreatDoorM0
import Derived.Test.YtbnmpafbfoaggaaGreatDoorM1
import Derived.Maps.RangeRun
import Derived.Deep.RegionLaw
import Derived.Deep.RegionHeld3
import Derived.Deep.AppendLies
import Derived.StillTailTactics
import Derived.RangeFuncNested
import Derived.RangeFuncBound
import Derived.RangeFuncCalls
import Derived.RangeFuncLeaves
import Derived.Shelf.Abstract
import Derived.Shelf.RegionOpen
import Derived.OwnWalkIn
import Derived.TacticsInMore
import Derived.LoopNIn
import Derived.LoopIn
import Derived.Laws.EntriesVeiled
import Derived.Deep.RegionHeldLaw
import Derived.ArgAppend
set_option linter.defProp false
set_option linter.unusedVariables false
set_option linter.unusedSimpArgs false
set_option maxRecDepth 100000
set_option maxHeartbeats 16000000
noncomputable section
open Array renaming getElem?_eq_some_iff->Ω,toList_push->ZH,getElem?_modify->ZB,toList_modify->Zw,toList_filter->Zu,replicate->Zh,toList_setIfInBounds->Ze,getElem?_eq_none->Y6,replicate_succ->Y1,replicate_zero->Y0
open Go.Lib renaming hid->V
open Option renaming some->U,none->I
open Go.World renaming cell?->R,frozen?->Z0,setCell->ZW,grownBy_alloc->Zv,ownsRow_nil->YQ
open Go.Obj renaming cells->Ψ
open Go.IntKind renaming i64->Ξ
open List renaming getElem?_eq_some_iff->Θ,mem_of_getElem?->Γ,eq_nil_of_length_eq_zero->μ,map_append->κ,take_of_length_le->ι,length_cons->η,mem_append_left->ε,getElem?_eq_getElem->Z8,flatMap_append->ZX,length_append->ZV,getElem?_take->ZU,getD->ZO,length_nil->ZM,idxOf_lt_length_of_mem->ZJ,pairwise_iff_getElem->ZG,ext_getElem?->ZF,drop_eq_nil_of_le->ZC,getElem?_eq_none->Zz,mem_append_right->Zy,length_take_le->Zq,map_cons->Zp,getElem?_map->Zl,nodup_append->Zk,mem_append->Zg,map->Zb,getElem?_append_right->Y',drop_eq_getElem_cons->Y9,getElem?_append_left->Y7,mem_map->Y5,eraseIdx_sublist->Y3,mem_iff_getElem?->YZ,take_append_drop->YY,mem_map_of_mem->YX,append_toArray->YW,set_cons_succ->YV,set_cons_zero->YU,range->YS,flatMap_cons->YP,size_toArray->YO,push_toArray->YN,idxOf_append->YM,cons_append->YL,getElem_mem->YJ,length_set->YH,append_nil->YE,nil_append->YD,take_set->YA
open Go.Value renaming int->Δ,slice->Z4,ownBlock->Zd,pointer->YI
open Go.RowKit.Below renaming refl->ω,heap_setCell->ψ,heap_alloc->θ
open Go renaming World->Y,run_underlying->υ,heap_alloc_new->ο,Calls->Z2,Value->ZY,maxLen->ZA,info_parts->Zt,leftOf->Zn,wpList->Zm,callsIn_wide->Zc,Oper->Y8,Program->Y4,method->Y2,wpOp_mono->YT,wpOp_step->YR,run_append_arg_grows->YC,ready_mono->Yz,storeCells->Yy
open Go.RowKit renaming Below->Z
open Go.Result renaming andThen_ok->χ
open Option.some renaming inj->φ
open Bool renaming true->M,false->ξ,and_eq_true->ZP
open Ne renaming symm->ζ
open Go.Sem renaming run_bind->Z9,run_pure->ZT,run->Zs
open Go.Instr renaming mapUpdate->Z1,findNow->ZS,typeAssert->ZE,findKey->Zr,lookup->Zo,checkKey->YG,sameNow->YB
open Go.Region renaming Mode->ZR,seqB->ZQ,ready->ZL,binds->ZK,lexHead->ZI,noSelect->Zi,wanted->Za
open Go.Builtin renaming append_->ZN,delete_->Zj,lenOf->YK,len_->YF
open Int renaming eq_ofNat_of_zero_le->ZD
open Go.Addr renaming add->Zx
open Go.Oper renaming semAt_some->Zf
namespace Go.Proofs.YtbnmpafbfoaggaaGreatDoor
open Go.Proofs.Tryz hiding prog
open Go.Proofs.aD
namespace Kn
open Go Go.RowKit Md
section
variable{w:Y}{l:List HV}
def sx{b}(x)(h:jA w b l)(i:x∉l):
 ∃w',(Z1 110 (.map<|U b) (eB x)<|Δ Ξ (l.length:Int)).run prog w=.ok () w'/\jA w' b (l++[x])/\w.grownBy w' (U b):=by
 obtain⟨c,a,hb,g⟩:=h;have f:=run_findKey x w c.toList l g;refine⟨{w with heap:=w.heap.setIfInBounds b<|.map (c.push {key:=eB x,val:=Δ Ξ (l.length:Int),born:=a})<|a+1},?_,?_,?_⟩;unfold Z1;simp only[Z9,υ IA,χ];simp only[(by simp[getObj,Zs,hb]:(getObj b).run prog w=.ok (.map c a) w),χ,ZT,Z9];rw[show eB x=.agg #[Δ Ξ x.1,Δ Ξ x.2]from rfl]at f⊢;rw[(Dw ξ x.1 x.2 w)];simp only[χ,f,if_neg i];simp[setObj,Zs,hb];refine⟨c.push {key:=eB x,val:=Δ Ξ (l.length:Int),born:=a},a+1,by simp[((Ω.1 hb).1)],?_⟩;rw[ZH,κ,g,List.zipIdx_append,κ];simp;refine⟨rfl,rfl,rfl,by simp,λk j d=>?_⟩;have:k≠b:=λe=>d (by rw[e]);simp[Array.getElem?_setIfInBounds,ζ this]
theorem pn(x:HV):∀(l:List HV) (k:Nat),k<l.length->(l.set k x).flatMap lU=((l.flatMap lU).set (k*2)<|Δ Ξ x.1).set (k*2+1) (Δ Ξ x.2)
 |[],k,h=>by simp at h
 |a::l,0,h=>by simp[lU]
 |a::l,k+1,h=>by have:=pn x l k (by grind);rw[YV,YP,this,show(k+1)*2=k*2+1+1 by omega];simp[lU]
def OV.set{B g n m k:Nat}{x}(h:OV w B (.slice g n m) l)(b:k<l.length):
 OV ((w.setCell (g,k*2)<|Δ Ξ x.1).setCell (g,k*2+1)<|Δ Ξ x.2) B (.slice g n m) (l.set k x):=by
 obtain⟨e,⟨h0,_⟩|⟨q,f,a,d,i,o,p,c,hs,j⟩⟩:=h;cases h0
 cases d
 refine⟨by rw[pn x l k b];simpa using e,.inr ⟨g,m,(a.setIfInBounds (k*2)<|Δ Ξ x.1).setIfInBounds (k*2+1)<|Δ Ξ x.2,by simp,i,?_,by simpa using p,c,by simpa using hs,?_⟩⟩;simp[ZW,ZB,o];rw[pn x l k b,<-j];simp only[Ze,YH,YA]
def OV.at_{B g n m k:Nat}{p q}(h:OV w B (.slice g n m) l)(c:l[k]?=U (p,q)):
 w (g,k*2)=U (Δ Ξ p)/\w (g,k*2+1)=U (Δ Ξ q)/\(∀i,w.frozen? ⟨g,i,I⟩=ξ)/\B<=g/\g<w:=by
 obtain⟨a,y,b,u,t,h3⟩:=aF h;have o:=(Θ.1 c).1;obtain⟨s,f,_,d,j,hc⟩:=h3 (by omega);simp at b;obtain⟨rfl,_,rfl⟩:=b;cases f
 obtain⟨e1,e2⟩:=jx lU (λv=>Δ Ξ v.1) (λv=>Δ Ξ v.2) (λ_=>rfl) l k _ c;refine⟨hc _ _ e1,hc _ _ e2,λi=>?_,h.lt g rfl⟩;obtain⟨_,⟨h0,_⟩|⟨s,r,e,b,x,d,_⟩⟩:=h;cases h0
 cases b
 simp[Z0,d]
end
end Kn
namespace Kn
open Go Go.RowKit Md
open Go.ChangeMaps (setBlock)
section
variable{w':Y}{r b:Nat}{left:List Int}(ty:TypeId)(n:Int){w:Y}
def zQ(n:Int):ZY×ZY:=(Δ Ξ n,.bool M)
structure We(es:Array MapEntry)(clk:Nat)(l:List Int):Prop where
 keys:es.toList.map (λe=>(e.key,e.val))=l.map zQ
 born:(es.toList.map (·.born)).Nodup
 old:∀e∈es.toList,e.born<clk
def bk(w:Y)(b:Nat)(l:List Int):Prop:=∃es clk,w.heap[b]?=U (.map es clk)/\We es clk l
def nl:prog.underlying 205=U (.map 3 4):=by kernel_rfl
def ae8:prog.underlying 3=U (.int Ξ):=by kernel_rfl
def sE(e)(n:Int)(w):(YG e 10000 3 n).run prog w=.ok () w:=by unfold YG;simp
theorem uU(n:Int):∀(es:List MapEntry) (l:List Int) (i:Nat),es.map (λe=>(e.key,e.val))=l.map zQ->
 ZS (.int Ξ) n es i=U (if n∈l then U (i+l.idxOf n,.bool M)else I)
 |[],l,i,h=>by
  obtain _|⟨a,l⟩:=l
  simp[ZS];simp at h
 |e::es,l,i,h=>by
  obtain _|⟨a,l⟩:=l
  simp at h;simp only[Zp,List.cons.injEq,zQ,Prod.mk.injEq]at h;obtain⟨⟨b,d⟩,h3⟩:=h;unfold ZS;rw[b];simp only[YB,if_true];by_cases c:n=a
  grind
  have hb:(n==a)=ξ:=by simp[c]
  rw[hb];simp only[(uU n es l (i+1) h3)]
  grind
def jb(w es)(l:List Int)(h:es.map (λe=>(e.key,e.val))=l.map zQ):
 (Zr 3 n es).run prog w=.ok (if n∈l then U (l.idxOf n,.bool M)else I) w:=by
 unfold Zr;rw[Z9,υ ae8,χ,uU n es l 0 h];simp
def run_get{es a}(h:w.heap[b]?=U (.map es a)):(getObj b).run prog w=.ok (.map es a) w:=by simp[getObj,Zs,h]
theorem gL{b c:Type}(f:b->c):∀(l:List b) (i:Nat),(l.eraseIdx i).map f=(l.map f).eraseIdx i
 |[],i=>by simp
 |a::l,0=>by simp
 |a::l,i+1=>by simp[gL f l i]
def ke{l}(h:bk w b l):
 (Zo 205 (.map<|U b) n M).run prog w=.ok (.tuple #[.bool (decide<|n∈l),.bool<|decide<|n∈l]) w:=by
 obtain⟨c,e,hb,a⟩:=h;unfold Zo;simp only[Z9,υ nl,χ,run_get hb,ZT,sE,(jb n w c.toList l a.keys)];by_cases d:n∈l
 simp[d]
 simp_all
def bk.made(w:Y):bk (w.alloc<|.map #[] 0) w.heap.size []:=⟨#[],0,ο w _,⟨rfl,List.nodup_nil,λe a=>by simp at a⟩⟩
def bk.lt{l}(h:bk w b l):b<w:=by obtain⟨c,a,hb,_⟩:=h;exact(Ω.1 hb).1
def bk.of_block{l}(h:bk w b l)(hb:w'.heap[b]?=w.heap[b]?):bk w' b l:=by obtain⟨c,a,e,r⟩:=h;exact⟨c,a,hb.trans e,r⟩
def bk.below{l}(h:bk w b l)(a:Z w w w'):bk w' b l:=h.of_block<|a.block b h.lt
def sF{es a l}(h:We es a l):es.size=l.length:=by have:=congrArg List.length h.keys;simpa using this
def sG(w:Y)(b o):w.grownBy {w with heap:=w.heap.setIfInBounds b o} (U b):=⟨rfl,rfl,rfl,by simp,λk c a=>by have:k≠b:=λe=>a (by rw[e]);simp[ζ this]⟩
theorem kh{c d:Type}(f:c->d)(g:c->c):∀(l:List c) (i:Nat),(∀a,l[i]?=U a->f (g a)=f a) ->(l.modify i g).map f=l.map f
 |[],i,h=>by simp
 |a::l,0,h=>by simp[h a rfl]
 |a::l,i+1,h=>by
  have:=kh f g l i λb hb=>h b<|by grind
  simp[this]
def ki{l}(h:bk w b l):
 ∃w',(Z1 205 (.map<|U b) (Δ Ξ n)<|.bool M).run prog w=.ok () w'/\bk w' b (ml l n)/\w.grownBy w' (U b)/\w'.heap.size=w.heap.size:=by
 obtain⟨g,f,hb,i⟩:=h;have q:=jb n w g.toList l i.keys;have m:=(Ω.1 hb).1;by_cases o:n∈l
 have hi:=ZJ o;have t:=sF i;have k:∀e,g.toList[l.idxOf n]?=U e->e.key=Δ Ξ n/\e.val=.bool M:=by intro e c;have j:=congrArg (λz=>z[l.idxOf n]?) i.keys;simp only[Zl,c,Option.map_some]at j;rw[Z8 hi]at j;simp[zQ]at j;exact j
 refine⟨{w with heap:=w.heap.setIfInBounds b<|.map (g.modify (l.idxOf n) λe=>{e with key:=Δ Ξ n,val:=.bool M}) f},?_,?_,sG w b _,by simp⟩;unfold Z1;simp only[Z9,υ nl,χ,run_get hb,ZT,sE,q,if_pos o];have u:(((g[l.idxOf n]?).map (·.key)).getD<|Δ Ξ n)=Δ Ξ n:=by have:g[l.idxOf n]?=U (g[l.idxOf n]'(by omega)):=Array.getElem?_eq_getElem (by omega);rw[this];exact(k _<|by simp).1
 rw[u];simp[Instr.keyThatStays,Instr.sameBits,setObj,Zs,hb];have d:ml l n=l:=by unfold ml;rw[if_pos (by simpa using o)]
 rw[d];refine⟨g.modify (l.idxOf n) λe=>{e with key:=Δ Ξ n,val:=.bool M},f,by simp[m],⟨?_,?_,?_⟩⟩;rw[<-i.keys,Zw];exact kh _ _ _ _ λe c=>by rw[(k e c).1,(k e c).2]
 rw[Zw];have:=kh (λe:MapEntry=>e.born) (λe:MapEntry=>{e with key:=Δ Ξ n,val:=Value.bool M}) g.toList (l.idxOf n) λe _=>rfl;rw[this];exact i.born;intro e c;rw[Zw]at c;have:e.born∈(g.toList.modify (l.idxOf n) λe=>{e with key:=Δ Ξ n,val:=.bool M}).map (·.born):=YX c;rw[(kh (λe:MapEntry=>e.born) (λe:MapEntry=>{e with key:=Δ Ξ n,val:=Value.bool M}) g.toList (l.idxOf n) λe _=>rfl)]at this;obtain⟨p,j,r⟩:=Y5.1 this;rw[<-r];exact i.old p j;refine⟨{w with heap:=w.heap.setIfInBounds b<|.map (g.push {key:=Δ Ξ n,val:=.bool M,born:=f})<|f+1},?_,?_,sG w b _,by simp⟩
 ·unfold Z1;simp only[Z9,υ nl,χ,run_get hb,ZT,sE,q,if_neg o];simp[setObj,Zs,hb]
 have d:ml l n=l++[n]:=by unfold ml;rw[if_neg (by simpa using o)]
 rw[d];refine⟨_,f+1,by simp[m];rfl,⟨?_,?_,?_⟩⟩;rw[ZH,κ,i.keys,κ];simp[zQ];rw[ZH,κ,Zk];refine⟨i.born,by simp,λa s b hb e=>?_⟩;simp at hb;subst hb;subst e;obtain⟨p,j,r⟩:=Y5.1 s;have:=i.old p j;omega;intro e c;rw[ZH]at c;obtain c|c:=Zg.1 c
 have:=i.old e c;omega;simp at c;subst c;exact Nat.lt_succ_self _
def uV{l}(h:bk w b l):(YF #[205] ty #[.map (U b)]).run prog w=.ok (Δ Ξ (l.length:Int)) w:=by obtain⟨d,c,hb,a⟩:=h;simp[YF,run_get hb,(sF a)];rfl
def wE{l}(h:bk w b l):
 ∃w',(Zj #[205,3] ty #[.map (U b),Δ Ξ n]).run prog w=.ok (.tuple #[]) w'/\bk w' b (l.erase n)/\w.grownBy w' (U b)/\w'.heap.size=w:=by
 obtain⟨g,c,hb,f⟩:=h;have o:=jb n w g.toList l f.keys;have k:=(Ω.1 hb).1;by_cases m:n∈l
 refine⟨{w with heap:=w.heap.setIfInBounds b<|.map (g.eraseIdxIfInBounds<|l.idxOf n) c},?_,?_,sG w b _,by simp⟩
 ·simp[Zj,υ nl,run_get hb,sE,o,if_pos m,setObj,Zs,hb]
 have hi:=ZJ m;have p:=sF f;have d:(g.eraseIdxIfInBounds<|l.idxOf n).toList=g.toList.eraseIdx (l.idxOf n):=by unfold Array.eraseIdxIfInBounds;rw[dif_pos (by omega)];simp
 refine⟨_,c,by simp[k];rfl,⟨?_,?_,?_⟩⟩;rw[d,gL,f.keys,<-gL,List.erase_eq_eraseIdx_of_idxOf (a:=n) (i:=l.idxOf n) rfl];rw[d,gL];exact f.born.sublist<|Y3 _ _;intro e j;rw[d]at j;exact f.old e<|(Y3 _ _).subset j;refine⟨{w with heap:=w.heap.setIfInBounds b<|.map g c},?_,?_,sG w b _,by simp⟩
 ·simp[Zj,υ nl,run_get hb,sE,o,if_neg m,setObj,Zs,hb]
 rw[List.erase_of_not_mem m];exact⟨g,c,by simp[k],f⟩
def eD(w:Y)(r b:Nat)(l left:List Int):Prop:=∃es clk since seen c0,w.heap[b]?=U (.map es clk)/\We es clk l/\w.heap[r]?=U (.mapIter (U b) since seen c0)/\(∀e∈es.toList,e.born<since)/\since<=c0/\since<=clk/\
 (Zn es seen).toList.map (·.key)=left.map (Δ Ξ)
def eD.keys{l}(h:eD w r b l left):bk w b l:=by obtain⟨f,c,a,seen,c0,e,d,_⟩:=h;exact⟨f,c,e,d⟩
def eD.of_block{l}(h:eD w r b l left)(hb:w'.heap[b]?=w.heap[b]?)(e:w'.heap[r]?=w.heap[r]?):eD w' r b l left:=by obtain⟨g,c,a,seen,c0,f,d,h3,h4⟩:=h;exact⟨g,c,a,seen,c0,hb.trans f,d,e.trans h3,h4⟩
def eD.lt{l}(h:eD w r b l left):r<w/\b<w/\r≠b:=by
 obtain⟨f,c,a,seen,c0,e,d,h3,h4⟩:=h
 grind
def qg{l}(h:bk w b l):
 ∃w',(Instr.range 205<|.map<|U b).run prog w=.ok (.pointer w.heap.size) w'/\eD w' w b l l/\w.grownBy w' I/\w'.heap.size=w.heap.size+1:=by
 obtain⟨c,a,hb,d⟩:=h;refine⟨_,run_range_map w 205 3 4 b c a nl hb,⟨c,a,a,#[],a,(θ w _ b<|(Ω.1 hb).1).trans hb,d,ο w _,d.old,.refl,.refl,?_⟩,Zv w _ I,by simp⟩;have:Zn c #[]=c:=by unfold Zn;simp
 rw[this];have:=congrArg (Zb Prod.fst) d.keys;simpa[zQ,Function.comp_def]using this
theorem filter_one{b c:Type}[DecidableEq c](f:b->c):∀(L:List b) (e:b),(L.map f).Nodup->e∈L->∃A B,L=A++e::B/\L.filter (λx=>!(f x==f e))=A++B
 |[],e,_,h=>by cases h
 |a::L,e,hn,h=>by
  rw[Zp,List.nodup_cons]at hn;obtain rfl|h:=List.mem_cons.1 h
  refine⟨[],L,rfl,?_⟩
  simp_all
  obtain⟨A,B,g,d⟩:=filter_one f L e hn.2 h
  grind
def sH{l}(h:eD w r b l left):
 (left=[]/\(Instr.next (.pointer r) ξ ty).run prog w=.ok (.tuple #[.bool ξ]) w)\/
 ∃A B n w',left=A++n::B/\(Instr.next (.pointer r) ξ ty).run prog w=.ok (.tuple #[.bool M,Δ Ξ n,.bool M]) w'/\eD w' r b l (A++B)/\w.grownBy w' (U r)/\w'.heap.size=w/\
  (Instr.entry<|.pointer r).run prog w'=.ok (.tuple #[Δ Ξ n,.bool M]) w':=by
 obtain⟨H,y,D⟩:=h.lt;obtain⟨f,c,a,seen,c0,O,u,h3,h4,h5,m,v⟩:=h;obtain⟨h0,d⟩|⟨e,j,i,p,d⟩:=run_next_at (P:=prog) w ty r b a c0 seen f c h3 O h4 h5
 left;refine⟨?_,d⟩;have:(Zn f seen).toList=[]:=by simpa using h0
 rw[this]at v;simpa using v.symm;right;have s:e∈f.toList:=by unfold Zn at j;simp at j;simpa using j.1
 have G:∃n,e.key=Δ Ξ n/\e.val=.bool M:=by have:(e.key,e.val)∈f.toList.map (λe=>(e.key,e.val)):=YX s;rw[u.keys]at this;obtain⟨n,_,L⟩:=Y5.1 this;simp[zQ]at L;exact⟨n,L.1.symm,L.2.symm⟩
 obtain⟨n,z,Q⟩:=G;have J:((Zn f seen).toList.map (·.born)).Nodup:=by unfold Zn;rw[Zu];exact u.born.sublist<|List.Sublist.map _ List.filter_sublist
 obtain⟨A,B,C,W⟩:=filter_one (λe:MapEntry=>e.born) _ e J j;rw[C,κ,Zp]at v;obtain⟨T,C',rfl,K,N⟩:=List.map_eq_append_iff.1 v.symm;obtain⟨X,S,rfl,o,F⟩:=List.map_eq_cons_iff.1 N;rw[z]at o;cases o
 have g:i.heap=w.heap:=by obtain rfl|rfl:=p<;>rfl
 have q:w.grownBy (setBlock i r<|.mapIter (U b) a (seen.push e.born) c) (U r):=by
  have:=sG i r<|.mapIter (U b) a (seen.push e.born) c;obtain rfl|rfl:=p
  exact this;exact⟨this.os,this.tape,this.output,this.size,this.block⟩
 have E:(setBlock i r<|.mapIter (U b) a (seen.push e.born) c).heap.size=w:=by rw[<-g];simp[setBlock]
 have k:(setBlock i r<|.mapIter (U b) a (seen.push e.born) c).heap[r]?=U (.mapIter (U b) a (seen.push e.born) c):=by simp[setBlock,g,H]
 have t:(setBlock i r<|.mapIter (U b) a (seen.push e.born) c).heap[b]?=U (.map f c):=by rw[q.block b y (λj=>D (φ j).symm)];exact O
 refine⟨T,S,n,_,rfl,?_,⟨f,c,a,seen.push e.born,c,t,u,k,h4,m,m,?_⟩,q,E,?_⟩;rw[d,z,Q];have:(Zn f<|seen.push e.born).toList=(Zn f seen).toList.filter (λx=>!(x.born==e.born)):=by unfold Zn;rw[Zu,Zu,List.filter_filter];refine List.filter_congr λx _=>?_;rw[Array.contains_push,Bool.not_or,Bool.and_comm]
 rw[this,W,κ,κ,K,F]
 ·have:=run_entry_at (P:=prog) _ r b a seen f c e k t s u.born;rw[this,z,Q]
end
end Kn
namespace Kn
open Go Go.RowKit Md
section
variable{x:HV}{w a:Y}{l:List HV}{k:Nat}{f:HV->HV}
def zF{row}(h:a.grownBy w row)(n):a.grownBy (w.drewN n) row:=⟨h.os,h.tape,h.output,h.size,h.block⟩
def zG{row}(h:a.grownBy w row)(o):a.grownBy (w.alloc o) row:=⟨h.os,h.tape,h.output,Nat.le_trans h.size<|by simp,λi hi b=>(θ w o i<|Nat.lt_of_lt_of_le hi h.size).trans<|h.block i hi b⟩
def aex{g}(h:a.grownBy w (U g)){p}(c:p.block=g\/a.heap.size<=p.block)(u):a.grownBy (w.setCell p u) (U g):=
 ⟨h.os,h.tape,h.output,by simpa[ZW]using h.size,λi hi b=>(ψ w p u i (by
   obtain c|c:=c
   grind
   omega)).trans (h.block i hi b)⟩
def jA.of_block{w' b}(h:jA w b l)(hb:w'.heap[b]?=w.heap[b]?):jA w' b l:=by obtain⟨d,a,c,e⟩:=h;exact⟨d,a,hb.trans c,e⟩
def jA.lt{b}(h:jA w b l):b<w.heap.size:=by obtain⟨d,c,a,e⟩:=h;exact(Ω.1 a).1
def IB(h:l[k]?=U x):((l.take k).map f++l.drop k).set k (f x)=(l.take<|k+1).map f++l.drop (k+1):=by
 have a:=(Θ.1 h).1;have b:=(Θ.1 h).2;have:k-((l.take k).map f).length=0:=by simp;omega
 rw[List.set_append_right _ _ (by simp;omega),this,Y9 a,YU,bW h];simp
def IC(h:l[k]?=U x)(a:f x=x):(l.take k).map f++l.drop k=(l.take<|k+1).map f++l.drop (k+1):=by rw[Y9 ((Θ.1 h).1),bW h,((Θ.1 h).2)];simp[a]
def Wa(h:l[k]?=U x):((l.take k).map f++l.drop k)[k]?=U x:=by grind
def uO(w B bs bm v so l order b)(u:OV w B v l)(hs:w.heap[bs]?=U (Ψ #[so,.map<|U bm] 112 (0,0)))(y:jA w bm order)(X:0<=b)(hf1:b<=1000000)(ho:order.length<=1000000)(hl:l.length<=1000000):
 Z2 prog 227 #[v,YI<|U ⟨bs,0,I⟩,Δ Ξ b] w λe w'=>e=.returned (.tuple #[])/\OV w' B v (l.map<|lr order b)/\w.grownBy w' v.ownBlock:=by
 have HV:=V u;have t:v.ownBlock≠U bs:=by
  intro e;obtain⟨_,⟨rfl,_⟩|⟨g,E,J,rfl,hB,D,_⟩⟩:=u;cases e
  cases e
  rw[D]at hs;cases hs
 have x:v.ownBlock≠U bm:=by
  intro e;obtain⟨es,clk,O,_⟩:=y;obtain⟨_,⟨rfl,_⟩|⟨g,E,J,rfl,hB,D,_⟩⟩:=u;cases e
  cases e
  rw[D]at O;cases O
 have A:=(Ω.1 hs).1;have C:=y.lt;obtain⟨a,m,G,hm1,F,P⟩:=aF u;unfold ZA at F;have HA:=V P;have K:=V t;have H:=V x;have HS:=V hs;have T:=V y;clear P t x hs y u;subst G
 go_enter (fU func227 rfl),ntmps227
 go_wp2
 go_loopw [12] (λi wr=>∃k:Nat,k<=l.length/\i=Δ Ξ k/\OV wr B (.slice a l.length m) ((l.take k).map (lr order b)++l.drop k)/\w.grownBy wr (Zd<|.slice a l.length m)) (λi _=>l.length-(intOf i).toNat)
 case atStart=>exact⟨0,Nat.zero_le _,rfl,by simpa using HV.out,World.grownBy.refl _ _⟩
 case round=>
  obtain⟨k,hk,rfl,c,h⟩:=hrel;by_cases z:k<l.length
  ·obtain⟨g,rfl,_⟩:=HA.out (by omega);obtain⟨p,q,e1⟩:=ep z;have hsz:=h.size;have n:((l.take k).map (lr order b)++l.drop k).length=l.length:=by simp;omega
   have j:=c;rw[<-n]at j;obtain⟨c1,c2,o,W,hgl⟩:=OV.at_ c<|Wa e1;have f1:=o<|k*2;have f2:=o<|k*2+1;have S:wr.cell? ⟨bs,1,I⟩=U (.map<|U bm):=by have:=(h.block bs A<|ζ K.out).trans HS.out;simp[R,this]
   have s:=T.out.of_block<|h.block bm C<|ζ H.out;have f:=λnq=>fP (w:=(wr.alloc<|Ψ #[Δ Ξ p,Δ Ξ q] 50).drewN nq) (p,q)<|s.of_block<|θ wr _ bm<|by omega
   have N:bs<wr.heap.size:=by omega
   have Q:=V e1;have HO:=V c;clear j o e1 s n c;unfold eB at f;dsimp only at f;by_cases r:(p,q)∈order
   ·simp only[r,if_true,decide_true]at f;have L:=ZJ r;have d:lr order b (p,q)=(4,b+(order.idxOf (p,q):Nat)):=by simp[lr,r]
    have HR:=V d;clear d r;generalize order.idxOf (p,q)=ix at f L HR
    go_wp2
    go_quiet (fail)
    clear f
    go_wp2
    refine⟨⟨k+1,by omega,by go_num,?_,?_⟩,by simp[intOf];omega⟩;rw[<-IB Q.out,HR.out];exact((HO.out.alloc _).below<|hU _ _ _).set (by simp;omega);show w.grownBy _ (U g);exact aex (p:=⟨g,k*2+1,I⟩) (aex (p:=⟨g,k*2,I⟩) (zF (zG h _) _) (.inl rfl) _) (.inl rfl) _
   ·simp only[r,if_false,decide_false]at f;have d:lr order b (p,q)=(p,q):=by simp[lr,r]
    have HR:=V d;clear d r
    go_wp2
    go_quiet (fail)
    clear f
    go_wp2
    exact⟨⟨k+1,by omega,by go_num,by rw[<-IC Q.out HR.out];exact(HO.out.alloc _).below<|hU _ _ _,zF (zG h _) _⟩,by simp[intOf];omega⟩
  ·go_wp2
   go_end0;refine⟨rfl,?_,h⟩;rw[ι (by omega),ZC<|by omega,YE]at c;exact c
end
section
def bS(w:Y)(B bs bm:Nat)(so:ZY)(l:List HV):Prop:=B<=bs/\B<=bm/\w.heap[bs]?=U (Ψ #[so,.map<|U bm] 112 (0,0))/\OV w B so l/\jA w bm l
structure cz(w w':Y)(bs bm:Nat)(so so':ZY):Prop where
 os:w'.os=w.os
 tape:w'.tape=w.tape
 output:w'.output=w.output
 size:w.heap.size<=w'
 block:∀k,k<w.heap.size->k≠bs->k≠bm->so.ownBlock≠U k->w'.heap[k]?=w.heap[k]?
 own:∀k,so'.ownBlock=U k->so.ownBlock=U k\/w.heap.size<=k
section
variable{w w' w'':Y}{B bs bm:Nat}{so so' ae1:ZY}{l:List HV}
def cz.bK(h:Z w w w'):cz w w' bs bm so so:=⟨h.os,h.tape,h.output,h.size,λk a _ _ _=>h.block k a,λk e=>.inl e⟩
def cz.refl(w):cz w w bs bm so so:=.bK<|ω _ _
def cz.trans(h:cz w w' bs bm so so')(k:cz w' w'' bs bm so' ae1):cz w w'' bs bm so ae1:=
 ⟨k.os.trans h.os,k.tape.trans h.tape,k.output.trans h.output,Nat.le_trans h.size k.size,
   λi hi a b h3=>(k.block i (Nat.lt_of_lt_of_le hi h.size) a b (λe=>by
    obtain e|e:=h.own i e
    grind
    omega)).trans (h.block i hi a b h3),
   λi e=>by
    obtain e|e:=k.own i e
    exact h.own i e;exact .inr (Nat.le_trans h.size e)⟩
def cz.below(h:cz w w' bs bm so so')(hs:bS w B bs bm so l)(b:B<=w):Z B w w':=⟨h.os,h.tape,h.output,h.size,λk a=>h.block k (by omega) (by have:=hs.1;omega) (by have:=hs.2.1;omega) (λe=>by have:=(hs.2.2.2.1.lt k e).1;omega)⟩
def cz.cell(h:cz w w' bs bm so so'){a:Addr}(c:a.block<w)(b:a.block≠bs)(d:a.block≠bm)(h3:so.ownBlock≠U a.block):w' a=w a:=World.cell?_of_block<|h.block a.block c b d h3
def bS.below(h:bS w B bs bm so l)(a:Z w w w'):bS w' B bs bm so l:=⟨h.1,h.2.1,(a.block bs (Ω.1 h.2.2.1).1).trans h.2.2.1,h.2.2.2.1.below a,h.2.2.2.2.of_block<|a.block bm h.2.2.2.2.lt⟩
def bS.Q4(h:bS w B bs bm so l):bs<w/\bm<w:=⟨(Ω.1 h.2.2.1).1,h.2.2.2.2.lt⟩
def wm(k bs bm:Nat)(so:ZY):Prop:=k≠bs/\k≠bm/\so.ownBlock≠U k
def bS.free(h:bS w B bs bm so l){k a t fr}(b:w.heap[k]?=U (.cells a t fr))(o:t≠112)(f:t≠50):wm k bs bm so:=by
 obtain⟨_,_,hb,d,p,i,n,_⟩:=h;refine⟨λe=>?_,λe=>?_,λe=>?_⟩
 grind
 grind
 obtain⟨_,⟨rfl,_⟩|⟨g,j,c,rfl,q,m,_⟩⟩:=d
 ·cases e
 cases e;rw[m]at b;cases b;exact f rfl
def bS.low(h:bS w B bs bm so l){k}(a:k<B):wm k bs bm so:=⟨λe=>by have:=h.1;omega,λe=>by have:=h.2.1;omega,λe=>by have:=(h.2.2.2.1.lt k e).1;omega⟩
end
def ID(w B bs bm so l p q)(hs:bS w B bs bm so l)(g:(p,q)∈l):
 Z2 prog 197 #[.pointer bs,.agg #[Δ Ξ p,Δ Ξ q]] w λe w'=>(∃i,e=.returned (Δ Ξ i))/\(∃d,bS w' B bs bm d (meet l (p,q))/\cz w w' bs bm so d):=by
 have c:meet l (p,q)=l:=by unfold meet;rw[if_pos (by simpa using g)]
 rw[c];have m:=V hs;obtain⟨o,j,hb,k,f⟩:=hs;have h:=(Ω.1 hb).1;have hc:w (bs,1)=U (.map<|U bm):=by simp[R,hb]
 have a:=λnq=>fP (w:=(w.alloc<|Ψ #[Δ Ξ p,Δ Ξ q] 50).drewN nq) (p,q)<|f.of_block<|θ w _ bm f.lt;unfold eB at a;simp only[g,if_true,decide_true]at a;clear hb k f g c;generalize l.idxOf (p,q)=n at a
 go_enter (fU func197 rfl),ntmps197
 go_wp2
 go_quiet (fail)
 clear a
 go_wp2
 go_ret;have b:Z w w ((w.alloc<|Ψ #[Δ Ξ p,Δ Ξ q] 50).drewN nq):=bl (af w _) _;exact⟨⟨_,rfl⟩,_,m.out.below b,cz.bK b⟩
end
section
variable{w:Y}
def heap_setCell_same{b i:Nat}{a t fr v}(h:w.heap[b]?=U (.cells a t fr)):(w.setCell (b,i) v).heap[b]?=U (.cells (a.setIfInBounds i v) t fr):=by simp[ZW,ZB,h]
def ae2{a b c:Y}{row}(h:Z a a b)(k:b.grownBy c row):a.grownBy c row:=⟨k.os.trans h.os,k.tape.trans h.tape,k.output.trans h.output,Nat.le_trans h.size k.size,λi hi d=>(k.block i (Nat.lt_of_lt_of_le hi h.size) d).trans<|h.block i hi⟩
def bS.ne{B bs bm so l}(h:bS w B bs bm so l):bs≠bm/\so.ownBlock≠U bs/\so.ownBlock≠U bm:=by
 obtain⟨_,_,hb,f,k,i,d,_⟩:=h;refine⟨λe=>?_,λe=>?_,λe=>?_⟩
 grind
 obtain⟨_,⟨rfl,_⟩|⟨g,b,a,rfl,j,c,_⟩⟩:=f
 ·cases e
 cases e;rw[c]at hb;cases hb
 obtain⟨_,⟨rfl,_⟩|⟨g,b,a,rfl,j,c,_⟩⟩:=f
 ·cases e
 cases e;rw[c]at d;cases d
def IE{w2 f w4}{B bs bm b a:Nat}{so l x}(hs:bS w B bs bm so l)(c:Z w w w2)(h3:w2.grownBy f (U bm))(s:jA f bm (l++[x]))(h4:f.grownBy w4 so.ownBlock)(r:OV w4 B (.slice b (l.length+1) a) (l++[x]))(d:so.ownBlock=U b\/f.heap.size<=b):
 bS (w4.setCell bs<|.slice b (l.length+1) a) B bs bm (.slice b (l.length+1) a) (l++[x])/\
 cz w (w4.setCell bs<|.slice b (l.length+1) a) bs bm so (.slice b (l.length+1) a):=by
 obtain⟨h,j,n⟩:=hs.ne;obtain⟨u,C⟩:=hs.Q4;have z:=c.size;have z3:=h3.size;have A:=h4.size;have y:b≠bs:=by
  obtain e|e:=d
  rintro rfl;exact j e;omega
 refine⟨⟨hs.1,hs.2.1,?_,?_,?_⟩,⟨?_,?_,?_,?_,?_,?_⟩⟩;have:=heap_setCell_same (i:=0) (v:=.slice b (l.length+1) a)<|(h4.block bs (by omega)<|ζ j).trans<|(h3.block bs (by omega) λe=>h<|φ e).trans<|(c.block bs u).trans hs.2.2.1;simpa using this;refine aS r λg o=>ψ _ _ _ _ ?_;cases o
 exact y;exact(s.of_block<|h4.block bm (by omega)<|ζ n).of_block<|ψ _ _ _ _<|ζ h;exact h4.os.trans<|h3.os.trans c.os;exact h4.tape.trans<|h3.tape.trans c.tape;exact h4.output.trans<|h3.output.trans c.output;simp[ZW];omega;intro k p m t q;refine(ψ _ _ _ _ m).trans<|(h4.block k (by omega)<|ζ q).trans<|(h3.block k (by omega) λe=>t<|φ e).trans<|c.block k p;intro k e;cases e
 obtain e|e:=d
 exact .inl e;exact .inr (by dsimp only;omega)
def IF(w B bs bm so l p q)(hs:bS w B bs bm so l)(K:(p,q)∉l)(hl:l.length<=1000000):
 Z2 prog 197 #[.pointer bs,.agg #[p,q]] w λe w'=>(∃i,e=.returned (Δ Ξ i))/\(∃J,bS w' B bs bm J (meet l (p,q))/\cz w w' bs bm so J):=by
 have F:meet l (p,q)=l++[(p,q)]:=by unfold meet;rw[if_neg (by simpa using K)]
 rw[F];have W:=V hs;obtain⟨hB,hBm,hb,ho,hm⟩:=hs;obtain⟨i0,hi,z,D,E⟩:=Zt nh;have s:=(Ω.1 hb).1;have H:w (bs,1)=U (.map<|U bm):=by simp[R,hb]
 have L:=hm.lt;obtain⟨a,m,G,hm1,hm2,_⟩:=aF ho;have u:w bs=U (.slice a l.length m):=by simp[R,hb,G]
 have x:=λnq=>fP (w:=(w.alloc<|Ψ #[p,q] 50).drewN nq) (p,q)<|hm.of_block<|θ w _ bm L;unfold eB at x;simp only[K,if_false,decide_false]at x;have HI:=V hi;have X:=V z;have HZ1:=V D;have P:=V E;have HX:=V K;subst G;clear hb ho hm K F hi z D E
 go_enter (fU func197 rfl),ntmps197
 go_wp2
 go_quiet (fail)
 clear x;have c:Z w w ((w.alloc<|Ψ #[p,q] 50).drewN nq):=bl (af w _) _;have n:((w.alloc<|Ψ #[p,q] 50).drewN nq) w.heap.size=U (Δ Ξ p):=by go_simp
 have k:((w.alloc<|Ψ #[p,q] 50).drewN nq) (w.heap.size,1)=U (Δ Ξ q):=by go_simp
 have d:w.heap.size<((w.alloc<|Ψ #[p,q] 50).drewN nq).heap.size:=by simp
 generalize (w.alloc _).drewN nq=y at c n k d⊢;have k0:=(Qz c bs 0 s).trans u;have k1:=(Qz c bs 1 s).trans H
 go_wp2_with fail
 go_still_tail 6,(by kernel_rfl)
 change Zm _ _ _ _ _ (World.drew _)
 clear k0 k1;replace c:=c.drew;replace n:y.drew.cell? w.heap.size=U (Δ Ξ p):=n;replace k:y.drew.cell? (w.heap.size,1)=U (Δ Ξ q):=k;replace d:w.heap.size<y.drew.heap.size:=d;generalize y.drew=y at c n k d⊢;have h:=W.out.below c;obtain⟨b,o,C,f⟩:=sx (p,q) h.2.2.2.2 HX.out;unfold eB at o;dsimp only at o;have O:w.heap.size≠bm:=by omega
 obtain⟨n1,n2,n3⟩:=h.ne;have g0:=(f.cell_far bs h.Q4.1 λe=>n1<|φ e).trans<|(Qz c bs 0 s).trans u;have gf:b.frozen? bs=ξ:=(f.frozen_far bs h.Q4.1 λe=>n1<|φ e).trans (by simp[Z0,h.2.2.1]);have g1:b w.heap.size=U (Δ Ξ p):=(f.cell_far w.heap.size d λe=>O<|φ e).trans n;have g2:b (w.heap.size,1)=U (Δ Ξ q):=(f.cell_far (w.heap.size,1) d λe=>O<|φ e).trans k;have A:OV b B (.slice a l.length m) l:=aS h.2.2.2.1 λg hg=>f.block g (h.2.2.2.1.lt g hg).2 λe=>n3<|by rw[hg,φ e]
 have hz3:=f.size;have hBz:B<=w:=by omega
 have r:bs<b:=by omega
 have HO:=V A;have HN:=V n2;have H5:=V (λe=>by have:=(W.out.2.2.2.1.lt _ e.symm).2;omega:U w.heap.size≠Zd (.slice a l.length m));have HB:=V (⟨c,f,C⟩:Z w w y/\y.grownBy b (U bm)/\jA b bm (l++[(p,q)]));clear u H c n k h C f n1 n2 n3 A O
 go_wp2_with fail
 clear o
 go_region_law
  ((refine step_append_lies _ (by rfl) _ _ _ (by rfl) B 50 i0 _ 2 16 lx HI.out X.out HZ1.out P.out rfl (by omega) (.slice a l.length m) l.length (l.flatMap lU) (by rfl) (HO.out.below (by first|exact(af b _).drew|exact(af b _)|exact((ω _ b).drew.alloc .refl _)|exact((ω _ b).drew.alloc .refl _).drew))
     b.heap.size 1 1 [Δ Ξ p,q] (by rfl) (by rfl) (World.news_of_block (cs:=#[p,q]) (t:=50) (fr:=(0,0))<|ο b _) (by simp[Value.oneCell'])
     (by omega) (by unfold ZA;omega) (by omega) (by simp;omega) (b.heap.size+1) (by simp) ?_;intro gg Q w4 v j N hlt;have gf4:w4.frozen? bs=ξ:=(j.frozen_far bs (by simp;omega) (ζ HN.out)).trans ((((af b _).drew).frozen (p:=⟨bs,0,I⟩) r).trans gf);have gc4:w4 bs=U (.slice a l.length m):=(j.cell_far bs (by simp;omega) (ζ HN.out)).trans ((((af b _).drew).cell (p:=⟨bs,0,I⟩) r).trans g0)))
 all_goals go_wp2
 all_goals
  go_ret;obtain⟨b2,b3,m3⟩:=HB.out;have T:b.grownBy w4 (Zd<|.slice a l.length m):=ae2 (by first|exact(af b _).drew|exact(af b _)|exact((ω _ b).drew.alloc .refl _)|exact((ω _ b).drew.alloc .refl _).drew) j;have S:OV w4 B (.slice gg (l.length+1) Q) (l++[(p,q)]):=by unfold OV;rw[ZX,ZV];exact v
  obtain⟨e1,e2⟩:=IE W.out b2 b3 m3 T S (by obtain e|e:=N;exact .inl e;exact .inr<|by omega);exact⟨⟨_,rfl⟩,_,e1,e2⟩
end
section
def zi(w:Y)(b:Nat)(l:List Int):Prop:=∃es clk,w.heap[b]?=U (.map es clk)/\es.toList.map (λe=>(e.key,e.val))=l.zipIdx.map λx=>(Δ Ξ x.1,Δ Ξ (x.2:Int))
def Xu:prog.underlying 164=U (.map 3 3):=by kernel_rfl
theorem Pr(n:Int):∀(es:List MapEntry) (l:List Int) (j i:Nat),es.map (λe=>(e.key,e.val))=(l.zipIdx j).map (λx=>(Δ Ξ x.1,Δ Ξ (x.2:Int))) ->
 ZS (.int Ξ) n es i=U (if n∈l then U (i+l.idxOf n,Δ Ξ ((j+l.idxOf n:Nat):Int))else I)
 |[],l,j,i,h=>by
  obtain _|⟨a,l⟩:=l
  simp[ZS];simp at h
 |e::es,l,j,i,h=>by
  obtain _|⟨a,l⟩:=l
  simp at h;simp at h;obtain⟨⟨c,d⟩,h3⟩:=h;unfold ZS;rw[c];simp only[YB,if_true];by_cases b:n=a
  subst b;simp[d];have hb:(n==a)=ξ:=by simp[b]
  rw[hb];simp only[(Pr n es l (j+1) (i+1) h3)]
  grind
section
variable{w w':Y}{b:Nat}{l:List Int}
def zi.of_block(h:zi w b l)(hb:w'.heap[b]?=w.heap[b]?):zi w' b l:=by obtain⟨c,a,e,r⟩:=h;exact⟨c,a,hb.trans e,r⟩
def zi.lt(h:zi w b l):b<w:=by obtain⟨c,a,e,r⟩:=h;exact(Ω.1 e).1
def Qf{es}(n:Int)(w)(a:es.map (λe=>(e.key,e.val))=l.zipIdx.map λx=>(Δ Ξ x.1,Δ Ξ (x.2:Int))):
 (Zr 3 n es).run prog w=.ok (if n∈l then U (l.idxOf n,Δ Ξ ((l.idxOf n:Nat):Int))else I) w:=by
 unfold Zr;rw[Z9,υ ae8,χ,Pr n es l 0 0 a];simp
def PR(n:Int)(h:zi w b l):
 (Zo 164 (.map<|U b) n M).run prog w=.ok (.tuple #[Δ Ξ (if n∈l then((l.idxOf n:Nat):Int)else 0),.bool<|decide<|n∈l]) w:=by
 obtain⟨e,d,hb,c⟩:=h;unfold Zo;simp only[Z9,υ Xu,χ,run_get hb,ZT,sE,(Qf n w c)];by_cases a:n∈l
 simp[a];simp[a,aeZ]
def PS(n)(h:zi w b l)(e:n∉l):
 ∃w',(Z1 164 (.map<|U b) n<|Δ Ξ (l.length:Int)).run prog w=.ok () w'/\zi w' b (l++[n])/\w.grownBy w' (U b):=by
 obtain⟨d,a,hb,c⟩:=h;refine⟨{w with heap:=w.heap.setIfInBounds b<|.map (d.push {key:=Δ Ξ n,val:=Δ Ξ (l.length:Int),born:=a})<|a+1},?_,?_,sG w b _⟩;unfold Z1;simp only[Z9,υ Xu,χ,run_get hb,ZT,sE,Qf n w c,if_neg e];simp[setObj,Zs,hb];refine⟨_,a+1,by simp[((Ω.1 hb).1)];rfl,?_⟩
 grind
end
def zp{ops rest o a w Q}(g:o.guard=I)(s x)(q:o.op=.call {callee:=.builtin .append,args:=#[s,x],argTypes:=#[24,24]})(B v l)(hs:a.eval s=v)(b:OI w B v l)(ad c u)(y:a.eval x=Z4 (U ad) 1 c)(t:w (ad.add 0)=U (Δ Ξ u))(A:l.length<=1000000000)(n:B<=w)(h:∀d w',OI w' B d (l++[u]) ->Z B w w'->w.grownBy w' v.ownBlock->(d.ownBlock=v.ownBlock\/d.ownBlock=U w) ->Zm prog ops Q rest (a.put o.dst d) w'):Zm prog ops Q (o::rest) a w:=by
 obtain⟨p,hi,i,k,f⟩:=Zt Dq;refine wpList_append_own_at _ g s x 24 q B 3 p _ 1 8 se hi i k f rfl (by simp) v l.length _ hs b ad 1 c (eP u) y rfl (λj z e=>?_) (λz hz=>?_) (by unfold ZA;omega) (by omega) n λd w' r m _ h4=>?_
 match j,e with
 |0,e=>cases e;exact t
 |j+1,e=>simp[eP]at e
 simp[eP]at hz;subst hz;rfl;refine h d w' ?_ (cM b m n) m h4;unfold OI;simpa using r
structure kc(w:Y)(B p3 p4 p5 bm:Nat)(so:ZY)(N:List Int):Prop where
 b3:B<=p3
 b4:B<=p4
 b5:B<=p5
 b6:B<=bm
 h3:w.heap[p3]?=U (Ψ #[.map (U bm)] 164 (0,0))
 h4:w.heap[p4]?=U (Ψ #[so] 24 (0,0))
 h5:w.heap[p5]?=U (Ψ #[.func (.func 177) #[] #[.pointer p3,.pointer p4]] 47 (0,0))
 row:OI w B so N
 map:zi w bm N
section
variable{w w':Y}{B p3 p4 p5 bm:Nat}{so so':ZY}{N N':List Int}
def kc.below(h:kc w B p3 p4 p5 bm so N)(a:Z w w w'):kc w' B p3 p4 p5 bm so N:=⟨h.b3,h.b4,h.b5,h.b6,(a.block _ (Ω.1 h.h3).1).trans h.h3,(a.block _ (Ω.1 h.h4).1).trans h.h4,(a.block _ (Ω.1 h.h5).1).trans h.h5,h.row.below a,h.map.of_block<|a.block bm h.map.lt⟩
def zT{w:Y}{B k e size n:Nat}{v xs}(h:w.ownsRow B e size v n xs)(d:∀c fr,w.heap[k]?≠U (.cells c e fr)):v.ownBlock≠U k:=by
 intro a;obtain⟨_,⟨rfl,_⟩|⟨g,f,b,rfl,j,i,_⟩⟩:=h;cases a
 cases a
 exact d _ _ i
def kc.free(h:kc w B p3 p4 p5 bm so N){k a t fr}(b:w.heap[k]?=U (.cells a t fr))(g:t≠24)(j:t≠3):wm k p4 bm so:=by
 obtain⟨l,d,i,_⟩:=h.map;refine⟨λe=>?_,λe=>?_,zT h.row λc f e=>?_⟩;subst e;rw[h.h4]at b;cases b;exact g rfl
 grind
 grind
def kc.low(h:kc w B p3 p4 p5 bm so N){k}(a:k<B):wm k p4 bm so:=⟨λe=>by have:=h.b4;omega,λe=>by have:=h.b6;omega,λe=>by have:=(h.row.lt k e).1;omega⟩
def kc.Q4(h:kc w B p3 p4 p5 bm so N):p4<w/\bm<w:=⟨(Ω.1 h.h4).1,h.map.lt⟩
def kc.ne(h:kc w B p3 p4 p5 bm so N):p4≠bm/\so.ownBlock≠U p4/\so.ownBlock≠U bm:=by
 obtain⟨d,b,a,_⟩:=h.map;refine⟨λe=>?_,zT h.row λc f e=>?_,zT h.row λc f e=>?_⟩;subst e;have:=h.h4;rw[a]at this;cases this
 rw[h.h4]at e;cases e
 grind
def Kb(h:kc w B p3 p4 p5 bm so N)(t:cz w w' p4 bm so so')(e:B<=w):Z B w w':=⟨t.os,t.tape,t.output,t.size,λk d=>by obtain⟨a,b,c⟩:=h.low d;exact t.block k (by omega) a b c⟩
def Kc{e size n:Nat}{v xs B'}(h:kc w B p3 p4 p5 bm so N)(t:cz w w' p4 bm so so')(f:w.ownsRow B' e size v n xs)(m:e≠24)(l:e≠3):w'.ownsRow B' e size v n xs:=
 aS f λg i=>by
  have d:=(f.lt g i).2;obtain⟨_,⟨rfl,_⟩|⟨p,o,k,rfl,q,j,_⟩⟩:=f;cases i
  cases i
  obtain⟨a,b,c⟩:=h.free j m l;exact t.block p d a b c
end
end
section
variable(w:Y)(a:Option Addr)(n:Nat)(s:ZY)(m b:Nat)
def qw(w:Y)(b:Nat)(h:PH):Prop:=∃c r wi d,w b=U c/\w (b,1)=U r/\w (b,2)=U wi/\w (b,3)=U d/\sa w c h.cells/\eI w r h.roots/\n9 w wi h.aA/\n9 w d h.done
def qw.below{w w':Y}{b h}(a:Z w w w')(e:qw w b h):qw w' b h:=by
 obtain⟨c,r,f,d,c0,c1,c2,c3,i,g,h3,h4⟩:=e;refine⟨c,r,f,d,?_,?_,?_,?_,i.below a,g.below a,h3.below a,h4.below a⟩
 all_goals rw[a.cell (az c0)];assumption
def dq(e):Z2 prog 219 #[.bool ξ,Δ Ξ e] w λr w'=>r=.returned (.tuple #[])/\w'=w:=by
 go_enter (fU func219 rfl),ntmps219
 go_wp2
 go_end0;exact⟨rfl,rfl⟩
def sI:Z2 prog 181 #[.agg #[Δ Ξ 0,.slice a n m]] w λe w'=>e=.returned (.iface 264<|.agg #[Δ Ξ 0,.slice a n m])/\Z w w w':=by
 go_enter (fU func181 rfl),ntmps181
 go_wp2
 go_ret;exact⟨rfl,((ω _ _).alloc .refl _)⟩
def sJ:Z2 prog 181 #[.agg #[Δ Ξ 1,.slice a n m]] w λe w'=>e=.returned (.iface 265<|.agg #[Δ Ξ 1,.slice a n m])/\Z w w w':=by
 go_enter (fU func181 rfl),ntmps181
 go_wp2
 go_ret;exact⟨rfl,((ω _ _).alloc .refl _)⟩
def Oc(name)(f:Nat)(h:name= "caracole/heap.least"/\f=317\/name= "caracole/heap.most"/\f=319\/name= "caracole/heap.keeps"/\f=316\/name= "caracole/heap.loses"/\f=318):
 (Y2 463 264 (.agg #[Δ Ξ 0,s]) name).run prog w=.ok (f,.agg #[Δ Ξ 0,s]) w:=by
 obtain⟨rfl,rfl⟩|⟨rfl,rfl⟩|⟨rfl,rfl⟩|⟨rfl,rfl⟩:=h<;>kernel_rfl
def Od(name)(f:Nat)(h:name= "caracole/heap.least"/\f=323\/name= "caracole/heap.most"/\f=325\/name= "caracole/heap.keeps"/\f=322\/name= "caracole/heap.loses"/\f=324):
 (Y2 463 265 (.agg #[Δ Ξ 1,s]) name).run prog w=.ok (f,.agg #[Δ Ξ 1,s]) w:=by
 obtain⟨rfl,rfl⟩|⟨rfl,rfl⟩|⟨rfl,rfl⟩|⟨rfl,rfl⟩:=h<;>kernel_rfl
def Oe:Z2 prog 317 #[.agg #[Δ Ξ 0,.slice a n m]] w λe w'=>e=.returned (Δ Ξ 0)/\Z w w w':=by
 go_enter (fU func317 rfl),ntmps317
 go_wp2
 go_ret;exact⟨rfl,((ω _ _).alloc .refl _)⟩
def Wf:Z2 prog 319 #[.agg #[Δ Ξ 0,.slice a n m]] w λe w'=>e=.returned (Δ Ξ 4)/\Z w w w':=by
 go_enter (fU func319 rfl),ntmps319
 go_wp2
 go_ret;exact⟨rfl,((ω _ _).alloc .refl _)⟩
def Of:Z2 prog 323 #[.agg #[Δ Ξ 1,.slice a n m]] w λe w'=>e=.returned (Δ Ξ 1)/\Z w w w':=by
 go_enter (fU func323 rfl),ntmps323
 go_wp2
 go_ret;exact⟨rfl,((ω _ _).alloc .refl _)⟩
def Wh:Z2 prog 325 #[.agg #[Δ Ξ 1,.slice a n m]] w λe w'=>e=.returned (Δ Ξ 1)/\Z w w w':=by
 go_enter (fU func325 rfl),ntmps325
 go_wp2
 go_ret;exact⟨rfl,((ω _ _).alloc .refl _)⟩
def Og:Z2 prog 318 #[.agg #[Δ Ξ 0,.slice a n m],.map<|U b] w λe w'=>e=.returned (.bool ξ)/\Z w w w':=by
 go_enter (fU func318 rfl),ntmps318
 go_wp2
 go_ret;exact⟨rfl,((ω _ _).alloc .refl _)⟩
def afa(l v)(h:bk w b l):Z2 prog 180 #[.map (U b),eB v] w λe w'=>e=.returned (.bool<|has l v)/\Z w w w':=by
 obtain⟨k,n⟩:=v;unfold eB;dsimp only;by_cases c:k=1
 ·subst c;have f:=ke n<|h.of_block (w':=w.alloc<|Ψ #[Δ Ξ 1,Δ Ξ n] 50)<|θ w _ b h.lt;have a:has l (1,n)=decide (n∈l):=by unfold has;simp
  rw[a];have g:=V h;clear a h;generalize decide (n∈l)=t at f⊢
  go_enter (fU func180 rfl),ntmps180
  go_wp2
  go_ret;exact⟨rfl,((ω _ _).alloc .refl _)⟩
 ·have a:has l (k,n)=M:=by unfold has;simp[c]
  rw[a];have d:(k==1)=ξ:=by simp[c]
  clear a h
  go_enter (fU func180 rfl),ntmps180
  go_wp2
  go_ret;exact⟨rfl,((ω _ _).alloc .refl _)⟩
def Oh(l v vs)(h:bk w b l)(hs:eI w s (v::vs)):Z2 prog 324 #[.agg #[Δ Ξ 1,s],.map<|U b] w λe w'=>e=.returned (.bool<|!has l v)/\Z w w w':=by
 obtain⟨a,m,rfl,u,t,k⟩:=hs;obtain⟨p,q⟩:=v;obtain⟨bv,o,rfl,hb,d⟩:=k (by simp);obtain⟨r,i⟩:=d 0 p q rfl;have c:=af w<|Ψ #[Δ Ξ 1,.slice (bv,o) ((p,q)::vs).length m] 265;have e1:=cG c r hb;have e2:=cG c i hb;simp only[Nat.zero_mul,Nat.add_zero]at e1 e2;have f:(0:Int)<(((p,q)::vs).length:Int):=by simp
 have j:=V<|h.below c;generalize ((p,q)::vs).length=n at c e1 e2 f j⊢;clear h d k r i
 go_enter (fU func324 rfl),ntmps324
 go_wp2_with fail
 refine(afa _ b l (p,q) j.out).mono ?_;rintro e x ⟨rfl,g⟩
 go_wp2_with fail
 go_ret;exact⟨rfl,c.trans<|g.mono<|by simp⟩
def I1:Z2 prog 261 #[.iface 264 (.agg #[Δ Ξ 0,.slice a n m])] w λe w'=>e=.returned (.slice a n m)/\Z w w w':=by
 have b:∀w:Y,(ZE (.iface 264<|.agg #[Δ Ξ 0,.slice a n m]) 208 264 M).run prog w=.ok (.tuple #[.agg #[Δ Ξ 0,.slice a n m],.bool M]) w:=λw=>by kernel_rfl
 go_enter (fU func261 rfl),ntmps261
 go_wp2
 go_ret;exact⟨rfl,((ω _ _).alloc .refl _)⟩
end
def EX{h n}(e:Ik h n=0):∃(i:Nat) (k:Int) (vs:List HV),n=(i:Int)/\h.cells[i]?=U (k,vs)/\k≠3:=by
 unfold Ik at e
 grind
def I2(w b h n)(l:qw w b h)(A:h.cells.length<=1000000)(e:Ik h n=0):Z2 prog 221 #[YI (U ⟨b,0,I⟩),Δ Ξ n] w λe w'=>e=.returned (.tuple #[])/\Z w.heap.size w w':=by
 obtain⟨i,k,q,rfl,g,h3⟩:=EX e;obtain⟨c,r,y,d,c0,c1,c2,c3,t,_⟩:=l;obtain⟨a,m,rfl,z,u,j⟩:=t;have hi:=(Θ.1 g).1;obtain⟨bc,o,rfl,hb,f⟩:=j (by omega);obtain⟨B,_⟩:=f i k q g;have v:¬((i:Int)<0):=by omega
 have p:¬((h.cells.length:Int)<=(i:Int)):=by omega
 have s:(i:Int)<(h.cells.length:Int):=by omega
 have x:(k==3)=ξ:=by simp[h3]
 clear f j e g h3
 go_enter (fU func221 rfl),ntmps221
 go_wp2_with fail
 ((with_reducible refine(dq _ _).mono ?_))
 rintro e w' ⟨rfl,rfl⟩
 go_wp2_with fail
 ((with_reducible refine(dq _ _).mono ?_))
 rintro e w' ⟨rfl,rfl⟩
 go_wp2
 go_end0;exact⟨rfl,ω _ _⟩
def pq(w b h p q)(d:qw w b h)(g:h.cells.length<=1000000)(e:uI h (p,q)=0):Z2 prog 220 #[YI (U ⟨b,0,I⟩),.agg #[Δ Ξ p,Δ Ξ q]] w λe w'=>e=.returned (.tuple #[])/\Z w.heap.size w w':=by
 have i:=V d;clear d;by_cases h0:p=0
 ·subst h0;have a:¬(q< -99)/\¬(99<q):=by simp[uI]at e;omega
  obtain⟨a,c⟩:=a;clear e
  go_enter (fU func220 rfl),ntmps220
  go_wp2_with fail
  ((with_reducible refine(dq _ _).mono ?_))
  rintro e w' ⟨rfl,rfl⟩
  go_wp2
  go_end0;exact⟨rfl,af _ _⟩
 ·by_cases a:p=1
  ·subst a;have f:Ik h q=0:=by simpa[uI]using e
   have HR:=V f;clear e f h0
   go_enter (fU func220 rfl),ntmps220
   go_wp2_with fail
   refine(I2 _ b h q (i.out.below<|af _ _) g HR.out).mono ?_;rintro e w' ⟨rfl,hw⟩
   go_wp2
   go_end0;exact⟨rfl,(af _ _).trans<|hw.mono<|by simp⟩
  ·have c:p=2/\q=0:=by
    unfold uI at e;dsimp only at e;rw[if_neg h0,if_neg a]at e;split at e
    rename_i c;split at e
    rename_i h3;exact⟨c,h3⟩;cases e
    cases e
   obtain⟨rfl,rfl⟩:=c;have j:=nc 2 0;clear e h0 a
   go_enter (fU func220 rfl),ntmps220
   go_wp2_with fail
   ((with_reducible refine(dq _ _).mono ?_))
   rintro e w' ⟨rfl,rfl⟩
   go_wp2
   go_end0;exact⟨rfl,af _ _⟩
structure ν(h:PH):Prop where
 kinds:∀c∈h.cells,(c.1=0/\c.2.length<=4)\/(c.1=1/\c.2.length=1)
 eT:∀c∈h.cells,∀v∈c.2,uI h v=0
 many:h.cells.length<=40
 four:h.roots.length=4
 roots:∀v∈h.roots,uI h v=0
 aA:h.aA=[]
 done:h.done=[]
def IG(w B bs bm so l p q)(hs:bS w B bs bm so l)(c:l.length<=1000000):
 Z2 prog 197 #[.pointer bs,.agg #[Δ Ξ p,Δ Ξ q]] w λe w'=>(∃i,e=.returned (Δ Ξ i))/\(∃a,bS w' B bs bm a (meet l (p,q))/\cz w w' bs bm so a):=by
 by_cases b:(p,q)∈l
 exact ID w B bs bm so l p q hs b;exact IF w B bs bm so l p q hs b c
def IH(l v):(meet l v).length<=l.length+1:=by unfold meet;split<;>simp
def lW(a):∀vs l,(visit a l vs).length<=l.length+vs.length
 |[],l=>by simp[visit]
 |v::vs,l=>by have:=lW a vs (if a v then meet l v else l);have b:=IH l v;simp only[visit,List.foldl_cons]at this⊢;split at this<;>split<;>simp_all<;>omega
def B2(a vs l v):visit a l (vs++[v])=if a v then meet (visit a l vs) v else visit a l vs:=by simp[visit]
def wn(f:Nat)(mv:HV->Bool):Prop:=(f=151/\mv=dy)\/(f=168/\mv=co)
def Q5(v:ZY)(bs bm:Nat)(so:ZY):Prop:=∀a n m,v=Z4 (U a) n m->0<n->wm a.block bs bm so
def wo(f F)(P:wn f F)(w)(B bs bm A E:Nat)(so v l vs)(hs:bS w B bs bm so l)(hv:eI w v vs)(hf:Q5 v bs bm so)(Q:w A=U (.func (.func f) #[] #[]))(f1:wm A bs bm so)(N:w E=U (.pointer bs))(f2:wm E bs bm so)(hl:l.length+vs.length<=1000000):
 Z2 prog 196 #[v,.pointer A,.pointer E] w λe w'=>e=.returned (.tuple #[])/\(∃d,bS w' B bs bm d (visit F l vs)/\cz w w' bs bm so d):=by
 have HV:=V hv;have HF:=V hf;have S:=V f1;have O:=V f2;obtain⟨a,m,rfl,hm,hm2,ha⟩:=hv;have X:=az Q;have T:=az N;have H1:=V Q;have H2:=V N;have HA:=V ha;clear Q N ha hf f1 f2
 go_enter (fU func196 rfl),ntmps196
 go_wp2
 go_loopw [8] (λi wr=>∃k:Nat,k<=vs.length/\i=Δ Ξ k/\∃d,bS wr B bs bm d (visit F l<|vs.take k)/\cz w wr bs bm so d) (λi _=>vs.length-(intOf i).toNat)
 case atStart=>exact⟨0,Nat.zero_le _,rfl,so,hs,cz.refl _⟩
 case round=>
  obtain⟨k,hk,rfl,d,j,g⟩:=hrel;by_cases L:k<vs.length
  ·obtain⟨ba,oa,rfl,D,C⟩:=HA.out (by omega);obtain⟨p,q,e1⟩:=ep L;have hz:=g.size;have fr:=HF.out _ _ _ rfl (by omega);obtain⟨d1,d2⟩:=C k p q e1;have c1:=(g.cell (a:=⟨ba,oa+k*2,I⟩) D fr.1 fr.2.1 fr.2.2).trans d1;have c2:=(g.cell (a:=⟨ba,oa+k*2+1,I⟩) D fr.1 fr.2.1 fr.2.2).trans d2;have H:=(g.cell (a:=⟨A,0,I⟩) X S.out.1 S.out.2.1 S.out.2.2).trans H1.out;have z:=(g.cell (a:=⟨E,0,I⟩) T O.out.1 O.out.2.1 O.out.2.2).trans H2.out;have hvl:=lW F (vs.take k) l;have am0:(vs.take k).length<=k:=Zq _ _;have hb1':A<wr:=by omega
   have o:E<wr:=by omega
   have K:=V e1;have J:=V j;have G:=V g;have FR:=V fr;clear C e1 j g fr d1 d2;have n:(visit F l<|vs.take k).length<=1000000:=by omega
   obtain⟨rfl,rfl⟩|⟨rfl,rfl⟩:=P
   ·by_cases y:dy (p,q)=M
    ·have x:=V y
     go_wp2_with fail
     refine(wd _ (p,q)).mono ?_;rintro e h ⟨rfl,c⟩;have b:=(af _ _).trans<|c.mono<|by simp
     have n1:h wr.heap.size=U (Δ Ξ p):=(c.cell (p:=⟨wr.heap.size,0,I⟩)<|by simp).trans (by go_simp);have n2:h (wr.heap.size,1)=U (Δ Ξ q):=(c.cell (p:=⟨wr.heap.size,1,I⟩)<|by simp).trans (by go_simp);have g3:=cG b z o;have W:=b.size;clear c1 c2 H z
     go_wp2_with fail
     refine(IG _ B bs bm d _ p q (J.out.below b) n).mono ?_;rintro e w4 ⟨⟨ix,rfl⟩,r,s,u⟩
     go_wp2_with fail
     exact⟨⟨k+1,by omega,by go_num,r,by rw[bW K.out,B2,if_pos x.out];exact s,G.out.trans<|(cz.bK b).trans u⟩,by simp[intOf];omega⟩
    ·have t:dy (p,q)=ξ:=by simpa using y
     have x:=V t;clear y
     go_wp2_with fail
     refine(wd _ (p,q)).mono ?_;rintro e h ⟨rfl,c⟩;have b:Z wr wr h:=(af _ _).trans<|c.mono<|by simp
     clear c1 c2 H z
     go_wp2_with fail
     exact⟨⟨k+1,by omega,by go_num,d,by rw[bW K.out,B2,if_neg (by rw[x.out];decide)];exact J.out.below b,G.out.trans<|cz.bK b⟩,by simp[intOf];omega⟩
   ·by_cases y:co (p,q)=M
    ·have x:=V y
     go_wp2_with fail
     refine(sd _ (p,q)).mono ?_;rintro e h ⟨rfl,c⟩;have b:Z wr wr h:=(af _ _).trans<|c.mono<|by simp
     have n1:h wr.heap.size=U (Δ Ξ p):=(c.cell (p:=⟨wr.heap.size,0,I⟩)<|by simp).trans (by go_simp);have n2:h (wr.heap.size,1)=U (Δ Ξ q):=(c.cell (p:=⟨wr.heap.size,1,I⟩)<|by simp).trans (by go_simp);have g3:=cG b z o;have W:=b.size;clear c1 c2 H z
     go_wp2_with fail
     refine(IG _ B bs bm d _ p q (J.out.below b) n).mono ?_;rintro e w4 ⟨⟨ix,rfl⟩,r,s,u⟩
     go_wp2_with fail
     exact⟨⟨k+1,by omega,by go_num,r,by rw[bW K.out,B2,if_pos x.out];exact s,G.out.trans<|(cz.bK b).trans u⟩,by simp[intOf];omega⟩
    ·have t:co (p,q)=ξ:=by simpa using y
     have x:=V t;clear y
     go_wp2_with fail
     refine(sd _ (p,q)).mono ?_;rintro e h ⟨rfl,c⟩;have b:Z wr wr h:=(af _ _).trans<|c.mono<|by simp
     clear c1 c2 H z
     go_wp2_with fail
     exact⟨⟨k+1,by omega,by go_num,d,by rw[bW K.out,B2,if_neg (by rw[x.out];decide)];exact J.out.below b,G.out.trans<|cz.bK b⟩,by simp[intOf];omega⟩
  ·go_wp2
   go_end0;rw[ι (by omega)]at j;exact⟨rfl,d,j,g⟩
end Kn
namespace Kn
open Go Go.RowKit Go.Shelf Md
section
attribute [local go_sem] Zf
def tb(B:Nat)(W W':Y):Prop:=Z B W W'/\∀(k:Nat) cur fr,W.heap[k]?=U (.cells cur 23 fr) ->W'.heap[k]?=U (.cells cur 23 fr)
def tb.trans{B X a b}(h:tb B X a)(k:tb B a b):tb B X b:=⟨h.1.trans k.1,λi c fr e=>k.2 i c fr<|h.2 i c fr e⟩
def tb.refl(B X):tb B X X:=⟨ω _ _,λ_ _ _ e=>e⟩
def tb.book{B:Nat}{w:Y}(d:B<=w)(W l o a)(c:w.heap.size<=l)(h:W.heap[l]?=U o)(hc:o.isCells=ξ)(hw:o.isWalk=ξ):tb B W (W.putObj l a):=⟨belowK_b d W l o a c h hc hw,λk b fr e=>(World.putObj_heap_other (by rintro rfl;rw[h]at e;cases e;cases hc)).trans e⟩
def tb.alloc{B X a}(h:tb B X a)(c:B<=a)(o):tb B X (a.alloc o):=⟨h.1.alloc c o,λk b fr e=>(θ a o k (Ω.1<|h.2 k b fr e).1).trans<|h.2 k b fr e⟩
def N8{a w:Y}{row}(h:a.grownBy w row):a.grownBy w.drew row:=⟨h.os,h.tape,h.output,h.size,h.block⟩
def II(w)(b:Nat):Z2 prog 198 #[.pointer b] w λe w'=>e=.returned (.func (.func 231) #[] #[.pointer w.heap.size])/\w'=w.alloc (Ψ #[.pointer b] 104):=by
 go_enter (fU func198 rfl),ntmps198
 go_wp2
 go_ret;exact⟨rfl,rfl⟩
def three(g:GH):List (List HV):=[g.roots,g.done,g.aA]
def Dx:∀(b:List (List HV)) k l j,b[k]?=U l->j<l.length->((b.take k).flatten++l.take j).length<b.flatten.length
 |[],k,l,j,h,_=>by simp at h
 |a::b,0,l,j,h,hj=>by grind
 |a::b,k+1,l,j,h,hj=>by
  have:=Dx b k l j (by simpa using h) hj
  grind
def uP(g):(three g).flatten=cJ g:=by simp[three,cJ]
def ET{a:List (List HV)}{k l}(h:a[k]?=U l):(a.take<|k+1).flatten=(a.take k).flatten++l.take l.length:=by rw[List.take_add_one,h];simp
def EU(n)(hn:1<=n)(l b bg:Nat)(g)(J Jx:List HV->Y->Prop)(W0 W:Y)(hJ:AbidesFrom W J) (hY:∀a x W1,J a W1->a.length<(cJ g).length->YieldAt Fence.wide (n-1) prog l #[eB x] W1 λe z=>
 (e=.returned (.bool M)/\J (a++[x]) z/\tb W0 W1 z)\/(e=.returned (.bool ξ)/\Jx (a++[x]) z)) (hbg:W bg=U (.pointer b)) (hg:mi W0 b g) (A:Z W0 W0 W) (h0:J [] W):
 CallsIn Fence.wide n prog 231 #[.func (.yield l) #[] #[],.pointer bg] W λe z=>(∃v,e=.returned v)/\
  ((∃ys,ys=cJ g/\J ys z)\/(∃a,True/\Jx a z)):=by
 obtain⟨n0,o0,r0,wi,d0,m0,c0,c1,c2,c3,c4,c5,_,_,h3,h4,h5,_⟩:=hg;have H3:=V h3;have H4:=V h4;have H5:=V h5;obtain⟨ar,f,rfl,_,_,_⟩:=h3;obtain⟨aw,o,rfl,_,_,_⟩:=h4;obtain⟨ad,m,rfl,_,_,_⟩:=h5;have hb:=az c0;have f2:=cG A c2 hb;have f3:=cG A c3 hb;have f4:=cG A c4 hb;have ard:=az hbg;have hb':=Nat.lt_of_lt_of_le hb A.size;have HY:=V hY;clear hY c0 c1 c2 c3 c4 c5;refine callsIn_of_wp (fU func231 rfl) rfl trivial ?_ rfl;simp only[ntmps231,YO,η,ZM,Nat.reduceAdd,Nat.reduceSub,Y1,Y0,YN,YW,YD,YL]
 gi_wp2_with fail
 refine wpIn_wide.2 ?_
 go_region_held3 (λT=>T bg=U (.pointer b)/\T (b,2)=U (.slice ar g.roots.length f)/\T (b,3)=U (.slice aw g.aA.length o)/\T (b,4)=U (.slice ad g.done.length m)) (go_keep) (fail)
 gi_wp2_with fail
 have hz0:=A.size;have F:tb W0 W ((W.alloc<|Ψ #[.slice ar g.roots.length f,.slice ad g.done.length m,.slice aw g.aA.length o] 23).drew):=by have:=(tb.refl W0 W).alloc hz0<|Ψ #[.slice ar g.roots.length f,.slice ad g.done.length m,.slice aw g.aA.length o] 23;exact⟨this.1.drew,this.2⟩
 have t:J [] ((W.alloc<|Ψ #[.slice ar g.roots.length f,.slice ad g.done.length m,.slice aw g.aA.length o] 23).drew):=hJ _ _ _ I h0 (N8<|Zv W _ I) (λr e=>by cases e);have hx:((W.alloc<|Ψ #[.slice ar g.roots.length f,.slice ad g.done.length m,.slice aw g.aA.length o] 23).drew).heap[W.heap.size]?=U (Ψ #[.slice ar g.roots.length f,.slice ad g.done.length m,.slice aw g.aA.length o] 23 (0,0)):=ο W _;have E:W.heap.size<((W.alloc<|Ψ #[.slice ar g.roots.length f,.slice ad g.done.length m,.slice aw g.aA.length o] 23).drew).heap.size:=by simp
 generalize (W.alloc _).drew=W9 at F t hx E⊢;have hL:∀k:Nat,k<3->∃ax mx l,(three g)[k]?=U l/\(∀X:Y,X.heap[W.heap.size]?=U (Ψ #[.slice ar g.roots.length f,.slice ad g.done.length m,.slice aw g.aA.length o] 23 (0,0)) ->X (W.heap.size,k)=U (.slice ax l.length mx))/\eI W0 (.slice ax l.length mx) l:=by
  intro k hk
  match k,hk with
  |0,_=>exact⟨ar,f,g.roots,rfl,λX e=>by simp[R,e],H3.out⟩
  |1,_=>exact⟨ad,m,g.done,rfl,λX e=>by simp[R,e],H5.out⟩
  |2,_=>exact⟨aw,o,g.aA,rfl,λX e=>by simp[R,e],H4.out⟩
 have HL:=V hL;have HX:=V hx;clear hL hx f2 f3 f4
 gi_loopw [24] (λi wr=>∃k:Nat,k<=3/\i=Δ Ξ k/\J ((three g).take k).flatten wr/\tb W0 W9 wr) (λi _=>3-(intOf i).toNat)
 case atStart=>exact⟨0,by omega,rfl,by simpa using t,tb.refl _ _⟩
 case round=>
  obtain⟨k,hk,rfl,y,u⟩:=hrel;clear t;by_cases D:k<3
  ·obtain⟨ax,mx,P,C,B,JF⟩:=HL.out k D;have hcw:=B wr<|u.2 _ _ _ HX.out;obtain⟨ax',mx',he,hmx,N4,H⟩:=JF;cases he
   have HA:=V H;have G:=V C;have N:=Nat.lt_of_lt_of_le E u.1.size;have w:decide ((k:Int)<3)=M:=by simp;omega
   clear B H C
   gi_wp2_with fail
   clear w
   gi_loopw [30] (λi wr=>∃j:Nat,j<=P.length/\i=Δ Ξ j/\J (((three g).take k).flatten++P.take j) wr/\tb W0 W9 wr) (λi _=>P.length-(intOf i).toNat)
   case atStart=>exact⟨0,by omega,rfl,by simpa using y,u⟩
   case round=>
    obtain⟨j,hj,rfl,h,s⟩:=hrel;clear y hcw N;by_cases d:j<P.length
    ·obtain⟨ba,oa,e,hba,O⟩:=HA.out (by omega);cases e
     obtain⟨p,q,e1⟩:=ep d;have Q:=A.trans<|F.1.trans s.1;obtain⟨d1,d2⟩:=(O.below Q hba) j p q e1;have c:=Dx _ _ _ _ G.out d;rw[uP]at c;have L:=hJ _ _ (wr.alloc<|Ψ #[Δ Ξ p,Δ Ξ q] 50) I h (Zv wr _ I) (λr e=>by cases e);obtain⟨fn,tmps,S,body,hy,hR⟩:=HY.out _ (p,q) _ L c;unfold eB at hy;dsimp only at hy;have E1:=V e1;have hsz:=Q.size;clear O e1 c L h
     gi_wp2_with fail
     refine hR.mono ?_;rintro e W3 (⟨rfl,hJ3,w⟩|⟨rfl,K⟩)
     ·gi_wp2_with fail
      go_roundw
      case rel=>exact⟨j+1,by omega,by go_num,by rw[bW E1.out,<-List.append_assoc];exact hJ3,(s.alloc hsz _).trans w⟩
      case measure=>simp[intOf];omega
     ·gi_wp2_with fail
      refine bodyPost_ret (results_none rfl _ _ _) rfl ?_;exact⟨⟨_,rfl⟩,.inr ⟨_,trivial,K⟩⟩
    ·have hje:j=P.length:=by omega
     subst hje;rw[<-ET G.out]at h;clear d
     gi_wp2_with fail
     exact⟨⟨k+1,by omega,by go_num,h,s⟩,by simp[intOf];omega⟩
  ·have hke:k=3:=by omega
   subst hke;clear D
   gi_wp2_with fail
   go_end0;refine⟨⟨_,rfl⟩,.inl ⟨_,rfl,?_⟩⟩;rw[<-uP];exact y
def wu(n)(k:1<=n)(b c:Nat)(g)(w0 w:Y)(hb:Z w0 w0 w)(a:w c=U (.pointer b))(i:mi w0 b g):
 SeqStopsK Fence.wide n prog 231 #[.pointer c] (λx=>#[eB x]) (tb w0) (λe=>e=cJ g) (λ_=>True) (cJ g).length w:=λl J j W d h m f h0=>
 EU n k l b c g J j w0 W h f (cG d a<|az a) i (hb.trans<|d.mono hb.size) h0
end
section
attribute [local go_sem] Zf
structure RS(w W:Y)(f:Nat)(so:ZY)(l:List HV):Prop where
 scan:bS W w (w.heap.size+1+1) (w.heap.size+1) so l
 c1:W.heap[w.heap.size]?=U (Ψ #[.func (.func f) #[] #[]] 181 (0,0))
 c2:W.heap[w.heap.size+1+1+1]?=U (Ψ #[.pointer (w.heap.size+1+1:Nat)] 106 (0,0))
 cf:W.heap[w.heap.size+1+1+1+1]?=U (Ψ #[.func (.func 196) #[] #[.pointer w.heap.size,.pointer (w.heap.size+1+1+1:Nat)]] 232 (0,0))
 below:Z w w W
section
variable{w W W':Y}{f:Nat}{so so':ZY}{l l':List HV}
def RS.uR(h:RS w W f so l):wm w (w.heap.size+1+1) (w.heap.size+1) so:=h.scan.free h.c1 (by simp) (by simp)
def RS.uS(h:RS w W f so l):wm (w.heap.size+1+1+1) (w.heap.size+1+1) (w.heap.size+1) so:=h.scan.free h.c2 (by simp) (by simp)
def RS.IJ(h:RS w W f so l):wm (w.heap.size+1+1+1+1) (w.heap.size+1+1) (w.heap.size+1) so:=h.scan.free h.cf (by simp) (by simp)
def RS.IK(h:RS w W f so l):W w.heap.size=U (.func (.func f) #[] #[]):=by simp[R,h.c1]
def RS.zJ(h:RS w W f so l):W (w.heap.size+1+1+1:Nat)=U (.pointer (w.heap.size+1+1:Nat)):=by simp[R,h.c2]
def RS.zK(h:RS w W f so l):W (w.heap.size+1+1+1+1:Nat)=U (.func (.func 196) #[] #[.pointer w.heap.size,.pointer (w.heap.size+1+1+1:Nat)]):=by simp[R,h.cf]
def RS.to(h:RS w W f so l)(hs:bS W' w (w.heap.size+1+1) (w.heap.size+1) so' l')(a:cz W W' (w.heap.size+1+1) (w.heap.size+1) so so'):RS w W' f so' l':=
 ⟨hs,(a.block _ (Ω.1 h.c1).1 h.uR.1 h.uR.2.1 h.uR.2.2).trans h.c1,(a.block _ (Ω.1 h.c2).1 h.uS.1 h.uS.2.1 h.uS.2.2).trans h.c2,
   (a.block _ (Ω.1 h.cf).1 h.IJ.1 h.IJ.2.1 h.IJ.2.2).trans h.cf,h.below.trans (a.below h.scan h.below.size)⟩
def RS.low(h:RS w W f so l)(a:Z W W W'):RS w W' f so l:=h.to (h.scan.below a)<|cz.bK a
def RS.grown(h:RS w W f so l){row B}(u:w.heap.size+1<B)(i:W.grownBy W' row)(n:∀r,row=U r->B<=r/\∃o,W.heap[r]?=U o/\o.isCells=ξ):RS w W' f so l:=by
 have a:∀(k:Nat) (b:Array ZY) (t:TypeId) (fr:Nat×Nat),W.heap[k]?=U (.cells b t fr) ->W'.heap[k]?=W.heap[k]?:=λk b t fr m=>
  i.block k (Ω.1 m).1 (λe=>by
   obtain⟨_,o,c,hc⟩:=n k e.symm;rw[m]at c;cases c
   cases hc)
 obtain⟨q,p,hb,c,j⟩:=h.scan;refine⟨⟨q,p,(a _ _ _ _ hb).trans hb,aS c λg e=>?_,j.of_block (i.block _ j.lt λe=>?_)⟩,(a _ _ _ _ h.c1).trans h.c1,(a _ _ _ _ h.c2).trans h.c2,(a _ _ _ _ h.cf).trans h.cf,
  h.below.grown i h.below.size (λk e=>by have:=(n k e).1;omega)⟩
 obtain⟨_,⟨rfl,_⟩|⟨v,s,b,rfl,_,d,_⟩⟩:=c
 ·cases e
 cases e
 exact a _ _ _ _ d
 grind
def RS.keeps(h:RS w W f so l)(c:cz W W' (w.heap.size+1+1) (w.heap.size+1) so so'){B}(j:w.heap.size+1<B):KeepsFrom B W W':=
 ⟨c.size,λk o i a hc=>by
   refine(c.block k (Ω.1 a).1 (λe=>?_) (by omega) λe=>?_).trans a;subst e;rw[h.scan.2.2.1]at a;cases a
   cases hc
   obtain⟨_,⟨rfl,_⟩|⟨m,g,d,rfl,_,b,_⟩⟩:=h.scan.2.2.2.1
   ·cases e
   cases e
   rw[b]at a;cases a
   cases hc⟩
def RS.kps(h:RS w W f so l)(b:cz W W' (w.heap.size+1+1) (w.heap.size+1) so so'):tb w W W':=⟨b.below h.scan h.below.size,λk c fr e=>by have a:=h.scan.free e (by simp) (by simp);exact(b.block k (Ω.1 e).1 a.1 a.2.1 a.2.2).trans e⟩
end
def N9{g a k o}(h:o.length<=k):∀f,Dm g a f k o=o
 |0=>rfl
 |f+1=>by unfold Dm;rw[Zz h]
def IL{g a k N o v}(h:o[k]?=U v)(b:k<N+1):Dm g a (N+1-k) k o=Dm g a (N+1-(k+1)) (k+1) (visit a o (cellAt g v).2):=by rw[show N+1-k=(N+1-(k+1))+1 by omega,Dm,h]
def IM(w)(f b:Nat):RS w ((((((w.alloc (Ψ #[.func (.func f) #[] #[]] 181)).alloc (.map #[] 0)).alloc (Ψ #[Z4 I 0 0,.map (U (w.heap.size+1))] 112)).alloc (Ψ #[.pointer (w.heap.size+1+1:Nat)] 106)).alloc
 (Ψ #[.func (.func 196) #[] #[.pointer w.heap.size,.pointer (w.heap.size+1+1+1:Nat)]] 232)).alloc (Ψ #[.pointer b] 104)) f (Z4 I 0 0) []:=by
 have push:∀(w:Y) (o:Obj) (k:Nat),k<w->(w.alloc o).heap[k]?=w.heap[k]?:=λw o k h=>θ w o k h;refine⟨⟨by omega,by omega,?_,OV.nil _ _,⟨#[],0,?_,rfl⟩⟩,?_,?_,?_,?_⟩;rw[push _ _ _ (by simp),push _ _ _<|by simp,push _ _ _<|by simp];have:=ο ((w.alloc<|Ψ #[.func (.func f) #[] #[]] 181).alloc<|.map #[] 0)<|Ψ #[Z4 I 0 0,.map<|U<|w.heap.size+1] 112;simpa using this;rw[push _ _ _ (by simp),push _ _ _<|by simp,push _ _ _<|by simp,push _ _ _<|by simp];have:=ο (w.alloc<|Ψ #[.func (.func f) #[] #[]] 181)<|.map #[] 0;simpa using this;rw[push _ _ _ (by simp;omega),push _ _ _ (by simp;omega),push _ _ _ (by simp;omega),push _ _ _ (by simp;omega),push _ _ _<|by simp];exact ο w _;rw[push _ _ _ (by simp),push _ _ _<|by simp];have:=ο (((w.alloc<|Ψ #[.func (.func f) #[] #[]] 181).alloc<|.map #[] 0).alloc<|Ψ #[Z4 I 0 0,.map<|U<|w.heap.size+1] 112)<|Ψ #[.pointer (w.heap.size+1+1:Nat)] 106;simpa using this;rw[push _ _ _ (by simp)];have:=ο ((((w.alloc<|Ψ #[.func (.func f) #[] #[]] 181).alloc<|.map #[] 0).alloc<|Ψ #[Z4 I 0 0,.map<|U<|w.heap.size+1] 112).alloc<|Ψ #[.pointer (w.heap.size+1+1:Nat)] 106)<|Ψ #[.func (.func 196) #[] #[.pointer w.heap.size,.pointer (w.heap.size+1+1+1:Nat)]] 232;simpa using this;exact(((((((ω _ w).alloc .refl _).alloc (by simp) _).alloc (by simp;omega) _).alloc (by simp;omega) _).alloc (by simp;omega) _).alloc (by simp;omega) _)
end
end Kn
namespace Rg
open Go
section
variable{P:Y4}{ops:Array Y8}{Q:Exit->Act->Y->Prop}{md:ZR}{S:Y->Prop}{m:Nat}
def Any(P:Y4)(md:ZR)(ops:Array Y8)(Q:Exit->Act->Y->Prop)(S:Y->Prop)(m:Nat):Nat->Array Bool->Act->Y->Prop
 |0,listed,a,w=>ZL md ops listed=[]/\Q .normal a w
 |f+1,listed,a,w=>(ZL md ops listed=[] ->Q .normal a w)/\∀i∈ZL md ops listed,wpOp P ops Q i (λa' w'=>(i<m->S w')/\Any P md ops Q S m f (listed.setIfInBounds i M) a' w') a w
def Any.out:∀{f} {listed} {a} {w},Any P md ops Q S m f listed a w->wpAny P md ops Q f listed a w
 |0,_,_,_,h=>h
 |f+1,_,_,_,h=>⟨h.1,λi hi=>YT (λ_ _ b=>b.2.out)<|h.2 i hi⟩
def fp(P:Y4)(ops:Array Y8)(S:Y->Prop)(L:Act->Prop):List Y8->Act->Prop
 |[],a=>L a
 |o::l,a=>∃v,YieldsIf P ops S o v a/\fp P ops S L l (a.put o.dst v)
def fp.nil{L a}(h:L a):fp P ops S L [] a:=h
def fp.step{L o l a v}(hw:Za o (yielded ops a.tmps)=M)(b:∀w,S w->(execOp a.eval o).run P w=.ok (.value v) w)(h:fp P ops S L l (a.put o.dst v)):fp P ops S L (o::l) a:=⟨v,.inl ⟨hw,b⟩,h⟩
def Any.rest:∀l k listed a w,m<=k->(∀j,l[j]?=ops[k+j]?) ->ZQ md ops l.length k listed=M->Zm P ops Q l a w->Any P md ops Q S m l.length listed a w
 |[],_,_,_,_,_,_,hB,h=>⟨by simpa[ZQ]using hB,h⟩
 |o::l,k,listed,a,w,hm,hl,hB,h=>by
  simp only[η,ZQ,ZP,decide_eq_true_eq]at hB;refine⟨λf=>(by grind),λi hi=>?_⟩;rw[hB.1]at hi;obtain rfl:i=k:=by simpa using hi
  have hw:wpOp P ops Q i (Zm P ops Q l) a w:=by unfold wpOp;simp only[(by simpa using (hl 0).symm)];exact h
  exact YT (λe d c=>⟨λb=>absurd b<|Nat.not_lt.2 hm,Any.rest l (i+1) _ e d (by omega) (λj=>by have:=hl<|j+1;simpa[Nat.add_assoc,Nat.add_comm 1 j]using this) hB.2 c⟩) hw
end
section
variable{P:Y4}{ops:Array Y8}{Q:Exit->Act->Y->Prop}{md:ZR}{S:Y->Prop}{m:Nat}
def pA(P:Y4)(ops:Array Y8)(Q:Exit->Act->Y->Prop)(S:Y->Prop)(K:Act->Y->Prop):Nat->Nat->Act->Y->Prop
 |0,_,a,w=>K a w
 |c+1,k,a,w=>wpOp P ops Q k (λa' w'=>S w'/\pA P ops Q S K c (k+1) a' w') a w
def pA.zero{K k a w}(h:K a w):pA P ops Q S K 0 k a w:=h
def pA.succ{K c k a w}(h:wpOp P ops Q k (λa' w'=>S w'/\pA P ops Q S K c (k+1) a' w') a w):pA P ops Q S K (c+1) k a w:=h
def Any.afK{K g}(b:∀listed a w,ZQ md ops g m listed=M->K a w->Any P md ops Q S m g listed a w):
 ∀c k listed a w,k+c=m->ZQ md ops (c+g) k listed=M->pA P ops Q S K c k a w->Any P md ops Q S m (c+g) listed a w
 |0,k,listed,a,w,hk,hB,h=>by
  obtain rfl:k=m:=by omega
  rw[Nat.zero_add]at hB⊢;exact b listed a w hB h
 |c+1,k,listed,a,w,hk,hB,h=>by
  rw[Nat.add_right_comm]at hB⊢;simp only[ZQ,ZP,decide_eq_true_eq]at hB;refine⟨λj=>(by grind),λi hi=>?_⟩;rw[hB.1]at hi;obtain rfl:i=k:=by simpa using hi
  exact YT (λf e d=>⟨λ_=>d.1,Any.afK b c (i+1) _ f e (by omega) hB.2 d.2⟩) h
end
section
variable{P:Y4}{ops:Array Y8}{Q:Exit->Act->Y->Prop}{md:ZR}{S:Y->Prop}{m:Nat}
def Down(md:ZR)(ops:Array Y8)(listed:Array Bool):Prop:=∀j oj,ops[j]?=U oj->listed.getD j ξ=M->∀e∈oj.after,ZK md e=M->listed.getD e.on ξ=M
def aaC(md:ZR)(ops:Array Y8):Nat->Nat->Nat->Bool
 |0,_,_=>ξ
 |f+1,j,i=>match ops[j]? with
  |some o=>(o.after.any λe=>ZK md e&&e.on==i)||o.after.any λe=>ZK md e&&aaC md ops f e.on i
  |none=>ξ
theorem aaB{listed:Array Bool}(hd:Down md ops listed){i:Nat}:∀(f j:Nat) oj,ops[j]?=U oj->(∀e∈oj.after,ZK md e=M->listed.getD e.on ξ=M) ->aaC md ops f j i=M->listed.getD i ξ=M
 |0,_,_,_,_,h=>by cases h
 |f+1,j,oj,hj,ha,h=>by
  simp only[aaC,hj,Bool.or_eq_true,Array.any_eq_true,ZP,beq_iff_eq]at h;obtain⟨k,c,b,a⟩|⟨k,c,b,a⟩:=h
  grind
  have g:=ha _ (Array.getElem_mem c) b;cases f with
  |zero=>cases a
  |succ f=>
   cases ho:ops[oj.after[k].on]? with
   |none=>simp[aaC,ho]at a
   |some d=>exact aaB hd (f+1) _ d ho (λe b h3=>hd _ d ho g e b h3) a
def aaJ(md:ZR)(ops:Array Y8)(n m:Nat):Bool:=(YS ops.size).all λj=>decide (j<m)||(YS n).all λi=>aaC md ops ops.size j i
def aaD{listed:Array Bool}{j t}(h:listed.getD t ξ=M):(listed.setIfInBounds j M).getD t ξ=M:=by
 by_cases e:j=t
 subst e;have b:j<listed.size:=Nat.lt_of_not_le λa=>by simp[Y6 a]at h
 simp[b]
 simp_all
def Down.set{listed}(hd:Down md ops listed){j}(f:j∈ZL md ops listed):Down md ops (listed.setIfInBounds j M):=by
 intro t g c b e a hb;by_cases d:j=t
 subst d;obtain⟨_,h,u2,u3⟩:=mem_ready.1 f;rw[c]at u2;cases u2
 exact aaD<|u3 e a hb;rw[getD_set_ne ξ d]at b;exact aaD<|hd t g c b e a hb
def Any.aaF{i o v}(hi:ops[i]?=U o)(s:i<m)(g:∀(j:Nat) o cs b,ops[j]?=U o->o.op≠.select cs b)(z:∀c a w,Q (.panic c) (a.put o.dst v) w->Q (.panic c) a w)(d:∀j k,ops[j]?=U k->m<=j->aaC md ops ops.size j i=M):
 ∀f listed a w,Down md ops listed->(∀j k,ops[j]?=U k->j≠i->listed.getD j M=ξ->(∀e∈k.after,ZK md e=M->e.on≠i) ->o.apart ops k=M) ->
  i∈ZL md ops listed->YieldsIf P ops S o v a->S w->Any P md ops Q S m f (listed.setIfInBounds i M) (a.put o.dst v) w->Any P md ops Q S m (f+1) listed a w
 |0,listed,a,w,hd,hfree,hr,hy,hS,H=>by
  refine⟨λh=>(by rw[h]at hr;cases hr),λj q=>?_⟩;by_cases e:j=i
  subst e;exact hy.wpOp hi hS ⟨λ_=>hS,H⟩;have l:=Yz q e;rw[H.1]at l;cases l
 |f+1,listed,a,w,hd,hfree,hr,hy,hS,H=>by
  refine⟨λh=>(by rw[h]at hr;cases hr),λj q=>?_⟩;by_cases e:j=i
  subst e;exact hy.wpOp hi hS ⟨λ_=>hS,H⟩;obtain⟨u1,k,u2,u3⟩:=mem_ready.1 q;have u0:=(mem_ready.1 hr).1;have p:¬listed.getD i ξ=M:=λl=>by
   obtain r|r:=Nat.lt_or_ge i listed.size
   simp[r]at u0 l;rw[u0]at l;cases l
   simp[Y6 r]at l
  have u:∀e∈k.after,ZK md e=M->e.on≠i:=λe J hb h0=>by have l:=u3 e J hb;rw[h0]at l;exact p l
  refine YT (λF D h=>?_)<|wpOp_putIf u2 (hfree j k u2 e u1 u) (λcs b=>g i o cs b hi) (λcs b=>g j k cs b u2) z hy<|H.2 j<|Yz q e;obtain⟨C,A,E⟩:=h;refine⟨A,Any.aaF hi s g z d f _ F D (hd.set q) (λt B t1 t2 x y=>?_) (Yz hr<|ζ e) C (A<|Nat.lt_of_not_le λG=>p<|aaB hd _ j k u2 u3<|d j k u2 G) ?_⟩;by_cases n:t=j
  ·subst n;exact hfree t B t1 e u1 y
  rw[getD_set_ne M (ζ n)]at x;exact hfree t B t1 t2 x y;rw[Array.setIfInBounds_comm _ _ (e)];exact E
def Any.aaE{L n g w}(b:Zi ops=M)(u:∀c a (d:Option Nat) v w,Q (.panic c) (a.put d v) w->Q (.panic c) a w)(s:aaJ md ops n m=M)(i:n<=m)(t:S w)(e:∀listed a,ZQ md ops g n listed=M->L a->Any P md ops Q S m g listed a w):
 ∀l k listed a,Down md ops listed->(∀j,j<l.length->l[j]?=ops[k+j]?) ->k+l.length=n->ZI md ops g l.length k listed=M->fp P ops S L l a->Any P md ops Q S m (l.length+g) listed a w
 |[],k,listed,a,_,_,hk,hB,h=>by
  obtain rfl:k=n:=by simpa using hk
  simp only[ZM,Nat.zero_add];exact e listed a (by simpa[ZI]using hB) h
 |o::l,k,listed,a,hd,hlk,hk,hB,⟨v,hy,h⟩=>by
  have h0:ops[k]?=U o:=by simpa using (hlk 0<|by simp).symm
  simp only[η,ZI,ZP]at hB;obtain⟨⟨y,x⟩,q⟩:=hB;have p:k<n:=by simp only[η]at hk;omega
  have f:k∈ZL md ops listed:=by simpa using y
  rw[η,Nat.add_right_comm];refine Any.aaF h0 (Nat.lt_of_lt_of_le p i) (Region.noSelect_spec b) (λc a w h=>u c a _ _ w h) (λj B r z=>?_) _ listed a w hd (Region.free_spec h0 x) f hy t ?_;have A:=List.all_eq_true.1 s j<|List.mem_range.2 (Ω.1 r).1
  grind
  exact Any.aaE b u s i t e l (k+1) _ _ (hd.set f) (λj r=>by have:=hlk (j+1) (by simp;omega);simpa[Nat.add_assoc,Nat.add_comm 1 j]using this) (by simp only[η]at hk;omega) q h
def aaH{id}(n c){l:List Y8}{a w}(S)(z:P.follows .mixedOrders=M)(r:(Zi l.toArray&&aaJ .any l.toArray n (n+c)&&ZI .any l.toArray (l.length-n) n 0 (Zh l.length ξ)&&decide (n+c<=l.length))=M)(t:∀c a (d:Option Nat) v w,Q (.panic c) (a.put d v) w->Q (.panic c) a w)(A:S w.drew)(h:fp P l.toArray S (λa'=>pA P l.toArray Q S (Zm P l.toArray Q<|l.drop<|n+c) c n a' w.drew) (l.take n) a):(Code.region id l.toArray M).wp P Q a w:=by
 simp only[ZP,decide_eq_true_eq]at r;obtain⟨⟨⟨k,f⟩,i⟩,B⟩:=r;refine wp_region_any z ?_;have b:(l.take n).length=n:=by simp;omega
 have o:(l.drop<|n+c).length=l.length-(n+c):=by simp
 have q:=Any.aaE (P:=P) (md:=.any) (ops:=l.toArray) (Q:=Q) (S:=S) (m:=n+c) (n:=n) (g:=l.length-n) (w:=w.drew) k t f (by omega) A (L:=λa'=>pA P l.toArray Q S (Zm P l.toArray Q<|l.drop<|n+c) c n a' w.drew)
  (λlisted a' e h=>?_) (l.take n) 0 (Zh l.length ξ) a (λj C y s=>?_) (λj p=>by rw[b]at p;simp[p]) (by simpa using b) (by rw[b];exact i) h
 have:=q.out;rw[b,show n+(l.length-n)=l.toArray.size by simp;omega]at this;simpa using this;have u:l.length-n=c+(l.length-(n+c)):=by omega
 rw[u]at e⊢;refine Any.afK (λlisted a w hs x=>?_) c n listed a' w.drew rfl e h;have:=Any.rest (P:=P) (md:=.any) (ops:=l.toArray) (Q:=Q) (S:=S) (m:=n+c) (l.drop<|n+c) (n+c) listed a w .refl (λj=>by simp[List.getElem?_drop]) (by rw[o];exact hs) x;rwa[o]at this;exfalso;have p:=(Ω.1 y).1;simp at p;simp[p]at s
def wp_cut{id n}{l:List Y8}{a w}(S)(b:P.follows .mixedOrders=M)(g:(Zi l.toArray&&aaJ .any l.toArray n (n+2)&&ZI .any l.toArray (l.length-n) n 0 (Zh l.length ξ)&&decide (n+2<=l.length))=M)(i:∀c a (d:Option Nat) v w,Q (.panic c) (a.put d v) w->Q (.panic c) a w)(f:S w.drew)(h:fp P l.toArray S (λa'=>wpOp P l.toArray Q n (λa1 w1=>S w1/\wpOp P l.toArray Q (n+1) (λe w2=>S w2/\Zm P l.toArray Q (l.drop<|n+2) e w2) a1 w1) a' w.drew) (l.take n) a):(Code.region id l.toArray M).wp P Q a w:=aaH n 2 S b g i f h
end
end Rg
namespace Kn
open Go Go.RowKit Go.Shelf Md
section
variable{w:Y}{B:Nat}
attribute [local go_sem] Zf
theorem zL(a:HV->Bool):∀(vs l:List HV),l.length<=(visit a l vs).length
 |[],l=>.refl
 |v::vs,l=>by
  have:=zL a vs (if a v then meet l v else l);have b:l.length<=(if a v then meet l v else l).length:=by
   split
   unfold meet;split<;>simp
   simp
  exact Nat.le_trans b this
def wn.jw{f a}(h:wn f a):uQ a:=by
 obtain⟨_,rfl⟩|⟨_,rfl⟩:=h
 exact .inl rfl;exact .inr rfl
def Wc(W:Y)(p q):eI (W.alloc<|Ψ #[Δ Ξ p,Δ Ξ q] 50) (.slice W.heap.size 1 1) [(p,q)]:=by
 refine⟨_,1,rfl,.refl,by decide,λ_=>⟨W.heap.size,0,rfl,by simp,λi k n e=>?_⟩⟩;cases i with
 |zero=>simp_all
 |succ i=>simp at e
def IN{W bs bm so l}(h:bS W B bs bm so l):wm W bs bm so:=⟨λe=>by have:=h.Q4.1;omega,λe=>by have:=h.Q4.2;omega,λe=>by have:=(h.2.2.2.1.lt _ e).2;omega⟩
def Ps{W v so l d bs bm}(h:eI w v l)(hs:bS W w bs bm so d):Q5 v bs bm so:=λa n m e h0=>by
 obtain⟨f,g,rfl,_,_,c⟩:=h;cases e
 obtain⟨b,o,e,hb,_⟩:=c h0;cases e
 exact hs.low hb
def Dy{b:Nat}{g n o m row}(hb:w.heap[b]?=U (Ψ #[n,o,row (0,0),row (0,1),row (0,2),m] 114 (0,0)))(J:RC w B n (cellsOf row 3 g.new))(H:RC w B o (cellsOf row 4 g.old))(h4:kD w B row g){p q}(hi:zH g (p,q))(K:g.new.length+g.old.length<=100000):∃x j ar l,row (p,q)=.slice ar (cellAt g (p,q)).2.length l/\w ((x:Nat),j*2)=U (Δ Ξ (cellAt g (p,q)).1)/\
 w ((x:Nat),j*2+1)=U (.slice ar (cellAt g (p,q)).2.length l)/\eI w (.slice ar (cellAt g (p,q)).2.length l) (cellAt g (p,q)).2/\x<w/\
 ∀w1,Z w w w1->Z2 prog 199 #[.pointer b,.agg #[Δ Ξ p,Δ Ξ q]] w1 λe w'=>e=.returned (.pointer ((x:Nat),j*2))/\Z w1 w1 w':=by
 have s:=(Ω.1 hb).1;obtain⟨e,r,G⟩|⟨e,r,G⟩:=hi
 dsimp only at e r G;subst e;obtain⟨i,rfl⟩:=ZD r;have hi:i<g.new.length:=by omega
 obtain⟨y,A,d⟩:=cQ hi;obtain⟨gn,t,rfl,_,k,D,_,u⟩:=J.cells (by rw[aT];omega);obtain⟨C,F⟩:=jx dW (λv=>Δ Ξ v.1) (λv=>v.2) (λ_=>rfl) _ i _<|bH (row:=row) (kind:=3) d;obtain⟨z,E⟩:=J8 d;have a:=(h4.1 _ z).reads;rw[E]at a;dsimp only at a;obtain⟨ar,l,f,_⟩:=id a;rw[(by simp[cellAt,ZO,d]:cellAt g (3,(i:Int))=(y,A))];dsimp only;rw[f]at a;refine⟨gn,i,ar,l,f,u _ _ C,?_,a,k,λw1 h=>?_⟩;rw[<-f];exact u _ _ F;have c:w1 b=U (.slice gn g.new.length t):=by rw[h.cell (p:=⟨b,0,I⟩) s];simp[R,hb,aT]
 exact zD w1 b gn g.new.length t i c hi (by omega);dsimp only at e r G;subst e;obtain⟨i,rfl⟩:=ZD r;have hi:i<g.old.length:=by omega
 obtain⟨y,A,d⟩:=cQ hi;obtain⟨gn,t,rfl,_,k,D,_,u⟩:=H.cells (by rw[aT];omega);obtain⟨C,F⟩:=jx dW (λv=>Δ Ξ v.1) (λv=>v.2) (λ_=>rfl) _ i _<|bH (row:=row) (kind:=4) d;obtain⟨z,E⟩:=B1 d;have a:=(h4.1 _ z).reads;rw[E]at a;dsimp only at a;obtain⟨ar,l,f,_⟩:=id a;rw[(by simp[cellAt,ZO,d]:cellAt g (4,(i:Int))=(y,A))];dsimp only;rw[f]at a;refine⟨gn,i,ar,l,f,u _ _ C,?_,a,k,λw1 h=>?_⟩;rw[<-f];exact u _ _ F;have c:w1 (b,1)=U (.slice gn g.old.length t):=by rw[h.cell (p:=⟨b,1,I⟩) s];simp[R,hb,aT]
 exact ol w1 b gn g.old.length t i c hi (by omega)
def EV{b g}(k:dm w B b g){p q}(hi:zH g (p,q))(d:g.new.length+g.old.length<=100000):∃a j ar c,w ((a:Nat),j*2)=U (Δ Ξ (cellAt g (p,q)).1)/\
 w ((a:Nat),j*2+1)=U (.slice ar (cellAt g (p,q)).2.length c)/\eI w (.slice ar (cellAt g (p,q)).2.length c) (cellAt g (p,q)).2/\a<w/\
 ∀w1,Z w w w1->Z2 prog 199 #[.pointer b,.agg #[Δ Ξ p,Δ Ξ q]] w1 λe w'=>e=.returned (.pointer ((a:Nat),j*2))/\Z w1 w1 w':=by
 obtain⟨n,o,m,row,l,hb,i,f,h3,h4⟩:=k;obtain⟨a,j,ar,c,_,h⟩:=Dy hb i f h4 hi d;exact⟨a,j,ar,c,h⟩
def po(f y)(L:wn f y)(w B b g more ms)(hg:dm w B b g)(hv:eI w more ms)(hc:jB g)(hs:∀v∈cJ g,zI g v)(hm:∀v∈ms,zI g v)(hml:ms.length<=100000)(hn:g.new.length+g.old.length<=100000)(hsl:(cJ g).length<=100000)(hvl:∀c∈g.new++g.old,c.2.length<=100000):
 Z2 prog 150 #[.pointer b,.func (.func f) #[] #[],more] w λe w'=>(∃bs bm so,e=.returned (.pointer (bs:Nat))/\bS w' w bs bm so (bV g y ms))/\Z w w w':=by
 have hmm:=@run_makeMap prog;have HG:=V hg;have HV:=V hv;have HS:=V hs;have HM:=V hm;clear hs hm;obtain⟨am,mm,rfl,_,_,_⟩:=hv;refine(Zc (n:=6)).1 ?_;refine callsIn_of_wp_marks (fU func150 rfl) rfl trivial ?_ rfl;simp only[ntmps150,YO,η,ZM,Nat.reduceAdd,Nat.reduceSub,Y1,Y0,YN,YW,YD,YL]
 gi_wp2_with (refine⟨trivial,?_⟩;gi_at_call 198;refine(Zc.2<|II _ b).mono ?_;rintro e w' ⟨rfl,rfl⟩)
 clear hmm;have h0:=IM w f b;have hbg:((((((w.alloc (Ψ #[.func (.func f) #[] #[]] 181)).alloc (.map #[] 0)).alloc (Ψ #[Z4 I 0 0,.map (U (w.heap.size+1))] 112)).alloc (Ψ #[.pointer (w.heap.size+1+1:Nat)] 106)).alloc
  (Ψ #[.func (.func 196) #[] #[.pointer w.heap.size,.pointer (w.heap.size+1+1+1:Nat)]] 232)).alloc (Ψ #[.pointer b] 104)) (w.heap.size+1+1+1+1+1:Nat)=U (.pointer b):=by go_simp
 have Xe:((((((w.alloc (Ψ #[.func (.func f) #[] #[]] 181)).alloc (.map #[] 0)).alloc (Ψ #[Z4 I 0 0,.map (U (w.heap.size+1))] 112)).alloc (Ψ #[.pointer (w.heap.size+1+1:Nat)] 106)).alloc
  (Ψ #[.func (.func 196) #[] #[.pointer w.heap.size,.pointer (w.heap.size+1+1+1:Nat)]] 232)).alloc (Ψ #[.pointer b] 104)).heap.size=w.heap.size+1+1+1+1+1+1:=by simp
 generalize (((((w.alloc (Ψ #[.func (.func f) #[] #[]] 181)).alloc (.map #[] 0)).alloc (Ψ #[Z4 I 0 0,.map (U (w.heap.size+1))] 112)).alloc (Ψ #[.pointer (w.heap.size+1+1:Nat)] 106)).alloc
  (Ψ #[.func (.func 196) #[] #[.pointer w.heap.size,.pointer (w.heap.size+1+1+1:Nat)]] 232)).alloc (Ψ #[.pointer b] 104)=w6 at h0 hbg Xe⊢
 have Z6:=V Xe;have N:w.heap.size+1<w6:=by omega
 have anh:w.heap.size<=w6:=by omega
 clear Xe;refine wpIn_rangeFunc_ownH rfl (by omega) (gf:=231) (lb:=#[.pointer (w.heap.size+1+1+1+1+1:Nat)]) rfl trivial (enters_of (fU func231 rfl) (by kernel_rfl) rfl)
  (wu 5 (by omega) b (w.heap.size+1+1+1+1+1) g w w6 h0.below hbg HG.out.reads) tb.trans (tb.book anh) (ω _ _) (λ_=>rfl)
  (λF W=>∃so,RS w W f so<|visit y [] F) (λ_ _ _=>False)
  (λs A C row hs' hg' hr=>by obtain⟨so,h⟩:=hs';exact⟨so,h.grown N hg' hr⟩) (λ_ _ _ _ _ h _ _=>h) ⟨_,h0⟩
  (λx a' W=>∃Q,W.heap[Q]?=U (Ψ #[Δ Ξ x.1,Δ Ξ x.2] 50 (0,0))/\a'={tmps:=#[.pointer b,.func (.func f) #[] #[],.slice am ms.length mm,undef,.pointer w.heap.size,undef,YI I,.pointer (w.heap.size+1+1+1:Nat),.pointer (w.heap.size+1+1+1+1:Nat),.pointer (Q:Nat),undef,.map<|U<|w.heap.size+1,.agg #[Z4 I 0 0,.map<|U<|w.heap.size+1],.pointer (w.heap.size+1+1:Nat),.func (.func 196) #[] #[.pointer w.heap.size,.pointer (w.heap.size+1+1+1:Nat)],.pointer b,.func (.func 231) #[] #[.pointer (w.heap.size+1+1+1+1+1:Nat)],eB x,undef,undef,undef,undef,undef,undef,undef,undef,undef,undef,undef,undef,undef,undef,undef,undef,undef,undef,undef,undef,undef,undef,undef,undef,undef,undef,undef,undef,undef,undef,undef],defers:=[]})
  (λx a' s A C row hs' hg' hr=>by
    obtain⟨Q,h1,h2⟩:=hs';refine⟨Q,(hg'.block Q (Ω.1 h1).1 λe=>?_).trans h1,h2⟩;obtain⟨_,o,ho,hc'⟩:=hr Q e.symm;rw[h1]at ho;cases ho
    cases hc') ?assign ?body ?done ?stop
 case assign=>
  rintro l F ⟨p,q⟩ W K ⟨so,P⟩ H;unfold eB
  gi_wp2
  exact H _ _ ((KeepsOthers.alloc _ _).from _) ((tb.refl _ _).alloc P.below.size _) ⟨so,P.low<|af W _⟩ ⟨W.heap.size,ο W _,rfl⟩
 case body=>
  rintro l F ⟨p,q⟩ a' W hl ⟨r,hr⟩ ⟨so,P⟩ ⟨Q,T,rfl⟩ hlt;have cf:=P.zK;have x0:W (Q:Nat)=U (Δ Ξ p):=by simp[R,T]
  have x1:W ((Q:Nat),1)=U (Δ Ξ q):=by simp[R,T]
  have G:=V P;clear hr T P;unfold eB
  gi_wp2_with fail
  refine⟨trivial,?_⟩;have hb1:=af W<|Ψ #[Δ Ξ p,Δ Ξ q] 50;have E:=G.out.low hb1;have am0:=lW y F [];simp only[ZM,Nat.zero_add]at am0;refine(CallsIn.inRound l<|Zc.2<|wo f y L _ w _ _ _ _ so _ (visit y [] F) [(p,q)] E.scan (Wc W p q) (λa n m e _=>by cases e;exact IN G.out.scan) E.IK E.uR E.zJ E.uS (by simp;omega)).mono ?_;rintro e W3 ⟨rfl,so3,hs3,ht3⟩
  gi_wp2_with fail
  have X:=(cz.bK (bs:=w.heap.size+1+1) (bm:=w.heap.size+1) (so:=so) hb1).trans ht3;have JF:visit y (visit y [] F) [(p,q)]=visit y [] (F++[(p,q)]):=by simp[visit]
  rw[JF]at hs3;exact⟨G.out.keeps X N,G.out.kps X,so3,G.out.to hs3 X⟩
 case done=>
  rintro D xs W hD rfl ⟨so,P⟩ H;have cf:=P.zK;have G:=V P;clear P
  gi_wp2_with fail
  refine⟨trivial,?_⟩;have am1:=lW y (cJ g) [];simp only[ZM,Nat.zero_add]at am1;refine(Zc.2<|wo f y L _ w _ _ _ _ so _ (visit y []<|cJ g) ms G.out.scan (HV.out.below<|G.out.below) (Ps HV.out G.out.scan) G.out.IK G.out.uR G.out.zJ G.out.uS<|by omega).mono ?_;rintro e W1 ⟨rfl,tU,qv,ht1⟩;have E:=G.out.to qv ht1;have hK1:=(G.out.keeps ht1 N).same D _ hD H rfl;have c21:=E.zJ;have z:=V E;have HK:=V hK1;clear E qv ht1 H hK1 cf G;have O:=((c9.nil g y).visit (vs:=cJ g) λv hv T=>HS.out v hv<|L.jw.cell T).visit (vs:=ms) λv hv T=>HM.out v hv<|L.jw.cell T;have hR:bV g y ms=Dm g y (g.new.length+g.old.length+1-0) 0 (visit y (visit y []<|cJ g) ms):=rfl;generalize visit y (visit y []<|cJ g) ms=o1 at z O hR;have HR:=V hR;have HO:=V O;clear hR O
  gi_wp2_with fail
  clear c21
  gi_loopw [10] (λi wr=>∃k:Nat,∃so o,i=Δ Ξ k/\k<=o.length/\Hid (bV g y ms=Dm g y (g.new.length+g.old.length+1-k) k o)/\Hid (RS w wr f so o)/\Hid (c9 g y o)/\Hid (wr.heap[D]?=U (.deferred<|U []))) (λi _=>g.new.length+g.old.length-(intOf i).toNat)
  case atStart=>exact⟨0,tU,o1,rfl,Nat.zero_le _,HR,z,HO,HK⟩
  case round=>
   clear z HO HK HR;obtain⟨k,so,o,rfl,hk,HR,z,HO,HK⟩:=hrel;have hol:=HO.out.len;have c2:=z.out.zJ;have hbs:=z.out.scan.2.2.1;obtain⟨aso,mso,hso,hle,_,_⟩:=aF z.out.scan.2.2.2.1;have c0:wr (w.heap.size+1+1:Nat)=U (.slice aso o.length mso):=by simp[R,hbs,hso]
   clear hbs;by_cases hlt:k<o.length
   ·obtain⟨p,q,e1⟩:=ep hlt;subst hso;obtain⟨gs,cs,e,_⟩:=z.out.scan.2.2.2.1.form (by omega);obtain rfl:aso=U ⟨gs,0,I⟩:=by injection e
    clear e;obtain⟨d1,d2,_,_,_⟩:=OV.at_ z.out.scan.2.2.2.1 e1;obtain⟨hin,_⟩:=HO.out.ok _<|Γ e1;have hcl:=hvl _<|j9 hin;obtain⟨bn,j,ar,mr,t1,t2,t3,t4,t5⟩:=EV HG.out hin hn;have cf:=z.out.zK;have J:=z.out.below;have HFV:=V<|Ps t3 z.out.scan;have HT3:=V t3;have HT5:=V t5;have E1:=V e1;clear e1 t3 t5 t1 hin;have hk0:(0:Int)<=(k:Int):=by omega
    have hk1:(k:Int)<(o.length:Int):=by omega
    gi_wp2_with fail
    refine wpIn_wide.2 ?_;have hbw:=(ω wr wr).drew;refine wp_region_noPanic ?_;refine Rg.aaH 9 4 (λx=>x (w.heap.size+1+1+1+1:Nat)=U (.func (.func 196) #[] #[.pointer w.heap.size,.pointer (w.heap.size+1+1+1:Nat)])/\x (w.heap.size+1+1+1:Nat)=U (.pointer (w.heap.size+1+1:Nat))/\x (w.heap.size+1+1:Nat)=U (.slice gs o.length mso)/\x (gs,k*2)=U (Δ Ξ p)/\x (gs,k*2+1)=U (Δ Ξ q)) (by kernel_rfl) (by kernel_rfl) (λc a d v w h=>h) ⟨cf,c2,c0,d1,d2⟩ ?_;simp only[Nat.reduceAdd,List.take_succ_cons,List.take_zero,List.drop_succ_cons,List.drop_zero]
    iterate 9
     (refine Rg.fp.step (v:=?_) (by rfl) (λu hu=>?_) ?_
      rotate_left
      (obtain⟨hu0,hu1,hu2,hu3,hu4⟩:=hu
       go_simp
       try rfl))
    refine Rg.fp.nil<|Rg.pA.succ ?_;simp only[Act.put,List.setIfInBounds_toArray,YU,YV];refine YR rfl λK H=>?_;go_simp;refine(HT5.out _<|J.trans<|hbw.mono J.size).mono ?_;rintro e w3 ⟨rfl,hb3⟩;have t:=hbw.trans<|hb3.mono<|by simp
    have q2:=((J.trans<|t.mono J.size).cell (p:=⟨bn,j*2+1,I⟩) t4).trans t2;have s3:=((z.out.low t).zK);have hz3:=t.size;have z0:=cG t cf<|az cf;have z1:=cG t c2<|az c2;have z2:=cG t c0<|az c0;have z3:=cG t d1<|az d1;have z4:=cG t d2<|az d2;refine H _ _ ⟨⟨z0,z1,z2,z3,z4⟩,Rg.pA.succ ?_⟩;clear H K;refine YR rfl λK H=>?_;go_simp;refine H _ _ ⟨⟨z0,z1,z2,z3,z4⟩,Rg.pA.succ ?_⟩;clear H K;refine YR rfl λK H=>?_;go_simp;refine H _ _ ⟨⟨z0,z1,z2,z3,z4⟩,Rg.pA.succ ?_⟩;clear H K;refine YR rfl λK H=>?_;go_simp;refine H _ _ ⟨⟨z0,z1,z2,z3,z4⟩,Rg.pA.zero ?_⟩;clear H K z0 z1 z2 z3 z4
    go_wp2_with (go_at_call 196;refine(wo f y L _ w _ _ _ _ _ _ o (cellAt g (p,q)).2 (z.out.low t).scan (HT3.out.below<|J.trans<|t.mono J.size) HFV.out (z.out.low t).IK (z.out.low t).uR (z.out.low t).zJ (z.out.low t).uS<|by omega).mono ?_;rintro e w4 ⟨rfl,so4,hs4,ht4⟩;have H4:=V<|(z.out.low t).to hs4 ht4;have hK4:=(((z.out.low t).keeps ht4 N).same D _ hD (((t.block D (Ω.1 HK.out).1)).trans HK.out) rfl);have HK4:=V hK4;clear hK4;have s4:=H4.out.zK)
    refine NoPanic.normal ?_
    gi_wp2_with fail
    refine⟨⟨k+1,so4,visit y o (cellAt g (p,q)).2,by go_num,?_,V ?_,H4,V<|HO.out.round L.jw hc E1.out,HK4⟩,by simp[intOf];omega⟩;have:=zL y (cellAt g (p,q)).2 o;omega;rw[<-IL E1.out (by omega)];exact HR.out
   ·have hre:=HR.out;rw[N9 (by omega)]at hre;have HRE:=V hre;clear hre
    gi_wp2_with fail
    refine⟨by simp,.inl ⟨_,_,rfl,run_takeDeferred HK.out,?_⟩⟩;have S:=z.out.grown (row:=U D) N (grownBy_putObj' wr D<|.deferred I) (λr e=>by cases e;exact⟨hD,_,HK.out,rfl⟩);have hsc:=S.scan;rw[<-HRE.out]at hsc;exact⟨_,results_tmp rfl _ _ _,⟨w.heap.size+1+1,w.heap.size+1,so,rfl,hsc⟩,S.below⟩
 case stop=>rintro D c F W _ _ h _;exact h.elim
end
end Kn
namespace Kn
open Go Go.RowKit Md
section
def ww(w:Y)(B:Nat)(KS:List HV)(row:HV->ZY)(eT:HV->List HV):Prop:=(∀k∈KS,OV w B (row k)<|eT k)/\∀k∈KS,∀k'∈KS,k≠k'->Apart (row k) (row k')
def ww.step{w w' B b row eT k d}(h:ww w B b row eT)(f:k∈b)(j:w.grownBy w' (row k).ownBlock)(l:OV w' B (row k) d):ww w' B b row (λx=>if x=k then d else eT x):=by
 refine⟨λx c=>?_,h.2⟩;by_cases e:x=k
 grind
 simp only[e];exact aS (h.1 x c) λg a=>j.block g ((h.1 x c).lt g a).2 λi=>h.2 x c k f e g a i.symm
def ww.low{w w' B a row eT}(h:ww w B a row eT)(c:Z w.heap.size w w'):ww w' B a row eT:=⟨λx b=>(h.1 x b).below c,h.2⟩
def fQ(f:List HV->List HV)(nj:HV->List HV)(KS:List HV)(i:Nat)(x:HV):List HV:=if x∈KS.take i then f (nj x)else nj x
def pZ{f a b i k}(m:b.Nodup)(e:b[i]?=U k):
 (λx=>if x=k then f (fQ f a b i k)else fQ f a b i x)=fQ f a b (i+1):=by
 funext x
 have n:k∉b.take i:=by
  intro l;obtain⟨j,d⟩:=YZ.1 l;have c:j<i:=by have:=(Θ.1 d).1;simp at this;omega
  rw[ZU,if_pos c]at d;have h:=(Θ.1 d);have g:=(Θ.1 e);have:=(ZG.1 m) j i h.1 g.1 c;exact this<|h.2.trans g.2.symm
 unfold fQ;rw[bW e]
 grind
def xt{f a c i k}(n:c.Nodup)(m:c[i]?=U k):fQ f a c i k=a k:=by
 have d:k∉c.take i:=by
  intro l;obtain⟨j,e⟩:=YZ.1 l;have b:j<i:=by grind
  rw[ZU,if_pos b]at e;have h:=(Θ.1 e);have g:=(Θ.1 m);have:=(ZG.1 n) j i h.1 g.1 b;exact this<|h.2.trans g.2.symm
 simp[fQ,d]
def BK{f a b k}(c:k∈b):fQ f a b b.length k=f (a k):=by simp[fQ,c]
def zM{f a b}:fQ f a b 0=a:=by rfl
def TC(w:Y)(B B0:Nat)(v:ZY)(l:List (Int×ZY)):Prop:=OC w B0 v l\/(RC w B v l/\∃a,v=.slice a l.length l.length)
def TC.rc{w B B0 v l}(h:TC w B B0 v l)(a:B<=B0):RC w B v l:=by
 obtain h|h:=h
 exact(h.less a).rc
 grind
def TC.low{w w' B B0 v l}(h:TC w B B0 v l)(a:Z w.heap.size w w'):TC w' B B0 v l:=by
 obtain h|h:=h
 exact .inl<|h.below a;exact .inr ⟨h.1.low a,h.2⟩
section
variable{ops:Array Y8}{rest:List Y8}{o:Y8}{a:Act}{w:Y}{Q:Exit->Act->Y->Prop}
def tL(m:o.guard=I)(s x)(E:o.op=.call {callee:=.builtin .append,args:=#[s,x],argTypes:=#[22,22]})(B B0 v l)(hs:a.eval s=v)(d:TC w B B0 v l)(ad c u)(G:u.2.oneCell'=M)(F:a.eval x=Z4 (U ad) 1 c)(C:w.cell? (ad.add 0)=U (Δ Ξ u.1)/\w.cell? (ad.add 1)=U u.2)(K:l.length<=1000000000)(D:B0<=w.heap.size)(h:∀f w',OC w' B0 f (l++[u]) ->Z B0 w w'->Zm prog ops Q rest (a.put o.dst f) w'):Zm prog ops Q (o::rest) a w:=by
 obtain d|⟨hrc,a0,rfl⟩:=d
 exact wh m s x E B0 v l hs d ad c u G F C K D λf w' r p _=>h f w' r p;obtain⟨J,hi,q,t,A⟩:=Zt ni;refine wpList_append_grows w m s x 22 E 76 J _ 2 32 mF hi q t A rfl (by decide) a0 l.length l.length (l.flatMap dW) hs (λe=>?_) (su l) (λb e j H n=>?_) ad 1 c (dW u) F rfl (λj z i=>?_) (λz hz=>?_) (by omega) (by unfold ZA;omega) (by omega) λf w' r p=>?_;obtain⟨N,L,y,_,_,h3,_⟩:=hrc;cases y
 exact⟨h3 e,h3 e⟩;have h0:0<l.length:=by
  obtain h0|h0:=Nat.eq_zero_or_pos l.length
  have:=μ h0;subst this;simp at n;exact h0
 obtain⟨g,L,y,_,_,_,_,hc⟩:=hrc.cells h0;cases y
 cases e
 have:(⟨g,0,I⟩:Addr).add j=⟨g,j,I⟩:=by unfold Zx;split<;>simp_all
 rw[this];exact hc j H n
 ·match j,i with
  |0,i=>cases i;exact C.1
  |1,i=>cases i;exact C.2
  |j+2,i=>simp[dW]at i
 simp[dW]at hz;obtain rfl|rfl:=hz
 rfl;exact G;refine h f w' ?_<|(ω B0 w).grown p D λk e=>by cases e
 have:w'.ownsRow B0 76 2 f (l++[u]).length ((l++[u]).flatMap dW):=by rw[ZX,ZV];simpa using (eV r D)
 exact this
end
def RC.take{w B a n m s l}(h:RC w B (.slice a n m) l)(hs:s<=l.length):RC w B (.slice a s s) (l.take s)/\(a=I->s=0):=by
 obtain⟨o,q,e,p,k,h3,h4⟩:=h;cases e
 have c:(l.take s).length=s:=by simp;omega
 refine⟨⟨a,s,by rw[c],by omega,by omega,λe=>by have:=h3 e;omega,λh0=>?_⟩,λe=>by have:=h3 e;omega⟩;obtain⟨g,b,rfl,f,j,i⟩:=h4 (by omega);refine⟨g,b,rfl,f,j,?_⟩;rw[c];have d:(l.take s).flatMap dW=(l.flatMap dW).take (s*2):=by rw[(by rw[<-ZX,YY]:l.flatMap dW=(l.take s).flatMap dW++(l.drop s).flatMap dW),<-(by rw[su,c]:((l.take s).flatMap dW).length=s*2),List.take_left]
 rw[d,<-i,List.take_take]
 congr 1
 omega
end
section
variable{stay:Nat}{w':Y}{J:Nat->Prop}{g:GH}
def bC(stay:Nat)(order:List HV):List HV:=(YS stay).map (λi:Nat=>((4,(i:Int)):HV))++order
def rowsOf(g:GH)(row:HV->ZY)(ks:List HV):List (Int×ZY):=ks.map λk=>((cellAt g k).1,row k)
def fo(stay order):(bC stay order).length=stay+order.length:=by simp[bC]
def nk(g row a):(rowsOf g row a).length=a.length:=by simp[rowsOf]
def wy{row order}(h:stay<=g.old.length):(cellsOf row 4 g.old).take stay=(rowsOf g row<|bC stay order).take stay:=by
 apply ZF;intro i;rw[ZU,ZU];by_cases hi:i<stay
 rw[if_pos hi];obtain⟨p,q,e⟩:=cQ (by omega:i<g.old.length);rw[bH e];simp[rowsOf,bC,Zl,Y7,hi,cellAt,ZO,e]
 grind
def zN{row k order v}(h:order[k]?=U v):(rowsOf g row<|bC stay order).take (stay+(k+1))=(rowsOf g row<|bC stay order).take (stay+k)++[((cellAt g v).1,row v)]:=by
 rw[<-Nat.add_assoc];apply bW;have:(bC stay order)[stay+k]?=U v:=by unfold bC;rw[Y' (by simp)];simpa using h
 simp[rowsOf,Zl,this]
def gB(stay:Nat)(order:List HV):List HV:=bC stay order++[(0,0),(0,2),(0,1)]
def sA{order k}(h:k∈bC stay order):(∃i,i<stay/\k=(4,(i:Int)))\/k∈order:=by
 obtain h|h:=Zg.1 h
 grind
 grind
def jC{order}(a:∀v∈order,zH g v){k}(h:k∈bC stay order):k.1≠0:=by
 obtain⟨i,_,rfl⟩|h:=sA h
 simp;obtain⟨e,_⟩|⟨e,_⟩:=a k h<;>omega
def IP{order}(hs:stay<=g.old.length)(a:∀v∈order,zH g v){k}(h:k∈bC stay order):zH g k:=by
 obtain⟨i,hi,rfl⟩|h:=sA h
 exact .inr ⟨rfl,by omega⟩
 grind
def IQ{order}(hs:stay<=g.old.length)(a:∀v∈order,zH g v){k}(h:k∈gB stay order):IsKey g k:=by
 obtain h|h:=Zg.1 h
 obtain h|h:=IP hs a h
 ·exact .inr<|.inl h
 exact .inr<|.inr h;simp at h;obtain rfl|rfl|rfl:=h
 exact .inl ⟨rfl,by decide,by decide⟩;exact .inl ⟨rfl,by decide,by decide⟩;exact .inl ⟨rfl,by decide,by decide⟩
def Kd{g:GH}{order}(f:order.Nodup)(d:(∀v∈order,v.1=3)\/stay=0):(bC stay order).Nodup:=by
 unfold bC;rw[Zk];refine⟨?_,f,λa h b hb e=>?_⟩;rw[List.Nodup,List.pairwise_map];refine(List.nodup_range).imp λ{i j} c e=>c ?_
 grind
 grind
def BL{order}(h:order.Nodup)(c:(∀v∈order,v.1=3)\/stay=0)(d:∀v∈order,zH g v):(gB stay order).Nodup:=by
 unfold gB;rw[Zk];refine⟨Kd (g:=g) h c,by decide,λa f b hb e=>?_⟩;have:=jC d f
 grind
def PU{w B row d}(h:kD w B row g)(b:∀k∈d,IsKey g k):ww w B d row (bd g):=⟨λk a=>h.1 k<|b k a,λk i e f c=>h.2 k e (b k i) (b e f) c⟩
def IR{order}(hs:stay<=g.old.length):g.old.take stay++order.map (cellAt g)=(bC stay order).map (cellAt g):=by
 unfold bC;rw[κ]
 congr 1
 apply ZF;intro i;rw[ZU];by_cases hi:i<stay
 rw[if_pos hi];obtain⟨p,q,e⟩:=cQ (by omega:i<g.old.length);simp[hi,cellAt,ZO,e];rw[if_neg hi];simp[hi]
def sB{order}(hs:stay<=g.old.length):(Md.move g order stay).old=(bC stay order).map λk=>EN order stay (cellAt g k):=by show(g.old.take stay++order.map (cellAt g)).map (EN order stay)=_;rw[IR hs,List.map_map];rfl
def cR(w:Y)(B b:Nat)(g:GH)(J:Nat->Prop):Prop:=∃n o m row,B<=b/\w.heap[b]?=U (Ψ #[n,o,row (0,0),row (0,1),row (0,2),m] 114 (0,0))/\
 RC w B n (cellsOf row 3 g.new)/\RC w B o (cellsOf row 4 g.old)/\OI w B m g.marked/\kD w B row g/\∀j,J j->j≠b/\∀k,IsKey g k->(row k).ownBlock≠U j
def cR.own{w B b}(h:cR w B b g J):dm w B b g:=by obtain⟨n,o,m,row,d,hb,a,c,h3,h4,_⟩:=h;exact⟨n,o,m,row,d,hb,a,c,h3,h4⟩
def cR.wC{w B b}(h:dm w B b g)(l:∀j,J j->j<B):cR w B b g J:=by
 obtain⟨n,o,m,row,i,hb,f,d,h3,h4⟩:=h;refine⟨n,o,m,row,i,hb,f,d,h3,h4,λj c=>⟨λe=>?_,λk a e=>?_⟩⟩
 grind
 have:=l j c;have:=((h4.1 k a).lt j e).1;omega
def cR.below{w w' B b g J}(h:cR w B b g J)(a:Z w.heap.size w w'):cR w' B b g J:=by obtain⟨n,o,m,row,f,hb,e,d,h3,h4,h5⟩:=h;exact⟨n,o,m,row,f,(a.block b (Ω.1 hb).1).trans hb,e.low a,d.low a,h3.below a,⟨λk c=>(h4.1 k c).below a,h4.2⟩,h5⟩
def IS{w B b order row v}(P:B<=b)(hb:w.heap[b]?=U (Ψ #[Z4 I 0 0,v,row (0,0),row (0,1),row (0,2),Z4 I 0 0] 114 (0,0)))(O:RC w B v (rowsOf g row<|bC stay order))(D:ww w B (gB stay order) row (fQ (Zb<|lr order stay) (bd g) (gB stay order) (gB stay order).length))(X:(bC stay order).Nodup)(hs:stay<=g.old.length)(A:∀v∈order,zH g v)(E:∀j,J j->j≠b/\∀k∈gB stay order,(row k).ownBlock≠U j):cR w B b (Md.move g order stay) J:=by
 have n:∀k,k∈gB stay order->OV w B (row k) ((bd g k).map<|lr order stay):=λk h=>by have:=D.1 k h;rwa[BK h]at this
 have C:(0,0)∈gB stay order:=by simp[gB]
 have m1:(0,1)∈gB stay order:=by simp[gB]
 have m2:(0,2)∈gB stay order:=by simp[gB]
 have s:(Md.move g order stay).old.length=(bC stay order).length:=by rw[sB hs];simp
 have l:∀k,IsKey (Md.move g order stay) k->(∃i:Nat,i<(bC stay order).length/\k=(4,(i:Int)))\/k=(0,0)\/k=(0,1)\/k=(0,2):=by
  rintro⟨a,c⟩ (⟨o,x,h3⟩|⟨o,x,h3⟩|⟨o,x,h3⟩);dsimp only at o x h3;subst o;have:c=0\/c=1\/c=2:=by omega
  obtain rfl|rfl|rfl:=this<;>simp
  dsimp only at o x h3;have:(Md.move g order stay).new.length=0:=rfl;omega;dsimp only at o x h3;subst o;rw[s]at h3;exact .inl ⟨c.toNat,by omega,by simp;omega⟩
 obtain⟨f,d⟩:∃r:HV->ZY,r=λk=>if k.1=4 then row ((bC stay order).getD k.2.toNat (0,0))else row k:=⟨_,rfl⟩
 have m:∀i:Nat,i<(bC stay order).length->∃k,(bC stay order)[i]?=U k/\f (4,(i:Int))=row k:=λi hi=>by obtain⟨k,e⟩:∃k,(bC stay order)[i]?=U k:=⟨_,Z8 hi⟩;exact⟨k,e,by simp[d,ZO,e]⟩
 have N:f (0,0)=row (0,0):=by simp[d]
 have K:f (0,1)=row (0,1):=by simp[d]
 have G:f (0,2)=row (0,2):=by simp[d]
 clear d;refine⟨Z4 I 0 0,v,Z4 I 0 0,f,P,by rw[N,K,G];exact hb,?_,?_,OI.nil _ _,⟨?_,?_⟩,λj t=>⟨(E j t).1,λk y=>?_⟩⟩;exact⟨I,0,rfl,.refl,by simp[ZA],λ_=>rfl,λh=>absurd h<|Nat.lt_irrefl 0⟩;have e:cellsOf f 4 (Md.move g order stay).old=rowsOf g row (bC stay order):=by
  apply ZF;intro i;obtain hi|hi:=Nat.lt_or_ge i (bC stay order).length
  obtain⟨k,z,er⟩:=m i hi;have T:(Md.move g order stay).old[i]?=U (EN order stay<|cellAt g k):=by rw[sB hs];simp[z]
  rw[bH T,er];simp[rowsOf,z,EN];rw[Zz (by rw[aT,s];exact hi),Zz (by rw[nk];exact hi)]
 rw[e];exact O
 ·intro k y;obtain⟨i,hi,rfl⟩|rfl|rfl|rfl:=l k y
  obtain⟨k,z,er⟩:=m i hi;rw[er];have S:=Γ z;have hv:bd (Md.move g order stay) (4,(i:Int))=(bd g k).map (lr order stay):=by simp[bd,jC A S,cellAt,ZO,sB hs,z,EN]
  rw[hv];exact n k<|ε _ S;rw[N];exact n _ C;rw[K];exact n _ m1;rw[G];exact n _ m2
 ·intro k W o x u;obtain⟨i,hi,rfl⟩|rfl|rfl|rfl:=l k o<;>obtain⟨j,t,rfl⟩|rfl|rfl|rfl:=l W x
  obtain⟨p,F,er⟩:=m i hi;obtain⟨q,eq,Q⟩:=m j t;rw[er,Q];refine D.2 p (ε _<|Γ F) q (ε _<|Γ eq) λe=>u ?_;subst e;have L:=Θ.1 F;have H:=Θ.1 eq;have:=ZG.1 X;obtain h|h|h:=Nat.lt_trichotomy i j
  exact absurd (L.2.trans H.2.symm)<|this i j L.1 H.1 h;rw[h];exact absurd (H.2.trans L.2.symm)<|this j i H.1 L.1 h
  all_goals (try rw[N])
  all_goals (try rw[K])
  all_goals (try rw[G])
  all_goals first
   |exact absurd rfl u
   |(obtain⟨p,F,er⟩:=m i hi
     rw[er];exact D.2 p (ε _ (Γ F)) _ (by first|exact C|exact m1|exact m2) (λe=>by have:=jC A (Γ F);rw[e]at this;exact this rfl))
   |(obtain⟨q,eq,Q⟩:=m j t
     rw[Q];exact D.2 _ (by first|exact C|exact m1|exact m2) q (ε _ (Γ eq)) (λe=>by have:=jC A (Γ eq);rw[<-e]at this;exact this rfl))
   |exact D.2 _ (by first|exact C|exact m1|exact m2) _ (by first|exact C|exact m1|exact m2) u
 obtain⟨i,hi,rfl⟩|rfl|rfl|rfl:=l k y
 ·obtain⟨k,z,er⟩:=m i hi;rw[er];exact(E j t).2 k<|ε _<|Γ z
 rw[N];exact(E j t).2 _ C;rw[K];exact(E j t).2 _ m1;rw[G];exact(E j t).2 _ m2
def qb(w w':Y):Prop:=∀(j:Nat) c,w.heap[j]?=U (.cells c 131 (0,0)) ->w'.heap[j]?=w.heap[j]?
def qb.trans{w w1 w2}(b:qb w w1)(d:qb w1 w2):qb w w2:=λj c a=>(d j c<|(b j c a).trans a).trans<|b j c a
def qb.bK{w}(h:Z w.heap.size w w'):qb w w':=λj c a=>h.block j (Ω.1 a).1
def qb.sC{w x}(h:w.grownBy w' x)(d:∀g,x=U g->∃a,w.heap[g]?=U (.cells a 50 (0,0))):qb w w':=λj c b=>h.block j (Ω.1 b).1 λe=>by grind
def qb.IT{w}{b:Nat}{c0}(hb:w.heap[b]?=U (.cells c0 114 (0,0)))(h:∀k,k≠b->w'.heap[k]?=w.heap[k]?):qb w w':=λj c a=>h j λe=>by grind
structure MS(w W:Y)(B b bs bm:Nat)(order:List HV)(v:ZY)(L:List (Int×ZY))(KS:List HV)(row:HV->ZY)(eT:HV->List HV):Prop where
 below:Z B w W
 rc:RC W B v L
 kr:ww W B KS row eT
 hb:W.heap[b]?=w.heap[b]?
 hs:W.heap[bs]?=w.heap[bs]?/\qb w W/\∀j,j<w.heap.size->j≠b->(∀k∈KS,(row k).ownBlock≠U j) ->W.heap[j]?=w.heap[j]?
 met:jA W bm order
def MS.low{w W g B b bs bm order v L f row eT}(h:MS w W B b bs bm order v L f row eT)(a:Z W.heap.size W g)(k:B<=W.heap.size)(c:b<W.heap.size)(d:bs<W.heap.size):MS w g B b bs bm order v L f row eT:=⟨h.below.trans<|a.mono k,h.rc.low a,h.kr.low a,(a.block b c).trans h.hb,⟨(a.block bs d).trans h.hs.1,h.hs.2.1.trans<|qb.bK a,λj e i h3=>(a.block j<|Nat.lt_of_lt_of_le e h.below.size).trans<|h.hs.2.2 j e i h3⟩,h.met.of_block<|a.block bm h.met.lt⟩
def MS.rename{w W q B b bs bm order v L o row eT k s c1 c2}(h:MS w W B b bs bm order v L o row eT)(m:k∈o)(f:W.grownBy q (row k).ownBlock)(z:OV q B (row k) s)(hb:w.heap[b]?=U (.cells c1 114 (0,0)))(hs:w.heap[bs]?=U (.cells c2 112 (0,0)))(C:B<=W.heap.size):MS w q B b bs bm order v L o row (λx=>if x=k then s else eT x):=by
 have a:∀g,(row k).ownBlock=U g->∃d,W.heap[g]?=U (.cells d 50 (0,0)):=λg e=>by obtain⟨_,⟨p,_⟩|⟨D,y,d,p,_,i,_⟩⟩:=h.kr.1 k m;rw[p]at e;cases e;rw[p]at e;cases e;exact⟨d,i⟩
 have l:=h.hb.trans hb;have n:=h.hs.1.trans hs;refine⟨h.below.grown f C λg e=>(h.kr.1 k m).lt g e|>.1,h.rc.below λg d i=>f.block g (Ω.1 i).1 λe=>?_,h.kr.step m f z,(f.block b (Ω.1 l).1 λe=>?_).trans h.hb,⟨(f.block bs (Ω.1 n).1 λe=>?_).trans h.hs.1,h.hs.2.1.trans (qb.sC f a),λj r t h3=>(f.block j (Nat.lt_of_lt_of_le r h.below.size) λe=>h3 _ m e.symm).trans (h.hs.2.2 j r t h3)⟩,
  h.met.of_block (f.block bm h.met.lt λe=>?_)⟩
 grind
 obtain⟨c,hc⟩:=a b e.symm;rw[l]at hc;cases hc
 grind
 obtain⟨c,hc⟩:=a bm e.symm;obtain⟨E,u,A,_⟩:=h.met;rw[A]at hc;cases hc
end
def qd{W B b v l c t fr}(d:OV W B v l)(hb:W.heap[b]?=U (.cells c t fr))(i:t≠50):v.ownBlock≠U b:=by
 intro e;obtain⟨_,⟨rfl,_⟩|⟨g,f,a,rfl,_,h,_⟩⟩:=d;cases e
 cases e
 grind
def IU{w B v a l}(h:v=a)(k:OV w B v l):OV w B a l:=h▸k
def BM(w B b Bs bs bm so g mv order stay){J}(hg:cR w B b g J)(hs:bS w Bs bs bm so order)(S:c9 g mv order)(hst:(stay=g.old.length/\∀v∈order,v.1=3)\/stay=0)(hB:B<=w)(hn:g.new.length+g.old.length<=1000)(hvl:∀c∈g.new++g.old,c.2.length<=100000)(hr:g.roots.length<=100000)(hwl:g.aA.length<=100000)(hdl:g.done.length<=100000):
 Z2 prog 191 #[.pointer b,.pointer bs,Δ Ξ stay] w λe w'=>e=.returned (.tuple #[])/\cR w' B b (Md.move g order stay) J/\Z B w w'/\w'.heap[bs]?=w.heap[bs]?/\qb w w'/\∀j,J j->j<w->w'.heap[j]?=w.heap[j]?:=by
 have HG:=V hg;have HS:=V hs;have HO:=V S;obtain⟨n,o,m,row,hBb,hb,h1,h2,h3,h4,h5⟩:=hg;have HJ:=V h5;clear h5;have hol:=S.len;have f:stay<=g.old.length:=by obtain⟨h,_⟩|h:=hst<;>omega
 have hbl:=(Ω.1 hb).1;have hc1:w (b,1)=U o:=by simp[R,hb]
 have hcs0:w bs=U so:=by simp[R,hs.2.2.1]
 have am4:=hs.Q4.1;obtain⟨as0,ms0,hso,hsm,aar,_⟩:=aF hs.2.2.2.1;unfold ZA at aar;obtain⟨ao,mo,ho,hm1,hm2,Fw,_⟩:=id h2;rw[aT]at ho hm1;subst ho;subst hso;obtain⟨htk,F⟩:=h2.take (s:=stay) (by rw[aT];exact f);rw[wy (order:=order) f]at htk;have ae4:TC w B w (.slice ao stay stay) ((rowsOf g row<|bC stay order).take<|stay+0):=.inr ⟨htk,ao,by simp[rowsOf,bC]⟩;have ae5:=V ae4;have HB:=V hb;have HR:=V h4;have HM2:=V hm2;have H1:=V h1;have H2:=V h2;have HM3:=V Fw;have HNo:=V F;have hk0:(0:Int)<=(stay:Int):=by omega
 have hk1:(stay:Int)<=(mo:Int):=by omega
 have hk2:(stay:Int)<=(stay:Int):=by omega
 have hmo:mo<=9223372036854775807:=by unfold ZA at hm2;exact hm2
 obtain⟨r0,r1,r2⟩:=h4.roots;obtain⟨a0,m0,hr0,_⟩:=aF r0;obtain⟨a1,m1,hr1,_⟩:=aF r1;obtain⟨a2,m2,hr2,_⟩:=aF r2;have HR0:=V hr0;have HR1:=V hr1;have HR2:=V hr2;clear hb h1 h2 h3 h4 htk ae4 hs S hm2 Fw F hr0 hr1 hr2 r0 r1 r2
 go_enter (fU func191 rfl),ntmps191
 go_wp2_with fail
 go_loopw [6,26] (λv i wr=>∃k:Nat,k<=order.length/\i=Δ Ξ k/\TC wr B w v ((rowsOf g row<|bC stay order).take<|stay+k)/\Z w w wr) (λ_ i _=>order.length-(intOf i).toNat)
 case atStart=>exact⟨0,Nat.zero_le _,rfl,ae5.out,ω _ _⟩
 case round=>
  obtain⟨k,N,rfl,L,a⟩:=hrel;clear hc1 hcs0;by_cases r:k<order.length
  ·obtain⟨p,q,e1⟩:=ep r;obtain⟨gs,cs,e,_⟩:=HS.out.2.2.2.1.form (by omega);obtain rfl:as0=U ⟨gs,0,I⟩:=by injection e
   clear e;obtain⟨d1,d2,_,_,hgl⟩:=OV.at_ HS.out.2.2.2.1 e1;obtain⟨A,_⟩:=HO.out.ok _<|Γ e1;obtain⟨bn,j,ar,mr,t0,t1,t2,t3,t4,t5⟩:=Dy HB.out H1.out H2.out HR.out A (by omega);have HT0:=V t0;clear t0;have f1:=cG a d1 hgl;have f2:=cG a d2 hgl;have HT1:=V t1;have HT2:=V t2;have HT5:=V t5;have E1:=V e1;have HTC:=V L;have hz:=a.size;clear t1 t2 t3 t5 e1 L d1 d2 A
   go_wp2_with fail
   refine(HT5.out _<|a.trans<|(af wr _).mono hz).mono ?_;rintro e w3 ⟨rfl,hb3⟩;have hB3:=a.trans<|((af wr<|Ψ #[Δ Ξ p,Δ Ξ q] 50).mono hz).trans<|hb3.mono (by simp;omega);have q1:=cG hB3 HT1.out t4;have q2:=cG hB3 HT2.out t4;clear f1 f2;have hcl:=hvl _<|j9 (HO.out.ok _<|Γ E1.out).1;have hz3:=hB3.size;have H:((rowsOf g row<|bC stay order).take<|stay+k).length<=1000000000:=by have:=Zq (stay+k)<|rowsOf g row<|bC stay order;omega
   go_wp2_with (at_builtin;refine tL rfl _ _ rfl B w _ _ rfl (HTC.out.low<|((af wr<|Ψ #[Δ Ξ p,Δ Ξ q] 50).trans<|hb3.mono<|by simp).alloc (by have:=hb3.size;simp at this;omega) _) w3.heap.size _ ((cellAt g (p,q)).1,.slice ar (cellAt g (p,q)).2.length mr) rfl rfl (by simp[go_sem,Zx]) H (by simp;omega) ?_;intro v' w5 Pk hb5)
   go_wp2_with fail
   go_roundw
   case rel=>exact⟨k+1,by omega,by go_num,.inl (by rw[zN E1.out,HT0.out];exact Pk),(hB3.alloc hz3 _).trans hb5⟩
   case measure=>simp[intOf];omega
  ·have O:k=order.length:=by omega
   subst O;obtain⟨w1,hw1⟩:∃w1,w1=wr:=⟨_,rfl⟩;subst hw1;have T:(rowsOf g row<|bC stay order).take (stay+order.length)=rowsOf g row (bC stay order):=ι (by rw[nk,fo];exact .refl);rw[T]at L;have hrc:=L.rc hB;clear L T ae5;have hLl:(rowsOf g row<|bC stay order).length=stay+order.length:=by rw[nk,fo]
   obtain⟨av,G,hv,hvm,arm,_,_⟩:=id hrc;rw[hLl]at hv hvm;subst hv;have A:∀v∈order,zH g v:=λv hv=>(HO.out.ok v hv).1;have K:(∀v∈order,v.1=3)\/stay=0:=hst.elim (λh=>.inl h.2) .inr;have hND:=Kd (g:=g) (stay:=stay) HO.out.nodup K;have hKN:=BL (g:=g) (stay:=stay) HO.out.nodup K A;have hms:MS w w1 B b bs bm order (.slice av (stay+order.length) G) (rowsOf g row<|bC stay order) (gB stay order) row (fQ (Zb<|lr order stay) (bd g) (gB stay order) 0):=by rw[zM];exact⟨a.mono hB,hrc,(PU HR.out λk N=>IQ f A N).low a,a.block b hbl,⟨a.block bs am4,qb.bK a,λj h1 _ _=>a.block j h1⟩,HS.out.2.2.2.2.of_block<|a.block bm HS.out.Q4.2⟩
   have hzw:=a.size;have HMS:=V hms;have HND:=V hND;have z:=V hKN;have Q:=V A;have ae7:=V hLl;clear hrc hms hND hKN A hLl r a hst K
   go_wp2_with fail
   go_loopw [41] (λi wr=>∃k:Nat,k<=stay+order.length/\i=Δ Ξ k/\w1.heap.size<=wr/\Hid (MS w wr B b bs bm order (.slice av (stay+order.length) G) (rowsOf g row<|bC stay order) (gB stay order) row<|fQ (Zb<|lr order stay) (bd g) (gB stay order) k)) (λi _=>stay+order.length-(intOf i).toNat)
   case atStart=>exact⟨0,Nat.zero_le _,rfl,.refl,HMS⟩
   case round=>
    obtain⟨k,N,rfl,hzx,u⟩:=hrel;clear HMS;by_cases r:k<stay+order.length
    ·obtain⟨d,ek⟩:∃d,(bC stay order)[k]?=U d:=⟨_,Z8 (by rw[fo];exact r)⟩;have eK:(gB stay order)[k]?=U d:=by unfold gB;rw[Y7 (by rw[fo];exact r)];exact ek
     have eL:(rowsOf g row<|bC stay order)[k]?=U ((cellAt g d).1,row d):=by simp[rowsOf,ek]
     obtain⟨f1,f2⟩:=jx dW (λv=>Δ Ξ v.1) (λv=>v.2) (λ_=>rfl) _ k _ eL;obtain⟨gv,mv2,e,_,hgv,_,_,hx⟩:=u.out.rc.cells (by rw[ae7.out];omega);rw[ae7.out]at e;obtain rfl:av=U ⟨gv,0,I⟩:=by injection e
     clear e;have c1:=hx _ _ f1;have c2:=hx _ _ f2;have t:=Γ eK;have x:=u.out.kr.1 d t;rw[xt z.out eK]at x;have hkl:(bd g d).length<=100000:=by have hmk:=Γ ek;have h1:=jC Q.out hmk;have h2:=hvl _<|j9<|IP f Q.out hmk;simpa[bd,h1]using h2
     obtain⟨ar,mr,l,_⟩:=aF x;rw[l]at c2;have HOV:=V x;have C:=V l;have EK:=V eK;clear hx f1 f2 x l eL ek eK;have hbx:b<wr:=by omega
     have hsx:bs<wr:=by omega
     have hBx:B<=wr:=by omega
     have hal:=u.out.low (af wr<|Ψ #[Δ Ξ (cellAt g d).1,.slice ar (bd g d).length mr] 76) hBx hbx hsx
     go_wp2_with fail
     refine(uO _ B bs bm _ (.slice as0 order.length ms0) (bd g d) order stay (IU C.out (by have:=hal.kr.1 d t;rwa[xt z.out EK.out]at this)) (hal.hs.1.trans HS.out.2.2.1) hal.met (by omega) (by omega) (by omega)<|by omega).mono ?_;rintro e w4 ⟨rfl,P,D⟩
     go_wp2_with fail
     refine⟨⟨k+1,by omega,by go_num,?_,V ?_⟩,by simp[intOf];omega⟩;have:=D.size;simp at this;omega;rw[<-pZ z.out EK.out];have:=hal.rename t (by rw[C.out];exact D) (IU C.out.symm P) HB.out HS.out.2.2.1 (by simp;omega);rw[xt z.out EK.out];exact this
    ·have O:k=stay+order.length:=by omega
     subst O;have a:=u.out.hb.trans HB.out;have e2:wr (b,2)=U (.slice a0 g.roots.length m0):=by simp[R,a,HR0.out]
     have e3:wr (b,3)=U (.slice a1 g.aA.length m1):=by simp[R,a,HR1.out]
     have e4:wr (b,4)=U (.slice a2 g.done.length m2):=by simp[R,a,HR2.out]
     have hbx:b<wr:=by omega
     have hsx:bs<wr:=by omega
     have hBx:B<=wr:=by omega
     clear a
     go_wp2_with fail
     go_region_held3 (λw'=>w' (b,2)=U (.slice a0 g.roots.length m0)/\w' (b,3)=U (.slice a1 g.aA.length m1)/\w' (b,4)=U (.slice a2 g.done.length m2)) (go_keep) (fail)
     go_wp2_with fail
     clear e2 e3 e4;have BP:Z wr wr ((wr.alloc<|Ψ #[.slice a0 g.roots.length m0,.slice a2 g.done.length m2,.slice a1 g.aA.length m1] 23).drew):=(af wr _).drew;have JG:((wr.alloc<|Ψ #[.slice a0 g.roots.length m0,.slice a2 g.done.length m2,.slice a1 g.aA.length m1] 23).drew).heap[wr.heap.size]?=U (Ψ #[.slice a0 g.roots.length m0,.slice a2 g.done.length m2,.slice a1 g.aA.length m1] 23 (0,0)):=ο wr _;have hM9:=u.out.low BP hBx hbx hsx;have hz9:=BP.size;generalize (wr.alloc _).drew=w9 at BP JG hM9 hz9⊢;have hL:∀j:Nat,j<3->∃aj mj d,(gB stay order)[stay+order.length+j]?=U d/\row d=.slice aj (bd g d).length mj/\(bd g d).length<=100000/\
      (∀X:Y,X.heap[wr.heap.size]?=U (Ψ #[.slice a0 g.roots.length m0,.slice a2 g.done.length m2,.slice a1 g.aA.length m1] 23 (0,0)) ->X (wr.heap.size,j)=U (.slice aj (bd g d).length mj)):=by
      have hat:∀j:Nat,(gB stay order)[stay+order.length+j]?=([(0,0),(0,2),(0,1)]:List HV)[j]?:=λj=>by unfold gB;rw[Y' (by rw[fo];omega),fo,Nat.add_sub_cancel_left]
      intro j E
      match j,E with
      |0,_=>exact⟨a0,m0,(0,0),hat 0,HR0.out,hr,λX e=>by simp[R,e];rfl⟩
      |1,_=>exact⟨a2,m2,(0,2),hat 1,HR2.out,hdl,λX e=>by simp[R,e];rfl⟩
      |2,_=>exact⟨a1,m1,(0,1),hat 2,HR1.out,hwl,λX e=>by simp[R,e];rfl⟩
     have HL:=V hL;have HM9:=V hM9;have HX9:=V JG;have aro:wr.heap.size<w9:=(Ω.1 JG).1;obtain⟨W2,hW2⟩:∃W2,W2=wr:=⟨_,rfl⟩;subst hW2;clear hL hM9 JG BP u
     go_loopw [68] (λi wr=>∃k:Nat,k<=3/\i=Δ Ξ k/\w9.heap.size<=wr/\Hid (wr.heap[W2.heap.size]?=U (Ψ #[.slice a0 g.roots.length m0,.slice a2 g.done.length m2,.slice a1 g.aA.length m1] 23 (0,0)))/\Hid (MS w wr B b bs bm order (.slice av (stay+order.length) G) (rowsOf g row<|bC stay order) (gB stay order) row<|fQ (Zb<|lr order stay) (bd g) (gB stay order)<|stay+order.length+k)) (λi _=>3-(intOf i).toNat)
     case atStart=>exact⟨0,Nat.zero_le _,rfl,.refl,HX9,HM9⟩
     case round=>
      obtain⟨k,N,rfl,hzx,HXr,u⟩:=hrel;clear HM9 HX9;by_cases r:k<3
      ·obtain⟨aj,mj,d,eK,l,hkl,hcx⟩:=HL.out k r;have c1:=hcx wr HXr.out;have t:=Γ eK;have x:=u.out.kr.1 d t;rw[xt z.out eK,l]at x;have hBr:B<=wr:=by omega
       have hx3:W2.heap.size<wr:=by omega
       have HOV:=V x;have C:=V l;have EK:=V eK;clear hcx x l eK
       go_wp2_with fail
       refine(uO _ B bs bm _ (.slice as0 order.length ms0) (bd g d) order stay HOV.out (u.out.hs.1.trans HS.out.2.2.1) u.out.met (by omega) (by omega) (by omega)<|by omega).mono ?_;rintro e w4 ⟨rfl,P,D⟩
       go_wp2_with fail
       refine⟨⟨k+1,by omega,by go_num,?_,V ?_,V ?_⟩,by simp[intOf];omega⟩;have:=D.size;omega;exact(D.block _ hx3<|ζ<|qd HOV.out HXr.out<|by decide).trans HXr.out;rw[<-Nat.add_assoc,<-pZ z.out EK.out];have:=u.out.rename t (by rw[C.out];exact D) (IU C.out.symm P) HB.out HS.out.2.2.1 hBr;rw[xt z.out EK.out];exact this
      ·have O:k=3:=by omega
       subst O;have a:=u.out.hb.trans HB.out;have e0:wr b=U n:=by simp[R,a]
       have e1:wr (b,1)=U (.slice ao g.old.length mo):=by simp[R,a]
       have e5:wr (b,5)=U m:=by simp[R,a]
       have q0:wr.frozen? b=ξ:=by simp[Z0,a]
       have q1:wr.frozen? (b,1)=ξ:=by simp[Z0,a]
       have q5:wr.frozen? (b,5)=ξ:=by simp[Z0,a]
       have HBW:=V a;clear a r
       go_wp2_with fail
       go_end0;have s1:=heap_setCell_same (i:=1) (v:=.slice av (stay+order.length) G) HBW.out;have s2:=heap_setCell_same (i:=0) (v:=Z4 I 0 0) s1;have s3:=heap_setCell_same (i:=5) (v:=Z4 I 0 0) s2;have y:∀g':Nat,g'≠b->(((wr.setCell (b,1)<|.slice av (stay+order.length) G).setCell b<|Z4 I 0 0).setCell (b,5)<|Z4 I 0 0).heap[g']?=wr.heap[g']?:=λg' h=>by rw[ψ _ _ _ _ h,ψ _ _ _ _ h,ψ _ _ _ _ h]
       have H:stay+order.length+3=(gB stay order).length:=by simp[gB,fo]
       have W:=u.out.kr;rw[H]at W;refine⟨rfl,IS hBb (by simpa using s3) (u.out.rc.below λg' cur hg'=>y g' (by rintro rfl;rw[HBW.out]at hg';cases hg')) ⟨λk N=>aS (W.1 k N) λg' e=>y g' (by rintro rfl;exact qd (W.1 k N) HBW.out (by decide) e),W.2⟩ HND.out f Q.out λj E=>⟨(HJ.out j E).1,λk N=>(HJ.out j E).2 k<|IQ f Q.out N⟩,?_,?_,λj c E=>(y j (by rintro rfl;rw[HB.out]at E;cases E)).trans<|u.out.hs.2.1 j c E,λj E r=>(y j (HJ.out j E).1).trans<|u.out.hs.2.2 j r (HJ.out j E).1 λk N=>(HJ.out j E).2 k<|IQ f Q.out N⟩;exact((u.out.below.setCell (p:=⟨b,1,I⟩) hBb _).setCell (p:=⟨b,0,I⟩) hBb _).setCell (p:=⟨b,5,I⟩) hBb _;refine(y bs ?_).trans u.out.hs.1;rintro rfl;have:=HS.out.2.2.1;rw[HB.out]at this;cases this
def aX{P w ops o a K Q E}(e:o.guard=I)(s x t)(f:o.op=.call {callee:=.builtin .append,args:=#[s,x],argTypes:=#[t,t]})(v v2)(hs:a.eval s=v)(j:a.eval x=v2)(b:ZY->Y->Prop)(d:∃c w',(ZN #[t,t] o.type #[v,v2]).run P w=.ok c w'/\b c w')(h:∀c w',b c w'->K (a.put o.dst c) w'):
 if Za o (yielded ops a.tmps)=M then Oper.wp P o a w K Q else E:=by
 rw[if_pos (by simp[Za,e])];obtain⟨c,w',i,g⟩:=d;unfold Oper.wp execOp;simp only[f,resolve,invoke,builtin,Z9,ZT,χ,List.map_toArray,Zp,List.map_nil,hs,j,i];exact h c w' g
def tN{w ty a n l l2 v2}(h:eI w (.slice a n n) l)(C:eI w v2 l2)(L:l.length<=1000000)(D:l2.length<=1000000):
 ∃g w',(ZN #[23,23] ty #[.slice a n n,v2]).run prog w=.ok g w'/\(eI w' g (l++l2)/\Z w.heap.size w w'/\∃a' q,g=.slice a' (l++l2).length q):=by
 obtain⟨x,hi,r,s,t⟩:=Zt nh;obtain⟨a',q,e,K,h3,h4⟩:=id h;cases e
 obtain⟨y,m2,rfl,H,J,G⟩:=id C;obtain h0|h0:=Nat.eq_zero_or_pos l2.length
 have d:l2=[]:=μ h0;subst d;refine⟨.slice a l.length l.length,w,?_,by simpa using h,ω _ _,a,l.length,by simp⟩;obtain _|y:=y
 simp[ZN,υ lx,sizeOf,typeInfo,hi,YK,Builtin.firstCells,Yy];cases a<;>simp
 have E:=run_firstCells_some (P:=prog) w x.size 0 y 0 m2 [] (by simp) (by simp);simp[ZN,υ lx,sizeOf,typeInfo,hi,YK,Yy,E];cases a<;>simp[Yy]
 obtain⟨A,z,rfl,F,i⟩:=G h0;obtain _|a:=a
 have d:l=[]:=by
  obtain h5|h5:=Nat.eq_zero_or_pos l.length
  exact μ h5;obtain⟨_,_,e,_⟩:=h4 h5;cases e
 subst d;obtain⟨g,w',f,r1,r2,_⟩:=run_append_own (P:=prog) w w.heap.size 23 ty 50 x _ 2 16 lx hi r s t rfl (by decide) (Z4 I 0 0) 0 [] (YQ w _ 50 2) ⟨A,z,I⟩ l2.length m2 (l2.flatMap lU) (fx l2) (zt i) (af8 l2) (by unfold ZA;omega) (by omega) .refl;have c:OV w' w.heap.size g l2:=by unfold OV;simpa using r1
 obtain⟨a',q,m,_⟩:=aF c;exact⟨g,w',f,by simpa using c.reads,(ω _ w).grown r2 .refl (λk e=>by cases e),a',q,by simpa using m⟩
 ·have p:∀j u,(l.flatMap lU)[j]?=U u->w.cell? (a.add j)=U u:=by
   intro j u B;obtain h5|h5:=Nat.eq_zero_or_pos l.length
   have:l=[]:=μ h5;subst this;simp at B;obtain⟨b,o,e,hb,v⟩:=h4 h5;cases e
   exact zt v j u B
  obtain⟨g,w',f,r1,r2⟩:=YC (P:=prog) w 23 ty 50 x _ 2 16 lx hi r s t rfl (by decide) a l.length l.length (l.flatMap lU) (fx l) p ⟨A,z,I⟩ l2.length m2 (l2.flatMap lU) (fx l2) (zt i) (by omega) (by unfold ZA;omega) (by omega);have c:OV w' w.heap.size g (l++l2):=by unfold OV;rw[ZX,ZV];exact r1
  obtain⟨a',q,m,_⟩:=aF c;exact⟨g,w',f,c.reads,(ω _ w).grown r2 .refl (λk e=>by cases e),a',q,m⟩
section
variable(w:Y)(B b:Nat)
structure im(g:GH):Prop where
 cells:jB g
 cJ:∀v∈cJ g,zI g v
 news:g.new.length<=400
 bw:g.old.length<=400
 roots:g.roots.length<=10000
 aA:g.aA.length<=10000
 done:g.done.length<=10000
 eT:∀c∈g.new++g.old,c.2.length<=100
 marks:∀n∈g.marked,0<=n/\n<g.old.length
 marked:g.marked.length<=1000
def im.pp{g}(h:im g):(Md.cJ g).length<=100000:=by have:=h.roots;have:=h.aA;have:=h.done;simp[Md.cJ];omega
theorem sD{g:GH}(h:im g):∀(l:List Int),(∀n∈l,0<=n/\n<g.old.length) ->(l.flatMap λn=>(g.old.getD n.toNat (0,[])).2).length<=l.length*100
 |[],_=>.refl
 |n::l,hm=>by
  have c:=sD h l λx b=>hm x<|List.mem_cons_of_mem _ b;have d:=hm n List.mem_cons_self;have a:n.toNat<g.old.length:=by omega
  rw[YP,ZV,η];have h4:(g.old.getD n.toNat (0,[])).2.length<=100:=by rw[ZO,Z8 a];exact h.eT (g.old[n.toNat])<|Zy _<|YJ a
  omega
def im.more{g}(h:im g):(ka g).length<=100000:=by have:=sD h g.marked h.marks;have:=h.marked;unfold ka;omega
def im.zO{g}(h:im g):∀v∈ka g,zI g v:=by
 intro v a;obtain⟨n,c,a⟩:=List.mem_flatMap.1 a;have d:=h.marks n c;have b:n.toNat<g.old.length:=by omega
 rw[ZO,Z8 b]at a;exact h.cells _ (Zy _<|YJ b) v a
def EW{g:GH}{l}{n:Int}:(l++[n]).flatMap (λn=>(g.old.getD n.toNat (0,[])).2)=l.flatMap (λn=>(g.old.getD n.toNat (0,[])).2)++(g.old.getD n.toNat (0,[])).2:=by simp
def dv{w}:eI w (Z4 I 0 0) []:=⟨I,0,rfl,.refl,by decide,λh=>absurd h<|Nat.lt_irrefl 0⟩
def bS.less{w B B' bs bm so l}(h:bS w B bs bm so l)(a:B'<=B):bS w B' bs bm so l:=⟨Nat.le_trans a h.1,Nat.le_trans a h.2.1,h.2.2.1,h.2.2.2.1.less a,h.2.2.2.2⟩
def eI.tight{w a n m l}(h:eI w (.slice a n m) l):n=l.length/\eI w (.slice a n n) l:=by
 obtain⟨c,f,e,d,b,h3⟩:=h;cases e
 exact⟨rfl,a,l.length,rfl,.refl,by omega,h3⟩
def BN(g)(i:dm w B b g)(h:im g):
 Z2 prog 307 #[.agg #[],.pointer b] w λe w'=>(∃bs bm so,e=.returned (.tuple #[.pointer (bs:Nat),Δ Ξ 0])/\bS w' w bs bm so (bV g co []))/\Z w w w':=by
 have j:=V i;have a:=V h;clear i h
 go_enter (fU func307 rfl),ntmps307
 go_wp2_with fail
 have d:=af w<|Ψ #[] 119;refine(po 168 co (.inr ⟨rfl,rfl⟩) _ B b g _ [] (j.out.below d) dv a.out.cells a.out.cJ (λv k=>by cases k) (by simp) (by have:=a.out.news;have:=a.out.bw;omega) a.out.pp (λc hc=>by have:=a.out.eT c hc;omega)).mono ?_;rintro e l ⟨⟨bs,bm,so,rfl,hs⟩,f⟩
 go_wp2_with fail
 go_ret2
 exact⟨⟨bs,bm,so,rfl,hs.less<|by simp⟩,d.trans<|f.mono<|by simp⟩
def zP(g)(i:dm w B b g)(h:im g):
 Z2 prog 309 #[.agg #[],.pointer b] w λe w'=>(∃bs bm so,e=.returned (.tuple #[.pointer (bs:Nat),Δ Ξ 0])/\bS w' w bs bm so (bV g co []))/\Z w w w':=by
 have j:=V i;have a:=V h;clear i h
 go_enter (fU func309 rfl),ntmps309
 go_wp2_with fail
 have d:=af w<|Ψ #[] 120;refine(po 168 co (.inr ⟨rfl,rfl⟩) _ B b g _ [] (j.out.below d) dv a.out.cells a.out.cJ (λv k=>by cases k) (by simp) (by have:=a.out.news;have:=a.out.bw;omega) a.out.pp (λc hc=>by have:=a.out.eT c hc;omega)).mono ?_;rintro e l ⟨⟨bs,bm,so,rfl,hs⟩,f⟩
 go_wp2_with fail
 go_ret2
 exact⟨⟨bs,bm,so,rfl,hs.less<|by simp⟩,d.trans<|f.mono<|by simp⟩
def qe(g)(hg:dm w B b g)(hp:im g):
 Z2 prog 83 #[.agg #[],.pointer b] w λe w'=>(∃bs bm so,e=.returned (.tuple #[.pointer (bs:Nat),Δ Ξ (g.old.length:Int)])/\bS w' w bs bm so (bV g dy<|ka g))/\Z w w w':=by
 have HG:=V hg;have f:=V hp;obtain⟨n,o,m,row,hBb,hb,W,h2,h3,h4⟩:=hg;have j:=(Ω.1 hb).1;obtain⟨am,mm,Q,hm1,hm2,T⟩:=h3.reads;have S:w (b,5)=U (.slice am g.marked.length mm):=by simp[R,hb,Q]
 obtain⟨ao,mo,F,ho1,ho2,_⟩:=h2.reads h4.Du;have q:w (b,1)=U (.slice ao g.old.length mo):=by simp[R,hb,F]
 have E:=V q;have HM:=V T;have HB:=V hb;have H1:=V W;have H2:=V h2;have H4:=V h4;clear hp hb W h2 h3 h4 T F Q q;have X:=af w<|Ψ #[] 102
 go_enter (fU func83 rfl),ntmps83
 go_wp2_with fail
 have O:=cG X S j
 go_loopw [6,15] (λv i wr=>∃k:Nat,k<=g.marked.length/\i=Δ Ξ k/\eI wr v ((g.marked.take k).flatMap λn=>(g.old.getD n.toNat (0,[])).2)/\Z w w wr) (λ_ i _=>g.marked.length-(intOf i).toNat)
 case atStart=>exact⟨0,Nat.zero_le _,rfl,dv,X⟩
 case round=>
  obtain⟨k,hk,rfl,z,a⟩:=hrel;clear S O;by_cases hlt:k<g.marked.length
  ·obtain⟨ba,oa,e,hba,P⟩:=HM.out (by omega);cases e
   obtain⟨n0,e1⟩:=lw hlt;have d1:=(P.below a hba) k n0 e1;obtain⟨J,hn1⟩:=f.out.marks n0<|Γ e1;obtain⟨i,rfl⟩:=ZD J;have hi:i<g.old.length:=by omega
   obtain⟨kd,y,D⟩:=cQ hi;have r:=bH (row:=row) (kind:=4) D;obtain⟨gn,mn,e,_,hgn,_,_,hx⟩:=H2.out.cells (by rw[aT];omega);subst e;have q:wr (b,1)=U (.slice gn g.old.length mn):=by have:=HB.out;rw[aT]at this;rw[a.cell (p:=⟨b,1,I⟩) j];simp[R,this]
   obtain⟨f1,f2⟩:=jx dW (λv=>Δ Ξ v.1) (λv=>v.2) (λ_=>rfl) _ i _ r;obtain⟨ky,kv⟩:=B1 D;have d:=(H4.out.1 _ ky).reads;rw[kv]at d;dsimp only at d;obtain⟨ar,mr,hr,_⟩:=id d;rw[hr]at d;have c2:wr (gn,i*2+1)=U (.slice ar y.length mr):=by rw[a.cell (p:=⟨gn,i*2+1,I⟩) hgn,<-hr];exact hx _ _ f2
   have hvl:=f.out.eT (kd,y)<|Zy _<|Γ D;have hLl:((g.marked.take k).flatMap λn=>(g.old.getD n.toNat (0,[])).2).length<=100000:=by have W:=sD f.out (g.marked.take k) λx hx=>f.out.marks x<|List.mem_of_mem_take hx;have h2:=Zq k g.marked;have h3:=f.out.marked;omega
   have A:(g.old.getD (Int.toNat (i:Int)) (0,[])).2=y:=by simp[ZO,D]
   have G:((g.marked.take<|k+1).flatMap λn=>(g.old.getD n.toNat (0,[])).2)=((g.marked.take k).flatMap λn=>(g.old.getD n.toNat (0,[])).2)++y:=by rw[bW e1,EW,A]
   have K:=V G;obtain⟨av,mv,rfl,s,hv2,_⟩:=id z;have HV:=V z;have HVS:=V d;have hi0:(0:Int)<=(i:Int):=by omega
   have hL0:(0:Int)<=(((g.marked.take k).flatMap λn=>(g.old.getD n.toNat (0,[])).2).length:Int):=by omega
   have hL1:(((g.marked.take k).flatMap λn=>(g.old.getD n.toNat (0,[])).2).length:Int)<=(mv:Int):=by omega
   clear P e1 J r f1 f2 d hr z G A D hx kv ky;generalize ((g.marked.take k).flatMap λn=>(g.old.getD n.toNat (0,[])).2)=L at K HV hLl hL0 hL1 s⊢
   go_wp2_with fail
   go_region_law ((refine aX rfl _ _ 23 (by rfl) (.slice av L.length L.length) (.slice ar y.length mr) (by rfl) (by rfl) _ (tN (l:=L) (l2:=y) ((HV.out.tight.2).below (ω _ wr).drew) (HVS.out.below<|a.trans<|(ω _ wr).drew.mono a.size) (by omega)<|by omega) ?_;intro v' w1 W))
   all_goals
    obtain⟨k1,k2,_⟩:=W
    go_wp2_with fail
    go_roundw
    case rel=>exact⟨k+1,by omega,by go_num,by rw[K.out];exact k1,a.trans<|((ω _ wr).drew.trans k2).mono a.size⟩
    case measure=>simp[intOf];omega
  ·have hke:k=g.marked.length:=by omega
   subst hke;rw[ι .refl]at z;have u:eI wr _ (ka g):=z;clear z;have H:=f.out.more;have N:=V f.out.zO;obtain⟨av,mv,rfl,s,hv2,_⟩:=id u;have HV:=V u;have q:=cG a E.out j;clear u;obtain⟨ms,t⟩:∃ms,ms=ka g:=⟨_,rfl⟩;rw[<-t]at HV N s H⊢;have HMS:=V t;clear t
   go_wp2_with fail
   have h:=a.trans<|(ω _ wr).drew.mono a.size
   go_region_held3 (λw'=>w' (b,1)=U (.slice ao g.old.length mo)) (first|assumption|go_keep)
    (first|(go_at_call 150;(refine(po 151 dy (.inl ⟨rfl,rfl⟩) _ B b g _ ms (HG.out.below h) (HV.out.below (ω _ wr).drew) f.out.cells f.out.cJ N.out H (by have:=f.out.news;have:=f.out.bw;omega) f.out.pp (λc hc=>by have:=f.out.eT c hc;omega)).mono ?_);rintro e w3 ⟨⟨bs,bm,so,rfl,hs⟩,hb3⟩;have C:=h.trans<|hb3.mono h.size;have hc3:=cG C E.out j))
   go_wp2_with fail
   go_ret2
   exact⟨⟨bs,bm,so,rfl,by rw[<-HMS.out];exact hs.less h.size⟩,C⟩
end
section
variable{c:Array ZY}{b:Nat}(w:Y){J:Nat->Prop}(g:GH){B:Nat}
def cq(J:Nat->Prop)(B b:Nat)(g:GH)(s:uH)(w:Y)(e:Ending)(w':Y):Prop:=
 match Md.collect s g with
 |none=>e=.returned (.tuple #[Δ Ξ 0,.bool ξ])/\cR w' B b g J/\Z B w w'/\qb w w'/\∀j,J j->j<w->w'.heap[j]?=w.heap[j]?
 |some (n,g')=>e=.returned (.tuple #[Δ Ξ (n:Int),.bool M])/\cR w' B b g' J/\Z B w w'/\qb w w'/\∀j,J j->j<w->w'.heap[j]?=w.heap[j]?
def cF{w:Y}{e size n v xs t fr}(d:w.ownsRow B e size v n xs)(hb:w.heap[b]?=U (.cells c t fr))(i:t≠e):v.ownBlock≠U b:=by
 intro h;obtain⟨_,⟨rfl,_⟩|⟨g,f,a,rfl,_,j,_⟩⟩:=d;cases h
 cases h
 grind
def cR.ne{w j g}(h:cR w B b g J)(a:J j):j≠b:=by obtain⟨n,o,m,row,f,c,e,d,h3,h4,h5⟩:=h;exact(h5 j a).1
def cR.copy{w L g}(h:cR w B L g J)(p:∀j,J j->j≠b)(hb:w.heap[b]?=U (.cells c 114 (0,0)))(l:B<=b):
 ∃a0 D e a1 P m1 f S m2 C x v F y Q E u N,w.heap[L]?=U (Ψ #[.slice a0 D e,.slice a1 P m1,.slice f S m2,.slice C x v,.slice F y Q,.slice E u N] 114 (0,0))/\
  ∀w',w'.heap[b]?=U (Ψ #[.slice a0 D e,.slice a1 P m1,.slice f S m2,.slice C x v,.slice F y Q,.slice E u N] 114 (0,0)) ->(∀k,k≠b->w'.heap[k]?=w.heap[k]?) ->cR w' B b g J:=by
 obtain⟨n,o,m,row,hB,r,A,t,h3,h4,h5⟩:=h;obtain⟨r0,r1,r2⟩:=h4.roots;obtain⟨an,mn,K,_⟩:=id A;obtain⟨X,W,H,_⟩:=id t;obtain⟨T,mm,G,_⟩:=aF h3;obtain⟨a0,e,s,_⟩:=aF r0;obtain⟨a1,m1,e1,_⟩:=aF r1;obtain⟨f,m2,e2,_⟩:=aF r2;refine⟨an,_,mn,X,_,W,a0,_,e,a1,_,m1,f,_,m2,T,_,mm,by rw[r,K,H,G,s,e1,e2],λw' i a=>?_⟩;refine⟨n,o,m,row,l,by rw[i,K,H,G,s,e1,e2],A.below λg q d=>a g (by rintro rfl;rw[hb]at d;cases d),t.below λg q d=>a g (by rintro rfl;rw[hb]at d;cases d),aS h3 λg d=>a g (by rintro rfl;exact cF h3 hb (by decide) d),⟨λk z=>aS (h4.1 k z) λg d=>a g (by rintro rfl;exact cF (h4.1 k z) hb (by decide) d),h4.2⟩,λj O=>⟨p j O,(h5 j O).2⟩⟩
def dm.obj{w g}(h:dm w B b g):B<=b/\b<w/\∃c,w.heap[b]?=U (.cells c 114 (0,0)):=by obtain⟨n,o,m,row,a,hb,_⟩:=h;exact⟨a,(Ω.1 hb).1,_,hb⟩
def wD{w:Y}{v0 v1 v2 v3 v4 v5}(hb:w.heap[b]?=U (.cells c 114 (0,0)))(hc:c.size=6):
 ((((((w.setCell b v0).setCell (b,1) v1).setCell (b,2) v2).setCell (b,3) v3).setCell (b,4) v4).setCell (b,5) v5).heap[b]?=U (Ψ #[v0,v1,v2,v3,v4,v5] 114 (0,0))/\
 ∀k,k≠b->((((((w.setCell b v0).setCell (b,1) v1).setCell (b,2) v2).setCell (b,3) v3).setCell (b,4) v4).setCell (b,5) v5).heap[k]?=w.heap[k]?:=by
 constructor
 ·have h:=heap_setCell_same (i:=5) (v:=v5) (heap_setCell_same (i:=4) (v:=v4)<|heap_setCell_same (i:=3) (v:=v3)<|heap_setCell_same (i:=2) (v:=v2)<|heap_setCell_same (i:=1) (v:=v1)<|heap_setCell_same (i:=0) (v:=v0) hb);rw[h];clear h;obtain⟨l⟩:=c;have d:l.length=6:=hc;clear hc hb;obtain _|⟨x0,_|⟨x1,_|⟨x2,_|⟨x3,_|⟨x4,_|⟨x5,_|⟨x6,l⟩⟩⟩⟩⟩⟩⟩:=l
  all_goals first
   |(exfalso;simp at d;done)
   |rfl
 intro k a;rw[ψ _ _ _ _ a,ψ _ _ _ _ a,ψ _ _ _ _ a,ψ _ _ _ _ a,ψ _ _ _ _ a,ψ _ _ _ _ a]
def mH:Md.collect .minor g=if 32<g.old.length+(bV g dy<|ka g).length then I else U ((bV g dy<|ka g).length,Md.move g (bV g dy<|ka g) g.old.length):=rfl
def ou:Md.collect .full g=if 32<(bV g co []).length then I else U ((bV g co []).length,Md.move g (bV g co []) 0):=by show(if 32<0+_ then _ else _)=_;simp
def mI:Md.collect .major g=if 32<(bV (iF g) co []).length then I else U ((bV (iF g) co []).length,Md.move (iF g) (bV (iF g) co []) 0):=by show(if 32<0+_ then _ else _)=_;simp
def IV:(ZE (.iface 102<|.agg #[]) 171 120 M).run prog w=.ok (.tuple #[.agg #[],.bool ξ]) w:=by kernel_rfl
def Oa:(ZE (.iface 119<|.agg #[]) 171 120 M).run prog w=.ok (.tuple #[.agg #[],.bool ξ]) w:=by kernel_rfl
def IW:(ZE (.iface 120<|.agg #[]) 171 120 M).run prog w=.ok (.tuple #[.agg #[],.bool M]) w:=by kernel_rfl
def IX:(Y2 463 102 (.agg #[]) "caracole/gc.plan").run prog w=.ok (83,.agg #[]) w:=by kernel_rfl
def IY:(Y2 463 102 (.agg #[]) "caracole/gc.sort").run prog w=.ok (306,.agg #[]) w:=by kernel_rfl
def Ob:(Y2 463 119 (.agg #[]) "caracole/gc.plan").run prog w=.ok (307,.agg #[]) w:=by kernel_rfl
def IZ:(Y2 463 120 (.agg #[]) "caracole/gc.plan").run prog w=.ok (309,.agg #[]) w:=by kernel_rfl
def I0:(Y2 463 120 (.agg #[]) "caracole/gc.sort").run prog w=.ok (310,.agg #[]) w:=by kernel_rfl
def lz(B b g)(hg:cR w B b g J)(hp:im g)(X:B<=w):
 Z2 prog 144 #[.pointer b,.iface 102<|.agg #[]] w (cq J B b g .minor w):=by
 have O:=V hg;have l:=V hp;clear hg hp;have W:=IV;have hmp:=IX
 go_enter (fU func144 rfl),ntmps144
 go_wp2_with fail
 clear W hmp;have K:=af w<|Ψ #[] 120;refine(qe _ B b g (O.out.own.below K) l.out).mono ?_;rintro e w3 ⟨⟨N,bm,so,rfl,hs⟩,hb3⟩;obtain⟨order,h⟩:∃o,o=bV g dy (ka g):=⟨_,rfl⟩;rw[<-h]at hs;have r:c9 g dy order:=by rw[h];exact c9.bV (.inl rfl) l.out.cells l.out.cJ l.out.zO
 have a:=K.trans<|hb3.mono<|by simp
 obtain⟨z,D,F,hsm,aar,_⟩:=aF hs.2.2.2.1;have C:w3 N=U (.slice z order.length D):=by simp[R,hs.2.2.1,F]
 have hol:=r.len;have hn1:=l.out.news;have hn2:=l.out.bw;have HO:=V h;have HK:=V r;have HS:=V hs;have A:=O.out.below a;have x:=V A;clear h r hs F A;by_cases q:32<g.old.length+order.length
 ·have s:(32:Int)<(g.old.length:Int)+(order.length:Int):=by omega
  go_wp2_with fail
  go_ret2
  have T:Md.collect .minor g=I:=by rw[mH,<-HO.out,if_pos q]
  unfold cq;rw[T];exact⟨rfl,x.out,a.mono X,qb.bK a,λj _ m=>a.block j m⟩
 ·have s:¬(32:Int)<(g.old.length:Int)+(order.length:Int):=by omega
  go_wp2_with fail
  refine(BM w3 B b _ N bm so g dy order g.old.length x.out HS.out HK.out (.inl ⟨rfl,λv hv=>by have:=(HK.out.ok v hv).2;simpa[dy]using this⟩) (Nat.le_trans X a.size) (by omega) (λc hc=>by have:=l.out.eT c hc;omega) (by have:=l.out.roots;omega) (by have:=l.out.aA;omega) (by have:=l.out.done;omega)).mono ?_;rintro e w4 ⟨rfl,u,H,y,G,E⟩;have hcs:w4 N=U (.slice z order.length D):=by have:=C;simp only[R]at this⊢;rw[y];exact this
  obtain⟨f,hbl,c,t⟩:=u.own.obj;obtain⟨a0,n0,m0,a1,n1,m1,a2,n2,m2,a3,n3,m3,a4,n4,m4,a5,n5,m5,n,k⟩:=u.copy (λj L=>O.out.ne L) t f;have e0:w4 b=U (.slice a0 n0 m0):=by simp[R,n]
  have e1:w4 (b,1)=U (.slice a1 n1 m1):=by simp[R,n]
  have e2:w4 (b,2)=U (.slice a2 n2 m2):=by simp[R,n]
  have e3:w4 (b,3)=U (.slice a3 n3 m3):=by simp[R,n]
  have e4:w4 (b,4)=U (.slice a4 n4 m4):=by simp[R,n]
  have e5:w4 (b,5)=U (.slice a5 n5 m5):=by simp[R,n]
  have d:∀i,w4.frozen? ⟨b,i,I⟩=ξ:=λi=>by simp[Z0,n]
  have f0:=d 0;have f1:=d 1;have f2:=d 2;have f3:=d 3;have f4:=d 4;have f5:=d 5;have hne:N≠b:=by rintro rfl;have:=HS.out.2.2.1;obtain⟨_,_,c',S⟩:=x.out.own.obj;rw[S]at this;cases this
  have HC:=V k;have Q:=V<|(qb.bK a).trans G;have HFJ:=V<|And.intro E t;clear G E;have H2:=V n;have H4:=V H;clear d k n t u H y C
  go_wp2_with fail
  go_ret2
  obtain⟨k1,P⟩:=wD (v0:=.slice a0 n0 m0) (v1:=.slice a1 n1 m1) (v2:=.slice a2 n2 m2) (v3:=.slice a3 n3 m3) (v4:=.slice a4 n4 m4) (v5:=.slice a5 n5 m5) H2.out rfl;have T:Md.collect .minor g=U (order.length,Md.move g order g.old.length):=by rw[mH,<-HO.out,if_neg q]
  unfold cq;rw[T];exact⟨rfl,HC.out _ k1 P,(a.mono X).trans<|(((((H4.out.setCell (p:=⟨b,0,I⟩) f _).setCell (p:=⟨b,1,I⟩) f _).setCell (p:=⟨b,2,I⟩) f _).setCell (p:=⟨b,3,I⟩) f _).setCell (p:=⟨b,4,I⟩) f _).setCell (p:=⟨b,5,I⟩) f _,Q.out.trans<|qb.IT H2.out P,λj L m=>(P j<|O.out.ne L).trans<|(HFJ.out.1 j L<|Nat.lt_of_lt_of_le m a.size).trans<|a.block j m⟩
def tO(B b g)(hg:cR w B b g J)(hp:im g)(X:B<=w):
 Z2 prog 144 #[.pointer b,.iface 119<|.agg #[]] w (cq J B b g .full w):=by
 have O:=V hg;have n:=V hp;clear hg hp;have W:=Oa;have hmp:=Ob
 go_enter (fU func144 rfl),ntmps144
 go_wp2_with fail
 clear W hmp;have K:=af w<|Ψ #[] 120;refine(BN _ B b g (O.out.own.below K) n.out).mono ?_;rintro e w3 ⟨⟨N,bm,so,rfl,hs⟩,hb3⟩;obtain⟨order,h⟩:∃o,o=bV g co []:=⟨_,rfl⟩;rw[<-h]at hs;have r:c9 g co order:=by rw[h];exact c9.bV (.inr rfl) n.out.cells n.out.cJ (λv hv=>by cases hv)
 have a:=K.trans<|hb3.mono<|by simp
 obtain⟨z,D,F,hsm,aar,_⟩:=aF hs.2.2.2.1;have C:w3 N=U (.slice z order.length D):=by simp[R,hs.2.2.1,F]
 have hol:=r.len;have hn1:=n.out.news;have hn2:=n.out.bw;have HO:=V h;have HK:=V r;have HS:=V hs;have A:=O.out.below a;have x:=V A;clear h r hs F A;by_cases q:32<order.length
 ·have s:(32:Int)<(order.length:Int):=by omega
  go_wp2_with fail
  go_ret2
  have T:Md.collect .full g=I:=by rw[ou,<-HO.out,if_pos q]
  unfold cq;rw[T];exact⟨rfl,x.out,a.mono X,qb.bK a,λj _ l=>a.block j l⟩
 ·have s:¬(32:Int)<(order.length:Int):=by omega
  go_wp2_with fail
  refine(BM w3 B b _ N bm so g co order 0 x.out HS.out HK.out (.inr rfl) (Nat.le_trans X a.size) (by omega) (λc hc=>by have:=n.out.eT c hc;omega) (by have:=n.out.roots;omega) (by have:=n.out.aA;omega) (by have:=n.out.done;omega)).mono ?_;rintro e w4 ⟨rfl,u,H,y,G,E⟩;have hcs:w4 N=U (.slice z order.length D):=by have:=C;simp only[R]at this⊢;rw[y];exact this
  obtain⟨f,hbl,c,t⟩:=u.own.obj;obtain⟨a0,n0,m0,a1,n1,m1,a2,n2,m2,a3,n3,m3,a4,n4,m4,a5,n5,m5,m,k⟩:=u.copy (λj L=>O.out.ne L) t f;have e0:w4 b=U (.slice a0 n0 m0):=by simp[R,m]
  have e1:w4 (b,1)=U (.slice a1 n1 m1):=by simp[R,m]
  have e2:w4 (b,2)=U (.slice a2 n2 m2):=by simp[R,m]
  have e3:w4 (b,3)=U (.slice a3 n3 m3):=by simp[R,m]
  have e4:w4 (b,4)=U (.slice a4 n4 m4):=by simp[R,m]
  have e5:w4 (b,5)=U (.slice a5 n5 m5):=by simp[R,m]
  have d:∀i,w4.frozen? ⟨b,i,I⟩=ξ:=λi=>by simp[Z0,m]
  have f0:=d 0;have f1:=d 1;have f2:=d 2;have f3:=d 3;have f4:=d 4;have f5:=d 5;have hne:N≠b:=by rintro rfl;have:=HS.out.2.2.1;obtain⟨_,_,c',S⟩:=x.out.own.obj;rw[S]at this;cases this
  have HC:=V k;have Q:=V<|(qb.bK a).trans G;have HFJ:=V<|And.intro E t;clear G E;have H2:=V m;have H4:=V H;clear d k m t u H y C
  go_wp2_with fail
  go_ret2
  obtain⟨k1,P⟩:=wD (v0:=.slice a0 n0 m0) (v1:=.slice a1 n1 m1) (v2:=.slice a2 n2 m2) (v3:=.slice a3 n3 m3) (v4:=.slice a4 n4 m4) (v5:=.slice a5 n5 m5) H2.out rfl;have T:Md.collect .full g=U (order.length,Md.move g order 0):=by rw[ou,<-HO.out,if_neg q]
  unfold cq;rw[T];exact⟨rfl,HC.out _ k1 P,(a.mono X).trans<|(((((H4.out.setCell (p:=⟨b,0,I⟩) f _).setCell (p:=⟨b,1,I⟩) f _).setCell (p:=⟨b,2,I⟩) f _).setCell (p:=⟨b,3,I⟩) f _).setCell (p:=⟨b,4,I⟩) f _).setCell (p:=⟨b,5,I⟩) f _,Q.out.trans<|qb.IT H2.out P,λj L l=>(P j<|O.out.ne L).trans<|(HFJ.out.1 j L<|Nat.lt_of_lt_of_le l a.size).trans<|a.block j l⟩
end
section
variable{l:List (Int×ZY)}{n:Nat}{w:Y}{a:Option Addr}{m B:Nat}
def mp(w:Y)(B b:Nat)(cs:List HC)(roots:List HV):Prop:=∃c r aw mw ad md l,B<=b/\w.heap[b]?=U (Ψ #[c,r,.slice aw 0 mw,.slice ad 0 md] 159 (0,0))/\mw<=9223372036854775807/\md<=9223372036854775807/\
 OC w B c l/\df w B l cs/\OV w B r roots/\∀(i:Nat) p,l[i]?=U p->∀g,p.2.ownBlock=U g->r.ownBlock≠U g
def qP(h:m<=9223372036854775807):n9 w (.slice a 0 m) []:=⟨a,m,rfl,Nat.zero_le _,h,λh0=>absurd h0<|Nat.lt_irrefl 0⟩
def mp.reads{w B b cs roots}(h:mp w B b cs roots):qw w b ⟨cs,roots,[],[]⟩:=by obtain⟨c,r,aw,f,ad,a,l,g,hb,e,d,h3,h4,h5,_⟩:=h;exact⟨c,r,.slice aw 0 f,.slice ad 0 a,by simp[R,hb],by simp[R,hb],by simp[R,hb],by simp[R,hb],h3.reads h4.hold,h5.reads,qP e,qP d⟩
def afc{g:Nat}(h:OC w B (.slice g n m) l):∀j u,(l.flatMap dW)[j]?=U u->w ((g:Addr).add j)=U u:=by
 intro j u c;have b:0<l.length:=by grind
 obtain⟨a,d,e,_,_,h3⟩:=aF h;cases e
 obtain⟨f,e,_,_,_,hc⟩:=h3 b;cases e
 have:=hc j u c;unfold Zx;split
 rename_i h0;subst h0;exact this;simpa using this
def Dz(h:OC w B (.slice a n m) l):n=l.length/\(a=I\/∃g,a=U ⟨g,0,I⟩):=by
 obtain⟨e,_⟩|⟨g,c,b,e,_⟩:=h.2
 grind
 grind
def tP{ty}{bx:Nat}{k x t fr}(h:OC w B (.slice a n m) l)(D:w.heap[bx]?=U (Ψ #[Δ Ξ k,x] t fr))(E:x.oneCell'=M)(F:l.length<=1000000):
 ∃b w',(ZN #[22,22] ty #[.slice a n n,.slice bx 1 1]).run prog w=.ok b w'/\OC w' w b (l++[(k,x)])/\Z w w w'/\∃g y,b=.slice (g:Nat) (l.length+1) y:=by
 obtain⟨A,hi,i,o,p⟩:=Zt ni;have d:∀j u,(dW (k,x))[j]?=U u->w ((bx:Addr).add j)=U u:=by
  intro j u f
  match j,f with
  |0,f=>cases f;simp[R,D,Zx]
  |1,f=>cases f;simp[R,D,Zx]
  |j+2,f=>simp[dW]at f
 have v:∀u∈dW (k,x),u.oneCell'=M:=by
  intro u C;simp[dW]at C;obtain rfl|rfl:=C
  rfl;exact E
 have fin:∀b w',w'.ownsRow w 76 2 b (l.length+1) (l.flatMap dW++dW (k,x)) ->OC w' w b (l++[(k,x)])/\∃g y,b=.slice (g:Nat) (l.length+1) y:=by
  intro b w' r1;have r:OC w' w b (l++[(k,x)]):=by unfold OC;rw[ZX,ZV];simpa using r1
  refine⟨r,?_⟩;obtain⟨g,s,e,_⟩:=r1.form (by omega);exact⟨g,s,e⟩
 obtain⟨rfl,rfl|⟨g,rfl⟩⟩:=Dz h;have q:l=[]:=by
  obtain h5|h5:=Nat.eq_zero_or_pos l.length
  exact μ h5;obtain⟨_,_,e,_,_,h4⟩:=aF h;cases e
  obtain⟨_,e,_⟩:=h4 h5;cases e
 subst q;obtain⟨b,w',c,r1,r2,_⟩:=run_append_own (P:=prog) w w 22 ty 76 A _ 2 32 mF hi i o p rfl (by decide) (Z4 I 0 0) 0 [] (YQ w _ 76 2) bx 1 1 (dW (k,x)) rfl d v (by unfold ZA;omega) (by omega) .refl;obtain⟨q1,z⟩:=fin b w' (by simpa using r1);exact⟨b,w',c,q1,(ω _ w).grown r2 .refl (λk e=>by cases e),z⟩
 ·obtain⟨b,w',c,r1,r2⟩:=YC (P:=prog) w 22 ty 76 A _ 2 32 mF hi i o p rfl (by decide) (g:Nat) l.length l.length (l.flatMap dW) (iu l) (afc h) bx 1 1 (dW (k,x)) rfl d (by omega) (by unfold ZA;omega) (by omega);obtain⟨q1,z⟩:=fin b w' r1;exact⟨b,w',c,q1,(ω _ w).grown r2 .refl (λk e=>by cases e),z⟩
def zR{g l z}(b:l.length=n)(c:B<=g)(hw:w.heap[g]?=U (.cells (l.flatMap lU++(madeCells z<|n*2).toList.drop (l.flatMap lU).length).toArray 50 (0,0)))(d:n<=1000000):OV w B (.slice g n n) l:=by
 subst b;have a:=fx l;rw[(ZC (by rw[a];have:=jz z<|l.length*2;simp at this⊢;omega))]at hw;refine⟨a,.inr ⟨g,l.length,_,rfl,c,hw,.refl,by unfold ZA;omega,by simpa using a,?_⟩⟩
 grind
def aa{b i k:Nat}{v}(h:k≠b):(w.setCell (b,i) v).heap[k]?=w.heap[k]?:=ψ _ _ _ _ h
end
def aas{w c w4 B f b h bm so a N n}(hs:kc w B f b h bm so N)(h3:w.grownBy c (U bm))(x:zi c bm (N++[n]))(h4:c.grownBy w4 so.ownBlock)(v:OI w4 B a (N++[n]))(s:a.ownBlock=so.ownBlock\/∃k,a.ownBlock=U k/\c.heap.size<=k):
 kc (w4.setCell ⟨b,0,I⟩ a) B f b h bm a (N++[n])/\cz w (w4.setCell ⟨b,0,I⟩ a) b bm so a:=by
 obtain⟨o,z,q⟩:=hs.ne;obtain⟨y,D⟩:=hs.Q4;have z3:=h3.size;have C:=h4.size;obtain⟨q1,A,u⟩:=hs.free hs.h3 (by decide) (by decide);obtain⟨r1,r2,r3⟩:=hs.free hs.h5 (by decide) (by decide);have d:∀k,k<w.heap.size->k≠bm->so.ownBlock≠U k->w4.heap[k]?=w.heap[k]?:=λk j m l=>(h4.block k (by omega)<|ζ l).trans<|h3.block k j λe=>m<|φ e;have t:a.ownBlock≠U b:=by grind
 refine⟨⟨hs.b3,hs.b4,hs.b5,hs.b6,(aa q1).trans<|(d f (Ω.1 hs.h3).1 A u).trans hs.h3,?_,(aa r1).trans<|(d h (Ω.1 hs.h5).1 r2 r3).trans hs.h5,aS v λg r=>aa λe=>t<|e▸r,?_⟩,⟨h4.os.trans h3.os,h4.tape.trans h3.tape,h4.output.trans h3.output,by simp[ZW];omega,λk j p m l=>(aa p).trans<|d k j m l,λk e=>?_⟩⟩;exact heap_setCell_same (i:=0)<|(d b y o z).trans hs.h4;exact x.of_block<|(aa<|ζ o).trans<|h4.block bm (by omega)<|ζ q
 grind
def NE(w B v c A bm so N n)(h:kc w B v c A bm so N)(hl:N.length<=1000000):
 Z2 prog 177 #[Δ Ξ n,.pointer v,.pointer c] w λe w'=>e=.returned (Δ Ξ ((ml N n).idxOf n:Nat))/\∃u,kc w' B v c A bm u (ml N n)/\cz w w' c bm so u:=by
 have G:=V h;have T:w v=U (.map<|U bm):=by simp[R,h.h3]
 have r:w c=U so:=by simp[R,h.h4]
 have l:=PR n h.map;by_cases i:n∈N
 ·have t:ml N n=N:=by unfold ml;rw[if_pos (by simpa using i)]
  rw[t];simp only[i,if_true,decide_true]at l;generalize N.idxOf n=ix at l⊢;clear h t i r
  go_enter (fU func177 rfl),ntmps177
  go_wp2_with fail
  go_ret;exact⟨rfl,_,G.out,cz.refl _⟩
 ·have t:ml N n=N++[n]:=by unfold ml;rw[if_neg (by simpa using i)]
  have hi:(N++[n]).idxOf n=N.length:=by simp[YM,i]
  rw[t,hi];simp only[i,if_false,decide_false]at l;have HX:=V i;obtain⟨a,m,z,P,Q,_⟩:=aF h.row;obtain⟨f,E,q,d⟩:=PS n h.map i;obtain⟨y,H,C⟩:=h.ne;subst z;have c3:=(d.cell_far c h.Q4.1 λe=>y<|φ e).trans r;have S:f.frozen? c=ξ:=(d.frozen_far c h.Q4.1 λe=>y<|φ e).trans (by simp[Z0,h.h4]);have o:OI f B (.slice a N.length m) N:=aS h.row λg D=>d.block g (h.row.lt g D).2 λe=>C<|by rw[D,φ e]
  have s:c<f:=Nat.lt_of_lt_of_le h.Q4.1 d.size;have K:B<=f:=by have:=h.b4;omega
  have L:=V d;have J:=V q;have HO:=V o;have F:=V H;clear h t i hi y H C d q o
  go_enter (fU func177 rfl),ntmps177
  go_wp2_with (at_builtin;refine zp rfl _ _ rfl B _ _ rfl (HO.out.below<|af f _) f.heap.size _ n rfl (by simp[go_sem,Zx]) (by omega) (by simp;omega) ?_;intro X w6 b O k j;obtain⟨a6,W,rfl,_⟩:=aF b;have c6:=(k.cell_far c (by simp;omega)<|ζ F.out).trans<|((af f _).cell (p:=⟨c,0,I⟩) s).trans c3;have f6:=(k.frozen_far c (by simp;omega)<|ζ F.out).trans<|((af f _).frozen (p:=⟨c,0,I⟩) s).trans S)
  go_ret;have x:(N++[n]).length=N.length+1:=by simp
  rw[x]at b j;exact⟨rfl,_,aas G.out L.out J.out (ae2 (af f _) k) b (by obtain e|e:=j;exact .inl e;exact .inr ⟨_,e,by simp⟩)⟩
section
def Xv{b:Type}{l:List b}{i a}(h:l[i]?=U a):l.set i a=l:=by
 refine ZF λj=>?_
 grind
def OV.ah2{w}{B g n m k:Nat}{l p q}(r:Int)(h:OV w B (.slice g n m) l)(c:l[k]?=U (p,q)):
 OV (w.setCell (g,k*2+1) r) B (.slice g n m) (l.set k (p,r)):=by
 have b:(l.set k (p,r)).flatMap lU=(l.flatMap lU).set (k*2+1) r:=by rw[pn (p,r) l k ((Θ.1 c).1),Xv (jx lU (λv=>Δ Ξ v.1) (λv=>Δ Ξ v.2) (λ_=>rfl) l k _ c).1]
 obtain⟨f,⟨h0,_⟩|⟨u,i,a,e,j,s,t,d,hs,o⟩⟩:=h;cases h0
 cases e
 refine⟨by rw[b];simpa using f,.inr ⟨g,m,a.setIfInBounds (k*2+1) r,by simp,j,?_,by simpa using t,d,by simpa using hs,?_⟩⟩;simp[ZW,ZB,s];rw[b,<-o];simp only[Ze,YH,YA]
section
variable{w w':Y}{B p3 p4 p5 bm:Nat}{so so':ZY}{N:List Int}
def kc.setCell(h:kc w B p3 p4 p5 bm so N){g:Nat}{b t fr}(d:w.heap[g]?=U (.cells b t fr))(a:t≠24/\t≠3/\t≠164/\t≠47)(i:Nat)(v):kc (w.setCell (g,i) v) B p3 p4 p5 bm so N:=by
 obtain⟨l,f,m⟩:=h.free d a.1 a.2.1;have k:∀j,j≠g->(w.setCell (g,i) v).heap[j]?=w.heap[j]?:=λj c=>aa c;exact⟨h.b3,h.b4,h.b5,h.b6,(k _ λe=>by subst e;have:=h.h3;rw[d]at this;cases this;exact a.2.2.1 rfl).trans h.h3,(k _ (ζ l)).trans h.h4,
  (k _ λe=>by subst e;have:=h.h5;rw[d]at this;cases this;exact a.2.2.2 rfl).trans h.h5,aS h.row λj c=>k j λe=>m (e▸c),h.map.of_block (k _ (ζ f))⟩
def cz.setCell{bs}(h:cz w w' bs bm so so'){g}(e:w.heap.size<=g)(i:Nat)(v):cz w (w'.setCell (g,i) v) bs bm so so':=⟨h.os,h.tape,h.output,by simpa[ZW]using h.size,λk d a b c=>(aa<|by omega).trans<|h.block k d a b c,h.own⟩
def Xw{g n m:Nat}{l B'}(h:OV w B' (.slice g n m) l):∃a,w.heap[g]?=U (.cells a 50 (0,0)):=by
 obtain⟨e,⟨h0,_⟩|⟨o,b,a,d,f,j,k,c,hs,i⟩⟩:=h
 grind
 grind
end
def Qg(N n):N<+:ml N n:=by
 unfold ml
 grind
theorem lE:∀(l:List HV) (N:List Int),N<+:iZ N l
 |[],N=>List.prefix_refl _
 |v::l,N=>by
  rw[oy];refine List.IsPrefix.trans ?_<|lE l _;split
  exact Qg _ _;simp
def sT(N l a):iZ N (l++a)=iZ (iZ N l) a:=by simp[iZ]
def Kp{N}{l:List HV}{k:Nat}{p q}(h:l[k]?=U (p,q)):iZ N (l.take<|k+1)=if p=1 then ml (iZ N<|l.take k) q else iZ N (l.take k):=by rw[bW h,sT];rfl
def JX{A C}{n:Int}(h:A<+:C)(a:n∈A):C.idxOf n=A.idxOf n:=by obtain⟨t,rfl⟩:=h;rw[YM,if_pos a]
def Kq(N n):n∈ml N n:=ND.2<|.inr rfl
def zY(l):∀N,(iZ N l).length<=N.length+l.length:=by
 induction l with
 |nil=>intro N;exact .refl
 |cons v l a=>
  intro N;rw[oy];have:=a (if v.1=1 then ml N v.2 else N);have b:(if v.1=1 then ml N v.2 else N).length<=N.length+1:=by
   split
   unfold ml;split<;>simp;omega
  simp;omega
def Ke(w B K y x bm so v N l)(h:kc w B K y x bm so N)(hv:eI w v l)(hN:N.length<=100000)(hl:l.length<=100000):
 Z2 prog 178 #[v,.pointer x] w λe w'=>∃r f,e=.returned r/\OV w' w r (l.map<|yA<|iZ N l)/\kc w' B K y x bm f (iZ N l)/\cz w w' y bm so f:=by
 have HS:=V h;obtain⟨a,m,rfl,hm,hm2,ha⟩:=hv;obtain⟨i0,hi,hz0,Q,hz2⟩:=Zt nh;have hmk:=λW=>BC l.length l.length .refl (by omega) W;have HA:=V ha;have HI:=V hi;have HZ1:=V Q;have c5:w x=U (.func (.func 177) #[] #[.pointer K,.pointer y]):=by simp[R,h.h5]
 have hp5:=(Ω.1 h.h5).1;have L:=h.free h.h5 (by decide) (by decide);have F:=V L;clear h ha hi hz0 Q hz2 L
 go_enter (fU func178 rfl),ntmps178
 go_wp2_with (with_reducible refine iW rfl (.tmp 10) (.tmp 11) 23 23 rfl 50 i0 2 w l.length l.length a m _ 50 (l.flatMap lU) lx HI.out HZ1.out rfl rfl (ο w _) (fx l) (λh0=>?h1) (by rw[fx,jz];omega) (af8 l) ?_)
 case h1=>obtain⟨bb,o,e,hb2,hat⟩:=HA.out h0;refine⟨_,e,λj u hu=>(World.cell?_alloc_lt w _ _ ?_).trans<|zt hat j u hu⟩;rw[show(((bb,o):Addr).add j).block=bb by unfold Zx;split<;>rfl];exact hb2
 ·intro w1 D S;rw[<-List.length_flatMap]at D;have H:=(af w _).grown S (by simp) (λk hk=>by cases hk;exact .refl);have T:=zR rfl .refl D (by omega);have qv:=HS.out.below H;have X:cz w w1 y bm so so:=cz.bK H;clear D S hmk HI HZ1 H
  go_wp2_with fail
  go_loopw [15] (λi wr=>∃(k:Nat) (f:ZY),k<=l.length/\i=Δ Ξ k/\OV wr w (.slice w.heap.size l.length l.length) ((l.take k).map (yA<|iZ N l)++l.drop k)/\kc wr B K y x bm f (iZ N<|l.take k)/\cz w wr y bm so f) (λi _=>l.length-(intOf i).toNat)
  case atStart=>exact⟨0,so,Nat.zero_le _,rfl,by simpa using T,by simpa[iZ]using qv,X⟩
  case round=>
   clear T qv X;obtain⟨k,O,hk,rfl,b,c,d⟩:=hrel;by_cases hlt:k<l.length
   ·obtain⟨p,q,e1⟩:=ep hlt;obtain⟨c1,c2,A,hBg,hgl⟩:=OV.at_ b<|Wa e1;have HO:=V b;have C:=V c;have J:=V e1;have hz:=d.size;have k5:=(d.cell (a:=⟨x,0,I⟩) hp5 F.out.1 F.out.2.1 F.out.2.2).trans c5;have anc:x<wr:=by omega
    have f1:=A<|k*2+1;have hvl:(iZ N<|l.take k).length<=1000000:=by have:=zY (l.take k) N;simp at this;omega
    by_cases hp:p=1
    ·subst hp;clear A e1 b c
     go_wp2_with fail
     refine(NE _ B K y x bm O (iZ N<|l.take k) q (C.out.below<|af wr _) hvl).mono ?_;rintro e w2 ⟨rfl,so2,hn2,E⟩;have t:=Kc (C.out.below<|af wr<|Ψ #[Δ Ξ 1,Δ Ξ q] 50) E (HO.out.alloc _) (by decide) (by decide);obtain⟨d1,d2,P,-,-⟩:=OV.at_ t<|Wa J.out;have g1:=P<|k*2+1;have n:=OV.ah2 (((ml (iZ N<|l.take k) q).idxOf q:Nat):Int) t<|Wa J.out;obtain⟨cur,z⟩:=Xw t;have s:=hn2.setCell z (by decide) (k*2+1)<|Δ Ξ (((ml (iZ N<|l.take k) q).idxOf q:Nat):Int);have G:=(d.trans<|(cz.bK<|af wr<|Ψ #[Δ Ξ 1,Δ Ξ q] 50).trans E).setCell hBg (k*2+1)<|Δ Ξ (((ml (iZ N<|l.take k) q).idxOf q:Nat):Int);have hr:yA (iZ N l) (1,q)=(1,(((ml (iZ N<|l.take k) q).idxOf q:Nat):Int)):=by
      have h1:iZ N (l.take<|k+1)<+:iZ N l:=by have:=lE (l.drop<|k+1)<|iZ N<|l.take<|k+1;rwa[<-sT,YY]at this
      have g:=Kp (N:=N) J.out;rw[if_pos rfl]at g;rw[g]at h1;simp[yA,JX h1<|Kq _ _]
     rw[<-hr,IB J.out]at n;have g:=Kp (N:=N) J.out;rw[if_pos rfl]at g;generalize (((ml (iZ N<|l.take k) q).idxOf q:Nat):Int)=ix at n s G⊢;rw[<-g]at s;have H3:=V<|And.intro n<|And.intro s G;clear t n hn2 s E G hr g z P c1 c2 f1 k5
     go_wp2_with fail
     exact⟨⟨k+1,so2,by omega,by go_num,H3.out.1,H3.out.2.1,H3.out.2.2⟩,by simp[intOf];omega⟩
    ·have hp':(p==1)=ξ:=by simp[hp]
     have hr:yA (iZ N l) (p,q)=(p,q):=by simp[yA,hp]
     have g:=Kp (N:=N) J.out;rw[if_neg hp]at g;have HR:=V hr;have H2:=V g;clear A e1 b c hr g
     go_wp2_with fail
     exact⟨⟨k+1,O,by omega,by go_num,by rw[<-IC J.out HR.out];exact HO.out.alloc _,by rw[H2.out];exact C.out.below<|af wr _,d.trans<|cz.bK<|af wr _⟩,by simp[intOf];omega⟩
   ·rw[ι (by omega),ZC<|by omega,YE]at b;rw[ι (by omega)]at c
    go_wp2_with fail
    go_ret;exact⟨_,_,rfl,b,c,d⟩
end
end Kn
