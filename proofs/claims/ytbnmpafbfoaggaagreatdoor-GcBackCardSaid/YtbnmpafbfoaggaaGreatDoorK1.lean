/- A part of the proof of GcBack; no conditions. -/
import Init
import Derived.Test.YtbnmpafbfoaggaaGreatDoorK0
import Derived.WalkKit
import Derived.LoopTactic
import Derived.RegionTactic
import Derived.Deep.QuietTactic
import Derived.BigQuiet
import Derived.Outline
import Derived.OwnWalk
import Derived.Laws.StructEq
import Derived.KernelRfl
import Derived.Lib.Hide
import Derived.Below
import Derived.Deep.RegionHeldLaw
import Derived.StillTailTactics
import Derived.Maps.AppendAt
import Derived.Laws.MakeOwn
import Derived.Laws.Entries
import Derived.WalkSpells
import Derived.WalkMore
import Derived.Deep.RegionHeld3
import Derived.Laws.CopyOwn
import Derived.Maps.RangeRun
import Derived.Deep.AppendLies
import Derived.ArgAppend
import Derived.Deep.RegionLaw
import Derived.RangeFuncNested
import Derived.RangeFuncBound
import Derived.RangeFuncCalls
import Derived.RangeFuncLeaves
import Derived.Shelf.Abstract
import Derived.Shelf.RegionOpen
import Derived.OwnWalkIn
import Derived.TacticsInMore
import Derived.LoopNIn
import Derived.LoopIn
import Derived.Laws.EntriesVeiled
import Derived.Deep.DeepCutAuto
import Derived.Deep.Cut
set_option linter.defProp false
set_option linter.unusedVariables false
set_option linter.unusedSimpArgs false
set_option maxRecDepth 100000
set_option maxHeartbeats 16000000
noncomputable section
open Go.Lib renaming hid->V,run_eql_slice_nil->YI
open Array renaming getElem?_eq_some_iff->Ω,replicate->ZP,getElem?_modify->Zm,getElem?_setIfInBounds->Zh,toList_setIfInBounds->Y9,getElem?_eq_getElem->Y5,toList_push->Y0,getElem?_eq_none->YN,replicate_succ->YH,replicate_zero->YG,toList_modify->YE,toList_filter->YD,getElem?_setIfInBounds_ne->Yq,setIfInBounds_comm->XY,size_setIfInBounds->XX,ext_getElem?->XO
open Option renaming some->U,none->Z
open Go.IntKind renaming i64->Ψ
open List renaming getElem?_eq_some_iff->Ξ,mem_of_getElem?->ψ,getElem?_eq_getElem->χ,eq_nil_of_length_eq_zero->φ,length_append->μ,take_of_length_le->θ,flatMap_cons->η,map_append->ζ,getElem?_take->Z4,length_cons->Z2,mem_append_left->ZV,range->ZT,mem_iff_getElem?->ZR,pairwise_iff_getElem->ZK,length_nil->ZJ,flatMap_append->ZI,getD->ZH,mem_append_right->ZB,getElem?_eq_none->ZA,getElem?_map->Zz,replicate->Zv,drop_eq_getElem_cons->Zt,map_cons->Zr,mem_cons_self->Zq,all_eq_true->Zk,mem_cons_of_mem->Zi,mem_append->Zf,idxOf_lt_length_of_mem->Za,mem_range->Y8,set_cons_succ->Y7,getElem?_append_right->Y6,getElem?_append_left->YZ,size_toArray->YX,ext_getElem?->YW,nodup_append->YV,mem_flatMap->YQ,map_toArray->YP,getElem?_cons_zero->YO,mem_map->YK,drop_eq_nil_of_le->YJ,mem_map_of_mem->YB,append_toArray->YA,length_take_le->Yx,map_singleton->Yw,set_cons_zero->Yv,take_add_one->Yp,map_nil->Yo,push_toArray->Yn,cons_append->Yg,nil_append->Ye,length_set->Yd,map->X3,setIfInBounds_toArray->X1,countP_replicate->XV,take_append_drop->XU,set_append_right->XT,eraseIdx_sublist->XS,mem_of_mem_take->XQ,getElem_append->XP,take_succ_cons->XN,drop_succ_cons->XM,getElem?_drop->XK
open Go.Value renaming int->Θ,slice->Z8,pointer->YT,oneCell'->X6,ownBlock->X5
open Go.RowKit.Below renaming refl->Δ,heap_setCell->ο,heap_alloc->ZW
open Go.World renaming cell?->Γ,frozen?->Z9,setCell->ZD,ownsRow_nil->ZC,grownBy_alloc->Ze
open Go.Obj renaming cells->ω
open Go renaming World->I,Value->υ,heap_alloc_new->ξ,Calls->ι,run_underlying->ε,maxLen->ZU,bodyPost_ret->ZS,madeCells->ZO,wpList->ZN,info_parts->ZM,Oper->ZF,results->Zo,Program->Zd,getD_set_ne->Y',Act->YU,wp_seq->YS,execOp->YF,run_append_own->Yu,leftOf->Ys,run_append_arg_grows->Yr,wpOp_step->Ym,Addr->Yl,storeCells->Yf,wpList_append_own->Yb,typeInfo->Ya,wpList_plain->X9,callsIn_wide->X4,Exit->X0,mem_ready->XZ,method->XR,wpOp_mono->XL
open Go.RowKit renaming Below->M
open Bool renaming false->R,true->Y,and_eq_true->ZL
open Go.Result renaming andThen_ok->κ
open Option.some renaming inj->Z1
open Go.Builtin renaming append_->Z0,firstCells->Zs,lenOf->Zn,delete_->Yj,copy_->X8
open Go.Region renaming binds->ZY,seqB->Zy,ready->Zp,Mode->Zl,lexHead->Zc,wanted->Y2,schedule->YM,noSelect->Yi,linearise->XJ
open Go.Sem renaming run_bind->ZX,run_pure->ZE,run->Yy
open Go.Addr renaming add->ZQ
open Go.Region.linearise renaming go->ZG
open Ne renaming symm->Zx
open Go.World.grownBy renaming refl->Zw
open Go.Act renaming put->Zu,eval->Y4
open Go.Instr renaming findNow->Zj,mapUpdate->Zg,typeAssert->YR,makeSlice->YL,findKey->Yz,lookup->Yt,findAsking->Yk,field->Yh,checkKey->X7,sameNow->XW
open Go.Oper renaming wp->Zb,semAt_some->Yc
open Go.Code renaming region->YY
namespace Go.Proofs.YtbnmpafbfoaggaaGreatDoor
open Go.Proofs.Tryz hiding prog
open Go.Proofs.aD
namespace Md
abbrev HV:=Int×Int
abbrev HC:=Int×List HV
structure GH where
 new:List HC
 old:List HC
 roots:List HV
 aA:List HV
 done:List HV
 marked:List Int
 deriving DecidableEq
structure PH where
 cells:List HC
 roots:List HV
 aA:List Int
 done:List Int
 deriving DecidableEq
def co(v:HV):Bool:=v.1==3||v.1==4
def dy(v:HV):Bool:=v.1==3
def cp(bw:Int)(v:HV):HV:=if v.1=3 then(1,v.2+bw)else if v.1=4 then(1,v.2)else v
def Bz(bw:Int)(c:HC):HC:=(c.1,c.2.map<|cp bw)
def plain(g:GH):PH:=
 let o:Int:=g.old.length
 ⟨(g.old++g.new).map<|Bz o,g.roots.map<|cp o,(g.aA.map<|cp o).map (·.2),(g.done.map<|cp o).map (·.2)⟩
def ed(bw:Int)(v:HV):HV:=if v.1=1 then(if v.2<bw then(4,v.2)else(3,v.2-bw))else v
def qO(bw:Int)(c:HC):HC:=(c.1,c.2.map<|ed bw)
def Ij(h:PH)(bw:Nat):GH:=
 let o:Int:=bw
 ⟨(h.cells.drop bw).map<|qO o,(h.cells.take bw).map<|qO o,h.roots.map<|ed o,(h.aA.map λn=>((1,n):HV)).map<|ed o,(h.done.map λn=>((1,n):HV)).map<|ed o,[]⟩
def cU:List Int->Int
 |[]=>0
 |e::l=>if e=0 then cU l else e
def eO(g:GH)(v:HV):Int:=if v.2<0\/(if v.1=3 then(g.new.length:Int)else g.old.length)<=v.2 then 9 else 0
def mh(g:GH)(v:HV):Int:=
 if v.1=0 then(if v.2< -99\/99<v.2 then 13 else 0)
 else if v.1=2 then(if v.2=0 then 0 else 13)
 else if v.1=3\/v.1=4 then eO g v else 4
def zj(g:GH)(c:HC):Int:=
 if c.1<0\/2<c.1 then 4
 else if c.2.length<(if c.1=0 then 0 else if c.1=1 then 1 else 2)then 5
 else if(if c.1=0 then 4 else if c.1=1 then 1 else 2)<c.2.length then 6
 else cU (c.2.map<|mh g)
def jt(g:GH)(l:List Int)(i:Nat):Int:=
 let n:=l.getD i 0
 if n<0\/(g.old.length:Int)<=n then 9 else if n<=(if i=0 then-1 else l.getD (i-1) 0)then 14 else 0
def jW(c:HC):Bool:=c.2.any dy
def ju(g:GH):List Int:=(((ZT g.old.length).filter λi=>jW<|g.old.getD i (0,[])).map λ(i:Nat)=>(i:Int))
def meet(order:List HV)(v:HV):List HV:=if order.contains v then order else order++[v]
def visit(jw:HV->Bool)(order l:List HV):List HV:=l.foldl (λo v=>if jw v then meet o v else o) order
def cellAt(g:GH)(v:HV):HC:=(if v.1=3 then g.new else g.old).getD v.2.toNat (0,[])
def Dm(g:GH)(jw:HV->Bool):Nat->Nat->List HV->List HV
 |0,_,o=>o
 |f+1,k,o=>match o[k]? with
  |none=>o
  |some v=>Dm g jw f (k+1)<|visit jw o (cellAt g v).2
def cJ(g:GH):List HV:=g.roots++g.done++g.aA
def bV(g:GH)(jw:HV->Bool)(more:List HV):List HV:=Dm g jw (g.new.length+g.old.length+1) 0<|visit jw (visit jw []<|cJ g) more
def E8(order:List HV)(from_:Int)(v:HV):HV:=if order.contains v then(4,from_+(order.idxOf v:Nat))else v
def Xm(order:List HV)(from_:Int)(c:HC):HC:=(c.1,c.2.map<|E8 order from_)
def move(g:GH)(order:List HV)(stay:Nat):GH:=⟨[],(g.old.take stay++order.map (cellAt g)).map<|Xm order stay,g.roots.map<|E8 order stay,g.aA.map<|E8 order stay,g.done.map<|E8 order stay,[]⟩
inductive uH where
 |minor|full|major
 deriving DecidableEq
def l1(g:GH):List HV:=g.marked.flatMap λn=>(g.old.getD n.toNat (0,[])).2
def aeP(s:uH)(g:GH):List HV×Nat:=
 match s with
 |.minor=>(bV g dy<|l1 g,g.old.length)
 |_=>(bV g co [],0)
def has(alive:List Int)(v:HV):Bool:=v.1≠1||alive.contains v.2
def keeps(c:HC)(alive:List Int):List HV:=
 if c.1=0 then c.2
 else if c.1=2 then(if has alive (c.2.getD 0 (0,0))then [c.2.getD 1 (0,0)]else [])
 else []
def nb(l:List Int)(n:Int):List Int:=if l.contains n then l else l++[n]
def Dn(l:List HV)(q met:List Int):List Int×List Int:=l.foldl (λx v=>if v.1=1 then(if x.2.contains v.2 then x else(x.1++[v.2],x.2++[v.2]))else x) (q,met)
def VX(h:PH):List HV:=h.roots.filter (·.1==1)++h.done.map λn=>(1,n)
def zk(h:PH):Nat->List Int->List Int->List Int->List Int
 |0,_,_,alive=>alive
 |f+1,q,met,alive=>match q with
  |[]=>alive
  |n::q=>
   let alive:=nb alive n
   let(q,met):=Dn (keeps (h.cells.getD n.toNat (0,[])) alive) q met
   zk h f q met alive
def BA(h:PH)(alive:List Int):List Int:=
 let(q,met):=Dn (VX h) [] []
 zk h (h.cells.length+1) q met alive
def zl(h:PH):Nat->List Int->List Int
 |0,alive=>alive
 |f+1,alive=>
  let next:=BA h alive
  if alive.length<next.length then zl h f next else next
def alive(h:PH):List Int:=zl h (h.cells.length+1) []
def zm(c:HC)(alive:List Int):Bool:=(c.1==1||c.1==2)&&!has alive (c.2.getD 0 (0,0))
def lu(h:PH):PH:=
 let a:=alive h
 let h1:PH:=⟨h.cells.map λc=>if zm c a then(c.1,c.2.map λ_=>(2,0))else c,h.roots,h.aA.filter (a.contains ·),h.done++h.aA.filter (λn=>!a.contains n)⟩
 let b:=alive h1
 {h1 with cells:=h1.cells.zipIdx.map λx=>if b.contains (x.2:Int)then x.1 else(3,[])}
def Ik(h:PH)(n:Int):Int:=if n<0\/(h.cells.length:Int)<=n then 9 else if(h.cells.getD n.toNat (0,[])).1=3 then 10 else 0
def uI(h:PH)(v:HV):Int:=
 if v.1=0 then(if v.2< -99\/99<v.2 then 13 else 0)
 else if v.1=1 then Ik h v.2
 else if v.1=2 then(if v.2=0 then 0 else 13)else 4
def least(k:Int):Int:=if k=0 then 0 else if k=1 then 1 else if k=2 then 2 else 0
def tG(k:Int):Int:=if k=0 then 4 else if k=1 then 1 else if k=2 then 2 else 0
def iF(g:GH):GH:=Ij (lu<|plain g) g.old.length
def collect(s:uH)(g:GH):Option (Nat×GH):=
 let g:=if s=.major then iF g else g
 let(order,stay):=aeP s g
 if 32<stay+order.length then Z else U (order.length,move g order stay)
structure RS where
 g:GH
 minors:Int:=0
 uJ:Int:=0
 fk:Int:=0
 dA:Int:=0
 deriving DecidableEq
structure Cmd where
 op:Int
 to_:Int:=0
 a:Int:=0
 b:Int:=0
 deriving DecidableEq
def counted(r:RS)(s:uH)(n:Nat)(g:GH):RS:=
 match s with
 |.minor=>{r with g,minors:=r.minors+1,dA:=r.dA+n}
 |.full=>{r with g,uJ:=r.uJ+1,dA:=r.dA+n}
 |.major=>{r with g,fk:=r.fk+1,dA:=r.dA+n}
def el(r:RS)(n:Int)(v:HV):RS:={r with g:={r.g with roots:=r.g.roots.set n.toNat v}}
end Md
namespace Kn
open Go Go.RowKit Md
section
def Il(w:I)(b o:Nat)(l:List HV):Prop:=∀i k n,l[i]?=U (k,n) ->w (b,o+i*2)=U (Θ Ψ k)/\w (b,o+i*2+1)=U (Θ Ψ n)
def Im(w:I)(b o:Nat)(l:List Int):Prop:=∀i n,l[i]?=U n->w (b,o+i)=U (Θ Ψ n)
def eI(w:I)(v:υ)(l:List HV):Prop:=∃a m,v=.slice a l.length m/\l.length<=m/\m<=9223372036854775807/\(0<l.length->∃b o,a=U ⟨b,o,Z⟩/\b<w/\Il w b o l)
def By(w:I)(v:υ)(l:List Int):Prop:=∃a m,v=.slice a l.length m/\l.length<=m/\m<=9223372036854775807/\(0<l.length->∃b o,a=U ⟨b,o,Z⟩/\b<w/\Im w b o l)
def In(w:I)(b o:Nat)(l:List HC):Prop:=∀i k vs,l[i]?=U (k,vs) ->w (b,o+i*2)=U (Θ Ψ k)/\∃v,w (b,o+i*2+1)=U v/\eI w v vs
def sa(w:I)(v:υ)(l:List HC):Prop:=∃a m,v=.slice a l.length m/\l.length<=m/\m<=9223372036854775807/\(0<l.length->∃b o,a=U ⟨b,o,Z⟩/\b<w/\In w b o l)
section
variable{w w':I}{v:υ}
def az{b o:Nat}{x}(h:w (b,o)=U x):b<w:=by
 obtain a|a:=Nat.lt_or_ge b w.heap.size
 omega;simp[Γ,YN a]at h
def Il.below(a:M w w w'){b o:Nat}{l}(hb:b<w)(h:Il w b o l):Il w' b o l:=λi k n e=>by rw[a.cell hb,a.cell hb];exact h i k n e
def Im.below(a:M w w w'){b o:Nat}{l}(hb:b<w)(h:Im w b o l):Im w' b o l:=λi n e=>by rw[a.cell hb];exact h i n e
def eI.below(d:M w w w'){l}(h:eI w v l):eI w' v l:=by obtain⟨a,m,rfl,f,e,h⟩:=h;refine⟨a,m,rfl,f,e,λh0=>?_⟩;obtain⟨b,o,rfl,hb,c⟩:=h h0;exact⟨b,o,rfl,Nat.lt_of_lt_of_le hb d.size,c.below d hb⟩
def By.below(d:M w w w'){l}(h:By w v l):By w' v l:=by obtain⟨a,m,rfl,f,e,h⟩:=h;refine⟨a,m,rfl,f,e,λh0=>?_⟩;obtain⟨b,o,rfl,hb,c⟩:=h h0;exact⟨b,o,rfl,Nat.lt_of_lt_of_le hb d.size,c.below d hb⟩
def In.below(a:M w w w'){b o:Nat}{l}(hb:b<w)(h:In w b o l):In w' b o l:=λi k c e=>by rw[a.cell hb,a.cell hb];obtain⟨f,v,d,h3⟩:=h i k c e;exact⟨f,v,d,h3.below a⟩
def sa.below(d:M w w w'){l}(h:sa w v l):sa w' v l:=by obtain⟨a,m,rfl,f,e,h⟩:=h;refine⟨a,m,rfl,f,e,λh0=>?_⟩;obtain⟨b,o,rfl,hb,c⟩:=h h0;exact⟨b,o,rfl,Nat.lt_of_lt_of_le hb d.size,c.below d hb⟩
def hU(w B n):M B w (w.drewN n):=⟨rfl,rfl,rfl,.refl,λ_ _=>rfl⟩
def af(w:I)(o):M w w (w.alloc o):=(Δ _ _).alloc .refl o
def alE{w w1 o}(e:w.alloc o=w1):w1.heap[w.heap.size]?=U o/\M w.heap.size w w1/\w1.heap.size=w.heap.size+1:=by subst e;exact⟨ξ w o,af w o,by simp⟩
end
def ep{l:List HV}{k}(h:k<l.length):∃p q,l[k]?=U (p,q):=⟨_,_,χ h⟩
def cQ{l:List HC}{k}(h:k<l.length):∃p q,l[k]?=U (p,q):=⟨_,_,χ h⟩
def ot{l:List Int}{k}(h:k<l.length):∃p,l[k]?=U p:=by simp_all
def VY(p q a b w):(Op.equalIn 10000 50 (.agg #[Θ Ψ p,Θ Ψ q])<|.agg #[Θ Ψ a,Θ Ψ b]).run prog w=.ok (p==a&&q==b) w:=by rw[run_equalIn_agg _ 9999 50 _ _ (by kernel_rfl) (by kernel_rfl)];simp[go_sem];by_cases h:p=a<;>by_cases c:q=b<;>simp[h,c,go_sem]
def aeQ(p q a b w):(binOp .neq 50 (.agg #[Θ Ψ p,Θ Ψ q])<|.agg #[Θ Ψ a,Θ Ψ b]).run prog w=.ok (.bool<|!(p==a&&q==b)) w:=by rw[run_neq_struct,VY];rfl
def nc(p q w):(binOp .neq 50 (.agg #[Θ Ψ p,Θ Ψ q])<|.agg #[Θ Ψ p,Θ Ψ q]).run prog w=.ok (.bool R) w:=by rw[aeQ];simp
end
end Kn
section
open Go Go.RowKit
def cG{B w w' p v}(h:M B w w')(c:w.cell? p=v)(a:p.block<B):w'.cell? p=v:=(h.cell a).trans c
end
namespace Rg
open Go
section
variable{P:Zd}{ops:Array ZF}{Q:X0->YU->I->Prop}{md:Zl}{S:I->Prop}{m:Nat}
def Any(P:Zd)(md:Zl)(ops:Array ZF)(Q:X0->YU->I->Prop)(S:I->Prop)(m:Nat):Nat->Array Bool->YU->I->Prop
 |0,listed,a,w=>Zp md ops listed=[]/\Q .normal a w
 |f+1,listed,a,w=>(Zp md ops listed=[] ->Q .normal a w)/\∀i∈Zp md ops listed,wpOp P ops Q i (λa' w'=>(i<m->S w')/\Any P md ops Q S m f (listed.setIfInBounds i Y) a' w') a w
def Any.out:∀{f} {listed} {a} {w},Any P md ops Q S m f listed a w->wpAny P md ops Q f listed a w
 |0,_,_,_,h=>h
 |f+1,_,_,_,h=>⟨h.1,λi hi=>XL (λ_ _ b=>b.2.out)<|h.2 i hi⟩
def fp(P:Zd)(ops:Array ZF)(S:I->Prop)(L:YU->Prop):List ZF->YU->Prop
 |[],a=>L a
 |o::l,a=>∃v,YieldsIf P ops S o v a/\fp P ops S L l (a.put o.dst v)
def fp.nil{L a}(h:L a):fp P ops S L [] a:=h
def fp.step{L o l a v}(hw:Y2 o (yielded ops a.tmps)=Y)(b:∀w,S w->(YF a.eval o).run P w=.ok (.value v) w)(h:fp P ops S L l (a.put o.dst v)):fp P ops S L (o::l) a:=⟨v,.inl ⟨hw,b⟩,h⟩
def Any.rest:∀l k listed a w,m<=k->(∀j,l[j]?=ops[k+j]?) ->Zy md ops l.length k listed=Y->ZN P ops Q l a w->Any P md ops Q S m l.length listed a w
 |[],_,_,_,_,_,_,hB,h=>⟨by simpa[Zy]using hB,h⟩
 |o::l,k,listed,a,w,hm,hl,hB,h=>by
  simp only[Z2,Zy,ZL,decide_eq_true_eq]at hB;refine⟨λf=>(by grind),λi hi=>?_⟩;rw[hB.1]at hi;obtain rfl:i=k:=by simpa using hi
  have hw:wpOp P ops Q i (ZN P ops Q l) a w:=by unfold wpOp;simp only[(by simpa using (hl 0).symm)];exact h
  exact XL (λe d c=>⟨λb=>absurd b<|Nat.not_lt.2 hm,Any.rest l (i+1) _ e d (by omega) (λj=>by have:=hl<|j+1;simpa[Nat.add_assoc,Nat.add_comm 1 j]using this) hB.2 c⟩) hw
end
section
variable{P:Zd}{ops:Array ZF}{Q:X0->YU->I->Prop}{md:Zl}{S:I->Prop}{m:Nat}
def pA(P:Zd)(ops:Array ZF)(Q:X0->YU->I->Prop)(S:I->Prop)(K:YU->I->Prop):Nat->Nat->YU->I->Prop
 |0,_,a,w=>K a w
 |c+1,k,a,w=>wpOp P ops Q k (λa' w'=>S w'/\pA P ops Q S K c (k+1) a' w') a w
def pA.zero{K k a w}(h:K a w):pA P ops Q S K 0 k a w:=h
def pA.succ{K c k a w}(h:wpOp P ops Q k (λa' w'=>S w'/\pA P ops Q S K c (k+1) a' w') a w):pA P ops Q S K (c+1) k a w:=h
def Any.afK{K g}(b:∀listed a w,Zy md ops g m listed=Y->K a w->Any P md ops Q S m g listed a w):
 ∀c k listed a w,k+c=m->Zy md ops (c+g) k listed=Y->pA P ops Q S K c k a w->Any P md ops Q S m (c+g) listed a w
 |0,k,listed,a,w,hk,hB,h=>by
  obtain rfl:k=m:=by omega
  rw[Nat.zero_add]at hB⊢;exact b listed a w hB h
 |c+1,k,listed,a,w,hk,hB,h=>by
  rw[Nat.add_right_comm]at hB⊢;simp only[Zy,ZL,decide_eq_true_eq]at hB;refine⟨λj=>(by grind),λi hi=>?_⟩;rw[hB.1]at hi;obtain rfl:i=k:=by simpa using hi
  exact XL (λf e d=>⟨λ_=>d.1,Any.afK b c (i+1) _ f e (by omega) hB.2 d.2⟩) h
end
section
variable{P:Zd}{ops:Array ZF}{Q:X0->YU->I->Prop}{md:Zl}{S:I->Prop}{m:Nat}
def Down(md:Zl)(ops:Array ZF)(listed:Array Bool):Prop:=∀j oj,ops[j]?=U oj->listed.getD j R=Y->∀e∈oj.after,ZY md e=Y->listed.getD e.on R=Y
def aaC(md:Zl)(ops:Array ZF):Nat->Nat->Nat->Bool
 |0,_,_=>R
 |f+1,j,i=>match ops[j]? with
  |some o=>(o.after.any λe=>ZY md e&&e.on==i)||o.after.any λe=>ZY md e&&aaC md ops f e.on i
  |none=>R
theorem aaB{listed:Array Bool}(hd:Down md ops listed){i:Nat}:∀(f j:Nat) oj,ops[j]?=U oj->(∀e∈oj.after,ZY md e=Y->listed.getD e.on R=Y) ->aaC md ops f j i=Y->listed.getD i R=Y
 |0,_,_,_,_,h=>by cases h
 |f+1,j,oj,hj,ha,h=>by
  simp only[aaC,hj,Bool.or_eq_true,Array.any_eq_true,ZL,beq_iff_eq]at h;obtain⟨k,c,b,a⟩|⟨k,c,b,a⟩:=h
  grind
  have g:=ha _ (Array.getElem_mem c) b;cases f with
  |zero=>cases a
  |succ f=>
   cases ho:ops[oj.after[k].on]? with
   |none=>simp[aaC,ho]at a
   |some d=>exact aaB hd (f+1) _ d ho (λe b h3=>hd _ d ho g e b h3) a
def aaJ(md:Zl)(ops:Array ZF)(n m:Nat):Bool:=(ZT ops.size).all λj=>decide (j<m)||(ZT n).all λi=>aaC md ops ops.size j i
def aaD{listed:Array Bool}{j t}(h:listed.getD t R=Y):(listed.setIfInBounds j Y).getD t R=Y:=by
 by_cases e:j=t
 subst e;have b:j<listed.size:=Nat.lt_of_not_le λa=>by simp[YN a]at h
 simp[b]
 simp_all
def Down.set{listed}(hd:Down md ops listed){j}(f:j∈Zp md ops listed):Down md ops (listed.setIfInBounds j Y):=by
 intro t g c b e a hb;by_cases d:j=t
 subst d;obtain⟨_,h,u2,u3⟩:=XZ.1 f;rw[c]at u2;cases u2
 exact aaD<|u3 e a hb;rw[Y' R d]at b;exact aaD<|hd t g c b e a hb
def Any.aaF{i o v}(hi:ops[i]?=U o)(s:i<m)(g:∀(j:Nat) o cs b,ops[j]?=U o->o.op≠.select cs b)(z:∀c a w,Q (.panic c) (a.put o.dst v) w->Q (.panic c) a w)(d:∀j k,ops[j]?=U k->m<=j->aaC md ops ops.size j i=Y):
 ∀f listed a w,Down md ops listed->(∀j k,ops[j]?=U k->j≠i->listed.getD j Y=R->(∀e∈k.after,ZY md e=Y->e.on≠i) ->o.apart ops k=Y) ->
  i∈Zp md ops listed->YieldsIf P ops S o v a->S w->Any P md ops Q S m f (listed.setIfInBounds i Y) (a.put o.dst v) w->Any P md ops Q S m (f+1) listed a w
 |0,listed,a,w,hd,hfree,hr,hy,hS,H=>by
  refine⟨λh=>(by rw[h]at hr;cases hr),λj q=>?_⟩;by_cases e:j=i
  subst e;exact hy.wpOp hi hS ⟨λ_=>hS,H⟩;have l:=ready_mono q e;rw[H.1]at l;cases l
 |f+1,listed,a,w,hd,hfree,hr,hy,hS,H=>by
  refine⟨λh=>(by rw[h]at hr;cases hr),λj q=>?_⟩;by_cases e:j=i
  subst e;exact hy.wpOp hi hS ⟨λ_=>hS,H⟩;obtain⟨u1,k,u2,u3⟩:=XZ.1 q;have u0:=(XZ.1 hr).1;have p:¬listed.getD i R=Y:=λl=>by
   obtain r|r:=Nat.lt_or_ge i listed.size
   simp[r]at u0 l;rw[u0]at l;cases l
   simp[YN r]at l
  have u:∀e∈k.after,ZY md e=Y->e.on≠i:=λe J hb h0=>by have l:=u3 e J hb;rw[h0]at l;exact p l
  refine XL (λF D h=>?_)<|wpOp_putIf u2 (hfree j k u2 e u1 u) (λcs b=>g i o cs b hi) (λcs b=>g j k cs b u2) z hy<|H.2 j<|ready_mono q e;obtain⟨C,A,E⟩:=h;refine⟨A,Any.aaF hi s g z d f _ F D (hd.set q) (λt B t1 t2 x y=>?_) (ready_mono hr<|Zx e) C (A<|Nat.lt_of_not_le λG=>p<|aaB hd _ j k u2 u3<|d j k u2 G) ?_⟩;by_cases n:t=j
  ·subst n;exact hfree t B t1 e u1 y
  rw[Y' Y (Zx n)]at x;exact hfree t B t1 t2 x y;rw[XY _ _ (e)];exact E
def Any.aaE{L n g w}(b:Yi ops=Y)(u:∀c a (d:Option Nat) v w,Q (.panic c) (a.put d v) w->Q (.panic c) a w)(s:aaJ md ops n m=Y)(i:n<=m)(t:S w)(e:∀listed a,Zy md ops g n listed=Y->L a->Any P md ops Q S m g listed a w):
 ∀l k listed a,Down md ops listed->(∀j,j<l.length->l[j]?=ops[k+j]?) ->k+l.length=n->Zc md ops g l.length k listed=Y->fp P ops S L l a->Any P md ops Q S m (l.length+g) listed a w
 |[],k,listed,a,_,_,hk,hB,h=>by
  obtain rfl:k=n:=by simpa using hk
  simp only[ZJ,Nat.zero_add];exact e listed a (by simpa[Zc]using hB) h
 |o::l,k,listed,a,hd,hlk,hk,hB,⟨v,hy,h⟩=>by
  have h0:ops[k]?=U o:=by simpa using (hlk 0<|by simp).symm
  simp only[Z2,Zc,ZL]at hB;obtain⟨⟨y,x⟩,q⟩:=hB;have p:k<n:=by simp only[Z2]at hk;omega
  have f:k∈Zp md ops listed:=by simpa using y
  rw[Z2,Nat.add_right_comm];refine Any.aaF h0 (Nat.lt_of_lt_of_le p i) (Region.noSelect_spec b) (λc a w h=>u c a _ _ w h) (λj B r z=>?_) _ listed a w hd (Region.free_spec h0 x) f hy t ?_;have A:=Zk.1 s j<|Y8.2 (Ω.1 r).1
  grind
  exact Any.aaE b u s i t e l (k+1) _ _ (hd.set f) (λj r=>by have:=hlk (j+1) (by simp;omega);simpa[Nat.add_assoc,Nat.add_comm 1 j]using this) (by simp only[Z2]at hk;omega) q h
def aaH{id}(n c){l:List ZF}{a w}(S)(z:P.follows .mixedOrders=Y)(r:(Yi l.toArray&&aaJ .any l.toArray n (n+c)&&Zc .any l.toArray (l.length-n) n 0 (ZP l.length R)&&decide (n+c<=l.length))=Y)(t:∀c a (d:Option Nat) v w,Q (.panic c) (a.put d v) w->Q (.panic c) a w)(A:S w.drew)(h:fp P l.toArray S (λa'=>pA P l.toArray Q S (ZN P l.toArray Q<|l.drop<|n+c) c n a' w.drew) (l.take n) a):(YY id l.toArray Y).wp P Q a w:=by
 simp only[ZL,decide_eq_true_eq]at r;obtain⟨⟨⟨k,f⟩,i⟩,B⟩:=r;refine wp_region_any z ?_;have b:(l.take n).length=n:=by simp;omega
 have o:(l.drop<|n+c).length=l.length-(n+c):=by simp
 have q:=Any.aaE (P:=P) (md:=.any) (ops:=l.toArray) (Q:=Q) (S:=S) (m:=n+c) (n:=n) (g:=l.length-n) (w:=w.drew) k t f (by omega) A (L:=λa'=>pA P l.toArray Q S (ZN P l.toArray Q<|l.drop<|n+c) c n a' w.drew)
  (λlisted a' e h=>?_) (l.take n) 0 (ZP l.length R) a (λj C y s=>?_) (λj p=>by rw[b]at p;simp[p]) (by simpa using b) (by rw[b];exact i) h
 have:=q.out;rw[b,show n+(l.length-n)=l.toArray.size by simp;omega]at this;simpa using this;have u:l.length-n=c+(l.length-(n+c)):=by omega
 rw[u]at e⊢;refine Any.afK (λlisted a w hs x=>?_) c n listed a' w.drew rfl e h;have:=Any.rest (P:=P) (md:=.any) (ops:=l.toArray) (Q:=Q) (S:=S) (m:=n+c) (l.drop<|n+c) (n+c) listed a w .refl (λj=>by simp[XK]) (by rw[o];exact hs) x;rwa[o]at this;exfalso;have p:=(Ω.1 y).1;simp at p;simp[p]at s
def wp_cut{id n}{l:List ZF}{a w}(S)(b:P.follows .mixedOrders=Y)(g:(Yi l.toArray&&aaJ .any l.toArray n (n+2)&&Zc .any l.toArray (l.length-n) n 0 (ZP l.length R)&&decide (n+2<=l.length))=Y)(i:∀c a (d:Option Nat) v w,Q (.panic c) (a.put d v) w->Q (.panic c) a w)(f:S w.drew)(h:fp P l.toArray S (λa'=>wpOp P l.toArray Q n (λa1 w1=>S w1/\wpOp P l.toArray Q (n+1) (λe w2=>S w2/\ZN P l.toArray Q (l.drop<|n+2) e w2) a1 w1) a' w.drew) (l.take n) a):(YY id l.toArray Y).wp P Q a w:=aaH n 2 S b g i f h
end
end Rg
namespace Rg
open Go Go.RowKit
section
variable{id:Nat}
variable{P:Zd}{Q:X0->YU->I->Prop}{l:List ZF}{m:Nat}{A:Nat->Bool}{F:Nat->υ->I->Prop}{a0:YU}{w0:I}
def d6(v:υ):Nat:=match v with
 |YT (U a)=>a.block
 |_=>0
def hE(l:List ZF)(i:Nat):Option Tmp:=(l[i]?).bind (·.dst)
def Pe(l:List ZF)(m:Nat):Bool:=
 decide (m<=l.length)&&((ZT m).all λi=>match l[i]? with
  |some o=>o.dst.isSome&&o.guard.isNone&&o.after.all λe=>!ZY .any e||decide (e.on<i)
  |none=>R)&&
 decide ((ZT m).Pairwise λi j=>hE l i≠hE l j)&&aaJ .any l.toArray m m&&Zy .any l.toArray (l.length-m) m (Zv m Y++Zv (l.length-m) R).toArray
def aao(l:List ZF)(m s:Nat):Bool:=(ZT m).all λi=>hE l i !=U s
def Hop(P:Zd)(Q:X0->YU->I->Prop)(l:List ZF)(m:Nat)(A:Nat->Bool)(F:Nat->υ->I->Prop)(a0:YU)(w0:I)(i:Nat)(o:ZF):Prop:=
 ∀a w,M w0 w0 w->(∀s,aao l m s=Y->a.tmps.getD s undef=a0.tmps.getD s undef) ->(∀e∈o.after,ZY .any e=Y->∀d,hE l e.on=U d->F e.on (a.tmps.getD d undef) w) ->
  Zb P o a w (λa' w'=>∃v,a'=a.put o.dst v/\M w w w'/\F i v w'/\(A i=Y->w.heap.size<=d6 v/\d6 v<w')) Q
def G3:List ZF->Nat->(Nat->υ) ->YU->YU
 |[],_,_,a=>a
 |o::l,k,vs,a=>G3 l (k+1) vs<|a.put o.dst<|vs k
structure aeh(l:List ZF)(m:Nat)(A:Nat->Bool)(F:Nat->υ->I->Prop)(a0:YU)(w0:I)(listed:Array Bool)(a:YU)(w:I):Prop where
 below:M w0 w0 w
 size:a.tmps.size=a0.tmps.size
 defers:a.defers=a0.defers
 base:∀s,(∀i,i<m->listed.getD i R=Y->hE l i≠U s) ->a.tmps.getD s undef=a0.tmps.getD s undef
 has:∀i d,i<m->listed.getD i R=Y->hE l i=U d->F i (a.tmps.getD d undef) w
 low:∀i d,i<m->A i=Y->listed.getD i R=Y->hE l i=U d->d6 (a.tmps.getD d undef)<w
 ag9:∀i j d e,i<m->j<m->i≠j->A i=Y->A j=Y->listed.getD i R=Y->listed.getD j R=Y->hE l i=U d->hE l j=U e->d6 (a.tmps.getD d undef)≠d6 (a.tmps.getD e undef)
def NF(a:YU)(d v):(a.put d v).tmps.size=a.tmps.size:=by cases d<;>simp[Zu]
def put_defers(a:YU)(d v):(a.put d v).defers=a.defers:=by cases d<;>rfl
def Rq{a:YU}{d:Option Tmp}{s:Nat}(v)(h:d≠U s):(a.put d v).tmps[s]?=a.tmps[s]?:=by
 obtain _|d:=d
 rfl;have:d≠s:=λe=>h<|e▸rfl;simp[Zu,Yq this]
def put_eq{a:YU}{s}(v)(h:s<a.tmps.size):(a.put (U s) v).tmps[s]?=U v:=by simp[Zu,h]
def Uw{x y:Array υ}{s}(h:x[s]?=y[s]?):x.getD s undef=y.getD s undef:=by simp[h]
theorem Pf:∀(l:List ZF) (k:Nat) (vs:Nat->υ) (a:YU),(G3 l k vs a).tmps.size=a.tmps.size/\(G3 l k vs a).defers=a.defers
 |[],_,_,_=>⟨rfl,rfl⟩
 |o::l,k,vs,a=>by have:=Pf l (k+1) vs<|a.put o.dst<|vs k;exact⟨this.1.trans<|NF _ _ _,this.2.trans<|put_defers _ _ _⟩
theorem PM:∀(l:List ZF) (k:Nat) (vs:Nat->υ) (a:YU) (s:Nat),(∀o∈l,o.dst≠U s) ->(G3 l k vs a).tmps[s]?=a.tmps[s]?
 |[],_,_,_,_,_=>rfl
 |o::l,k,vs,a,s,h=>(PM l (k+1) vs _ s λo b=>h o<|Zi _ b).trans<|Rq _<|h o Zq
theorem VK:∀(l:List ZF) (k:Nat) (vs:Nat->υ) (a:YU) (i:Nat) (o:ZF) (s:Nat),l[i]?=U o->o.dst=U s->s<a.tmps.size->(∀j b,i<j->l[j]?=U b->b.dst≠U s) ->(G3 l k vs a).tmps[s]?=U (vs<|k+i)
 |[],_,_,_,_,_,_,h,_,_,_=>by simp at h
 |o::l,k,vs,a,0,b,s,h,hd,hs,hn=>by
  cases h
  show(G3 l (k+1) vs _).tmps[s]?=_;rw[PM l (k+1) vs _ s λx c=>by obtain⟨j,d⟩:=ZR.1 c;exact hn (j+1) x (by omega) d,hd]
  exact put_eq _ hs
 |o::l,k,vs,a,i+1,b,s,h,hd,hs,hn=>by show(G3 l (k+1) vs _).tmps[s]?=_;rw[VK l (k+1) vs _ i b s h hd (by rw[NF];exact hs) λj x d c=>hn (j+1) x (by omega) c,Nat.add_right_comm,Nat.add_assoc]
def Qh(h:Pe l m=Y):m<=l.length/\(∀i,i<m->∃o d,l[i]?=U o/\o.dst=U d/\hE l i=U d/\o.guard=Z/\∀e∈o.after,ZY .any e=Y->e.on<i)/\
 (∀i j,i<j->j<m->hE l i≠hE l j)/\aaJ .any l.toArray m m=Y/\Zy .any l.toArray (l.length-m) m (Zv m Y++Zv (l.length-m) R).toArray=Y:=by
 unfold Pe at h;simp only[ZL,decide_eq_true_eq]at h;obtain⟨⟨⟨⟨n,g⟩,h3⟩,h4⟩,h5⟩:=h;refine⟨n,λi hi=>?_,λi j a p=>?_,h4,h5⟩;have:=Zk.1 g i<|Y8.2 hi;cases ho:l[i]? with
 |none=>simp[ho]at this
 |some o=>simp only[ho,ZL,Array.all_eq_true]at this;obtain⟨⟨t1,t2⟩,c⟩:=this;obtain⟨d,hd⟩:=Option.isSome_iff_exists.1 t1;refine⟨o,d,rfl,hd,by simp[hE,ho,hd],by simpa using t2,λe f hb=>?_⟩;obtain⟨k,b,rfl⟩:=Array.mem_iff_getElem.1 f;have:=c k b;simpa[hb]using this
 rw[ZK]at h3;have:=h3 i j (by simp;omega) (by simp;omega) a;simpa using this
def aeh.act(B:m<=l.length)(v:∀i,i<m->∃o d,l[i]?=U o/\o.dst=U d/\hE l i=U d)(h3:∀i j,i<j->j<m->hE l i≠hE l j)(x:∀i d,i<m->hE l i=U d->d<a0.tmps.size){listed a w}(n:∀i,i<m->listed.getD i R=Y)(h:aeh l m A F a0 w0 listed a w):a=G3 (l.take m) 0 (λi=>a.tmps.getD ((hE l i).getD 0) undef) a0:=by
 obtain⟨q,p⟩:=Pf (l.take m) 0 (λi=>a.tmps.getD ((hE l i).getD 0) undef) a0;have e:a.tmps=(G3 (l.take m) 0 (λi=>a.tmps.getD ((hE l i).getD 0) undef) a0).tmps:=by
  refine Array.ext (by rw[q,h.size]) λs c k=>?_;have f:s<a0.tmps.size:=by rw[<-h.size];exact c
  have g:(G3 (l.take m) 0 (λi=>a.tmps.getD ((hE l i).getD 0) undef) a0).tmps[s]?=a.tmps[s]?:=by
   by_cases hw:∃i,i<m/\hE l i=U s
   obtain⟨i,hi,b⟩:=hw;obtain⟨o,d,e1,e2,e3⟩:=v i hi;rw[b]at e3;cases e3
   rw[VK (l.take m) 0 _ a0 i o s (by rw[Z4,if_pos hi];exact e1) e2 f λj C u e hd=>?_];simp[b,c];rw[Z4]at e;split at e
   exact h3 i j u (by assumption) (by rw[b];simp[hE,e,hd]);cases e
   rw[PM (l.take m) 0 _ a0 s λo r hd=>hw ?_]
   ·have:=h.base s λi hi _ b=>hw ⟨i,hi,b⟩;simp[c,f]at this⊢;exact this.symm
   obtain⟨i,hi⟩:=ZR.1 r;rw[Z4]at hi;split at hi
   exact⟨i,by assumption,by simp[hE,hi,hd]⟩;cases hi
  exact(Z1<|(Y5 k).symm.trans<|g.trans<|Y5 c).symm
 cases a with
 |mk t d=>
  cases hp:G3 (l.take m) 0 (λi=>t.getD ((hE l i).getD 0) undef) a0 with
  |mk z y=>simp only[hp]at e p;have:=h.defers;simp only at this;rw[e,this,<-p]
def aap(hB:Pe l m=Y)(T:∀i d,i<m->hE l i=U d->d<a0.tmps.size)(hst:∀i v w w',M w.heap.size w w'->F i v w->F i v w')(hop:∀i o,i<m->l[i]?=U o->Hop P Q l m A F a0 w0 i o)(O:∀vs w,M w0 w0 w->(∀i,i<m->F i (vs i) w) ->(∀i j,i<m->j<m->i≠j->A i=Y->A j=Y->d6 (vs i)≠d6 (vs j)) ->ZN P l.toArray Q (l.drop m) (G3 (l.take m) 0 vs a0) w):
 ∀f listed a w,listed.size=l.length->listed.toList.countP (λb=>!b)=f->(∀j,m<=j->listed.getD j R=R) ->Down .any l.toArray listed->aeh l m A F a0 w0 listed a w->wpAny P .any l.toArray Q f listed a w:=by
 obtain⟨h1,G,h3,h4,h5⟩:=Qh hB;have fin:∀(f:Nat) (listed:Array Bool) (a:YU) (w:I),listed.size=l.length->listed.toList.countP (λb=>!b)=f->(∀j,m<=j->listed.getD j R=R) ->(∀i,i<m->listed.getD i R=Y) ->aeh l m A F a0 w0 listed a w->wpAny P .any l.toArray Q f listed a w:=by
  intro f listed a w hs hc J n r;have hl:listed=(Zv m Y++Zv (l.length-m) R).toArray:=by
   refine Array.ext (by simp;omega) λi K hi2=>?_;by_cases hi:i<m
   have:=n i hi;simp[K]at this;simp[this,XP,hi];have:=J i (by omega);simp[K]at this;simp[this,XP,hi]
  have hf:f=(l.drop m).length:=by rw[<-hc,hl];simp[List.countP_append,XV]
  subst hf;refine wpAny_of_seq (l.drop m) m listed a w (λj=>by simp) (by rw[hl,List.length_drop];exact h5) ?_;rw[r.act h1 (λi hi=>by obtain⟨o,d,e1,e2,e3,_⟩:=G i hi;exact⟨o,d,e1,e2,e3⟩) h3 T n];refine O _ w r.below (λi hi=>?_) λi j hi p c ai z=>?_;obtain⟨o,d,e1,e2,e3,_⟩:=G i hi;have:=r.has i d hi (n i hi) e3;rw[e3];exact this;obtain⟨_,d,_,_,e3,_⟩:=G i hi;obtain⟨_,d',_,_,e4,_⟩:=G j p;have:=r.ag9 i j d d' hi p c ai z (n i hi) (n j p) e3 e4;rw[e3,e4];exact this
 intro f
 induction f with
 |zero=>intro listed a w hs hc J hd r;refine fin 0 listed a w hs hc J (λi hi=>?_) r;rw[List.countP_eq_zero]at hc;have:=hc listed[i] (by simp);simpa[(by omega:i<listed.size)]using this
 |succ f ih=>
  intro listed a w hs hc J hd r;by_cases n:∀i,i<m->listed.getD i R=Y
  exact fin _ listed a w hs hc J n r
  ·
   have hex:∃k,k<m/\listed.getD k R=R/\∀i,i<k->listed.getD i R=Y:=by
    have:∃k,k<m/\listed.getD k R=R:=by
     apply Classical.byContradiction;intro hn;exact n λi hi=>by
      cases hb:listed.getD i R with
      |true=>rfl
      |false=>exact absurd ⟨i,hi,hb⟩ hn
    obtain⟨k,H⟩:=this
    induction k using Nat.strongRecOn with
    |_ k ihk=>
     by_cases p:∃j,j<k/\listed.getD j R=R
     obtain⟨j,hj1,hj2⟩:=p;exact ihk j hj1 ⟨by omega,hj2⟩;refine⟨k,H.1,H.2,λi hi=>?_⟩;cases hb:listed.getD i R with
     |true=>rfl
     |false=>exact absurd ⟨i,hi,hb⟩ p
   obtain⟨k,L,X,hkl⟩:=hex;refine⟨λW=>?_,λi hi=>?_⟩;exfalso;obtain⟨o,d,e1,e2,e3,e4,e5⟩:=G k L;have:k∈Zp .any l.toArray listed:=by rw[XZ];exact⟨by simpa[(by omega:k<listed.size)]using X,o,by simpa using e1,λe he hb=>hkl _<|e5 e he hb⟩
   rw[W]at this;cases this
   obtain⟨u1,o,u2,u3⟩:=XZ.1 hi;have N:l[i]?=U o:=by simpa using u2
   have x:i<m:=by
    apply Nat.lt_of_not_le;intro hle;have hb:=Zk.1 h4 i<|Y8.2 (Ω.1 u2).1;simp only[Bool.or_eq_true,decide_eq_true_eq]at hb;obtain hb|hb:=hb
    omega;have:=aaB hd _ i o u2 u3<|Zk.1 hb k<|Y8.2 L;rw[X]at this;cases this
   obtain⟨o',d,e1,e2,e3,e4,e5⟩:=G i x;obtain rfl:=Z1<|N.symm.trans e1;have hil:i<l.length:=by omega
   have y:i<listed.size:=by omega
   have hif:listed.getD i R=R:=by simp[y]at u1⊢;exact u1
   have hq:=hop i o x N a w r.below (λs hs=>r.base s λj p _ hsl=>by have:=Zk.1 hs j<|Y8.2 p;simp[hsl]at this) (λe he hb d hd'=>r.has e.on d (by have:=e5 e he hb;omega) (u3 e he hb) hd')
   unfold wpOp;simp only[u2];rw[if_pos (by simp[Y2,e4])];refine .inl<|Oper.wp_mono (λa' w' h'=>?_) hq;obtain⟨v,rfl,hb,hv,hA⟩:=h';refine ih (listed.setIfInBounds i Y) _ w' (by simpa using hs) ?_ (λj p=>?_) (hd.set hi) ?_;simp only[Y9];rw[List.countP_set (by simpa using y)];have hpos:0<listed.toList.countP (λb=>!b):=by omega
   have:listed.toList[i]'(by simpa using y)=R:=by simpa[y]using hif
   rw[this,hc];simp;rw[Y' R (by omega)];exact J j p;have hold:∀j q,j<m->j≠i->hE l j=U q->(a.put o.dst v).tmps.getD q undef=a.tmps.getD q undef:=λj q p c g=>by
    have C:o.dst≠U q:=λe=>by
     obtain h'|h':=Nat.lt_or_ge i j
     exact h3 i j h' p<|e3.trans<|e2.symm.trans<|e.trans g.symm;exact h3 j i (by omega) x<|g.trans<|e.symm.trans<|e2.trans e3.symm
    exact Uw<|Rq v C
   have t:∀di,hE l i=U di->(a.put o.dst v).tmps.getD di undef=v:=λdi hi=>by
    rw[e3]at hi;cases hi
    rw[e2];have:=put_eq (a:=a) v (s:=d) (by rw[r.size];exact T i d x e3);simp[this]
   have u:∀j q,j<m->A j=Y->(listed.setIfInBounds i Y).getD j R=Y->hE l j=U q->(j≠i->d6 ((a.put o.dst v).tmps.getD q undef)<w):=λj q p z h g c=>by rw[hold j q p c g];rw[Y' R (λe=>c e.symm)]at h;exact r.low j q p z h g
   refine⟨r.below.trans<|hb.mono r.below.size,by rw[NF,r.size],by rw[put_defers,r.defers],λs hs=>?_,λj q p h g=>?_,λj q p z h g=>?_,λj k q dk p H S z ak h E g B=>?_⟩;have C:o.dst≠U s:=λe=>hs i x (by simp[y])<|e3.trans<|e2.symm.trans e;rw[Uw (Rq v C)];refine r.base s λj p h=>hs j p ?_;exact aaD h;by_cases c:j=i
   ·subst c;rw[t q g];exact hv
   rw[hold j q p c g];rw[Y' R (λe=>c e.symm)]at h;exact hst _ _ _ _ hb<|r.has j q p h g;by_cases c:j=i
   ·subst c;rw[t q g];exact(hA z).2
   exact Nat.lt_of_lt_of_le (u j q p z h g c) hb.size;by_cases c:j=i
   ·subst c;rw[t q g];have:=u k dk H ak E B<|Zx S;have:=(hA z).1;omega
   by_cases D:k=i
   ·subst D;rw[t dk B];have:=u j q p z h g c;have:=(hA ak).1;omega
   rw[hold j q p c g,hold k dk H D B];rw[Y' R (λe=>c e.symm)]at h;rw[Y' R (λe=>D e.symm)]at E;exact r.ag9 j k q dk p H S z ak h E g B
def aei{w:I}(m A F)(k:P.follows .mixedOrders=Y)(p:Pe l m=Y)(g:∀i d,i<m->hE l i=U d->d<a0.tmps.size)(c:∀i v w w',M w.heap.size w w'->F i v w->F i v w')(f:∀i o,i<m->l[i]?=U o->Hop P Q l m A F a0 w.drew i o)(b:∀vs w1,M w w.drew w1->(∀i,i<m->F i (vs i) w1) ->(∀i j,i<m->j<m->i≠j->A i=Y->A j=Y->d6 (vs i)≠d6 (vs j)) ->ZN P l.toArray Q (l.drop m) (G3 (l.take m) 0 vs a0) w1):(YY id l.toArray Y).wp P Q a0 w:=by
 refine wp_region_any k ?_;refine aap p g c f b _ _ a0 _ (by simp) (by simp[XV]) (λj q=>?_) (λj s r n=>?_) ⟨.refl _ _,rfl,rfl,λ_ _=>rfl,λi d hi a _=>?_,λi d hi _ a _=>?_,λi j d e hi _ _ _ _ a _ _ _=>?_⟩;by_cases h:j<l.length<;>simp[h]
 by_cases h:j<l.length<;>simp[h]at n
 by_cases h:i<l.length<;>simp[h]at a
 by_cases h:i<l.length<;>simp[h]at a
 by_cases h:i<l.length<;>simp[h]at a
structure SP where
 p:υ->I->Prop
 st:∀v w w',M w.heap.size w w'->p v w->p v w'
def SP.eq(x:υ):SP:=⟨λv _=>v=x,λ_ _ _ _ h=>h⟩
def spF(L:List SP)(i:Nat)(v:υ)(w:I):Prop:=((L[i]?).getD ⟨λ_ _=>True,λ_ _ _ _ h=>h⟩).p v w
def aha(P:Zd)(Q:X0->YU->I->Prop)(l:List ZF)(L:List SP)(A:Nat->Bool)(a0:YU)(w0:I)(i:Nat)(o:ZF):Prop:=
 ∀a w,M w0 w0 w->(∀s,aao l L.length s=Y->(a.tmps[s]?).getD undef=(a0.tmps[s]?).getD undef) ->(∀j d,(o.after.toList.any λe=>ZY .any e&&e.on==j)=Y->hE l j=U d->spF L j ((a.tmps[d]?).getD undef) w) ->
  Zb P o a w (λa' w'=>∃v,a'=a.put o.dst v/\M w w w'/\spF L i v w'/\(A i=Y->w.heap.size<=d6 v/\d6 v<w')) Q
def O3(P:Zd)(Q:X0->YU->I->Prop)(l:List ZF)(L:List SP)(A:Nat->Bool)(a0:YU)(w0:I):Nat->List ZF->Prop
 |_,[]=>True
 |i,o::r=>aha P Q l L A a0 w0 i o/\O3 P Q l L A a0 w0 (i+1) r
def O3.at_{L}:∀r k i o,O3 P Q l L A a0 w0 k r->r[i]?=U o->aha P Q l L A a0 w0 (k+i) o
 |o::r,k,0,_,h,e=>by cases e;exact h.1
 |o::r,k,i+1,o',h,e=>by have:=O3.at_ r (k+1) i o' h.2 e;rwa[Nat.add_right_comm,Nat.add_assoc]at this
 |[],_,_,_,_,e=>by simp at e
def ai3(P:Zd)(Q:X0->YU->I->Prop)(l:List ZF)(L:List SP)(a0:YU)(w0:I)(i:Nat)(o:ZF):Prop:=
 ∀a w,M w0 w0 w->(∀s,aao l L.length s=Y->(a.tmps[s]?).getD undef=(a0.tmps[s]?).getD undef) ->(∀j d,(o.after.toList.any λe=>ZY .any e&&e.on==j)=Y->hE l j=U d->spF L j ((a.tmps[d]?).getD undef) w) ->
  Zb P o a w (λa' w'=>∃v,a'=a.put o.dst v/\M w w w'/\spF L i v w') Q
def aaq(P:Zd)(Q:X0->YU->I->Prop)(l:List ZF)(L:List SP)(a0:YU)(w0:I):Nat->List ZF->Prop
 |_,[]=>True
 |i,o::r=>ai3 P Q l L a0 w0 i o/\aaq P Q l L a0 w0 (i+1) r
def O3.none{L}:∀r k,aaq P Q l L a0 w0 k r->O3 P Q l L (λ_=>R) a0 w0 k r
 |[],_,_=>trivial
 |o::r,k,h=>⟨λa w c b h3=>Oper.wp_mono (λf d ⟨v,e1,e2,e3⟩=>⟨v,e1,e2,e3,λe=>by cases e⟩)<|h.1 a w c b h3,O3.none r (k+1) h.2⟩
def VP:List SP->Nat->(Nat->υ) ->I->Prop
 |[],_,_,_=>True
 |s::L,k,vs,w=>s.p (vs k) w/\VP L (k+1) vs w
theorem Qi{L:List SP}{vs:Nat->υ}{w:I}(h:∀i,i<L.length->spF L i (vs i) w):∀(a:List SP) (k:Nat),(∀j,a[j]?=L[k+j]?) ->VP a k vs w
 |[],_,_=>trivial
 |s::a,k,e=>by have b:=e 0;simp at b;refine⟨?_,Qi h a (k+1) λj=>by have:=e<|j+1;simpa[Nat.add_assoc,Nat.add_comm 1 j]using this⟩;have:=h k<|(Ξ.1 b.symm).1;simpa[spF,<-b]using this
def Pg{w:I}(L A)(m:P.follows .mixedOrders=Y)(r:Pe l L.length=Y)(u:((ZT L.length).all λi=>decide<|(hE l i).getD 0<a0.tmps.size)=Y)(k:O3 P Q l L A a0 w.drew 0 (l.take L.length))(f:∀vs w1,M w w.drew w1->VP L 0 vs w1->(∀i j,i<L.length->j<L.length->i≠j->A i=Y->A j=Y->d6 (vs i)≠d6 (vs j)) ->ZN P l.toArray Q (l.drop L.length) (G3 (l.take L.length) 0 vs a0) w1):(YY id l.toArray Y).wp P Q a0 w:=by
 refine aei L.length A (spF L) m r (λi d hi hd=>?_) (λi v w x hb h=>?_) (λi o hi n=>?_) λvs w1 hb h hd=>f vs w1 hb (Qi h L 0 λj=>by rw[Nat.zero_add]) hd
 grind
 exact SP.st _ _ _ _ hb h;have:=O3.at_ (l.take L.length) 0 i o k (by rw[Z4,if_pos hi];exact n);rw[Nat.zero_add]at this;intro a t hb c g;refine this a t hb (λs hs=>by have:=c s hs;simpa using this) λj d p hd=>?_;obtain⟨e,q,b⟩:=List.any_eq_true.1 p;simp only[ZL,beq_iff_eq]at b;have:=g e (by simpa using q) b.1 d (by rw[b.2];exact hd);rw[b.2]at this;simpa using this
def kl{w:I}(L)(d:P.follows .mixedOrders=Y)(e:Pe l L.length=Y)(c:((ZT L.length).all λi=>decide<|(hE l i).getD 0<a0.tmps.size)=Y)(b:aaq P Q l L a0 w.drew 0 (l.take L.length))(a:∀vs w1,M w w.drew w1->VP L 0 vs w1->ZN P l.toArray Q (l.drop L.length) (G3 (l.take L.length) 0 vs a0) w1):(YY id l.toArray Y).wp P Q a0 w:=by refine Pg L (λ_=>R) d e c (O3.none _ _ b) λvs w1 hb h _=>a vs w1 hb h
def ir{L j x v w}(h:spF L j x w)(e:L[j]?=U (.eq v)):x=v:=by unfold spF at h;rw[e]at h;exact h
attribute [go_sem] G3
end
end Rg
namespace Kn
open Go Go.RowKit Md
def nd(w j h l)(g:eI w j l)(f:eI w h l):
 ι prog 27 #[j,h] w λe w'=>e=.returned (.bool Y)/\∃n,w'=w.drewN n:=by
 obtain⟨a,m,rfl,t,s,c⟩:=g;obtain⟨x,B,rfl,_,_,hb⟩:=f
 go_enter (fU func27 rfl),ntmps27
 go_wp2
 go_loopw [5] (λi wr=>∃k:Nat,k<=l.length/\i=Θ Ψ k/\∃n,wr=w.drewN n) (λi _=>l.length-(intOf i).toNat)
 case atStart=>exact⟨0,Nat.zero_le _,rfl,0,rfl⟩
 case round=>
  obtain⟨k,u,rfl,n,rfl⟩:=hrel
  go_wp2
  ·have d:k<l.length:=by assumption
   obtain⟨A,v,rfl,_,c⟩:=c (by omega);obtain⟨z,y,rfl,_,hb⟩:=hb (by omega);obtain⟨p,q,e1⟩:=ep d;obtain⟨c1,c2⟩:=c k p q e1;obtain⟨c3,r⟩:=hb k p q e1;have b:=nc p q;clear c hb
   go_quiet (fail)
   clear b c1 c2 c3 r
   go_wp2
   exact⟨⟨k+1,by omega,by go_num,_,rfl⟩,by simp[intOf];omega⟩
  ·have o:¬k<l.length:=by assumption
   go_ret;exact⟨rfl,_,rfl⟩
def v8(w h g l)(f:By w h l)(d:By w g l):
 ι prog 51 #[h,g] w λe w'=>e=.returned (.bool Y)/\∃n,w'=w.drewN n:=by
 obtain⟨a,m,rfl,r,o,b⟩:=f;obtain⟨u,z,rfl,_,_,hb⟩:=d
 go_enter (fU func51 rfl),ntmps51
 go_wp2
 go_loopw [5] (λi wr=>∃k:Nat,k<=l.length/\i=Θ Ψ k/\∃n,wr=w.drewN n) (λi _=>l.length-(intOf i).toNat)
 case atStart=>exact⟨0,Nat.zero_le _,rfl,0,rfl⟩
 case round=>
  obtain⟨k,s,rfl,n,rfl⟩:=hrel
  go_wp2
  ·have c:k<l.length:=by assumption
   obtain⟨y,t,rfl,_,b⟩:=b (by omega);obtain⟨x,v,rfl,_,hb⟩:=hb (by omega);obtain⟨p,e1⟩:=ot c;have c1:=b k p e1;have c3:=hb k p e1;have q:(p !=p)=R:=by simp
   clear b hb
   go_quiet (fail)
   clear c1 c3
   go_wp2
   exact⟨⟨k+1,by omega,by go_num,_,rfl⟩,by simp[intOf];omega⟩
  ·have j:¬k<l.length:=by assumption
   go_ret;exact⟨rfl,_,rfl⟩
section
variable{w:I}
def uK{P f args a n v}(h:ι P f args (w.drewN<|a+n) λe w'=>e=.returned v/\∃m,w'=(w.drewN<|a+n).drewN m):
 ι P f args (w.drewN<|a+n) λe b=>e=.returned v/\∃m,b=w.drewN (a+m):=
 h.mono λ_ _ ⟨c,m,d⟩=>⟨c,n+m,by rw[d,World.drewN_drewN,Nat.add_assoc]⟩
def eI.drewN{v l}(h:eI w v l)(n):eI (w.drewN n) v l:=by trivial
def Dp(w o h l)(f:sa w o l)(d:sa w h l):
 ι prog 87 #[o,h] w λe w'=>e=.returned (.bool Y)/\∃n,w'=w.drewN n:=by
 obtain⟨a,m,rfl,E,s,b⟩:=f;obtain⟨z,D,rfl,_,_,hb⟩:=d
 go_enter (fU func87 rfl),ntmps87
 go_wp2
 go_loopw [5] (λi wr=>∃k:Nat,k<=l.length/\i=Θ Ψ k/\∃n,wr=w.drewN n) (λi _=>l.length-(intOf i).toNat)
 case atStart=>exact⟨0,Nat.zero_le _,rfl,0,rfl⟩
 case round=>
  obtain⟨k,y,rfl,n,rfl⟩:=hrel
  go_wp2
  ·have c:k<l.length:=by assumption
   obtain⟨B,F,rfl,_,b⟩:=b (by omega);obtain⟨x,A,rfl,_,hb⟩:=hb (by omega);obtain⟨p,q,e1⟩:=cQ c;obtain⟨c1,v1,c2,j⟩:=b k p q e1;obtain⟨c3,v2,v,g⟩:=hb k p q e1;have C:(p !=p)=R:=by simp
   have t:=V j;have u:=V g;clear b hb j g
   go_quiet ((go_at_call 27;exact uK<|nd _ _ _ q (t.out.drewN _)<|u.out.drewN _))
   clear c1 c2 c3 v
   go_wp2
   exact⟨⟨k+1,by omega,by go_num,_,rfl⟩,by simp[intOf];omega⟩
  ·have r:¬k<l.length:=by assumption
   go_ret;exact⟨rfl,_,rfl⟩
def bl{B a}(h:M B a w)(n):M B a (w.drewN n):=⟨h.os,h.tape,h.output,h.size,h.block⟩
def GV(w:I)(v:υ)(g:GH):Prop:=∃n o r wi d m,v=.agg #[n,o,r,wi,d,m]/\sa w n g.new/\sa w o g.old/\eI w r g.roots/\eI w wi g.aA/\eI w d g.done/\By w m g.marked
def tH(w:I)(v:υ)(h:PH):Prop:=∃c r wi d,v=.agg #[c,r,wi,d]/\sa w c h.cells/\eI w r h.roots/\By w wi h.aA/\By w d h.done
def GV.below{w w' v g}(a:M w.heap.size w w')(h:GV w v g):GV w' v g:=by obtain⟨n,o,r,b,d,m,rfl,f,e,h3,h4,h5,c⟩:=h;exact⟨n,o,r,b,d,m,rfl,f.below a,e.below a,h3.below a,h4.below a,h5.below a,c.below a⟩
def tH.below{w w' v g}(a:M w.heap.size w w')(h:tH w v g):tH w' v g:=by obtain⟨c,r,b,d,rfl,f,e,h3,h4⟩:=h;exact⟨c,r,b,d,rfl,f.below a,e.below a,h3.below a,h4.below a⟩
def NU(w t l g)(f:GV w t g)(b:GV w l g):
 ι prog 26 #[t,l] w λe w'=>e=.returned (.bool Y)/\M w.heap.size w w':=by
 obtain⟨n,o,r,N,d,m,rfl,p,j,h3,h4,h5,u⟩:=f;obtain⟨O,o',P,K,d',m',rfl,i,v,k,y,q,s⟩:=b;have x:∀h c:Obj,M w.heap.size w ((w.alloc h).alloc c):=λh c=>(af w h).alloc (by simp) c;have a:=V x;clear x;have J:=V p;have L:=V j;have B:=V h3;have C:=V h4;have H5:=V h5;have z:=V u;have D:=V i;have A:=V v;have F:=V k;have H:=V y;have G:=V q;have E:=V s;clear p j h3 h4 h5 u i v k y q s
 go_enter (fU func26 rfl),ntmps26
 go_wp2_with fail
 refine(Dp _ _ _ g.new (J.out.below<|a.out _ _)<|D.out.below<|a.out _ _).mono ?_;rintro e w' ⟨rfl,n1,rfl⟩
 go_wp2_with fail
 refine(Dp _ _ _ g.old (L.out.below<|bl (a.out _ _) _)<|A.out.below<|bl (a.out _ _) _).mono ?_;rintro e w' ⟨rfl,W,rfl⟩
 go_wp2_with fail
 refine(nd _ _ _ g.roots (B.out.below<|bl (a.out _ _) _)<|F.out.below<|bl (a.out _ _) _).mono ?_;rintro e w' ⟨rfl,S,rfl⟩
 go_wp2_with fail
 refine(nd _ _ _ g.aA (C.out.below<|bl (a.out _ _) _)<|H.out.below<|bl (a.out _ _) _).mono ?_;rintro e w' ⟨rfl,T,rfl⟩
 go_wp2_with fail
 refine(nd _ _ _ g.done (H5.out.below<|bl (a.out _ _) _)<|G.out.below<|bl (a.out _ _) _).mono ?_;rintro e w' ⟨rfl,Q,rfl⟩
 go_wp2_with fail
 refine(v8 _ _ _ g.marked (z.out.below<|bl (a.out _ _) _)<|E.out.below<|bl (a.out _ _) _).mono ?_;rintro e w' ⟨rfl,X,rfl⟩
 go_wp2
 go_ret;exact⟨rfl,bl (a.out _ _) _⟩
end
section
variable(w:I)(n:Int)
def eB(v:HV):υ:=.agg #[Θ Ψ v.1,Θ Ψ v.2]
def gK(e:Int):List PanicEntry:=[{v:=.iface 177<|.agg #[Θ Ψ e],recovered:=R}]
def aeR:ι prog 56 #[Θ Ψ n] w λe w'=>e=.returned (eB (0,n))/\M w.heap.size w w':=by
 go_enter (fU func56 rfl),ntmps56
 go_wp2
 exact ZS (v:=eB (0,n)) (by simp[Zo,results56,go_sem,eB]) rfl ⟨rfl,((Δ _ _).alloc .refl _)⟩
def NV:ι prog 61 #[Θ Ψ n] w λe w'=>e=.returned (eB (3,n))/\M w.heap.size w w':=by
 go_enter (fU func61 rfl),ntmps61
 go_wp2
 exact ZS (v:=eB (3,n)) (by simp[Zo,results61,go_sem,eB]) rfl ⟨rfl,((Δ _ _).alloc .refl _)⟩
def aeS:ι prog 59 #[Θ Ψ n] w λe w'=>e=.returned (eB (4,n))/\M w.heap.size w w':=by
 go_enter (fU func59 rfl),ntmps59
 go_wp2
 exact ZS (v:=eB (4,n)) (by simp[Zo,results59,go_sem,eB]) rfl ⟨rfl,((Δ _ _).alloc .refl _)⟩
def V0:ι prog 58 #[] w λe w'=>e=.returned (eB (2,0))/\M w.heap.size w w':=by
 go_enter (fU func58 rfl),ntmps58
 go_wp2
 exact ZS (v:=eB (2,0)) (by simp[Zo,results58,go_sem,eB]) rfl ⟨rfl,((Δ _ _).alloc .refl _)⟩
def aeT(v a n m)(b:v=.slice a n m):ι prog 55 #[v] w λe w'=>e=.returned (.agg #[Θ Ψ 0,v])/\M w.heap.size w w':=by
 subst b
 go_enter (fU func55 rfl),ntmps55
 go_wp2
 exact ZS (by simp[Zo,results55,go_sem]) rfl ⟨rfl,((Δ _ _).alloc .refl _)⟩
def cd(e):ι prog 84 #[.bool R,Θ Ψ e] w λr w'=>r=.returned (.tuple #[])/\w'=w:=by
 go_enter (fU func84 rfl),ntmps84
 go_wp2
 go_end0;exact⟨rfl,rfl⟩
def eU(e):ι prog 84 #[.bool Y,Θ Ψ e] w λr w'=>r=.panicked (gK e)/\w'=w:=by
 go_enter (fU func84 rfl),ntmps84
 go_wp2
 exact⟨rfl,rfl,rfl⟩
end
section
variable(w:I)(v:HV)
def wd:ι prog 151 #[eB v] w λe w'=>e=.returned (.bool<|dy v)/\M w w w':=by
 unfold eB dy
 go_enter (fU func151 rfl),ntmps151
 go_wp2
 go_ret;exact⟨rfl,((Δ _ _).alloc .refl _)⟩
def sd:ι prog 168 #[eB v] w λe w'=>e=.returned (.bool<|co v)/\M w w w':=by
 obtain⟨k,n⟩:=v;unfold eB co;by_cases h:k=3
 ·have h3:(k==3)=Y:=by simp[h]
  simp only[h3,Bool.true_or]
  go_enter (fU func168 rfl),ntmps168
  go_wp2
  go_ret;exact⟨rfl,((Δ _ _).alloc .refl _)⟩
 ·have h3:(k==3)=R:=by simp[h]
  simp only[h3,Bool.false_or]
  go_enter (fU func168 rfl),ntmps168
  go_wp2
  go_ret;exact⟨rfl,((Δ _ _).alloc .refl _)⟩
def mi(w:I)(b:Nat)(g:GH):Prop:=∃n o r wi d m,w b=U n/\w (b,1)=U o/\w (b,2)=U r/\w (b,3)=U wi/\w (b,4)=U d/\w (b,5)=U m/\
 sa w n g.new/\sa w o g.old/\eI w r g.roots/\eI w wi g.aA/\eI w d g.done/\By w m g.marked
def mi.below{w w':I}{b g}(a:M w w w')(h:mi w b g):mi w' b g:=by
 obtain⟨n,o,r,c,d,m,c0,c1,c2,c3,k,j,i,f,h3,h4,h5,e⟩:=h;refine⟨n,o,r,c,d,m,?_,?_,?_,?_,?_,?_,i.below a,f.below a,h3.below a,h4.below a,h5.below a,e.below a⟩
 all_goals rw[a.cell (az c0)];assumption
def dZ(c:Int)(e:Ending):Prop:=if c=0 then e=.returned (.tuple #[])else e=.panicked (gK c)
def dZ.ok{c}(h:c=0):dZ c (.returned<|.tuple #[]):=by unfold dZ;rw[if_pos h]
def dZ.bad{c d}(h:c=d)(hd:d≠0):dZ c (.panicked<|gK d):=by unfold dZ;subst h;rw[if_neg hd]
def we(b g v)(h:mi w b g):ι prog 169 #[.pointer b,eB v] w λe w'=>dZ (eO g v) e/\M w w w':=by
 obtain⟨n,o,r,f,d,m,c0,c1,_,_,_,_,⟨a1,m1,rfl,_,_,_⟩,⟨i,m2,rfl,_,_,_⟩,_⟩:=h;obtain⟨k,n⟩:=v;have hb:=az c0;unfold eB;by_cases h3:k=3
 ·subst h3;by_cases h0:n<0
  ·go_enter (fU func169 rfl),ntmps169
   go_wp2_with fail
   refine(eU _ _).mono ?_;rintro e w' ⟨rfl,rfl⟩;exact⟨rfl,dZ.bad (by simp[eO,h0])<|by decide,((Δ _ _).alloc .refl _)⟩
  ·by_cases a:(g.new.length:Int)<=n
   ·go_enter (fU func169 rfl),ntmps169
    go_wp2_with fail
    refine(eU _ _).mono ?_;rintro e w' ⟨rfl,rfl⟩;exact⟨rfl,dZ.bad (by simp[eO,a])<|by decide,((Δ _ _).alloc .refl _)⟩
   ·go_enter (fU func169 rfl),ntmps169
    go_wp2_with fail
    refine(cd _ _).mono ?_;rintro e w' ⟨rfl,rfl⟩
    go_wp2
    go_end0;exact⟨dZ.ok (by simp[eO];omega),((Δ _ _).alloc .refl _)⟩
 ·have c:(k==3)=R:=by simp[h3]
  by_cases h0:n<0
  ·go_enter (fU func169 rfl),ntmps169
   go_wp2_with fail
   refine(eU _ _).mono ?_;rintro e w' ⟨rfl,rfl⟩;exact⟨rfl,dZ.bad (by simp[eO,h0])<|by decide,((Δ _ _).alloc .refl _)⟩
  ·by_cases a:(g.old.length:Int)<=n
   ·go_enter (fU func169 rfl),ntmps169
    go_wp2_with fail
    refine(eU _ _).mono ?_;rintro e w' ⟨rfl,rfl⟩;exact⟨rfl,dZ.bad (by simp[eO,a,h3])<|by decide,((Δ _ _).alloc .refl _)⟩
   ·go_enter (fU func169 rfl),ntmps169
    go_wp2_with fail
    refine(cd _ _).mono ?_;rintro e w' ⟨rfl,rfl⟩
    go_wp2
    go_end0;exact⟨dZ.ok (by simp[eO,h3];omega),((Δ _ _).alloc .refl _)⟩
def Io(b g v)(h:mi w b g)(a:mh g v=0):ι prog 167 #[.pointer b,eB v] w λe w'=>e=.returned (.tuple #[])/\M w w w':=by
 obtain⟨k,n⟩:=v;have H:=V h;clear h;by_cases h0:k=0
 ·subst h0;have c:-99<=n/\n<=99:=by simp[mh]at a;omega
  obtain⟨c,d⟩:=c;clear a;unfold eB
  go_enter (fU func167 rfl),ntmps167
  go_wp2_with fail
  refine(cd _ _).mono ?_;rintro e w' ⟨rfl,rfl⟩
  go_wp2
  go_end0;exact⟨rfl,((Δ _ _).alloc .refl _)⟩
 ·by_cases d:k=2
  ·subst d;have c:n=0:=by simp[mh]at a;exact a
   subst c;clear a;unfold eB
   go_enter (fU func167 rfl),ntmps167
   go_wp2_with fail
   refine(cd _ _).mono ?_;rintro e w' ⟨rfl,rfl⟩
   go_wp2
   go_end0;exact⟨rfl,((Δ _ _).alloc .refl _)⟩
  ·by_cases h3:k=3
   ·subst h3;have c:eO g (3,n)=0:=by simpa[mh]using a
    have f:=V c;clear a c;unfold eB
    go_enter (fU func167 rfl),ntmps167
    go_wp2_with fail
    refine(we _ b g (3,n)<|H.out.below<|af _ _).mono ?_;rintro e w' ⟨a,hw⟩;unfold dZ at a;rw[if_pos f.out]at a;subst a
    go_wp2
    go_end0;exact⟨rfl,(af _ _).trans<|hw.mono<|by simp⟩
   ·have h4:k=4:=by
     obtain h|h:=Decidable.em<|k=4
     exact h;simp[mh,h0,d,h3,h]at a
    subst h4;have c:eO g (4,n)=0:=by simpa[mh]using a
    have f:=V c;clear a c h0 d h3;unfold eB
    go_enter (fU func167 rfl),ntmps167
    go_wp2_with fail
    refine(we _ b g (4,n)<|H.out.below<|af _ _).mono ?_;rintro e w' ⟨a,hw⟩;unfold dZ at a;rw[if_pos f.out]at a;subst a
    go_wp2
    go_end0;exact⟨rfl,(af _ _).trans<|hw.mono<|by simp⟩
end
section
def lU(v:HV):List υ:=[Θ Ψ v.1,Θ Ψ v.2]
def eP(n:Int):List υ:=[Θ Ψ n]
def dW(c:Int×υ):List υ:=[Θ Ψ c.1,c.2]
def OV(w:I)(B:Nat)(v:υ)(l:List HV):Prop:=w.ownsRow B 50 2 v l.length<|l.flatMap lU
def OI(w:I)(B:Nat)(v:υ)(l:List Int):Prop:=w.ownsRow B 3 1 v l.length<|l.flatMap eP
def OC(w:I)(B:Nat)(v:υ)(l:List (Int×υ)):Prop:=w.ownsRow B 76 2 v l.length<|l.flatMap dW
def nh:(prog.info? 50).map (λi=>(i.zero,i.size,i.bytes))=U (U<|.agg #[Θ Ψ 0,Θ Ψ 0],2,16):=by kernel_rfl
def Dq:(prog.info? 3).map (λi=>(i.zero,i.size,i.bytes))=U (U<|Θ Ψ 0,1,8):=by kernel_rfl
def ni:(prog.info? 76).map (λi=>(i.zero,i.size,i.bytes))=U (U<|.agg #[Θ Ψ 0,Z8 Z 0 0],2,32):=by kernel_rfl
def lx:prog.underlying 23=U (.slice 50):=by kernel_rfl
def se:prog.underlying 24=U (.slice 3):=by kernel_rfl
def mF:prog.underlying 22=U (.slice 76):=by kernel_rfl
theorem jx{c:Type}(f:c->List υ)(x y:c->υ)(d:∀a,f a=[x a,y a]):∀(l:List c) (i:Nat) (a:c),l[i]?=U a->(l.flatMap f)[i*2]?=U (x a)/\(l.flatMap f)[i*2+1]?=U (y a)
 |[],i,a,h=>by simp at h
 |b::l,0,a,h=>by grind
 |b::l,i+1,a,h=>by
  have:=jx f x y d l i a (by simpa using h)
  grind
theorem zn{c:Type}(f:c->List υ)(x:c->υ)(d:∀a,f a=[x a]):∀(l:List c) (i:Nat) (a:c),l[i]?=U a->(l.flatMap f)[i]?=U (x a)
 |[],i,a,h=>by simp at h
 |b::l,0,a,h=>by grind
 |b::l,i+1,a,h=>by
  have:=zn f x d l i a (by simpa using h)
  grind
def V1(l:List HV):∀u∈l.flatMap lU,u.oneCell'=Y:=by intro u b;obtain⟨a,_,h⟩:=YQ.1 b;simp[lU]at h;obtain rfl|rfl:=h<;>rfl
def amT(l:List Int):∀u∈l.flatMap eP,u.oneCell'=Y:=by intro u b;obtain⟨a,_,h⟩:=YQ.1 b;simp[eP]at h;subst h;rfl
section
variable{w w':I}{B:Nat}{v:υ}
def aF{e size n xs}(h:w.ownsRow B e size v n xs):∃a m,v=.slice a n m/\n<=m/\m<=ZU/\(0<n->∃g,a=U ⟨g,0,Z⟩/\B<=g/\g<w/\v.ownBlock=U g/\∀j u,xs[j]?=U u->w.cell? ⟨g,j,Z⟩=U u):=by
 have hc:=λ(g:Nat) (c:v.ownBlock=U g)=>h.cells c;have b:=h.lt;obtain⟨p,⟨rfl,rfl⟩|⟨g,i,d,rfl,l,c,o,f,hs,q⟩⟩:=h
 grind
 refine⟨_,_,rfl,o,f,λh0=>⟨g,rfl,l,(b g rfl).2,rfl,λj u k=>?_⟩⟩;have:=hc g rfl j u k;rwa[show((g:Nat):Yl).add j=⟨g,j,Z⟩ by unfold ZQ;split<;>simp_all]at this
def OV.reads{l}(h:OV w B v l):eI w v l:=by
 obtain⟨a,m,rfl,c,b,h3⟩:=aF h;refine⟨a,m,rfl,c,by unfold ZU at b;exact b,λh0=>?_⟩;obtain⟨g,rfl,_,d,_,hc⟩:=h3 h0;refine⟨g,0,rfl,d,λi k n e=>?_⟩;obtain⟨e1,e2⟩:=jx lU (λv=>Θ Ψ v.1) (λv=>Θ Ψ v.2) (λ_=>rfl) l i (k,n) e
 grind
def OI.reads{l}(h:OI w B v l):By w v l:=by obtain⟨a,m,rfl,c,b,h3⟩:=aF h;refine⟨a,m,rfl,c,by unfold ZU at b;exact b,λh0=>?_⟩;obtain⟨g,rfl,_,d,_,hc⟩:=h3 h0;refine⟨g,0,rfl,d,λi n e=>?_⟩;rw[Nat.zero_add];exact hc _ _<|zn eP (λn=>Θ Ψ n) (λ_=>rfl) l i n e
def aY(w:I)(l:List (Int×υ))(cs:List HC):Prop:=l.length=cs.length/\∀(i:Nat) k v k' vs,l[i]?=U (k,v) ->cs[i]?=U (k',vs) ->k=k'/\eI w v vs
def OC.reads{l cs}(h:OC w B v l)(hc:aY w l cs):sa w v cs:=by
 obtain⟨a,m,rfl,c,b,h3⟩:=aF h;rw[hc.1]at c h3⊢;refine⟨a,m,rfl,c,by unfold ZU at b;exact b,λh0=>?_⟩;obtain⟨g,rfl,_,n,_,q⟩:=h3 h0;refine⟨g,0,rfl,n,λi k f e=>?_⟩;have hi:i<l.length:=by rw[hc.1];exact(Ξ.1 e).1
 obtain⟨o,j,d⟩:∃k v,l[i]?=U (k,v):=⟨_,_,χ hi⟩;obtain⟨rfl,p⟩:=hc.2 i o j k f d e;obtain⟨e1,e2⟩:=jx dW (λv=>Θ Ψ v.1) (λv=>v.2) (λ_=>rfl) l i _ d
 grind
def OV.nil(w B):OV w B (Z8 Z 0 0) []:=ZC _ _ _ _
def OI.nil(w B):OI w B (Z8 Z 0 0) []:=ZC _ _ _ _
def OC.nil(w B):OC w B (Z8 Z 0 0) []:=ZC _ _ _ _
end
def aS{w w':I}{B e size n v xs}(h:w.ownsRow B e size v n xs)(d:∀g,v.ownBlock=U g->w'.heap[g]?=w.heap[g]?):w'.ownsRow B e size v n xs:=by obtain⟨c,⟨rfl,rfl⟩|⟨g,b,a,rfl,i,j,f⟩⟩:=h;exact⟨c,.inl ⟨rfl,rfl⟩⟩;exact⟨c,.inr ⟨g,b,a,rfl,i,(d g rfl).trans j,f⟩⟩
def jy{w w':I}{B e size n v xs}(h:w.ownsRow B e size v n xs)(b:M w w w'):w'.ownsRow B e size v n xs:=aS h λg a=>b.block g (h.lt g a).2
def eV{w:I}{B B' e size n v xs}(h:w.ownsRow B e size v n xs)(i:B'<=B):w.ownsRow B' e size v n xs:=by obtain⟨d,⟨rfl,rfl⟩|⟨g,c,a,rfl,b,f⟩⟩:=h;exact⟨d,.inl ⟨rfl,rfl⟩⟩;exact⟨d,.inr ⟨g,c,a,rfl,Nat.le_trans i b,f⟩⟩
section
variable{w w':I}{B B':Nat}{v:υ}
def OV.below{l}(h:OV w B v l)(a:M w w w'):OV w' B v l:=jy h a
def OI.below{l}(h:OI w B v l)(a:M w w w'):OI w' B v l:=jy h a
def OC.below{l}(h:OC w B v l)(a:M w w w'):OC w' B v l:=jy h a
def OV.alloc{l}(h:OV w B v l)(o):OV (w.alloc o) B v l:=h.below<|af w o
def OI.alloc{l}(h:OI w B v l)(o):OI (w.alloc o) B v l:=h.below<|af w o
def OC.alloc{l}(h:OC w B v l)(o):OC (w.alloc o) B v l:=h.below<|af w o
def OV.less{l}(h:OV w B v l)(a:B'<=B):OV w B' v l:=eV h a
def OI.less{l}(h:OI w B v l)(a:B'<=B):OI w B' v l:=eV h a
def OC.less{l}(h:OC w B v l)(a:B'<=B):OC w B' v l:=eV h a
end
def cM{w w':I}{B e size n v xs}(h:w.ownsRow B e size v n xs)(a:w.grownBy w' v.ownBlock)(c:B<=w):M B w w':=(Δ B w).grown a c λk b=>(h.lt k b).1
section
variable{ops:Array ZF}{rest:List ZF}{o:ZF}{a:YU}{w:I}{Q:X0->YU->I->Prop}
def fO(g:o.guard=Z)(s x)(r:o.op=.call {callee:=.builtin .append,args:=#[s,x],argTypes:=#[23,23]})(B v l)(hs:a.eval s=v)(b:OV w B v l)(ad c u)(y:a.eval x=Z8 (U ad) 1 c)(n:w (ad.add 0)=U (Θ Ψ u.1)/\w (ad.add 1)=U (Θ Ψ u.2))(A:l.length<=1000000000)(p:B<=w)(h:∀e w',OV w' B e (l++[u]) ->M B w w'->w.grownBy w' v.ownBlock->ZN prog ops Q rest (a.put o.dst e) w'):ZN prog ops Q (o::rest) a w:=by
 obtain⟨q,hi,i,k,f⟩:=ZM nh;refine Yb _ g s x 23 r B 50 q _ 2 16 lx hi i k f rfl (by simp) v l.length _ hs b ad 1 c (lU u) y rfl (λj z d=>?_) (λz hz=>?_) (by unfold ZU;omega) (by omega) p λe w' t m _=>?_
 match j,d with
 |0,d=>cases d;exact n.1
 |1,d=>cases d;exact n.2
 |j+2,d=>simp[lU]at d
 simp[lU]at hz;obtain rfl|rfl:=hz<;>rfl
 refine h e w' ?_ (cM b m p) m;unfold OV;simpa using t
def od(g:o.guard=Z)(s x)(q:o.op=.call {callee:=.builtin .append,args:=#[s,x],argTypes:=#[24,24]})(B v l)(hs:a.eval s=v)(b:OI w B v l)(ad c u)(y:a.eval x=Z8 (U ad) 1 c)(t:w (ad.add 0)=U (Θ Ψ u))(A:l.length<=1000000000)(n:B<=w)(h:∀e w',OI w' B e (l++[u]) ->M B w w'->w.grownBy w' v.ownBlock->ZN prog ops Q rest (a.put o.dst e) w'):ZN prog ops Q (o::rest) a w:=by
 obtain⟨p,hi,i,k,f⟩:=ZM Dq;refine Yb _ g s x 24 q B 3 p _ 1 8 se hi i k f rfl (by simp) v l.length _ hs b ad 1 c (eP u) y rfl (λj z d=>?_) (λz hz=>?_) (by unfold ZU;omega) (by omega) n λe w' r m _=>?_
 match j,d with
 |0,d=>cases d;exact t
 |j+1,d=>simp[eP]at d
 simp[eP]at hz;subst hz;rfl;refine h e w' ?_ (cM b m n) m;unfold OI;simpa using r
def wh(g:o.guard=Z)(s x)(r:o.op=.call {callee:=.builtin .append,args:=#[s,x],argTypes:=#[22,22]})(B v l)(hs:a.eval s=v)(b:OC w B v l)(ad c u)(C:u.2.oneCell'=Y)(y:a.eval x=Z8 (U ad) 1 c)(n:w (ad.add 0)=U (Θ Ψ u.1)/\w (ad.add 1)=U u.2)(A:l.length<=1000000000)(p:B<=w)(h:∀e w',OC w' B e (l++[u]) ->M B w w'->w.grownBy w' v.ownBlock->ZN prog ops Q rest (a.put o.dst e) w'):ZN prog ops Q (o::rest) a w:=by
 obtain⟨q,hi,i,k,f⟩:=ZM ni;refine Yb _ g s x 22 r B 76 q _ 2 32 mF hi i k f rfl (by decide) v l.length _ hs b ad 1 c (dW u) y rfl (λj z d=>?_) (λz hz=>?_) (by unfold ZU;omega) (by omega) p λe w' t m _=>?_
 match j,d with
 |0,d=>cases d;exact n.1
 |1,d=>cases d;exact n.2
 |j+2,d=>simp[dW]at d
 simp[dW]at hz;obtain rfl|rfl:=hz
 rfl;omega;refine h e w' ?_ (cM b m p) m;unfold OC;simpa using t
end
end
section
variable(w:I)(v:υ)
def bW{a:Type}{l:List a}{k x}(h:l[k]?=U x):l.take (k+1)=l.take k++[x]:=by rw[Yp,h];rfl
def lV(l)(u:eI w v l)(C:l.length<=1000000):
 ι prog 174 #[v] w λe w'=>(∃r,e=.returned r/\OI w' w r (l.map (·.2)))/\M w w w':=by
 obtain⟨a,m,rfl,D,o,g⟩:=u
 go_enter (fU func174 rfl),ntmps174
 go_wp2
 go_loopw [3,8] (λv i wr=>∃k:Nat,k<=l.length/\i=Θ Ψ k/\OI wr w v ((l.take k).map (·.2))/\M w w wr) (λ_ i _=>l.length-(intOf i).toNat)
 case atStart=>exact⟨0,Nat.zero_le _,rfl,OI.nil _ _,Δ _ _⟩
 case round=>
  obtain⟨k,A,rfl,b,c⟩:=hrel;by_cases h:k<l.length
  ·obtain⟨B,E,rfl,j,g⟩:=g (by omega);obtain⟨p,q,e1⟩:=ep h;obtain⟨c1,c2⟩:=(g.below c j) k p q e1;have t:=c.size;have f:((l.take k).map (·.2)).length<=1000000000:=by simp;omega
   have x:=V e1;clear g e1
   go_wp2_with (at_builtin;refine od rfl _ _ rfl w _ _ rfl ((b.alloc _).alloc _) (wr.heap.size+1:Nat) _ q rfl (by simp[go_sem,ZQ]) f (by simp;omega) ?_;intro z y d n s)
   go_wp2
   go_roundw
   case rel=>exact⟨k+1,by omega,by go_num,by rw[bW x.out,ζ];exact d,c.trans<|(((Δ _ _).alloc (by omega) _).alloc (by simp;omega) _).trans n⟩
   case measure=>simp[intOf];omega
  ·go_wp2
   go_ret;refine⟨⟨_,rfl,?_⟩,c⟩;rw[θ (by omega)]at b;exact b
def Ip(l)(u:By w v l)(C:l.length<=1000000):
 ι prog 132 #[v] w λe w'=>(∃r,e=.returned r/\OV w' w r (l.map λn=>((1,n):HV)))/\M w w w':=by
 obtain⟨a,m,rfl,D,p,g⟩:=u
 go_enter (fU func132 rfl),ntmps132
 go_wp2
 go_loopw [3,8] (λv i wr=>∃k:Nat,k<=l.length/\i=Θ Ψ k/\OV wr w v ((l.take k).map λn=>((1,n):HV))/\M w w wr) (λ_ i _=>l.length-(intOf i).toNat)
 case atStart=>exact⟨0,Nat.zero_le _,rfl,OV.nil _ _,Δ _ _⟩
 case round=>
  obtain⟨k,A,rfl,b,c⟩:=hrel;by_cases h:k<l.length
  ·obtain⟨B,E,rfl,j,g⟩:=g (by omega);obtain⟨q,e1⟩:=ot h;have c1:=(g.below c j) k q e1;have t:=c.size;have f:((l.take k).map λn=>((1,n):HV)).length<=1000000000:=by simp;omega
   have x:=V e1;clear g e1
   go_wp2_with (at_builtin;refine fO rfl _ _ rfl w _ _ rfl (b.alloc _) wr.heap.size _ (1,q) rfl (by simp[go_sem,ZQ]) f (by simp;omega) ?_;intro z y d o s)
   go_wp2
   go_roundw
   case rel=>exact⟨k+1,by omega,by go_num,by rw[bW x.out,ζ];exact d,c.trans<|((Δ _ _).alloc (by omega) _).trans o⟩
   case measure=>simp[intOf];omega
  ·go_wp2
   go_ret;refine⟨⟨_,rfl,?_⟩,c⟩;rw[θ (by omega)]at b;exact b
def Sm(n:Int):Prop:=-1000000<=n/\n<=1000000
def Iq(v o)(f:-1000000<=v.2)(d:v.2<=1000000)(h3:0<=o)(h4:o<=1000000):
 ι prog 277 #[eB v,Θ Ψ o] w λe w'=>e=.returned (eB<|ed o v)/\M w w w':=by
 obtain⟨k,n⟩:=v;dsimp only at f d;by_cases a:k=1
 ·by_cases b:n<o
  ·have hs:ed o (k,n)=(4,n):=by simp[ed,a,b]
   rw[hs];clear hs;subst a;unfold eB
   go_enter (fU func277 rfl),ntmps277
   go_wp2
   exact ZS (v:=eB (4,n)) (by simp[Zo,results277,go_sem,eB]) rfl ⟨rfl,((Δ _ _).alloc .refl _).alloc (by simp) _⟩
  ·have hs:ed o (k,n)=(3,n-o):=by simp[ed,a,b]
   rw[hs];clear hs;subst a;unfold eB
   go_enter (fU func277 rfl),ntmps277
   go_wp2
   exact ZS (v:=eB (3,n-o)) (by simp[Zo,results277,go_sem,eB]) rfl ⟨rfl,((Δ _ _).alloc .refl _).alloc (by simp) _⟩
 ·have hs:ed o (k,n)=(k,n):=by simp[ed,a]
  rw[hs];clear hs;have c:(k !=1)=Y:=by simp[a]
  unfold eB
  go_enter (fU func277 rfl),ntmps277
  go_wp2
  exact ZS (v:=eB (k,n)) (by simp[Zo,results277,go_sem,eB]) rfl ⟨rfl,((Δ _ _).alloc .refl _).alloc (by simp) _⟩
def zo(l o)(D:eI w v l)(L:l.length<=1000000)(C:∀x∈l,Sm x.2)(y:0<=o/\o<=1000000):
 ι prog 262 #[v,Θ Ψ o] w λe w'=>(∃r,e=.returned r/\OV w' w r (l.map<|ed o))/\M w w w':=by
 obtain⟨a,m,rfl,N,z,j⟩:=D
 go_enter (fU func262 rfl),ntmps262
 go_wp2
 go_loopw [5,10] (λv i wr=>∃k:Nat,k<=l.length/\i=Θ Ψ k/\OV wr w v ((l.take k).map<|ed o)/\M w w wr) (λ_ i _=>l.length-(intOf i).toNat)
 case atStart=>exact⟨0,Nat.zero_le _,rfl,OV.nil _ _,Δ _ _⟩
 case round=>
  obtain⟨k,J,rfl,b,c⟩:=hrel;by_cases n:k<l.length
  ·obtain⟨K,O,rfl,s,j⟩:=j (by omega);obtain⟨p,q,e1⟩:=ep n;obtain⟨c1,c2⟩:=(j.below c s) k p q e1;have B:=c.size;have g:((l.take k).map<|ed o).length<=1000000000:=by simp;omega
   have u:=C (p,q)<|ψ e1;have E:=V e1;clear j e1
   go_wp2_with fail
   refine(Iq _ (p,q) o u.1 u.2 y.1 y.2).mono ?_;rintro e F ⟨rfl,f⟩;have h:=f.size;simp only[World.size_alloc]at h;unfold eB
   go_wp2_with (at_builtin;refine fO rfl _ _ rfl w _ _ rfl (((b.alloc<|ω #[Θ Ψ p,Θ Ψ q] 50).below f).alloc _) F.heap.size _ (ed o (p,q)) rfl (by simp[go_sem,ZQ]) g (by simp;omega) ?_;intro H G d t A)
   go_wp2
   go_roundw
   case rel=>exact⟨k+1,by omega,by go_num,by rw[bW E.out,ζ];exact d,c.trans<|((((Δ _ _).alloc (by omega) _).trans<|f.mono (by simp;omega)).alloc (by omega) _).trans t⟩
   case measure=>simp[intOf];omega
  ·go_wp2
   go_ret;refine⟨⟨_,rfl,?_⟩,c⟩;rw[θ (by omega)]at b;exact b
end
section
variable(n c:Nat)(w:I)
def mG{P}(t e i z)(g:P.underlying t=U (.slice e))(hi:P.info? e=U i)(hz:i.zero=U z)(d b)(n c:Nat)(f:n<=c)(a:i.bytes*c<=281474976710656)(h:c<=9223372036854775807)(w):
 (YL t (.int d (n:Int))<|.int b (c:Int)).run P w=.ok (.slice w.heap.size n c) (w.alloc<|.cells (ZO z.cells<|c*i.size) e):=by
 have hb:i.bytes*(c:Int)<=281474976710656:=by grind
 have j:=run_make w t e i z g hi hz d b n c (by omega) (by omega) hb (by omega)
 grind
def BC(a:n<=c)(hc:c<=1000000000)(w):
 (YL 23 (Θ Ψ (n:Int))<|Θ Ψ (c:Int)).run prog w=.ok (.slice w.heap.size n c) (w.alloc<|.cells (ZO #[Θ Ψ 0,Θ Ψ 0]<|c*2) 50):=by
 obtain⟨e,hi,b,d,f⟩:=ZM nh;have:=mG 23 50 e _ lx hi b Ψ Ψ n c a (by grind) (by omega) w;rw[d]at this;exact this
def jz(z n):(ZO z n).size=n:=by simp[ZO]
def Rr(B c:Nat)(a:B<=w)(hc:c<=1000000000):OV (w.alloc<|.cells (ZO #[Θ Ψ 0,Θ Ψ 0]<|c*2) 50) B (.slice w.heap.size 0 c) []:=by refine⟨rfl,.inr ⟨w.heap.size,c,_,rfl,a,ξ w _,Nat.zero_le _,by unfold ZU;omega,jz _ _,by simp⟩⟩
def gz(v l o)(P:eI w v l)(X:l.length<=1000000)(O:∀x∈l,Sm x.2)(K:0<=o/\o<=1000000):
 ι prog 173 #[v,Θ Ψ o] w λe w'=>(∃r,e=.returned r/\OV w' w r (l.map<|cp o))/\M w w w':=by
 obtain⟨a,m,rfl,hm,H,y⟩:=P;obtain⟨L,Q⟩:=K;have t:=λW=>BC 0 l.length (Nat.zero_le _) (by omega) W;simp only[Int.natCast_zero,Int.ofNat_zero]at t
 go_enter (fU func173 rfl),ntmps173
 go_wp2
 clear t;have j:=Rr w w l.length .refl (by omega);have n:=af w<|.cells (ZO #[Θ Ψ 0,Θ Ψ 0]<|l.length*2) 50;generalize w.alloc _=w0 at j n⊢
 go_loopw [5,13] (λv i wr=>∃k:Nat,k<=l.length/\i=Θ Ψ k/\OV wr w v ((l.take k).map<|cp o)/\M w w wr) (λ_ i _=>l.length-(intOf i).toNat)
 case atStart=>exact⟨0,Nat.zero_le _,rfl,j,n⟩
 case round=>
  obtain⟨k,S,rfl,c,d⟩:=hrel;clear j n;by_cases A:k<l.length
  ·obtain⟨T,oa,rfl,B,y⟩:=y (by omega);obtain⟨p,q,e1⟩:=ep A;obtain⟨c1,c2⟩:=(y.below d B) k p q e1;have J:=d.size;have f:((l.take k).map<|cp o).length<=1000000000:=by simp;omega
   obtain⟨z,D⟩:=O (p,q)<|ψ e1;dsimp only at z D;have C:=V e1;clear y e1;by_cases h3:p=3
   ·subst h3;have h:cp o (3,q)=(1,q+o):=by simp[cp]
    have u:=V h;clear h
    go_wp2_with (at_builtin;refine fO rfl _ _ rfl w _ _ rfl ((c.alloc<|ω #[Θ Ψ 1,Θ Ψ<|q+o] 50).alloc _) (wr.heap.size+1:Nat) _ (1,q+o) rfl (by simp[go_sem,ZQ]) f (by simp;omega) ?_;intro F E b g s)
    go_wp2
    go_roundw
    case rel=>exact⟨k+1,by omega,by go_num,by rw[bW C.out,ζ,Yw,u.out];exact b,d.trans<|(((Δ _ _).alloc (by omega) _).alloc (by simp;omega) _).trans g⟩
    case measure=>simp[intOf];omega
   ·by_cases h4:p=4
    ·subst h4;have h:cp o (4,q)=(1,q):=by simp[cp]
     have u:=V h;clear h
     go_wp2_with (at_builtin;refine fO rfl _ _ rfl w _ _ rfl ((c.alloc<|ω #[Θ Ψ 1,Θ Ψ q] 50).alloc _) (wr.heap.size+1:Nat) _ (1,q) rfl (by simp[go_sem,ZQ]) f (by simp;omega) ?_;intro F E b g s)
     go_wp2
     go_roundw
     case rel=>exact⟨k+1,by omega,by go_num,by rw[bW C.out,ζ,Yw,u.out];exact b,d.trans<|(((Δ _ _).alloc (by omega) _).alloc (by simp;omega) _).trans g⟩
     case measure=>simp[intOf];omega
    ·have h:cp o (p,q)=(p,q):=by simp[cp,h3,h4]
     have u:=V h;have N:(p==3)=R:=by simp[h3]
     have G:(p==4)=R:=by simp[h4]
     clear h h3 h4
     go_wp2_with (at_builtin;refine fO rfl _ _ rfl w _ _ rfl ((c.alloc<|ω #[Θ Ψ p,Θ Ψ q] 50).alloc _) (wr.heap.size+1:Nat) _ (p,q) rfl (by simp[go_sem,ZQ]) f (by simp;omega) ?_;intro F E b g s)
     go_wp2
     go_roundw
     case rel=>exact⟨k+1,by omega,by go_num,by rw[bW C.out,ζ,Yw,u.out];exact b,d.trans<|(((Δ _ _).alloc (by omega) _).alloc (by simp;omega) _).trans g⟩
     case measure=>simp[intOf];omega
  ·go_wp2
   go_ret;refine⟨⟨_,rfl,?_⟩,d⟩;rw[θ (by omega)]at c;exact c
end
section
def oe{P}(w base t ty e i size)(d:P.underlying t=U (.slice e))(hi:P.info? e=U i)(v n xs)(a:w.ownsRow base e size v n xs)(c):(Z0 #[t,t] ty #[v,Z8 Z 0 c]).run P w=.ok v w:=by
 obtain⟨rfl,rfl⟩|⟨g,h,f,rfl,_,_,b,_⟩:=a.2
 simp[Z0,ε d,sizeOf,Ya,hi,Zn,Zs];simp[Z0,ε d,sizeOf,Ya,hi,Zn,Zs,b,Yf]
def zq{P}(w:I)(base t ty e i z size bytes)(r:P.underlying t=U (.slice e))(hi:P.info? e=U i)(hz:i.zero=U z)(f:i.size=size)(p:i.bytes=bytes)(q:z.cells.size=size)(o:0<size)(v n xs)(a:w.ownsRow base e size v n xs)(A m c news)(s:news.length=m*size)(D:0<m->∃ad,A=U ad/\∀j u,news[j]?=U u->w (ad.add j)=U u)(y:∀u∈news,u.oneCell'=Y)(l:n+m<=ZU)(d:(n+m)*bytes<=140737488355328)(g:base<=w):
 ∃k w',(Z0 #[t,t] ty #[v,.slice A m c]).run P w=.ok k w'/\w'.ownsRow base e size k (n+m) (xs++news)/\w.grownBy w' v.ownBlock:=by
 obtain _|ad:=A
 have C:m=0:=by grind
 subst C;have B:=φ (by simpa using s);subst B;exact⟨v,w,oe w base t ty e i size r hi v n xs a c,by simpa using a,Zw w _⟩
 ·have b:∀j u,news[j]?=U u->w (ad.add j)=U u:=by grind
  obtain⟨k,w',h,x,h3,_⟩:=Yu (P:=P) w base t ty e i z size bytes r hi hz f p q o v n xs a ad m c news s b y l d g;exact⟨k,w',h,x,h3⟩
def sg{P}{w:I}{o:ZF}{a K Q}(s x t)(B:o.op=.call {callee:=.builtin .append,args:=#[s,x],argTypes:=#[t,t]})(base e i z size bytes)(G:P.underlying t=U (.slice e))(hi:P.info? e=U i)(hz:i.zero=U z)(f:i.size=size)(q:i.bytes=bytes)(p:z.cells.size=size)(y:0<size)(v n xs)(hs:a.eval s=v)(g:w.ownsRow base e size v n xs)(A m c news)(H:a.eval x=.slice A m c)(D:news.length=m*size)(E:0<m->∃ad,A=U ad/\∀j u,news[j]?=U u->w (ad.add j)=U u)(F:∀u∈news,u.oneCell'=Y)(r:n+m<=ZU)(b:(n+m)*bytes<=140737488355328)(d:base<=w)(h:∀l w',w'.ownsRow base e size l (n+m) (xs++news) ->w.grownBy w' v.ownBlock->K (a.put o.dst l) w'):o.wp P a w K Q:=by obtain⟨l,w',k,C,h3⟩:=zq w base t o.type e i z size bytes G hi hz f q p y v n xs g A m c news D E F r b d;unfold Zb YF;simp only[B,resolve,invoke,builtin,ZX,ZE,κ,YP,Zr,Yo,hs,H,k];exact h l w' C h3
def zt{w b o l}(h:Il w b o l):∀j u,(l.flatMap lU)[j]?=U u->w (((b,o):Yl).add j)=U u:=by
 intro j u c;have f:=(Ξ.1 c).1;have d:(l.flatMap lU).length=l.length*2:=by
  clear c f h
  induction l with
  |nil=>rfl
  |cons a l g=>rw[η,μ,g];simp[lU];omega
 obtain⟨x,e⟩:∃x,l[j/2]?=U x:=⟨_,χ<|by omega⟩;obtain⟨e1,e2⟩:=jx lU (λv=>Θ Ψ v.1) (λv=>Θ Ψ v.2) (λ_=>rfl) l (j/2) x e;obtain⟨m,k⟩:=h (j/2) x.1 x.2 e;have i:((b,o):Yl).add j=⟨b,o+j,Z⟩:=by unfold ZQ;split<;>simp_all
 grind
def aeU{w b o l}(h:Im w b o l):∀j u,(l.flatMap eP)[j]?=U u->w (((b,o):Yl).add j)=U u:=by
 intro j u c;have f:=(Ξ.1 c).1;have d:(l.flatMap eP).length=l.length:=by
  clear c f h
  induction l with
  |nil=>rfl
  |cons a l i=>rw[η,μ,i];simp[eP];omega
 obtain⟨x,e⟩:∃x,l[j]?=U x:=⟨_,χ<|by omega⟩;have g:((b,o):Yl).add j=⟨b,o+j,Z⟩:=by unfold ZQ;split<;>simp_all
 rw[g,h j x e];rw[(zn eP (λn=>Θ Ψ n) (λ_=>rfl) l j x e)]at c;exact c
def fx(l:List HV):(l.flatMap lU).length=l.length*2:=by
 induction l with
 |nil=>rfl
 |cons a l b=>rw[η,μ,b];simp[lU];omega
def EO(l:List Int):(l.flatMap eP).length=l.length*1:=by
 induction l with
 |nil=>rfl
 |cons a l b=>rw[η,μ,b];simp[eP];omega
section
variable{ops:Array ZF}{rest:List ZF}{o:ZF}{a:YU}{w:I}{Q:X0->YU->I->Prop}{K:YU->I->Prop}
def EP(s x)(q:o.op=.call {callee:=.builtin .append,args:=#[s,x],argTypes:=#[23,23]})(B v l)(hs:a.eval s=v)(d:OV w B v l)(v2 l2)(u:a.eval x=v2)(t:eI w v2 l2)(y:l.length<=1000000000)(p:l2.length<=1000000000)(m:B<=w)(h:∀e w',OV w' B e (l++l2) ->M B w w'->w.grownBy w' v.ownBlock->K (a.put o.dst e) w'):o.wp prog a w K Q:=by
 obtain⟨n,hi,g,i,f⟩:=ZM nh;obtain⟨A,c,rfl,_,_,r⟩:=t;refine sg s x 23 q B 50 n _ 2 16 lx hi g i f rfl (by decide) v l.length _ hs d A l2.length c (l2.flatMap lU) u (fx _) (λh0=>?_) (V1 _) (by unfold ZU;omega) (by omega) m λe w' z k=>?_;obtain⟨b,o,rfl,_,j⟩:=r h0;exact⟨_,rfl,zt j⟩;refine h e w' ?_ (cM d k m) k;unfold OV
 grind
def tI(d:o.guard=Z)(s x)(f:o.op=.call {callee:=.builtin .append,args:=#[s,x],argTypes:=#[23,23]})(B v l)(hs:a.eval s=v)(b:OV w B v l)(v2 l2)(n:a.eval x=v2)(k:eI w v2 l2)(g:l.length<=1000000000)(e:l2.length<=1000000000)(m:B<=w)(h:∀c w',OV w' B c (l++l2) ->M B w w'->w.grownBy w' v.ownBlock->ZN prog ops Q rest (a.put o.dst c) w'):ZN prog ops Q (o::rest) a w:=X9 d λ_ j=>EP s x f B v l hs b v2 l2 n k g e m λc w' i h3 h4=>j _ _<|h c w' i h3 h4
def EQ(s x)(q:o.op=.call {callee:=.builtin .append,args:=#[s,x],argTypes:=#[24,24]})(B v l)(hs:a.eval s=v)(d:OI w B v l)(v2 l2)(u:a.eval x=v2)(t:By w v2 l2)(y:l.length<=1000000000)(p:l2.length<=1000000000)(m:B<=w)(h:∀e w',OI w' B e (l++l2) ->M B w w'->w.grownBy w' v.ownBlock->K (a.put o.dst e) w'):o.wp prog a w K Q:=by
 obtain⟨n,hi,g,i,f⟩:=ZM Dq;obtain⟨A,c,rfl,_,_,r⟩:=t;refine sg s x 24 q B 3 n _ 1 8 se hi g i f rfl (by decide) v l.length _ hs d A l2.length c (l2.flatMap eP) u (EO _) (λh0=>?_) (amT _) (by unfold ZU;omega) (by omega) m λe w' z k=>?_;obtain⟨b,o,rfl,_,j⟩:=r h0;exact⟨_,rfl,aeU j⟩;refine h e w' ?_ (cM d k m) k;unfold OI
 grind
def tJ(d:o.guard=Z)(s x)(f:o.op=.call {callee:=.builtin .append,args:=#[s,x],argTypes:=#[24,24]})(B v l)(hs:a.eval s=v)(b:OI w B v l)(v2 l2)(n:a.eval x=v2)(k:By w v2 l2)(g:l.length<=1000000000)(e:l2.length<=1000000000)(m:B<=w)(h:∀c w',OI w' B c (l++l2) ->M B w w'->w.grownBy w' v.ownBlock->ZN prog ops Q rest (a.put o.dst c) w'):ZN prog ops Q (o::rest) a w:=X9 d λ_ j=>EQ s x f B v l hs b v2 l2 n k g e m λc w' i h3 h4=>j _ _<|h c w' i h3 h4
end
def zu(w:I)(B:Nat)(a:B<=w):OV (w.alloc<|ω #[] 50) B (.slice w.heap.size 0 0) []:=⟨rfl,.inr ⟨w.heap.size,0,_,rfl,a,ξ w _,.refl,by unfold ZU;omega,rfl,by simp⟩⟩
def zx(w:I)(B:Nat)(a:B<=w):OI (w.alloc<|ω #[] 3) B (.slice w.heap.size 0 0) []:=⟨rfl,.inr ⟨w.heap.size,0,_,rfl,a,ξ w _,.refl,by unfold ZU;omega,rfl,by simp⟩⟩
def Ir(n m a w):(binOp .eql 23 (.slice a n m)<|Z8 Z 0 0).run prog w=.ok (.bool a.isNone) w:=YI w 23 50 a n m 0 0 lx
def Q2(n m a w):(binOp .eql 24 (.slice a n m)<|Z8 Z 0 0).run prog w=.ok (.bool a.isNone) w:=YI w 24 3 a n m 0 0 se
def JU(w v l)(g:eI w v l)(s:l.length<=1000000):
 ι prog 148 #[v] w λe w'=>(∃r,e=.returned r/\OV w' w r l)/\M w w w':=by
 have H:=V g;obtain⟨a,m,rfl,n,k,d⟩:=g;obtain _|a:=a
 ·have h0:l=[]:=by
   obtain h0|h0:=Nat.eq_zero_or_pos l.length
   exact φ h0;obtain⟨b,o,h,_⟩:=d h0;cases h
  subst h0;clear d;have i:=Ir 0 m Z
  go_enter (fU func148 rfl),ntmps148
  go_wp2
  go_ret;exact⟨⟨_,rfl,OV.nil _ _⟩,Δ _ _⟩
 ·clear d;have i:=Ir l.length m<|U a
  go_enter (fU func148 rfl),ntmps148
  go_wp2_with (at_builtin;refine tI rfl _ _ rfl w _ [] rfl (zu w _ .refl) _ l rfl (H.out.below<|af _ _) (by simp) (by omega) (by simp) ?_;intro q p c f j)
  go_wp2
  go_ret;exact⟨⟨_,rfl,by simpa using c⟩,(af _ _).trans f⟩
def wj(w v l)(g:By w v l)(s:l.length<=1000000):
 ι prog 149 #[v] w λe w'=>(∃r,e=.returned r/\OI w' w r l)/\M w w w':=by
 have H:=V g;obtain⟨a,m,rfl,n,k,d⟩:=g;obtain _|a:=a
 ·have h0:l=[]:=by
   obtain h0|h0:=Nat.eq_zero_or_pos l.length
   exact φ h0;obtain⟨b,o,h,_⟩:=d h0;cases h
  subst h0;clear d;have i:=Q2 0 m Z
  go_enter (fU func149 rfl),ntmps149
  go_wp2
  go_ret;exact⟨⟨_,rfl,OI.nil _ _⟩,Δ _ _⟩
 ·clear d;have i:=Q2 l.length m<|U a
  go_enter (fU func149 rfl),ntmps149
  go_wp2_with (at_builtin;refine tJ rfl _ _ rfl w _ [] rfl (zx w _ .refl) _ l rfl (H.out.below<|af _ _) (by simp) (by omega) (by simp) ?_;intro q p c f j)
  go_wp2
  go_ret;exact⟨⟨_,rfl,by simpa using c⟩,(af _ _).trans f⟩
end
section
variable(w:I)(v:υ){α:Type}
def Q3(p q a b w):(binOp .eql 50 (.agg #[Θ Ψ p,Θ Ψ q])<|.agg #[Θ Ψ a,Θ Ψ b]).run prog w=.ok (.bool<|p==a&&q==b) w:=by rw[run_eql_struct,VY];rfl
def tK{α:Type}[DecidableEq α](l:List α)(v:α):Int:=if v∈l then(l.idxOf v:Nat)else-1
def si[DecidableEq α]{l}{v:α}{k:Nat}(h:l[k]?=U v)(b:v∉l.take k):tK l v=k:=by unfold tK;have a:=(Ξ.1 h).1;rw[((XU k l).symm),List.idxOf_append,if_neg b,Zt a,(Ξ.1 h).2];simp;omega
def oh{l:List α}{v x k}(b:v∉l.take k)(h:l[k]?=U x)(a:v≠x):v∉l.take (k+1):=by rw[Yp,h];simp[b,a]
def NW(l x)(r:eI w v l):
 ι prog 217 #[v,eB x] w λe w'=>e=.returned (Θ Ψ<|tK l x)/\M w.heap.size w w':=by
 obtain⟨p0,b⟩:=x;obtain⟨a,m,rfl,z,u,f⟩:=r;unfold eB;dsimp only
 go_enter (fU func217 rfl),ntmps217
 go_wp2
 go_loopw [8] (λi wr=>∃k:Nat,k<=l.length/\i=Θ Ψ k/\Hid ((p0,b)∉l.take k)/\∃n,wr=(w.alloc<|ω #[Θ Ψ p0,Θ Ψ b] 50).drewN n) (λi _=>l.length-(intOf i).toNat)
 case atStart=>exact⟨0,Nat.zero_le _,rfl,V<|by simp,0,rfl⟩
 case round=>
  obtain⟨k,A,rfl,j,n,rfl⟩:=hrel;by_cases h:k<l.length
  ·obtain⟨C,B,rfl,g,f⟩:=f (by omega);obtain⟨p,q,e1⟩:=ep h;obtain⟨c1,c2⟩:=(f.below (af w<|ω #[Θ Ψ p0,Θ Ψ b] 50) g) k p q e1;have o:=V e1;clear f e1;by_cases d:(p0,b)=(p,q)
   ·cases d
    have c:∀w:I,(binOp .eql 50 (.agg #[Θ Ψ p0,Θ Ψ b])<|.agg #[Θ Ψ p0,Θ Ψ b]).run prog w=.ok (.bool Y) w:=λw=>by rw[Q3];simp
    go_wp2
    go_quiet (fail)
    clear c c1 c2
    go_wp2
    go_ret;exact⟨by rw[si o.out j.out];rfl,by first|exact bl (af w _) _|exact bl (bl (af w _) _) _⟩
   ·have c:∀w:I,(binOp .eql 50 (.agg #[Θ Ψ p0,Θ Ψ b])<|.agg #[Θ Ψ p,Θ Ψ q]).run prog w=.ok (.bool R) w:=λw=>by
     rw[Q3];have:(p0==p&&b==q)=R:=by simp only[Prod.mk.injEq]at d;simp;intro t s;exact d ⟨t,s⟩
     rw[this]
    have y:=V d;clear d
    go_wp2
    go_quiet (fail)
    clear c c1 c2
    go_wp2
    exact⟨⟨k+1,by omega,by go_num,V<|oh j.out o.out y.out,_,rfl⟩,by simp[intOf];omega⟩
  ·go_wp2
   go_ret;have:=j.out;rw[θ (by omega)]at this;exact⟨by unfold tK;rw[if_neg this];rfl,bl (af w _) _⟩
def NX(l x)(n:By w v l):
 ι prog 218 #[v,Θ Ψ x] w λe w'=>e=.returned (Θ Ψ<|tK l x)/\w'=w:=by
 obtain⟨a,m,rfl,r,o,b⟩:=n
 go_enter (fU func218 rfl),ntmps218
 go_wp2
 go_loopw [8] (λi wr=>∃k:Nat,k<=l.length/\i=Θ Ψ k/\Hid (x∉l.take k)/\wr=w) (λi _=>l.length-(intOf i).toNat)
 case atStart=>exact⟨0,Nat.zero_le _,rfl,V<|by simp,rfl⟩
 case round=>
  obtain⟨k,s,rfl,g,rfl⟩:=hrel;by_cases d:k<l.length
  ·obtain⟨u,t,rfl,j,b⟩:=b (by omega);obtain⟨p,e1⟩:=ot d;have c1:=b k p e1;have h:=V e1;clear b e1;by_cases c:x=p
   ·subst c;have f:(x==x)=Y:=by simp
    go_wp2
    go_ret;exact⟨by rw[si h.out g.out];rfl,rfl⟩
   ·have f:(x==p)=R:=by simp[c]
    have q:=V c;clear c
    go_wp2
    exact⟨⟨k+1,by omega,by go_num,V<|oh g.out h.out q.out,by trivial⟩,by simp[intOf];omega⟩
  ·go_wp2
   go_ret;have:=g.out;rw[θ (by omega)]at this;exact⟨by unfold tK;rw[if_neg this];rfl,rfl⟩
def Dr[DecidableEq α](l)(v:α):(0<=tK l v)=(v∈l):=by unfold tK;split<;>simp[*]
def BD(l x)(d:eI w v l):
 ι prog 170 #[v,eB x] w λe w'=>e=.returned (.bool<|l.contains x)/\M w.heap.size w w':=by
 have H:=V d;obtain⟨a,m,rfl,_,_,_⟩:=d;obtain⟨p0,c⟩:=x;have b:decide (0<=tK l (p0,c))=l.contains (p0,c):=by simp[Dr]
 have f:=V b;clear b;unfold eB;dsimp only
 go_enter (fU func170 rfl),ntmps170
 go_wp2_with fail
 refine(NW _ _ l (p0,c)<|H.out.below<|af _ _).mono ?_;rintro e w' ⟨rfl,hb⟩
 go_wp2
 go_ret;exact⟨by rw[f.out];rfl,(af _ _).trans<|hb.mono<|by simp⟩
def sj(l x)(c:By w v l):
 ι prog 171 #[v,Θ Ψ x] w λe w'=>e=.returned (.bool<|l.contains x)/\w'=w:=by
 have H:=V c;obtain⟨a,m,rfl,_,_,_⟩:=c;have b:decide (0<=tK l x)=l.contains x:=by simp[Dr]
 have d:=V b;clear b
 go_enter (fU func171 rfl),ntmps171
 go_wp2_with fail
 refine(NX _ _ l x H.out).mono ?_;rintro e w' ⟨rfl,rfl⟩
 go_wp2
 go_ret;exact⟨by rw[d.out];rfl,rfl⟩
end
section
variable{vs:List HV}
def yg(cs:List HC)(k:Nat):List Int:=((ZT k).filter λi=>jW<|cs.getD i (0,[])).map λ(i:Nat)=>(i:Int)
def V2(cs k):(yg cs k).length<=k:=by
 unfold yg
 grind
def NY{cs k c}(h:cs[k]?=U c):yg cs (k+1)=if jW c then yg cs k++[(k:Int)]else yg cs k:=by
 unfold yg;rw[List.range_succ]
 grind
def Is(g):ju g=yg g.old g.old.length:=rfl
def ER{p}{j:Nat}{n}(h:vs[j]?=U (3,n)):jW (p,vs)=Y:=by exact List.any_eq_true.2 ⟨_,ψ h,rfl⟩
def It{p}(h:∀x∈vs,dy x=R):jW (p,vs)=R:=by
 unfold jW
 grind
def BE{j x}(h:∀y∈vs.take j,dy y=R)(e:vs[j]?=U x)(a:dy x=R):∀y∈vs.take (j+1),dy y=R:=by
 rw[bW e]
 grind
def Dt(w b g)(h:mi w b g)(hl:g.old.length<=1000000):
 ι prog 107 #[.pointer b] w λe w'=>(∃r,e=.returned r/\OI w' w r (ju g))/\M w w w':=by
 obtain⟨n,o,r,wi,d,m,c0,c1,_,_,_,_,_,⟨a,m2,rfl,hm,hm2,Q⟩,_⟩:=h;have hb:=az c1;rw[Is];generalize hcs:g.old=cs at *;clear hcs
 go_enter (fU func107 rfl),ntmps107
 go_wp2
 go_step3
 go_wp2
 go_step3
 go_wp2
 go_loopw [3,14] (λv i wr=>∃k:Nat,k<=cs.length/\i=Θ Ψ k/\OI wr w v (yg cs k)/\M w w wr) (λ_ i _=>cs.length-(intOf i).toNat)
 case atStart=>exact⟨0,Nat.zero_le _,rfl,OI.nil _ _,Δ _ _⟩
 case round=>
  obtain⟨k,hk,rfl,c,q⟩:=hrel;by_cases T:k<cs.length
  ·obtain⟨ba,oa,rfl,W,Q⟩:=Q (by omega);obtain⟨p,s,e1⟩:=cQ T;obtain⟨d1,x,d2,hx⟩:=(Q.below q W) k p s e1;obtain⟨ax,mx,rfl,hmx,N4,P⟩:=hx;have hsz:=q.size;have G:(yg cs k).length<=1000000000:=by have:=V2 cs k;omega
   have E1:=V<|NY e1;have HX:=V P;have HO:=V c;clear Q e1 P c
   go_wp2
   have f:=af wr<|ω #[Θ Ψ p,.slice ax s.length mx] 76;generalize O:wr.alloc (ω #[Θ Ψ p,.slice ax s.length mx] 76)=w0 at f⊢;have A:=q.trans<|f.mono hsz;have N:=V<|HO.out.below f;have HW0:=V O;clear HO O
   go_loopw [3,22] (λv i F=>∃j:Nat,j<=s.length/\i=Θ Ψ j/\Hid (∀y∈s.take j,dy y=R)/\M w0 w0 F/\OI F w v (yg cs k)) (λ_ i _=>s.length-(intOf i).toNat)
   case atStart=>exact⟨0,Nat.zero_le _,rfl,V<|by simp,Δ _ _,N.out⟩
   case round=>
    obtain⟨j,hj,rfl,D,l,C⟩:=hrel;clear N;have amU:=l.size;have u:=A.size;by_cases K:j<s.length
    ·obtain⟨bb,ob,rfl,H,E⟩:=HX.out (by omega);have t:=(E.below f H).below l<|Nat.lt_of_lt_of_le H f.size;obtain⟨S,nq,e2⟩:=ep K;obtain⟨f1,f2⟩:=t j S nq e2;have E2:=V e2;clear E t e2 HX;by_cases h3:S=3
     ·subst h3;have J:=ER (p:=p) E2.out;have z:=E1.out;rw[if_pos J]at z;have X:=V z;clear z J
      go_wp2_with (at_builtin;refine od rfl _ _ rfl w _ _ rfl ((C.alloc _).alloc _) (wr.heap.size+1:Nat) _ k rfl (by simp[go_sem,ZQ]) G (by simp;omega) ?_;intro v' w1 B hb1 hg1)
      go_wp2
      exact⟨⟨k+1,by omega,by go_num,by rw[X.out];exact B,A.trans<|(l.mono u).trans<|(((Δ _ _).alloc (by omega) _).alloc (by simp;omega) _).trans hb1⟩,by simp[intOf];omega⟩
     ·have h3':(S==3)=R:=by simp[h3]
      have L:dy (S,nq)=R:=by simp[dy,h3]
      have HN:=V L;clear h3 L
      go_wp2
      exact⟨⟨j+1,by omega,by go_num,V<|BE D.out E2.out HN.out,l.trans<|(Δ _ _).alloc (by omega) _,C.alloc _⟩,by simp[intOf];omega⟩
    ·have J:jW (p,s)=R:=It (by have:=D.out;rwa[θ (by omega)]at this);have z:=E1.out;rw[if_neg (by rw[J];decide)]at z;have X:=V z;clear z J
     go_wp2
     exact⟨⟨k+1,by omega,by go_num,by rw[X.out];exact C,A.trans<|l.mono u⟩,by simp[intOf];omega⟩
  ·go_wp2
   rw[Exit.noGoto_ret];go_ret;refine⟨⟨_,rfl,?_⟩,q⟩;rw[show cs.length=k by omega];exact c
end
end Kn
namespace Kn
open Go Go.RowKit Md Vc
section
variable{w:I}{Q:X0->YU->I->Prop}{a:YU}
def ES(m t):YM m aE t=[0,1]\/YM m aE t=[1,0]:=by
 have h:YM m aE t=XJ .any aE t:=by unfold YM;rw[if_pos (by rw[show Region.departs aE=R by decide+kernel];simp)]
 rw[h];unfold XJ;rw[show aE.size=1+1 from rfl];unfold ZG;rw[show(1+1)=aE.size from rfl];simp only[(by decide+kernel:((ZT aE.size).filter λi=>!(ZP aE.size R).getD i Y&&((aE[i]?).map (·.after.all λe=>!ZY .any e||(ZP aE.size R).getD e.on R)).getD R)=[0,1])];obtain h0|h0:=Nat.mod_two_eq_zero_or_one t
 left;simp only[Z2,ZJ,Nat.zero_add,Nat.reduceAdd,h0,YO];unfold ZG;simp only[(by decide+kernel:((ZT aE.size).filter λi=>!((ZP aE.size R).setIfInBounds 0 Y).getD i Y&&((aE[i]?).map (·.after.all λe=>!ZY .any e||((ZP aE.size R).setIfInBounds 0 Y).getD e.on R)).getD R)=[1])];simp[Nat.mod_one,ZG];right;simp only[Z2,ZJ,Nat.zero_add,Nat.reduceAdd,h0,List.getElem?_cons_succ,YO];unfold ZG;simp only[(by decide+kernel:((ZT aE.size).filter λi=>!((ZP aE.size R).setIfInBounds 1 Y).getD i Y&&((aE[i]?).map (·.after.all λe=>!ZY .any e||((ZP aE.size R).setIfInBounds 1 Y).getD e.on R)).getD R)=[0])];simp[Nat.mod_one,ZG]
def kJ(x y:υ)(a:YU):YU:={a with tmps:=(a.tmps.setIfInBounds 41 x).setIfInBounds 42 y}
def yD(x y d c a):kJ d c (kJ x y a)=kJ d c a:=by
 unfold kJ
 congr 1
 refine XO λi=>?_;simp only[Zh,XX];by_cases b:42=i
 simp[b];by_cases e:41=i<;>simp[b,e]
def V3{id}(h:∀y,Q .normal {a with tmps:=a.tmps.setIfInBounds 42<|.bool y} w.drew):(YY id aE Y).wp prog Q a w:=by
 refine wp_region_draw λd=>?_;have b:∀(a:YU) (w:I) (y:Bool) (i:Nat) (o:ZF) (rest:List Nat),aE[i]?=U o->o={dst:=U 42,op:=.assign<|.const<|.bool y,type:=0,pos:= "",after:=#[],guard:=Z} ->wpOps prog aE Q rest {a with tmps:=a.tmps.setIfInBounds 42<|.bool y} w->wpOps prog aE Q (i::rest) a w:=by intro a w y i o rest c e h;subst e;unfold wpOps;rw[c];left;simpa[Zb,YF,Oper.upon,Y4,Zu]using h
 obtain e|e:=ES (prog.follows .mixedOrders) d<;>rw[e]
 refine b _ _ Y 0 _ _ rfl rfl<|b _ _ R 1 _ _ rfl rfl ?_;have:=h R;simpa[wpOps]using this;refine b _ _ R 1 _ _ rfl rfl<|b _ _ Y 0 _ _ rfl rfl ?_;have:=h Y;simpa[wpOps]using this
def iV{k t:Nat}(b:a.tmps.size=43)(h:∀x y w',M w.heap.size w w'->Q .normal (kJ x y a) w'):(tE k t).wp prog Q a w:=by
 unfold tE;refine YS<|V3 λy=>?_;show(Code.cond (tm 42) _ _).wp _ _ _ _;have c:({a with tmps:=a.tmps.setIfInBounds 42<|.bool y}:YU).eval (tm 42)=.bool y:=by simp[Y4,tm,b]
 obtain _|_:=y
 refine wp_cond_false c<|wp_skip ?_;have:=h (a.tmps.getD 41 undef) (.bool R) w.drew (Δ _ _).drew;have e:kJ (a.tmps.getD 41 undef) (.bool R) a={a with tmps:=a.tmps.setIfInBounds 42<|.bool R}:=by
  unfold kJ
  congr 1
  refine XO λi=>?_;simp only[Zh,XX];by_cases f:42=i
  simp[f];by_cases d:41=i
  ·subst d;simp[Array.getD,b]
  simp[f,d]
 rw[e]at this;exact this;refine wp_cond_true c ?_;unfold rg;refine wp_region ?_;have:=h (YT<|U ⟨w.heap.size,0,Z⟩) (.bool Y) (w.drew.alloc<|ω #[] t)<|(Δ _ _).drew.alloc .refl _;show wpOps _ _ _ [0] _ _;unfold wpOps;simp only[List.getElem?_toArray,YO,Y2,if_true];left;simpa[Zb,YF,Oper.upon,Y4,Zu,wpOps,kJ,go_sem,XY]using this
def NZ(b:a.tmps.size=43)(h:∀x y w',M w.heap.size w w'->Q .normal (kJ x y a) w'):aee.wp prog Q a w:=by
 have hs:∀x y (a:YU),a.tmps.size=43->(kJ x y a).tmps.size=43:=by intro x y a h;simp[kJ,h]
 unfold aee;simp only[sq];refine YS<|iV b λE q m c=>?_;refine YS<|iV (hs _ _ _ b) λA G F j=>?_;refine YS<|iV (hs _ _ _<|hs _ _ _ b) λo s n b3=>?_;simp only[yD];refine YS<|iV (hs _ _ _ b) λx4 z w4 b4=>?_;simp only[yD];refine YS<|iV (hs _ _ _ b) λB u w5 b5=>?_;simp only[yD];refine YS<|iV (hs _ _ _ b) λD v p b6=>?_;simp only[yD];refine YS<|iV (hs _ _ _ b) λr l w7 i=>?_;simp only[yD];refine iV (hs _ _ _ b) λC t w8 k=>?_;simp only[yD];have c2:=c.trans<|j.mono c.size;have c3:=c2.trans<|b3.mono c2.size;have g:=c3.trans<|b4.mono c3.size;have e:=g.trans<|b5.mono g.size;have f:=e.trans<|b6.mono e.size;have d:=f.trans<|i.mono f.size;exact h _ _ _<|d.trans<|k.mono d.size
def Iu{P dst op v}(b:(YF a.eval {dst,op,type:=0,pos:= "",after:=#[],guard:=Z}).run P w=.ok (.value v) w)(h:Q .normal (a.put dst v) w):(rg dst op).wp P Q a w:=by refine wp_region ?_;unfold wpOps;simp;left;unfold Zb;rw[b];simpa[Oper.upon,wpOps]using h
def sk(j:a.tmps.size=43)(h0:a.tmps.getD 17 undef=Θ Ψ 0)(h:∀a' w',a'.tmps.size=43->a'.defers=a.defers->M w.heap.size w w'->Q (.exit 2) a' w'):
 (Code.loop<|.seq (rg (U 15)<|cmp .lss (tm 17)<|ci 2199023255552)<|.seq (.cond (tm 15) .skip<|.exit 2)<|.seq aee<|.seq (rg (U 16)<|.binOp .add 3 (tm 17) (ci 1) 3)<|rg (U 17)<|.move<|tm 16).wp prog Q a w:=by
 refine wp_loop (λa' w'=>a'.tmps.size=43/\a'.defers=a.defers/\M w.heap.size w w'/\∃k:Nat,k<=2199023255552/\a'.tmps.getD 17 undef=Θ Ψ k) (λa' _=>2199023255552-(intOf<|a'.tmps.getD 17 undef).toNat) ?_ ?_;exact⟨j,rfl,Δ _ _,0,by omega,h0⟩
 ·rintro a' w' ⟨c,l,h3,k,n,h4⟩;have g:a'.eval (tm 17)=Θ Ψ k:=by simpa[Y4,tm]using h4
  refine YS<|Iu (v:=.bool<|decide<|(k:Int)<2199023255552) (by simp[YF,cmp,g,ci];simp[Y4,go_sem]) ?_;show(Code.seq _ _).wp _ _ _ _;have b:(a'.put (U 15)<|.bool<|decide<|(k:Int)<2199023255552).eval (tm 15)=.bool (decide<|(k:Int)<2199023255552):=by simp[Y4,tm,Zu,c]
  by_cases m:k<2199023255552
  ·have hd:decide ((k:Int)<2199023255552)=Y:=by simp;omega
   rw[hd]at b⊢;refine YS<|wp_cond_true b<|wp_skip ?_;show(Code.seq _ _).wp _ _ _ _;refine YS<|NZ (by simp[Zu,c]) λx y o i=>?_;show(Code.seq _ _).wp _ _ _ _;have f:(kJ x y<|a'.put (U 15)<|.bool Y).tmps.getD 17 undef=Θ Ψ k:=by have e:=h4;simp[c]at e;simp[kJ,Zu,c];exact e
   have d:(kJ x y<|a'.put (U 15)<|.bool Y).eval (tm 17)=Θ Ψ k:=by simpa[Y4,tm]using f
   refine YS (Iu (v:=Θ Ψ ((k:Int)+1)) (by simp[YF,d,ci];simp[Y4,go_sem];rw[IntKind.wrap_i64];omega) ?_)
   show(rg _ _).wp _ _ _ _;refine Iu (v:=Θ Ψ<|(k:Int)+1) (by simp[YF,tm,Y4,Zu,kJ,c]) ?_;refine⟨⟨by simp[Zu,kJ,c],l,h3.trans<|i.mono h3.size,k+1,by omega,by simp[Zu,kJ,c]⟩,?_⟩;show 2199023255552-_<2199023255552-_;rw[h4];simp[Zu,kJ,c,intOf];omega
  have hd:decide ((k:Int)<2199023255552)=R:=by simp;omega
  rw[hd]at b⊢;refine YS<|wp_cond_false b ?_;exact wp_exit<|h _ _ (by simp[Zu,c]) l h3
end
section
variable(p:Int)(w:I)
def func166:prog.funcs[166]?=U Vm:=by kernel_rfl
def ntmps166:Vm.ntmps=43:=rfl
def results166:Vm.results=#[]:=by kernel_rfl
def aeV(n m a w):(binOp .eql 22 (.slice a n m)<|Z8 Z 0 0).run prog w=.ok (.bool a.isNone) w:=YI w 22 76 a n m 0 0 mF
theorem KF:∀{l:List Int},cU l=0->∀x∈l,x=0
 |[],_,x,a=>by cases a
 |e::l,h,x,a=>by
  unfold cU at h;split at h
  rename_i h0;obtain rfl|a:=List.mem_cons.1 a
  omega;exact KF h x a;omega
def N0{g k n}(h:mh g (k,n)=0):(k=0/\-99<=n/\n<=99)\/(k=2/\n=0)\/(k=3/\0<=n/\n<g.new.length)\/(k=4/\0<=n/\n<g.old.length):=by
 unfold mh at h;dsimp only at h;by_cases h0:k=0
 simp[h0]at h;omega;by_cases a:k=2
 ·simp[a]at h;omega
 by_cases h3:k=3
 ·subst h3;simp[eO]at h;omega
 by_cases h4:k=4
 ·subst h4;simp[eO]at h;omega
 simp[h0,a,h3,h4]at h
def zy{g p vs}(h:zj g (p,vs)=0):((p=0/\vs.length<=4)\/(p=1/\vs.length=1)\/(p=2/\vs.length=2))/\∀v∈vs,mh g v=0:=by
 unfold zj at h;dsimp only at h;by_cases b:p<0\/2<p
 omega;rw[if_neg b]at h;by_cases a:vs.length<(if p=0 then 0 else if p=1 then 1 else 2)
 rw[if_pos a]at h;exact absurd h (by decide);rw[if_neg a]at h;by_cases h3:(if p=0 then 4 else if p=1 then 1 else 2)<vs.length
 rw[if_pos h3]at h;exact absurd h (by decide);rw[if_neg h3]at h;refine⟨?_,λv c=>KF h _<|YB c⟩
 grind
def V4(x w):(Yh 76 (.agg #[Θ Ψ p,x]) 0).run prog w=.ok (Θ Ψ p) w:=by kernel_rfl
def V5(x w):(Yh 76 (.agg #[Θ Ψ p,x]) 1).run prog w=.ok x w:=by kernel_rfl
def V6(q w):(Yh 50 (.agg #[Θ Ψ p,Θ Ψ q]) 0).run prog w=.ok (Θ Ψ p) w:=by kernel_rfl
def V7(q w):(Yh 50 (.agg #[Θ Ψ p,Θ Ψ q]) 1).run prog w=.ok (Θ Ψ q) w:=by kernel_rfl
def Iv(b g v cs tG)(X:mi w b g)(hv:sa w v cs)(hm:cs.length<=tG)(S:tG<=1000000)(hc:∀c∈cs,zj g c=0):
 ι prog 166 #[YT (U ⟨b,0,Z⟩),v,Θ Ψ tG] w λe w'=>e=.returned (.tuple #[])/\M w.heap.size w w':=by
 obtain⟨n,o,r,wi,d,m,c0,c1,_,_,_,_,⟨a1,m1,rfl,_,_,_⟩,⟨a2,m2,rfl,_,_,_⟩,_⟩:=X;obtain⟨a,m,rfl,hm0,hm2,H⟩:=hv;have hb:=az c0;have E:=V H;have HC:=V hc;have hz:(a.isNone&&decide (cs.length≠0))=R:=by
  obtain _|a:=a
  obtain h0|h0:=Nat.eq_zero_or_pos cs.length
  ·simp[h0]
  obtain⟨_,_,h,_⟩:=H h0;cases h
  simp
 clear H hc;have hq:=aeV;have hq2:=Ir;have hf0:=V4;have hf1:=V5;have hf2:=V6;have T:=V7;refine calls_of_wp func166 rfl ?_;simp only[ntmps166,YX,Z2,ZJ,Nat.reduceAdd,Nat.reduceSub,YH,YG,Yn,YA,Ye,Yg];unfold Hs;simp only[sq,Hr,rg,Xk,tm,ci,Hq,rf,yS,cmp,cellC,adR];have C:¬(tG<cs.length):=by omega
 have Q:¬((1000000:Int)<cs.length):=by omega
 obtain _|ad:=a
 ·have O:cs.length=0:=by simpa using hz
  have G:=φ O;subst G;clear hz O
  go_wp2
  go_loopw [17] (λi wr=>i=Θ Ψ 0/\wr=w) (λi _=>0)
  case atStart=>exact⟨rfl,rfl⟩
  case round=>
   obtain⟨rfl,rfl⟩:=hrel
   go_wp2_with fail
   refine sk rfl rfl λa' w' h1 B h3=>?_;refine‹∀(a:YU) (w:I),Code.wp prog Code.ret _ a w->_› _ _ (wp_ret ?_);exact⟨B,.tuple #[],by simp[Zo,results166],rfl,h3⟩
 ·clear hz
  go_wp2
  go_loopw [17] (λi wr=>∃k:Nat,k<=cs.length/\i=Θ Ψ k/\wr=w) (λi _=>cs.length-(intOf i).toNat)
  case atStart=>exact⟨0,Nat.zero_le _,rfl,rfl⟩
  case round=>
   obtain⟨k,hk,rfl,rfl⟩:=hrel;by_cases A:k<cs.length
   ·obtain⟨ba,oa,e,hba,f⟩:=E.out (by omega);cases e
    obtain⟨p,l,e1⟩:=cQ A;obtain⟨c2,x,c3,hx⟩:=f k p l e1;obtain⟨N,z⟩:=zy<|HC.out _<|ψ e1;obtain⟨u,mx,rfl,hmx,L,s⟩:=hx;have J:=V s;have HV:=V z;have hz:(u.isNone&&decide (l.length≠0))=R:=by
     obtain _|a:=u
     obtain h0|h0:=Nat.eq_zero_or_pos l.length
     ·simp[h0]
     obtain⟨_,_,h,_⟩:=s h0;cases h
     simp
    clear f e1 s z;have W:l.length<=4:=by omega
    have F:((p==0)=Y/\((4:Int)<l.length->False))\/((p==0)=R/\(p==1)=Y/\((l.length:Int) !=1)=R)\/((p==0)=R/\(p==1)=R/\(p==2)=Y/\((l.length:Int) !=2)=R):=by
     obtain⟨rfl,h⟩|⟨rfl,h⟩|⟨rfl,h⟩:=N
     exact .inl ⟨rfl,λh'=>by omega⟩;exact .inr<|.inl ⟨rfl,rfl,by simp[h]⟩;exact .inr<|.inr ⟨rfl,rfl,rfl,by simp[h]⟩
    clear N E HC;have q:u=Z->((l.length:Int) !=0)=R:=by rintro rfl;simp at hz;simp[hz]
    clear hz;obtain _|u:=u
    all_goals
     first
     |(have hz3:=q rfl;clear q)
     |clear q
     obtain⟨K,P⟩|⟨K,P,k3⟩|⟨K,P,k3,k4⟩:=F
     all_goals
      go_wp2
      go_loopw [30] (λi D=>∃j:Nat,j<=l.length/\i=Θ Ψ j/\D=wr) (λi _=>l.length-(intOf i).toNat)
      case atStart=>exact⟨0,Nat.zero_le _,rfl,rfl⟩
      case round=>
       obtain⟨j,hj,rfl,rfl⟩:=hrel;by_cases y:j<l.length
       ·obtain⟨bb,ob,e,hbb,f⟩:=J.out (by omega)
        first
        |(cases e;done)
        |(cases e
          obtain⟨kq,nq,e1⟩:=ep y;obtain⟨d1,d2⟩:=f j kq nq e1;have t:=N0<|HV.out _<|ψ e1;clear f e1 J HV;obtain⟨rfl,v1,v2⟩|⟨rfl,rfl⟩|⟨rfl,v1,v2⟩|⟨rfl,v1,v2⟩:=t
          all_goals
           go_wp2
           exact⟨⟨j+1,by omega,by go_num,by trivial⟩,by simp[intOf];omega⟩)
       ·clear J HV
        go_wp2
        exact⟨⟨k+1,by omega,by go_num,by trivial⟩,by simp[intOf];omega⟩
   ·clear E HC
    go_wp2_with fail
    refine sk rfl rfl λa' w' h1 B h3=>?_;refine‹∀(a:YU) (w:I),Code.wp prog Code.ret _ a w->_› _ _ (wp_ret ?_);exact⟨B,.tuple #[],by simp[Zo,results166],rfl,h3⟩
end
end Kn
namespace Kn
open Go Go.RowKit Md
section
variable(w:I)(p:Int)(b:Nat)(q:Int)
def BF(g:GH)(l:List HV):Prop:=l.length<=40/\∀i v,l[i]?=U v->co v=Y/\eO g v=0/\(l.take i).contains v=R
def eI.take{w a m l j}(h:eI w (.slice a l.length m) l)(q:j<=l.length):eI w (.slice a j m) (l.take j):=by
 obtain⟨p,s,d,r,g,h3⟩:=h;cases d
 have f:(l.take j).length=j:=by simp;omega
 refine⟨a,m,by rw[f],by omega,g,λh0=>?_⟩;obtain⟨b,o,rfl,hb,c⟩:=h3 (by omega);refine⟨b,o,rfl,hb,λi k n e=>c i k n ?_⟩
 grind
def sm{e c}(h:dZ c e)(hc:c=0):e=.returned (.tuple #[]):=by unfold dZ at h;rwa[if_pos hc]at h
def jX(h:co (p,q)=Y):ι prog 168 #[.agg #[Θ Ψ p,Θ Ψ q]] w λe w'=>e=.returned (.bool Y)/\M w w w':=by have:=sd w (p,q);rw[h]at this;exact this
def Iw(g p q)(h:mi w b g)(a:eO g (p,q)=0):ι prog 169 #[.pointer b,.agg #[Θ Ψ p,Θ Ψ q]] w λe w'=>e=.returned (.tuple #[])/\M w w w':=(we w b g (p,q) h).mono λe w' h=>⟨sm h.1 a,h.2⟩
def zA(v l p q)(a:eI w v l)(h:l.contains (p,q)=R):
 ι prog 170 #[v,.agg #[Θ Ψ p,Θ Ψ q]] w λe w'=>e=.returned (.bool R)/\M w w w':=by
 have:=BD w v l (p,q) a;rw[h]at this;exact this
theorem jY:∀{l r:List Int} {k:Nat} {e:Int},(∀i x,i<k->l[i]?=U x->x=0) ->l[k]?=U e->e≠0->cU (l++r)=e
 |[],r,k,e,h,he,hn=>by simp at he
 |a::l,r,0,e,h,he,hn=>by simp at he;subst he;simp[cU,hn]
 |a::l,r,k+1,e,h,he,hn=>by have h0:=h 0 a (by omega) rfl;subst h0;exact jY (l:=l) (r:=r) (k:=k) (e:=e) (λi x hi b=>h (i+1) x (Nat.succ_lt_succ hi)<|by grind) (by grind) hn
theorem jZ:∀{l r:List Int},(∀x∈l,x=0) ->cU (l++r)=cU r
 |[],r,h=>rfl
 |a::l,r,h=>by have h0:=h a Zq;subst h0;simp;exact jZ λx b=>h x<|Zi _ b
def cN(g:GH):Int:=cU ((ZT g.marked.length).map (jt g g.marked)++(ju g).map λn=>if g.marked.contains n then 0 else 11)
def uL(l:List Int)(k:Nat):Int:=if k=0 then-1 else l.getD (k-1) 0
def BG{l k n}(h:l[k]?=U n):uL l (k+1)=n:=by simp[uL,h]
def uM{g k n e}(hz:∀i,i<k->jt g g.marked i=0)(h:g.marked[k]?=U n)(b:jt g g.marked k=e)(a:e≠0):cN g=e:=by
 refine jY (k:=k) (λi x hi c=>?_) ?_ a
 grind
 grind
def zB{g}(hz:∀i,i<g.marked.length->jt g g.marked i=0):cN g=cU ((ju g).map λn=>if g.marked.contains n then 0 else 11):=by
 refine jZ λx a=>?_
 grind
structure eC(g:GH):Prop where
 cells:∀c∈g.new++g.old,zj g c=0
 news:g.new.length<=8
 bw:g.old.length<=32
 four:g.roots.length=4
 roots:∀v∈g.roots,mh g v=0
 aA:BF g g.aA
 done:BF g g.done
def uN(g v cs tG)(d:mi w b g)(a:sa w v cs)(h:(cs.length:Int)<=tG)(f:tG<=1000000)(hc:∀c∈cs,zj g c=0):
 ι prog 166 #[.pointer b,v,Θ Ψ tG] w λe w'=>e=.returned (.tuple #[])/\M w w w':=by
 obtain⟨n,rfl⟩:=Int.eq_ofNat_of_zero_le (by omega:0<=tG);exact Iv w b g v cs n d a (by omega) (by omega) hc
def Ix(g)(h:mi w b g)(J:eC g)(hm:g.marked.length<=1000000):
 ι prog 110 #[.pointer b] w λe w'=>dZ (cN g) e/\M w w w':=by
 have H:=V h;have K:=V J;obtain⟨n,o,r,wi,d,m,c0,c1,c2,c3,c4,c5,h1,h2,h3,h4,h5,h6⟩:=h;have hb:=az c0;have HC1:=V c1;have H1:=V h1;have H2:=V h2;have H3:=V h3;have H4:=V h4;have H5:=V h5;have H6:=V h6;obtain⟨ar,mr,rfl,hmr,aeW,har⟩:=h3;obtain⟨aw,mw,rfl,hmw,aeX,haw⟩:=h4;obtain⟨ad,md,rfl,hmd,aeY,had⟩:=h5;obtain⟨am,mm,rfl,hmm,aq4,ham⟩:=h6;obtain⟨an,mn,rfl,hmn,aq5,han⟩:=h1;obtain⟨ao,mo,rfl,hmo,aq7,hao⟩:=h2;have HR:=V har;have HM:=V ham;have four:=V J.four;have hr4:decide ((g.roots.length:Int)<4)=R:=by have:=J.four;simp;omega
 have hr5:decide ((4:Int)<g.roots.length)=R:=by have:=J.four;simp;omega
 clear J har haw had ham han hao
 go_enter (fU func110 rfl),ntmps110
 go_wp2_with fail
 refine(uN _ b g _ g.new 8 H.out H1.out (by have:=K.out.news;omega) (by omega) λc hc=>K.out.cells c<|ZV _ hc).mono ?_;rintro e w1 ⟨rfl,D⟩;have d1:=cG D c1 hb
 go_wp2_with fail
 refine(uN _ b g _ g.old 32 (H.out.below D) (H2.out.below D) (by have:=K.out.bw;omega) (by omega) λc hc=>K.out.cells c<|ZB _ hc).mono ?_;rintro e w2 ⟨rfl,hb2'⟩;have hb2:=D.trans<|hb2'.mono D.size;have e2:=cG hb2 c2 hb;clear D hb2' d1 c1 c0
 go_wp2_with fail
 ((with_reducible refine(cd _ _).mono ?_))
 rintro e w' ⟨rfl,rfl⟩
 go_wp2_with fail
 ((with_reducible refine(cd _ _).mono ?_))
 rintro e w' ⟨rfl,rfl⟩
 go_wp2_with fail
 clear e2 hr4 hr5
 go_loopw [49] (λi wr=>∃k:Nat,k<=g.roots.length/\i=Θ Ψ k/\M w w wr) (λi _=>g.roots.length-(intOf i).toNat)
 case atStart=>exact⟨0,Nat.zero_le _,rfl,hb2⟩
 case round=>
  obtain⟨k,J,rfl,a⟩:=hrel;clear hb2;by_cases z:k<g.roots.length
  ·obtain⟨ba,oa,e,A,f⟩:=HR.out (by omega);cases e
   obtain⟨p,q,e1⟩:=ep z;obtain⟨f1,f2⟩:=(f.below a A) k p q e1;have hv0:=V<|K.out.roots _<|ψ e1;have u:=a.size;clear f e1
   go_wp2_with fail
   refine(Io _ b g (p,q) (H.out.below<|a.alloc u _) hv0.out).mono ?_;rintro e w3 ⟨rfl,hb3⟩
   go_wp2_with fail
   exact⟨⟨k+1,by omega,by go_num,(a.alloc u _).trans<|hb3.mono (by simp;omega)⟩,by simp[intOf];omega⟩
  ·clear HR;have e3:=cG a c3 hb;have e4:=cG a c4 hb;have u:=a.size
   go_wp2_with fail
   go_region_held3 (λw'=>w' (b,3)=U (.slice aw g.aA.length mw)/\w' (b,4)=U (.slice ad g.done.length md)) (go_keep) (fail)
   go_wp2_with fail
   have L:M w w ((wr.alloc<|ω #[.slice aw g.aA.length mw,.slice ad g.done.length md] 23).drew):=(a.alloc u _).drew;have Q:((wr.alloc<|ω #[.slice aw g.aA.length mw,.slice ad g.done.length md] 23).drew) wr.heap.size=U (.slice aw g.aA.length mw):=by go_simp
   have W:((wr.alloc<|ω #[.slice aw g.aA.length mw,.slice ad g.done.length md] 23).drew) (wr.heap.size,1)=U (.slice ad g.done.length md):=by go_simp
   have hbx:wr.heap.size<((wr.alloc<|ω #[.slice aw g.aA.length mw,.slice ad g.done.length md] 23).drew).heap.size:=by simp
   generalize (wr.alloc _).drew=w9 at L Q W hbx⊢;generalize wr.heap.size=bx at Q W hbx u⊢;have hL:∀k:Nat,k<2->∃ax mx l,w9 (bx,k)=U (.slice ax l.length mx)/\eI w (.slice ax l.length mx) l/\BF g l:=by
    intro k J
    match k,J with
    |0,_=>exact⟨aw,mw,g.aA,Q,H4.out,K.out.aA⟩
    |1,_=>exact⟨ad,md,g.done,W,H5.out,K.out.done⟩
   have HL:=V hL;clear hL Q W e3 e4 a
   go_loopw [69] (λi wr=>∃k:Nat,k<=2/\i=Θ Ψ k/\M w9 w9 wr) (λi _=>2-(intOf i).toNat)
   case atStart=>exact⟨0,by omega,rfl,Δ _ _⟩
   case round=>
    obtain⟨k,J,rfl,a⟩:=hrel;have O:=L.size;by_cases z:k<2
    ·obtain⟨ax,mx,l,hc,hvx,hok⟩:=HL.out k z;have hcw:=cG a hc hbx;have HV:=V hvx;obtain⟨ax',mx',he,hmx,N4,hax⟩:=hvx;cases he
     have HX:=V hax;have HK:=V hok.2;have h40:decide ((40:Int)<l.length)=R:=by have:=hok.1;simp;omega
     have u:=a.size;clear hc hax hok
     go_wp2_with fail
     ((with_reducible refine(cd _ _).mono ?_))
     rintro e w' ⟨rfl,rfl⟩
     go_wp2_with fail
     clear h40 hcw
     go_loopw [79] (λi wr=>∃j:Nat,j<=l.length/\i=Θ Ψ j/\M w9 w9 wr) (λi _=>l.length-(intOf i).toNat)
     case atStart=>exact⟨0,by omega,rfl,a⟩
     case round=>
      obtain⟨j,hj,rfl,X⟩:=hrel;clear a u;have amU:=X.size;by_cases hlt2:j<l.length
      ·obtain⟨ba,oa,e,A,f⟩:=HX.out (by omega);cases e
       obtain⟨p,q,e1⟩:=ep hlt2;have F:=L.trans<|X.mono O;obtain⟨f1,f2⟩:=(f.below F A) j p q e1;obtain⟨k1,k2,k3⟩:=HK.out j (p,q) e1;have K1:=V k1;have K2:=V k2;have K3:=V k3;clear f e1 k1 k2 k3
       go_wp2_with fail
       refine(jX _ p q K1.out).mono ?_;rintro e w4 ⟨rfl,t⟩;have n1:w4 wr.heap.size=U (Θ Ψ p):=(t.cell (p:=⟨wr.heap.size,0,Z⟩)<|by simp).trans (by go_simp);have n2:w4 (wr.heap.size,1)=U (Θ Ψ q):=(t.cell (p:=⟨wr.heap.size,1,Z⟩)<|by simp).trans (by go_simp);have hn4:wr.heap.size<w4:=by have:=t.size;simp at this;omega
       have q4:M wr wr w4:=(af _ _).trans<|t.mono<|by simp
       go_wp2_with fail
       ((with_reducible refine(cd _ _).mono ?_))
       rintro e w' ⟨rfl,rfl⟩
       go_wp2_with fail
       refine(Iw _ b g p q (H.out.below<|F.trans<|q4.mono<|by omega) K2.out).mono ?_;rintro e w5 ⟨rfl,T⟩;have q1:=cG T n1 hn4;have q2:=cG T n2 hn4;have q5:M wr wr w5:=q4.trans<|T.mono<|by omega
       have VT:=V<|(HV.out.take<|Nat.le_of_lt hlt2).below<|F.trans<|q5.mono<|by omega
       clear n1 n2 t T q4;have hjm:(j:Int)<=mx:=by omega
       go_wp2_with fail
       go_still_tail 4,(by kernel_rfl)
       change ZN _ _ _ _ _ w5.drew
       go_wp2_with fail
       refine(zA _ _ (l.take j) p q (VT.out.below<|(Δ _ _).drew) K3.out).mono ?_;rintro e w6 ⟨rfl,hb6⟩
       go_wp2_with fail
       ((with_reducible refine(cd _ _).mono ?_))
       rintro e w' ⟨rfl,rfl⟩
       go_wp2_with fail
       exact⟨⟨j+1,by omega,by go_num,X.trans<|(q5.mono<|by omega).trans<|((Δ _ _).drew).trans<|hb6.mono (by have:=q5.size;simp;omega)⟩,by simp[intOf];omega⟩
      ·clear HX HK
       go_wp2_with fail
       exact⟨⟨k+1,by omega,by go_num,X⟩,by simp[intOf];omega⟩
    ·clear HL;have f5:=((L.trans<|a.mono O).cell (p:=⟨b,5,Z⟩) hb).trans c5;have hbm:=L.trans<|a.mono O
     go_wp2_with fail
     clear f5 a
     go_loopw [8,105] (λv i wr=>∃k:Nat,k<=g.marked.length/\i=Θ Ψ k/\v=Θ Ψ (uL g.marked k)/\Hid (∀i,i<k->jt g g.marked i=0)/\M w w wr) (λ_ i _=>g.marked.length-(intOf i).toNat)
     case atStart=>exact⟨0,by omega,rfl,rfl,V λi hi=>by omega,hbm⟩
     case round=>
      obtain⟨k,J,rfl,rfl,hz,a⟩:=hrel;clear hbm;by_cases z:k<g.marked.length
      ·obtain⟨ba,oa,e,A,f⟩:=HM.out (by omega);cases e
       obtain⟨n,e1⟩:=ot z;have f1:=(f.below a A) k n e1;have f2:=cG a HC1.out hb;have B:g.marked.getD k 0=n:=by simp[ZH,e1]
       by_cases P:n<0\/(g.old.length:Int)<=n
       ·have s:jt g g.marked k=9:=by unfold jt;simp only[B];rw[if_pos P]
        have N:=V<|uM hz.out e1 s<|by decide
        clear f e1 B s HM;obtain P|P:=P
        ·go_wp2_with fail
         ((with_reducible refine(eU _ _).mono ?_))
         rintro e w' ⟨rfl,rfl⟩;exact⟨rfl,dZ.bad N.out<|by decide,a⟩
        ·by_cases hr2:n<0
         ·go_wp2_with fail
          ((with_reducible refine(eU _ _).mono ?_))
          rintro e w' ⟨rfl,rfl⟩;exact⟨rfl,dZ.bad N.out<|by decide,a⟩
         ·have S:decide ((g.old.length:Int)<=n)=Y:=by simpa using P
          go_wp2_with fail
          ((with_reducible refine(eU _ _).mono ?_))
          rintro e w' ⟨rfl,rfl⟩;exact⟨rfl,dZ.bad N.out<|by decide,a⟩
       ·have hr1:¬n<0:=λh=>P (.inl h);have hr2:decide ((g.old.length:Int)<=n)=R:=by simp;omega
        by_cases C:n<=uL g.marked k
        ·have s:jt g g.marked k=14:=by unfold jt;simp only[B];rw[if_neg P];exact if_pos C
         have N:=V<|uM hz.out e1 s<|by decide
         have amW:decide (n<=uL g.marked k)=Y:=by simpa using C
         clear f e1 B s C P
         go_wp2_with fail
         ((with_reducible refine(cd _ _).mono ?_))
         rintro e w' ⟨rfl,rfl⟩
         go_wp2_with fail
         ((with_reducible refine(eU _ _).mono ?_))
         rintro e w' ⟨rfl,rfl⟩;exact⟨rfl,dZ.bad N.out<|by decide,a⟩
        ·have s:jt g g.marked k=0:=by unfold jt;simp only[B];rw[if_neg P];exact if_neg C
         have amW:decide (n<=uL g.marked k)=R:=by simpa using C
         have HN:=V<|BG e1;have hz':Hid (∀i,i<k+1->jt g g.marked i=0):=V λi hi=>by
          obtain h|h:=Nat.lt_or_ge i k
          exact hz.out i h;rw[show i=k by omega];exact s
         clear f e1 B s C P hz
         go_wp2_with fail
         ((with_reducible refine(cd _ _).mono ?_))
         rintro e w' ⟨rfl,rfl⟩
         go_wp2_with fail
         ((with_reducible refine(cd _ _).mono ?_))
         rintro e w' ⟨rfl,rfl⟩
         go_wp2_with fail
         exact⟨⟨k+1,by omega,by go_num,by rw[HN.out],hz',a⟩,by simp[intOf];omega⟩
      ·have hzz:∀i,i<g.marked.length->jt g g.marked i=0:=λi hi=>hz.out i (by omega);have HR2:=V<|zB hzz;clear hzz hz HM
       go_wp2_with fail
       refine(Dt _ b g (H.out.below a) (by have:=K.out.bw;omega)).mono ?_;rintro e w3 ⟨⟨r3,rfl,S⟩,hb3⟩;have hR3:=V S.reads;obtain⟨a3,m3,rfl,Fw,aq8,h33⟩:=S.reads;have HX:=V h33;have t:=a.trans<|hb3.mono a.size;clear h33 S
       go_wp2_with fail
       go_loopw [131] (λi wr=>∃k:Nat,k<=(ju g).length/\i=Θ Ψ k/\Hid (∀i x,i<k->(ju g)[i]?=U x->g.marked.contains x=Y)/\M w3 w3 wr) (λi _=>(ju g).length-(intOf i).toNat)
       case atStart=>exact⟨0,by omega,rfl,V λi x hi=>by omega,Δ _ _⟩
       case round=>
        obtain⟨k,J,rfl,hz,E⟩:=hrel;have G:=t.trans<|E.mono t.size;by_cases z:k<(ju g).length
        ·obtain⟨ba,oa,e,A,f⟩:=HX.out (by omega);cases e
         obtain⟨n,e1⟩:=ot z;have f1:=(f.below E A) k n e1;have f5:=cG G c5 hb;by_cases hc:g.marked.contains n=Y
         ·have hz':Hid (∀i x,i<k+1->(ju g)[i]?=U x->g.marked.contains x=Y):=V λi x hi hx=>by
           obtain h|h:=Nat.lt_or_ge i k
           exact hz.out i x h hx;rw[show i=k by omega,e1]at hx;cases hx
           exact hc
          have HC:=V hc;clear f e1 hc hz
          go_wp2_with fail
          refine(sj _ _ g.marked n<|H6.out.below G).mono ?_;rw[HC.out];rintro e w' ⟨rfl,rfl⟩
          go_wp2_with fail
          ((with_reducible refine(cd _ _).mono ?_))
          rintro e w' ⟨rfl,rfl⟩
          go_wp2_with fail
          exact⟨⟨k+1,by omega,by go_num,hz',E⟩,by simp[intOf];omega⟩
         ·have hcf:g.marked.contains n=R:=by simpa using hc
          have N:cN g=11:=by
           rw[HR2.out];have:=jY (l:=(ju g).map λn=>if g.marked.contains n then 0 else 11) (r:=[]) (k:=k) (e:=11) (λi x hi hx=>by rw[Zz]at hx;obtain⟨y,hy,hxy⟩:=Option.map_eq_some_iff.1 hx;rw[hz.out i y hi hy]at hxy;simpa using hxy.symm) (by rw[Zz,e1];simp only[Option.map_some,hcf];rfl) (by decide)
           simpa using this
          have HM2:=V N;have HC:=V hcf;clear f e1 hc hcf hz N
          go_wp2_with fail
          refine(sj _ _ g.marked n<|H6.out.below G).mono ?_;rw[HC.out];rintro e w' ⟨rfl,rfl⟩
          go_wp2_with fail
          ((with_reducible refine(eU _ _).mono ?_))
          rintro e w' ⟨rfl,rfl⟩;exact⟨rfl,dZ.bad HM2.out<|by decide,G⟩
        ·have N:cN g=0:=by
          rw[HR2.out];have:=jZ (l:=(ju g).map λn=>if g.marked.contains n then 0 else 11) (r:=[]) (λx hx=>by obtain⟨y,hy,rfl⟩:=YK.1 hx;obtain⟨i,hi,hyi⟩:=List.mem_iff_getElem.1 hy;rw[hz.out i y (by omega) (by rw[χ hi,hyi])];rfl)
          simpa[cU]using this
         have HM2:=V N;clear N hz
         go_wp2
         go_end0;exact⟨dZ.ok HM2.out,G⟩
end
section
variable{w:I}{cs:List HC}
def sr{P}(w s B ty d i)(size g n l:Nat)(A m b t cs)(q:P.underlying s=U (.slice d))(hi:P.info? d=U i)(hs:i.size=size)(p:w.heap[g]?=U (.cells b t (0,0)))(r:cs.length=n*size)(o:0<n->∃ad,A=U ad/\∀j v,cs[j]?=U v->w (ad.add j)=U v)(f:cs.length<=b.size)(z:∀v∈cs,v.oneCell'=Y):
 ∃w',(X8 #[s,B] ty #[.slice g n l,.slice A n m]).run P w=.ok (goInt n) w'/\w'.heap[g]?=U (.cells (cs++b.toList.drop cs.length).toArray t (0,0))/\w.grownBy w' (U g):=by
 subst hs;obtain _|a:=A
 have x:n=0:=by
  obtain h0|h0:=Nat.eq_zero_or_pos n
  exact h0;obtain⟨ad,h,_⟩:=o h0;cases h
 subst x;have hc:=φ (by simpa using r);subst hc;refine⟨w,?_,by simpa using p,⟨rfl,rfl,rfl,.refl,λ_ _ _=>rfl⟩⟩;simp[X8,ε q,Zn,Zs,sizeOf,Ya,hi,Yf]
 ·have c:∀j u,cs[j]?=U u->w (a.add j)=U u:=by grind
  refine⟨w.setRow g (cs++b.toList.drop cs.length).toArray,?_,setRow_heap w g b _ t _ p,⟨rfl,rfl,rfl,by simp[World.setRow],λk _ y=>setRow_other w g k _ λe=>y<|by rw[e]⟩⟩;simp[X8,ε q,Zn,Zs,sizeOf,Ya,hi,<-r,run_loadCells_list (P:=P) w a cs c,(run_storeCells_at P g 0 t cs 0 b w p (by simpa using f) z)]
def iW{P ops rest o a Q}(p:o.guard=Z)(d s r u)(C:o.op=.call {callee:=.builtin .copy,args:=#[d,s],argTypes:=#[r,u]})(b i size g n e A f c t cs)(D:P.underlying r=U (.slice b))(hi:P.info? b=U i)(hs:i.size=size)(hd:a.eval d=.slice g n e)(q:a.eval s=.slice A n f)(y:w.heap[g]?=U (.cells c t (0,0)))(E:cs.length=n*size)(m:0<n->∃ad,A=U ad/\∀j v,cs[j]?=U v->w (ad.add j)=U v)(l:cs.length<=c.size)(B:∀v∈cs,v.oneCell'=Y)(h:∀w',w'.heap[g]?=U (.cells (cs++c.toList.drop cs.length).toArray t (0,0)) ->w.grownBy w' (U g) ->ZN P ops Q rest (a.put o.dst<|goInt n) w'):ZN P ops Q (o::rest) a w:=by refine X9 p λK z=>?_;obtain⟨w',k,x,h3⟩:=sr w r u o.type b i size g n e A f c t cs D hi hs y E m l B;unfold Zb YF;simp only[C,resolve,invoke,builtin,ZX,ZE,κ,YP,Zr,Yo,hd,q,k];exact z _ _<|h w' x h3
def df(w:I)(B:Nat)(l:List (Int×υ))(cs:List HC):Prop:=
 l.length=cs.length/\(∀(i:Nat) k x k' vs,l[i]?=U (k,x) ->cs[i]?=U (k',vs) ->k=k'/\OV w B x vs)/\
  ∀(i j:Nat) p q,i<j->l[i]?=U p->l[j]?=U q->∀g,p.2.ownBlock=U g->q.2.ownBlock≠U g
def N5(w:I)(B:Nat)(v:υ)(cs:List HC):Prop:=∃l,OC w B v l/\df w B l cs
def df.hold{B l}(h:df w B l cs):aY w l cs:=⟨h.1,λi k v a b e1 e2=>⟨(h.2.1 i k v a b e1 e2).1,(h.2.1 i k v a b e1 e2).2.reads⟩⟩
def N5.reads{w B v cs}(h:N5 w B v cs):sa w v cs:=by obtain⟨l,a,b⟩:=h;exact a.reads b.hold
def df.below{w w' B l cs}(h:df w B l cs)(c:M w w w'):df w' B l cs:=⟨h.1,λi k x a b e1 e2=>⟨(h.2.1 i k x a b e1 e2).1,(h.2.1 i k x a b e1 e2).2.below c⟩,h.2.2⟩
def df.less{w B B' l cs}(h:df w B l cs)(c:B'<=B):df w B' l cs:=⟨h.1,λi k x a b e1 e2=>⟨(h.2.1 i k x a b e1 e2).1,(h.2.1 i k x a b e1 e2).2.less c⟩,h.2.2⟩
def df.snoc{B l k x vs}(h:df w B l cs)(m:OV w B x vs)(hd:∀(i:Nat) p,l[i]?=U p->∀g,p.2.ownBlock=U g->x.ownBlock≠U g):df w B (l++[(k,x)]) (cs++[(k,vs)]):=by
 obtain⟨a,e,h3⟩:=h;refine⟨by simp[a],λi c f d v2 e1 e2=>?_,λi j p q b e1 e2=>?_⟩
 grind
 grind
def BH{b o}(h:In w b o cs):∃l,aY w l cs/\∀j u,(l.flatMap dW)[j]?=U u->w (((b,o):Yl).add j)=U u:=by
 refine⟨(ZT cs.length).map λi=>((cs.getD i (0,[])).1,(w (b,o+i*2+1)).getD undef),⟨by simp,λi k v C z e1 e2=>?_⟩,λj u d=>?_⟩;obtain⟨r,x,f,h3⟩:=h i C z e2;have hi:=(Ξ.1 e2).1;simp[hi,χ hi,((Ξ.1 e2).2)]at e1;obtain⟨rfl,rfl⟩:=e1;rw[f];exact⟨rfl,h3⟩;generalize s:((ZT cs.length).map λi=>((cs.getD i (0,[])).1,(w (b,o+i*2+1)).getD undef))=l at d;have D:=(Ξ.1 d).1;have c:∀l:List (Int×υ),(l.flatMap dW).length=l.length*2:=by
  intro l
  induction l with
  |nil=>rfl
  |cons a l B=>rw[η,μ,B];simp[dW];omega
 have y:l.length=cs.length:=by rw[<-s];simp
 obtain⟨x,m⟩:∃x,l[j/2]?=U x:=⟨_,χ (by have:=c l;omega)⟩;obtain⟨e1,e2⟩:=jx dW (λv=>Θ Ψ v.1) (λv=>v.2) (λ_=>rfl) l (j/2) x m;have e:j/2<cs.length:=by have:=c l;omega
 obtain⟨p,q,g⟩:=cQ e;obtain⟨r,v,f,h3⟩:=h (j/2) p q g;have n:x=(p,v):=by rw[<-s]at m;have:=(Ξ.1 g).2;simp[e,this,f]at m;exact m.symm
 subst n;have A:((b,o):Yl).add j=⟨b,o+j,Z⟩:=by unfold ZQ;split<;>simp_all
 rw[A];obtain t|t:=Nat.mod_two_eq_zero_or_one j
 rw[show j/2*2=j by omega]at e1 r;rw[e1]at d;cases d
 exact r;rw[show j/2*2+1=j by omega]at e2;rw[show o+j/2*2+1=o+j by omega]at f;rw[e2]at d;cases d
 exact f
end
section
variable{l:List (Int×υ)}{g:Nat}{w:I}{m n B:Nat}
theorem ss(x:υ):∀(l:List (Int×υ)) (k:Nat) (c:Int) (y:υ),l[k]?=U (c,y) ->(l.set k (c,x)).flatMap dW=(l.flatMap dW).set (k*2+1) x
 |[],k,c,y,h=>by simp at h
 |a::l,0,c,y,h=>by simp at h;subst h;simp[dW]
 |a::l,k+1,c,y,h=>by have:=ss x l k c y (by grind);rw[Y7,η,η,this,show(k+1)*2+1=k*2+1+1+1 by omega];simp[dW]
def OC.set{k c x y}(h:OC w B (.slice g n m) l)(b:l[k]?=U (c,y)):OC (w.setCell (g,k*2+1) x) B (.slice g n m) (l.set k (c,x)):=by
 obtain⟨f,⟨h0,_⟩|⟨r,i,a,e,j,p,q,d,hs,o⟩⟩:=h;cases h0
 cases e
 refine⟨by rw[ss x l k c y b];simpa using f,.inr ⟨g,m,a.setIfInBounds (k*2+1) x,by simp,j,?_,by simpa using q,d,by simpa using hs,?_⟩⟩;simp[ZD,Zm,p];rw[ss x l k c y b,<-o];rw[Y9,Yd,List.take_set]
def OC.block(h:OC w B (.slice g n m) l):B<=g/\g<w/\∃a,w.heap[g]?=U (.cells a 76 (0,0))/\a.size=m*2:=by
 obtain⟨e,⟨h0,_⟩|⟨o,b,a,d,f,j,k,c,hs,i⟩⟩:=h
 grind
 grind
def OC.at_{k c y}(h:OC w B (.slice g n m) l)(d:l[k]?=U (c,y)):w (g,k*2)=U (Θ Ψ c)/\w (g,k*2+1)=U y/\w.frozen? (g,k*2+1)=R:=by
 obtain⟨a,s,f,q,p,h3⟩:=aF h;have o:=(Ξ.1 d).1;obtain⟨t,i,_,r,j,hc⟩:=h3 (by omega);obtain⟨rfl,_,rfl⟩:=f;cases i
 obtain⟨e1,e2⟩:=jx dW (λv=>Θ Ψ v.1) (λv=>v.2) (λ_=>rfl) l k _ d;obtain⟨_,_,e,b,_⟩:=h.block;exact⟨hc _ _ e1,hc _ _ e2,by simp[Z9,b]⟩
def OV.wl{B' i:Nat}{v u vs}(h:OV w B v vs)(hc:OC w B' (.slice g n m) l):OV (w.setCell (g,i) u) B v vs:=by
 obtain⟨_,_,e,c,_⟩:=hc.block;refine aS h λj a=>?_;have b:j≠g:=by
  obtain⟨o,⟨rfl,_⟩|⟨k,f,d,rfl,p,q,_⟩⟩:=h;cases a
  cases a
  grind
 exact ο _ _ _ _ b
def df.wl{w}{B B' g n m i:Nat}{l l2 u cs}(h:df w B l cs)(hc:OC w B' (.slice g n m) l2):df (w.setCell (g,i) u) B l cs:=⟨h.1,λi k x a b e1 e2=>⟨(h.2.1 i k x a b e1 e2).1,(h.2.1 i k x a b e1 e2).2.wl hc⟩,h.2.2⟩
def V8(n c:Nat)(a:n<=c)(hc:c<=1000000000)(w):
 (YL 22 (Θ Ψ (n:Int))<|Θ Ψ (c:Int)).run prog w=.ok (.slice w.heap.size n c) (w.alloc<|.cells (ZO #[Θ Ψ 0,Z8 Z 0 0]<|c*2) 76):=by
 obtain⟨e,hi,b,d,f⟩:=ZM ni;have:=mG 22 76 e _ mF hi b Ψ Ψ n c a (by grind) (by omega) w;rw[d]at this;exact this
def Iy{b:Type}(done l:List b)(x k)(hd:done.length=k)(a:k<l.length):(done++l.drop k).set k x=(done++[x])++l.drop (k+1):=by subst hd;rw[XT _ _ .refl,Nat.sub_self,Zt a,List.append_assoc];rfl
def iu(l:List (Int×υ)):(l.flatMap dW).length=l.length*2:=by
 induction l with
 |nil=>rfl
 |cons a l b=>rw[η,μ,b];simp[dW];omega
def BI{z}(a:l.length=n)(b:B<=g)(hw:w.heap[g]?=U (.cells (l.flatMap dW++(ZO z<|n*2).toList.drop (l.flatMap dW).length).toArray 76 (0,0)))(d:n<=1000000):OC w B (.slice g n n) l:=by subst a;refine⟨iu l,.inr ⟨g,l.length,_,rfl,b,hw,.refl,by unfold ZU;omega,?_,?_⟩⟩;have c:=iu l;simp only[YX,μ,List.length_drop,(by simpa using (jz z<|l.length*2):(ZO z<|l.length*2).toList.length=l.length*2)];omega;show List.take (l.length*2) (l.flatMap dW++_)=_;rw[<-iu,List.take_left]
def zC(w v cs)(hv:sa w v cs)(hl:cs.length<=1000000)(hs:∀c∈cs,c.2.length<=1000000):
 ι prog 147 #[v] w λe w'=>(∃r,e=.returned r/\N5 w' w r cs)/\M w w w':=by
 obtain⟨a,m,rfl,hm,hm2,ha⟩:=hv;obtain⟨l,F,t⟩:∃l,aY w l cs/\(0<cs.length->∃ad,a=U ad/\ad.block<w/\∀j u,(l.flatMap dW)[j]?=U u->w (ad.add j)=U u):=by
  obtain h0|h0:=Nat.eq_zero_or_pos cs.length
  exact⟨[],⟨by simp[h0],λi k v k' C e1 _=>by simp at e1⟩,λh=>absurd h<|by omega⟩;obtain⟨b,o,rfl,hb,hat⟩:=ha h0;obtain⟨l,h1,h2⟩:=BH hat
  exact⟨l,h1,λ_=>⟨_,rfl,hb,h2⟩⟩
 clear ha;have n:∀l:List (Int×υ),(l.flatMap dW).length=l.length*2:=by
  intro l
  induction l with
  |nil=>rfl
  |cons a l ih=>rw[η,μ,ih];simp[dW];omega
 have s:∀u∈l.flatMap dW,u.oneCell'=Y:=by
  intro u hu;obtain⟨p,hp,h⟩:=YQ.1 hu;simp[dW]at h;obtain rfl|rfl:=h
  rfl;obtain⟨i,hi⟩:=ZR.1 hp;have hic:i<cs.length:=by rw[<-F.1];exact(Ξ.1 hi).1
  obtain⟨p',q',hpq⟩:=cQ hic;obtain⟨_,a',m',h,_⟩:=F.2 i p.1 p.2 p' q' hi hpq;rw[h];rfl
 have K:=F.1;obtain⟨i0,hi,hz0,O,hz2⟩:=ZM ni;have hmk:=λW=>V8 cs.length cs.length .refl (by omega) W;have D:=V K;have HH:=V F;have HI:=V hi;have Q:=V O;have HR:=V t;have HO:=V s;have HN:=V n;clear K F hi hz0 O hz2 t s n
 go_enter (fU func147 rfl),ntmps147
 go_wp2_with (with_reducible refine iW rfl (.tmp 9) (.tmp 10) 22 22 rfl 76 i0 2 w cs.length cs.length a m _ 76 (l.flatMap dW) mF HI.out Q.out rfl rfl (ξ w _) (by rw[HN.out,D.out]) (λh0=>?h1) (by rw[HN.out,jz,D.out];omega) HO.out ?_)
 case h1=>obtain⟨ad,e,hb,P⟩:=HR.out h0;exact⟨ad,e,λj u hu=>(World.cell?_alloc_lt w _ _ (by rw[show(ad.add j).block=ad.block by unfold ZQ;split<;>rfl];exact hb)).trans<|P j u hu⟩
 ·intro w1 y E;rw[<-List.length_flatMap]at y;have S:=(af w _).grown E (by simp) (λk hk=>by cases hk;exact .refl);have J:=BI D.out .refl y hl;clear y E hmk HI Q
  go_wp2
  go_loopw [14] (λi wr=>∃k:Nat,k<=cs.length/\i=Θ Ψ k/\M w w wr/\∃done,done.length=k/\OC wr w (.slice w.heap.size cs.length cs.length) (done++l.drop k)/\df wr w done (cs.take k)) (λi _=>cs.length-(intOf i).toNat)
  case atStart=>exact⟨0,Nat.zero_le _,rfl,S,[],rfl,by simpa using J,rfl,λi k x k' C e1 _=>by simp at e1,λi j p q _ e1 _=>by simp at e1⟩
  case round=>
   obtain⟨k,hk,rfl,f,done,z,T,H⟩:=hrel;clear S J;by_cases A:k<cs.length
   ·have hkl:k<l.length:=by rw[D.out];exact A
    obtain⟨⟨p,x⟩,e1⟩:∃x,l[k]?=U x:=⟨_,χ hkl⟩;obtain⟨p',C,e2⟩:=cQ A;obtain⟨rfl,hx⟩:=HH.out.2 k p x p' C e1 e2;have N:=hs _<|ψ e2;dsimp only at N;have ek:(done++l.drop k)[k]?=U (p,x):=by rw[Y6 (by omega),z,Nat.sub_self,XK];simpa using e1
    obtain⟨c1,c2,_⟩:=T.at_ ek;have X:=f.size;have hxw:=V<|hx.below f;obtain⟨ax,mx,rfl,_,_,_⟩:=hx;have E2:=V e2;have EK:=V ek;have HK:=V z;clear e1 e2 ek z
    go_wp2_with fail
    refine(JU _ _ C (hxw.out.below<|af _ _) N).mono ?_;rintro e w2 ⟨⟨r,rfl,P⟩,hb2⟩;have B:=(af _ _).trans<|hb2.mono<|by simp
    have d:=T.below B;have he2:=H.below B;obtain⟨d1,d2,d3⟩:=d.at_ EK.out;have L:=d.set (x:=r) EK.out;rw[Iy done l _ k HK.out (by rw[D.out];exact A)]at L;have G:=V P;obtain⟨ar,mr,rfl,_,_,_⟩:=aF P;clear P c1 c2
    go_wp2
    go_roundw
    case rel=>
     have hrB:OV w2 w (.slice ar C.length mr) C:=G.out.less (by simp;omega);refine⟨k+1,by omega,by go_num,((f.trans<|B.mono X).setCell (p:=⟨w.heap.size,_,Z⟩) .refl _),done++[(p,_)],by simp[HK.out],L,?_⟩;rw[bW E2.out];refine(he2.wl d).snoc (hrB.wl d) λi q hi g hg hg'=>?_;have hq:i<(cs.take k).length:=by rw[<-H.1];exact(Ξ.1 hi).1
     obtain⟨p3,q3,e3⟩:=cQ hq;obtain⟨_,hov⟩:=H.2.1 i q.1 q.2 p3 q3 hi e3;have:=(hov.lt g hg).2;have:=(G.out.lt g hg').1;simp at this;omega
    case measure=>simp[intOf];omega
   ·go_wp2
    go_ret;refine⟨⟨_,rfl,done,?_,?_⟩,f⟩;rw[YJ (by rw[D.out];omega),List.append_nil]at T;exact T;rw[θ (by omega)]at H;exact H
end
section
variable{w:I}{g:GH}{B:Nat}{row:HV->υ}{c:HC}{i:Nat}{l:List (Int×υ)}{v:υ}
def RC(w:I)(B:Nat)(v:υ)(l:List (Int×υ)):Prop:=∃a m,v=.slice a l.length m/\l.length<=m/\m<=ZU/\(a=Z->m=0)/\(0<l.length->∃g cur,a=U ⟨g,0,Z⟩/\B<=g/\w.heap[g]?=U (.cells cur 76 (0,0))/\cur.toList.take (l.length*2)=l.flatMap dW)
def su(l:List (Int×υ)):(l.flatMap dW).length=l.length*2:=by
 induction l with
 |nil=>rfl
 |cons a l b=>rw[η,μ,b];simp[dW];omega
def OC.rc(h:OC w B v l):RC w B v l:=by obtain⟨k,⟨rfl,h0⟩|⟨g,b,a,rfl,f,d,j,c,hs,i⟩⟩:=h;obtain rfl:l=[]:=φ h0;exact⟨Z,0,rfl,.refl,by simp,λ_=>rfl,λh=>absurd h<|Nat.lt_irrefl 0⟩;exact⟨_,b,rfl,j,c,(λe=>by cases e),λ_=>⟨g,a,rfl,f,d,i⟩⟩
def RC.below{w'}(h:RC w B v l)(d:∀(g:Nat) cur,w.heap[g]?=U (Obj.cells cur 76 (0,0)) ->w'.heap[g]?=w.heap[g]?):RC w' B v l:=by
 obtain⟨a,m,rfl,b,c,h3,h⟩:=h;refine⟨a,m,rfl,b,c,h3,λh0=>?_⟩
 grind
def RC.low{w'}(h:RC w B v l)(c:M w.heap.size w w'):RC w' B v l:=h.below λg a b=>c.block g (Ω.1 b).1
def RC.cells(h:RC w B v l)(h0:0<l.length):∃g m,v=Z8 (U ⟨g,0,Z⟩) l.length m/\B<=g/\g<w.heap.size/\l.length<=m/\m<=9223372036854775807/\(∀j u,(l.flatMap dW)[j]?=U u->w.cell? ⟨g,j,Z⟩=U u):=by
 obtain⟨a,m,rfl,f,d,h3,h⟩:=h;obtain⟨g,b,rfl,i,e,n⟩:=h h0;refine⟨g,m,rfl,i,(Ω.1 e).1,f,by unfold ZU at d;exact d,λj u k=>?_⟩;have c:b[j]?=U u:=by grind
 simp[Γ,e,c]
def RC.reads{cs}(h:RC w B v l)(hc:aY w l cs):sa w v cs:=by
 obtain⟨a,m,e,f,d,h3,h4⟩:=id h;rw[hc.1]at f e;refine⟨a,m,e,f,by unfold ZU at d;exact d,λh0=>?_⟩;obtain⟨g,r,b,_,p,_,_,j⟩:=h.cells (by rw[hc.1];exact h0);rw[e]at b;obtain rfl:a=U ⟨g,0,Z⟩:=by injection b
 refine⟨g,0,rfl,p,λi k n e=>?_⟩;have hi:i<l.length:=by rw[hc.1];exact(Ξ.1 e).1
 obtain⟨q,c,b⟩:∃k v,l[i]?=U (k,v):=⟨_,_,χ hi⟩;obtain⟨rfl,o⟩:=hc.2 i q c k n b e;obtain⟨e1,e2⟩:=jx dW (λv=>Θ Ψ v.1) (λv=>v.2) (λ_=>rfl) l i _ b;rw[Nat.zero_add];exact⟨j _ _ e1,c,j _ _ e2,o⟩
def Apart(x y:υ):Prop:=∀g,x.ownBlock=U g->y.ownBlock≠U g
def bd(g:GH)(k:HV):List HV:=if k.1=0 then(if k.2=0 then g.roots else if k.2=1 then g.aA else g.done)else(cellAt g k).2
def IsKey(g:GH)(k:HV):Prop:=(k.1=0/\0<=k.2/\k.2<=2)\/(k.1=3/\0<=k.2/\k.2<g.new.length)\/(k.1=4/\0<=k.2/\k.2<g.old.length)
def kD(w:I)(B:Nat)(row:HV->υ)(g:GH):Prop:=(∀k,IsKey g k->OV w B (row k) (bd g k))/\∀k k',IsKey g k->IsKey g k'->k≠k'->Apart (row k) (row k')
def cellsOf(row:HV->υ)(kind:Int)(cs:List HC):List (Int×υ):=cs.zipIdx.map λx=>(x.1.1,row (kind,(x.2:Int)))
def dm(w:I)(B b:Nat)(g:GH):Prop:=∃n o m row,B<=b/\w.heap[b]?=U (ω #[n,o,row (0,0),row (0,1),row (0,2),m] 114 (0,0))/\
 RC w B n (cellsOf row 3 g.new)/\RC w B o (cellsOf row 4 g.old)/\OI w B m g.marked/\kD w B row g
def bH{kind cs}(h:cs[i]?=U c):(cellsOf row kind cs)[i]?=U (c.1,row (kind,(i:Int))):=by simp[cellsOf,h]
def aT(row kind cs):(cellsOf row kind cs).length=cs.length:=by simp[cellsOf]
def JX(h:g.new[i]?=U c):IsKey g (3,(i:Int))/\bd g (3,(i:Int))=c.2:=by have:=(Ξ.1 h).1;refine⟨.inr<|.inl ⟨rfl,by omega,by omega⟩,?_⟩;simp[bd,cellAt,h]
def j6(h:g.old[i]?=U c):IsKey g (4,(i:Int))/\bd g (4,(i:Int))=c.2:=by have:=(Ξ.1 h).1;refine⟨.inr<|.inr ⟨rfl,by omega,by omega⟩,?_⟩;simp[bd,cellAt,h]
def kD.roots(h:kD w B row g):OV w B (row (0,0)) g.roots/\OV w B (row (0,1)) g.aA/\OV w B (row (0,2)) g.done:=⟨h.1 (0,0)<|.inl ⟨rfl,by decide,by decide⟩,h.1 (0,1)<|.inl ⟨rfl,by decide,by decide⟩,h.1 (0,2)<|.inl ⟨rfl,by decide,by decide⟩⟩
def kD.N6(h:kD w B row g):aY w (cellsOf row 3 g.new) g.new:=
 ⟨aT _ _ _,λi k v d c e1 e2=>by
   rw[bH e2]at e1;cases e1
   obtain⟨b,a⟩:=JX e2;have:=h.1 _ b;rw[a]at this;exact⟨rfl,this.reads⟩⟩
def kD.Du(h:kD w B row g):aY w (cellsOf row 4 g.old) g.old:=
 ⟨aT _ _ _,λi k v d c e1 e2=>by
   rw[bH e2]at e1;cases e1
   obtain⟨b,a⟩:=j6 e2;have:=h.1 _ b;rw[a]at this;exact⟨rfl,this.reads⟩⟩
def dm.reads{w B b g}(h:dm w B b g):mi w b g:=by
 obtain⟨n,o,m,row,d,hb,a,c,h3,h4⟩:=h;obtain⟨r0,r1,r2⟩:=h4.roots;refine⟨n,o,row (0,0),row (0,1),row (0,2),m,?_,?_,?_,?_,?_,?_,a.reads h4.N6,c.reads h4.Du,r0.reads,r1.reads,r2.reads,h3.reads⟩
 all_goals simp[Γ,hb]
def dm.below{w w' B b g}(h:dm w B b g)(a:M w.heap.size w w'):dm w' B b g:=by
 obtain⟨n,o,m,row,i,hb,f,e,h3,h4⟩:=h;have d:b<w.heap.size:=by grind
 exact⟨n,o,m,row,i,(a.block b d).trans hb,f.low a,e.low a,h3.below a,λk c=>(h4.1 k c).below a,h4.2⟩
end
def BJ(lo hi:Nat)(v:υ):Prop:=∀g,v.ownBlock=U g->lo<=g/\g<hi
def BJ.apart{a b c d x y}(j:BJ a b x)(f:BJ c d y)(h:b<=c):Apart x y:=λg i e=>by have:=j g i;have:=f g e;omega
def Apart.symm{x y}(h:Apart x y):Apart y x:=λg a b=>h g b a
def dp(ln lo:List (Int×υ))(r wi d:υ)(k:HV):υ:=if k.1=0 then(if k.2=0 then r else if k.2=1 then wi else d)else((if k.1=3 then ln else lo).getD k.2.toNat (0,Z8 Z 0 0)).2
def iY{ln lo r wi d cs w B kind}(f:kind=3\/kind=4)(h:df w B (if kind=3 then ln else lo) cs):cellsOf (dp ln lo r wi d) kind cs=(if kind=3 then ln else lo):=by
 have a:kind≠0:=by omega
 apply YW;intro i;obtain hi|hi:=Nat.lt_or_ge i cs.length
 obtain⟨p,q,e⟩:=cQ hi;rw[bH e];have b:i<(if kind=3 then ln else lo).length:=by rw[h.1];exact hi
 obtain⟨⟨c,x⟩,e2⟩:∃x,(if kind=3 then ln else lo)[i]?=U x:=⟨_,χ b⟩;obtain⟨rfl,_⟩:=h.2.1 i c x p q e2 e;simp[dp,a,ZH,e2];rw[ZA (by rw[aT];exact hi),ZA (by rw[h.1];exact hi)]
def N7{w B b s1 s2 s3 s4 g n o r wi d m ln lo}(X:B<=b)(hb:w.heap[b]?=U (ω #[n,o,r,wi,d,m] 114 (0,0)))(Q:OC w B n ln)(E:df w B ln g.new)(O:OC w B o lo)(D:df w B lo g.old)(P:OV w B r g.roots)(hw:OV w B wi g.aA)(hd:OV w B d g.done)(T:OI w B m g.marked)(r1:∀p∈ln,BJ B s1 p.2)(r2:∀p∈lo,BJ s1 s2 p.2)(r3:BJ s2 s3 r)(r4:BJ s3 s4 wi)(r5:BJ s4 w.heap.size d)(L:s1<=s2)(h23:s2<=s3)(W:s3<=s4):dm w B b g:=by
 have c3:cellsOf (dp ln lo r wi d) 3 g.new=ln:=by simpa using iY (ln:=ln) (lo:=lo) (r:=r) (wi:=wi) (d:=d) (kind:=3) (.inl rfl) (by simpa using E)
 have J:cellsOf (dp ln lo r wi d) 4 g.old=lo:=by simpa using iY (ln:=ln) (lo:=lo) (r:=r) (wi:=wi) (d:=d) (kind:=4) (.inr rfl) (by simpa using D)
 have s:∀i:Nat,i<g.new.length->∃p c,ln[i]?=U p/\g.new[i]?=U c/\dp ln lo r wi d (3,(i:Int))=p.2:=by intro i hi;obtain⟨p,q,e⟩:=cQ hi;have:=bH (row:=dp ln lo r wi d) (kind:=3) e;rw[c3]at this;exact⟨_,_,this,e,rfl⟩
 have l:∀i:Nat,i<g.old.length->∃p c,lo[i]?=U p/\g.old[i]?=U c/\dp ln lo r wi d (4,(i:Int))=p.2:=by intro i hi;obtain⟨p,q,e⟩:=cQ hi;have:=bH (row:=dp ln lo r wi d) (kind:=4) e;rw[J]at this;exact⟨_,_,this,e,rfl⟩
 have f:∀k,IsKey g k->(∃i:Nat,i<g.new.length/\k=(3,(i:Int)))\/(∃i:Nat,i<g.old.length/\k=(4,(i:Int)))\/k=(0,0)\/k=(0,1)\/k=(0,2):=by
  rintro⟨a,c⟩ (⟨x,z,h3⟩|⟨x,z,h3⟩|⟨x,z,h3⟩);dsimp only at x z h3;subst x;have:c=0\/c=1\/c=2:=by omega
  obtain rfl|rfl|rfl:=this<;>simp
  dsimp only at x z h3;subst x;exact .inl ⟨c.toNat,by omega,by simp;omega⟩;dsimp only at x z h3;subst x;exact .inr<|.inl ⟨c.toNat,by omega,by simp;omega⟩
 refine⟨n,o,m,dp ln lo r wi d,X,hb,by rw[c3];exact Q.rc,by rw[J];exact O.rc,T,λk G=>?_,λk N G F t=>?_⟩;obtain⟨i,hi,rfl⟩|⟨i,hi,rfl⟩|rfl|rfl|rfl:=f k G
 ·obtain⟨p,c,e1,e2,e3⟩:=s i hi;rw[e3,(JX e2).2];exact(E.2.1 i p.1 p.2 c.1 c.2 e1 e2).2
 obtain⟨p,c,e1,e2,e3⟩:=l i hi;rw[e3,(j6 e2).2];exact(D.2.1 i p.1 p.2 c.1 c.2 e1 e2).2;exact P;exact hw;exact hd;have v:∀i:Nat,i<g.new.length->BJ B s1 (dp ln lo r wi d (3,(i:Int))):=λi hi=>by obtain⟨p,c,e1,e2,e3⟩:=s i hi;rw[e3];exact r1 p<|ψ e1
 have y:∀i:Nat,i<g.old.length->BJ s1 s2 (dp ln lo r wi d (4,(i:Int))):=λi hi=>by obtain⟨p,c,e1,e2,e3⟩:=l i hi;rw[e3];exact r2 p<|ψ e1
 have t0:dp ln lo r wi d (0,0)=r:=rfl;have t1:dp ln lo r wi d (0,1)=wi:=rfl;have t2:dp ln lo r wi d (0,2)=d:=rfl;obtain⟨i,hi,rfl⟩|⟨i,hi,rfl⟩|rfl|rfl|rfl:=f k G<;>obtain⟨j,u,rfl⟩|⟨j,u,rfl⟩|rfl|rfl|rfl:=f N F
 obtain⟨p,c,e1,e2,e3⟩:=s i hi;obtain⟨C,K,A,S,H⟩:=s j u;rw[e3,H];obtain h|h|h:=Nat.lt_trichotomy i j
 exact E.2.2 i j p C h e1 A;subst h;exact absurd rfl t;exact Apart.symm<|E.2.2 j i C p h A e1;exact(v i hi).apart (y j u) .refl;exact(v i hi).apart r3 (by omega);exact(v i hi).apart r4 (by omega);exact(v i hi).apart r5 (by omega);exact((v j u).apart (y i hi) .refl).symm;obtain⟨p,c,e1,e2,e3⟩:=l i hi;obtain⟨C,K,A,S,H⟩:=l j u;rw[e3,H];obtain h|h|h:=Nat.lt_trichotomy i j
 exact D.2.2 i j p C h e1 A;subst h;exact absurd rfl t;exact Apart.symm<|D.2.2 j i C p h A e1;exact(y i hi).apart r3 (by omega);exact(y i hi).apart r4 (by omega);exact(y i hi).apart r5 (by omega);exact((v j u).apart r3<|by omega).symm;exact((y j u).apart r3<|by omega).symm;exact absurd rfl t;exact r3.apart r4 (by omega);exact r3.apart r5 (by omega);exact((v j u).apart r4<|by omega).symm;exact((y j u).apart r4<|by omega).symm;exact(r3.apart r4<|by omega).symm;exact absurd rfl t;exact r4.apart r5 (by omega);exact((v j u).apart r5<|by omega).symm;exact((y j u).apart r5<|by omega).symm;exact(r3.apart r5<|by omega).symm;exact(r4.apart r5<|by omega).symm;exact absurd rfl t
def zp{W w1:I}(hb:M W W w1):∀b o,b<W.heap.size->w1 ((b:Nat),o)=W.cell? ⟨b,o,Z⟩:=λb o h=>hb.cell h
def Iz{g}(h:eC g):∀c∈g.new++g.old,c.2.length<=1000000:=by intro c hc;obtain⟨a,_⟩:=zy<|h.cells c hc;omega
def OV.range{w B v l}(h:OV w B v l):BJ B w v:=λg a=>h.lt g a
def df.range{w B l cs}(h:df w B l cs):∀p∈l,BJ B w p.2:=by
 intro p b;obtain⟨i,hi⟩:=ZR.1 b;have a:i<cs.length:=by rw[<-h.1];exact(Ξ.1 hi).1
 obtain⟨k,c,e⟩:=cQ a;exact(h.2.1 i p.1 p.2 k c hi e).2.range
def BJ.mono{a b a' c v}(h:BJ a b v)(e:a'<=a)(f:b<=c):BJ a' c v:=λg d=>by have:=h g d;omega
def sw(w v g)(hv:GV w v g)(hk:eC g)(hm:cN g=0)(hl:g.marked.length<=1000000):
 ι prog 82 #[v] w λe w'=>(∃b,e=.returned (YT<|U ⟨b,0,Z⟩)/\dm w' w.heap.size b g)/\M w.heap.size w w':=by
 obtain⟨n,o,r,wi,d,m,rfl,h1,h2,h3,h4,h5,h6⟩:=hv;have H1:=V h1;have H2:=V h2;have H3:=V h3;have H4:=V h4;have H5:=V h5;have H6:=V h6;obtain⟨an,mn,rfl,_,_,_⟩:=h1;obtain⟨Q,O,rfl,_,_,_⟩:=h2;obtain⟨ar,W,rfl,_,_,_⟩:=h3;obtain⟨aw,mw,rfl,_,_,_⟩:=h4;obtain⟨ad,md,rfl,_,_,_⟩:=h5;obtain⟨N,mm,rfl,_,_,_⟩:=h6;have K:=V hk;have HM:=V hm;have X:mi ((w.alloc<|ω #[.slice an g.new.length mn,.slice Q g.old.length O,.slice ar g.roots.length W,.slice aw g.aA.length mw,.slice ad g.done.length md,.slice N g.marked.length mm] 26).alloc<|ω #[.slice an g.new.length mn,.slice Q g.old.length O,.slice ar g.roots.length W,.slice aw g.aA.length mw,.slice ad g.done.length md,.slice N g.marked.length mm] 114) (w.heap.size+1) g:=by
  have L:∀o1 o2:Obj,M w.heap.size w ((w.alloc o1).alloc o2):=λo1 o2=>(af w o1).alloc (by simp) o2;refine⟨_,_,_,_,_,_,?_,?_,?_,?_,?_,?_,H1.out.below<|L _ _,H2.out.below<|L _ _,H3.out.below<|L _ _,H4.out.below<|L _ _,H5.out.below<|L _ _,H6.out.below<|L _ _⟩
  all_goals go_simp
 have HC:=V X;clear hk hm X
 go_enter (fU func82 rfl),ntmps82
 go_wp2_with fail
 refine(Ix _ _ g HC.out K.out hl).mono ?_;rintro e t ⟨he,s⟩;obtain rfl:=sm he HM.out;have a:=zp s;have hs3:=s.size;simp only[World.size_alloc]at hs3 a;have y:=(((Δ _ _).alloc .refl _).alloc (by simp) _).trans<|s.mono (by simp;omega);have f0:t.cell? ⟨w.heap.size,0,Z⟩=U (.slice an g.new.length mn):=(a _ _<|by omega).trans (by go_simp);have f1:t (w.heap.size,1)=U (.slice Q g.old.length O):=(a _ _<|by omega).trans (by go_simp);have f2:t (w.heap.size,2)=U (.slice ar g.roots.length W):=(a _ _<|by omega).trans (by go_simp);have f3:t (w.heap.size,3)=U (.slice aw g.aA.length mw):=(a _ _<|by omega).trans (by go_simp);have f4:t (w.heap.size,4)=U (.slice ad g.done.length md):=(a _ _<|by omega).trans (by go_simp);have f5:t (w.heap.size,5)=U (.slice N g.marked.length mm):=(a _ _<|by omega).trans (by go_simp);clear s a he
 go_wp2_with fail
 have hlt:w.heap.size<t:=by omega
 have FN:=V<|Iz K.out;have L1:=V (show g.new.length<=1000000 by have:=K.out.news;omega);have L2:=V (show g.old.length<=1000000 by have:=K.out.bw;omega);have L3:=V (show g.roots.length<=1000000 by have:=K.out.four;omega);have L4:=V (show g.aA.length<=1000000 by have:=K.out.aA.1;omega);have L5:=V (show g.done.length<=1000000 by have:=K.out.done.1;omega)
 go_region_held3 (λw'=>w' w.heap.size=U (.slice an g.new.length mn)/\w' (w.heap.size,1)=U (.slice Q g.old.length O)/\w' (w.heap.size,2)=U (.slice ar g.roots.length W)/\
  w' (w.heap.size,3)=U (.slice aw g.aA.length mw)/\w' (w.heap.size,4)=U (.slice ad g.done.length md)/\w' (w.heap.size,5)=U (.slice N g.marked.length mm))
  (go_keep)
  (first
    |(go_at_call 147;(with_reducible refine(zC _ (.slice an g.new.length mn) g.new (H1.out.below y.drew) L1.out λc hc=>FN.out c<|ZV _ hc).mono ?_);rintro e w4 ⟨⟨r4,rfl,G⟩,J⟩;have z:=y.drew.trans<|J.mono y.size;have S:=zp J;have Fx:=V G;obtain⟨a4,m4,rfl,_⟩:=G.reads;clear G;have hs4:=J.size;simp only[World.size_drew]at hs4 S;have ht4:w.heap.size<w4:=by omega)
    |(go_at_call 147;(with_reducible refine(zC _ (.slice Q g.old.length O) g.old (H2.out.below z) L2.out λc hc=>FN.out c<|ZB _ hc).mono ?_);rintro e w5 ⟨⟨r5,rfl,x⟩,l⟩;have D:=z.trans<|l.mono z.size;have hc5:=zp l;have HO5:=V x;obtain⟨a5,m5,rfl,_⟩:=x.reads;clear x;have hs5:=l.size;have ht5:w.heap.size<w5:=by omega)
    |(go_at_call 148;(with_reducible refine(JU _ (.slice ar g.roots.length W) g.roots (H3.out.below D) L3.out).mono ?_);rintro e w6 ⟨⟨r6,rfl,C⟩,j⟩;have B:=D.trans<|j.mono D.size;have hc6:=zp j;have Jc:=V C;obtain⟨a6,m6,rfl,_⟩:=C.reads;clear C;have hs6:=j.size;have ht6:w.heap.size<w6:=by omega)
    |(go_at_call 148;(with_reducible refine(JU _ (.slice aw g.aA.length mw) g.aA (H4.out.below B) L4.out).mono ?_);rintro e w7 ⟨⟨r7,rfl,A⟩,q⟩;have H:=B.trans<|q.mono B.size;have hc7:=zp q;have T:=V A;obtain⟨a7,m7,rfl,_⟩:=A.reads;clear A;have hs7:=q.size;have ht7:w.heap.size<w7:=by omega)
    |(go_at_call 148;(with_reducible refine(JU _ (.slice ad g.done.length md) g.done (H5.out.below H) L5.out).mono ?_);rintro e w8 ⟨⟨r8,rfl,u⟩,h⟩;have F:=H.trans<|h.mono H.size;have hc8:=zp h;have P:=V u;obtain⟨a8,m8,rfl,_⟩:=u.reads;clear u;have hs8:=h.size;have V9:w.heap.size<w8:=by omega)
    |(go_at_call 149;(with_reducible refine(wj _ (.slice N g.marked.length mm) g.marked (H6.out.below F) hl).mono ?_);rintro e w9 ⟨⟨r9,rfl,E⟩,i⟩;have Dv:=F.trans (i.mono F.size);have hc9:=zp i;have HO9:=V E;obtain⟨a9,m9,rfl,_⟩:=E.reads;clear E;have hs9:=i.size;have ht9:w.heap.size<w9:=by omega))
 clear f0 f1 f2 f3 f4 f5 S hc5 hc6 hc7 hc8 hc9
 go_wp2
 go_ret;have k:=af w9<|ω #[.slice a4 g.new.length m4,.slice a5 g.old.length m5,.slice a6 g.roots.length m6,.slice a7 g.aA.length m7,.slice a8 g.done.length m8,.slice a9 g.marked.length m9] 114;obtain⟨ln,hn,en⟩:=Fx.out;obtain⟨lo,ho,eo⟩:=HO5.out;have z9:=i.trans<|k.mono i.size;have z8:=h.trans<|z9.mono h.size;have z7:=q.trans<|z8.mono q.size;have z6:=j.trans<|z7.mono j.size;have z5:=l.trans<|z6.mono l.size;have f:w.heap.size<=t.drew.heap.size:=by simp;omega
 refine⟨⟨_,rfl,N7 (s1:=w4) (s2:=w5) (s3:=w6) (s4:=w7) (by omega) (ξ w9 _) ((hn.below z5).less f) ((en.below z5).less f) ((ho.below z6).less (by omega)) ((eo.below z6).less (by omega))
  ((Jc.out.below z7).less<|by omega) ((T.out.below z8).less<|by omega) ((P.out.below z9).less<|by omega) ((HO9.out.below k).less<|by omega)
  (λp hp=>(en.range p hp).mono f .refl) eo.range Jc.out.range T.out.range (P.out.range.mono .refl (by simp;omega)) hs5 hs6 hs7⟩,Dv.trans (k.mono (by omega))⟩
def zD(w)(b a len m k:Nat)(hc:w b=U (.slice a len m))(f:k<len)(d:len<=1000000):
 ι prog 199 #[.pointer b,.agg #[Θ Ψ 3,Θ Ψ k]] w λe w'=>e=.returned (.pointer (a,k*2))/\M w w w':=by
 have hb:=az hc;have h0:(0:Int)<=k:=by omega
 have c:(k:Int)<len:=by omega
 go_enter (fU func199 rfl),ntmps199
 go_wp2
 go_quiet (fail)
 go_wp2
 go_ret;exact⟨rfl,by first|exact bl (af w _) _|exact(af w _)⟩
def ol(w)(b a len m k:Nat)(hc:w (b,1)=U (.slice a len m))(f:k<len)(d:len<=1000000):
 ι prog 199 #[.pointer b,.agg #[Θ Ψ 4,Θ Ψ k]] w λe w'=>e=.returned (.pointer (a,k*2))/\M w w w':=by
 have hb:=az hc;have h0:(0:Int)<=k:=by omega
 have c:(k:Int)<len:=by omega
 go_enter (fU func199 rfl),ntmps199
 go_wp2
 go_quiet (fail)
 go_wp2
 go_ret;exact⟨rfl,by first|exact bl (af w _) _|exact(af w _)⟩
section
variable(x:HV)(w:I)
def jA(w:I)(b:Nat)(l:List HV):Prop:=∃es clk,w.heap[b]?=U (.map es clk)/\es.toList.map (λe=>(e.key,e.val))=l.zipIdx.map λx=>(eB x.1,Θ Ψ (x.2:Int))
def zE(y w):(Op.equal 50 (eB x)<|eB y).run prog w=.ok (x==y) w:=by have:=VY x.1 x.2 y.1 y.2 w;exact this
theorem ly(x:HV)(w:I):∀(es:List MapEntry) (l:List HV) (j i:Nat),es.map (λe=>(e.key,e.val))=(l.zipIdx j).map (λx=>(eB x.1,Θ Ψ (x.2:Int))) ->
 (Yk 50 (eB x) es i).run prog w=.ok (if x∈l then U (i+l.idxOf x,Θ Ψ ((j+l.idxOf x:Nat):Int))else Z) w
 |[],l,j,i,h=>by
  obtain _|⟨a,l⟩:=l
  simp[Yk];simp at h
 |e::es,l,j,i,h=>by
  obtain _|⟨a,l⟩:=l
  simp at h;simp at h;obtain⟨⟨c,d⟩,h3⟩:=h;unfold Yk;rw[ZX,c,zE,κ];by_cases b:x=a
  subst b;simp[d];have hb:(x==a)=R:=by simp[b]
  rw[hb];simp only[Bool.false_eq_true,if_false];rw[(ly x w es l (j+1) (i+1) h3)]
  grind
def IA:prog.underlying 110=U (.map 50 3):=by kernel_rfl
def aeZ:(zeroValue 3).run prog w=.ok (Θ Ψ 0) w:=by kernel_rfl
def ae0:∃a,prog.underlying 50=U (.struct a):=by simp
def Dw(e p q w):(X7 e 10000 50<|.agg #[Θ Ψ p,Θ Ψ q]).run prog w=.ok () w:=by cases e<;>kernel_rfl
def run_findKey(es)(l:List HV)(h:es.map (λe=>(e.key,e.val))=l.zipIdx.map (λx=>(eB x.1,Θ Ψ (x.2:Int)))):
 (Yz 50 (eB x) es).run prog w=.ok (if x∈l then U (l.idxOf x,Θ Ψ ((l.idxOf x:Nat):Int))else Z) w:=by
 obtain⟨c,b⟩:=ae0;unfold Yz;rw[ZX,ε b,κ];have d:=ly x w es l 0 0 h;obtain _|⟨e,es⟩:=es
 obtain _|⟨a,l⟩:=l
 simp[Zj];simp at h;have:Zj (.struct c) (eB x) (e::es) 0=Z:=by
  unfold Zj;have:XW (.struct c) (eB x) e.key=Z:=by unfold XW eB;rfl
  rw[this]
 grind
def fP{w b l}(h:jA w b l):
 (Yt 110 (.map<|U b) (eB x) Y).run prog w=.ok (.tuple #[Θ Ψ (if x∈l then((l.idxOf x:Nat):Int)else 0),.bool<|decide<|x∈l]) w:=by
 obtain⟨c,a,hb,f⟩:=h;have d:=run_findKey x w c.toList l f;unfold Yt;simp only[ZX,ε IA,κ];simp only[(by simp[getObj,Yy,hb]:(getObj b).run prog w=.ok (.map c a) w),κ,ZE,ZX];rw[show eB x=.agg #[Θ Ψ x.1,Θ Ψ x.2]from rfl]at d⊢;rw[(Dw c.isEmpty x.1 x.2 w)];simp only[κ,d];by_cases e:x∈l
 simp[e];simp[e,aeZ]
end
section
variable{w:I}{l:List HV}
def sx{b}(x)(h:jA w b l)(i:x∉l):
 ∃w',(Zg 110 (.map<|U b) (eB x)<|Θ Ψ (l.length:Int)).run prog w=.ok () w'/\jA w' b (l++[x])/\w.grownBy w' (U b):=by
 obtain⟨c,a,hb,g⟩:=h;have f:=run_findKey x w c.toList l g;refine⟨{w with heap:=w.heap.setIfInBounds b<|.map (c.push {key:=eB x,val:=Θ Ψ (l.length:Int),born:=a})<|a+1},?_,?_,?_⟩;unfold Zg;simp only[ZX,ε IA,κ];simp only[(by simp[getObj,Yy,hb]:(getObj b).run prog w=.ok (.map c a) w),κ,ZE,ZX];rw[show eB x=.agg #[Θ Ψ x.1,Θ Ψ x.2]from rfl]at f⊢;rw[(Dw R x.1 x.2 w)];simp only[κ,f,if_neg i];simp[setObj,Yy,hb];refine⟨c.push {key:=eB x,val:=Θ Ψ (l.length:Int),born:=a},a+1,by simp[((Ω.1 hb).1)],?_⟩;rw[Y0,ζ,g,List.zipIdx_append,ζ];simp;refine⟨rfl,rfl,rfl,by simp,λk j d=>?_⟩;have:k≠b:=λe=>d (by rw[e]);simp[Zh,Zx this]
theorem pn(x:HV):∀(l:List HV) (k:Nat),k<l.length->(l.set k x).flatMap lU=((l.flatMap lU).set (k*2)<|Θ Ψ x.1).set (k*2+1) (Θ Ψ x.2)
 |[],k,h=>by simp at h
 |a::l,0,h=>by simp[lU]
 |a::l,k+1,h=>by have:=pn x l k (by grind);rw[Y7,η,this,show(k+1)*2=k*2+1+1 by omega];simp[lU]
def OV.set{B g n m k:Nat}{x}(h:OV w B (.slice g n m) l)(b:k<l.length):
 OV ((w.setCell (g,k*2)<|Θ Ψ x.1).setCell (g,k*2+1)<|Θ Ψ x.2) B (.slice g n m) (l.set k x):=by
 obtain⟨e,⟨h0,_⟩|⟨q,f,a,d,i,o,p,c,hs,j⟩⟩:=h;cases h0
 cases d
 refine⟨by rw[pn x l k b];simpa using e,.inr ⟨g,m,(a.setIfInBounds (k*2)<|Θ Ψ x.1).setIfInBounds (k*2+1)<|Θ Ψ x.2,by simp,i,?_,by simpa using p,c,by simpa using hs,?_⟩⟩;simp[ZD,Zm,o];rw[pn x l k b,<-j];simp only[Y9,Yd,List.take_set]
def OV.at_{B g n m k:Nat}{p q}(h:OV w B (.slice g n m) l)(c:l[k]?=U (p,q)):
 w (g,k*2)=U (Θ Ψ p)/\w (g,k*2+1)=U (Θ Ψ q)/\(∀i,w.frozen? ⟨g,i,Z⟩=R)/\B<=g/\g<w:=by
 obtain⟨a,y,b,u,t,h3⟩:=aF h;have o:=(Ξ.1 c).1;obtain⟨s,f,_,d,j,hc⟩:=h3 (by omega);simp at b;obtain⟨rfl,_,rfl⟩:=b;cases f
 obtain⟨e1,e2⟩:=jx lU (λv=>Θ Ψ v.1) (λv=>Θ Ψ v.2) (λ_=>rfl) l k _ c;refine⟨hc _ _ e1,hc _ _ e2,λi=>?_,h.lt g rfl⟩;obtain⟨_,⟨h0,_⟩|⟨s,r,e,b,x,d,_⟩⟩:=h;cases h0
 cases b
 simp[Z9,d]
end
end Kn
namespace Kn
open Go Go.RowKit Md
open Go.ChangeMaps (setBlock)
section
variable{w':I}{r b:Nat}{left:List Int}(ty:TypeId)(n:Int){w:I}
def zQ(n:Int):υ×υ:=(Θ Ψ n,.bool Y)
structure We(es:Array MapEntry)(clk:Nat)(l:List Int):Prop where
 keys:es.toList.map (λe=>(e.key,e.val))=l.map zQ
 born:(es.toList.map (·.born)).Nodup
 old:∀e∈es.toList,e.born<clk
def bk(w:I)(b:Nat)(l:List Int):Prop:=∃es clk,w.heap[b]?=U (.map es clk)/\We es clk l
def nl:prog.underlying 205=U (.map 3 4):=by kernel_rfl
def ae8:prog.underlying 3=U (.int Ψ):=by kernel_rfl
def sE(e)(n:Int)(w):(X7 e 10000 3 n).run prog w=.ok () w:=by unfold X7;simp
theorem uU(n:Int):∀(es:List MapEntry) (l:List Int) (i:Nat),es.map (λe=>(e.key,e.val))=l.map zQ->
 Zj (.int Ψ) n es i=U (if n∈l then U (i+l.idxOf n,.bool Y)else Z)
 |[],l,i,h=>by
  obtain _|⟨a,l⟩:=l
  simp[Zj];simp at h
 |e::es,l,i,h=>by
  obtain _|⟨a,l⟩:=l
  simp at h;simp only[Zr,List.cons.injEq,zQ,Prod.mk.injEq]at h;obtain⟨⟨b,d⟩,h3⟩:=h;unfold Zj;rw[b];simp only[XW,if_true];by_cases c:n=a
  grind
  have hb:(n==a)=R:=by simp[c]
  rw[hb];simp only[(uU n es l (i+1) h3)]
  grind
def jb(w es)(l:List Int)(h:es.map (λe=>(e.key,e.val))=l.map zQ):
 (Yz 3 n es).run prog w=.ok (if n∈l then U (l.idxOf n,.bool Y)else Z) w:=by
 unfold Yz;rw[ZX,ε ae8,κ,uU n es l 0 h];simp
def run_get{es a}(h:w.heap[b]?=U (.map es a)):(getObj b).run prog w=.ok (.map es a) w:=by simp[getObj,Yy,h]
theorem gL{b c:Type}(f:b->c):∀(l:List b) (i:Nat),(l.eraseIdx i).map f=(l.map f).eraseIdx i
 |[],i=>by simp
 |a::l,0=>by simp
 |a::l,i+1=>by simp[gL f l i]
def ke{l}(h:bk w b l):
 (Yt 205 (.map<|U b) n Y).run prog w=.ok (.tuple #[.bool (decide<|n∈l),.bool<|decide<|n∈l]) w:=by
 obtain⟨c,e,hb,a⟩:=h;unfold Yt;simp only[ZX,ε nl,κ,run_get hb,ZE,sE,(jb n w c.toList l a.keys)];by_cases d:n∈l
 simp[d]
 simp_all
def bk.made(w:I):bk (w.alloc<|.map #[] 0) w.heap.size []:=⟨#[],0,ξ w _,⟨rfl,List.nodup_nil,λe a=>by simp at a⟩⟩
def bk.lt{l}(h:bk w b l):b<w:=by obtain⟨c,a,hb,_⟩:=h;exact(Ω.1 hb).1
def bk.of_block{l}(h:bk w b l)(hb:w'.heap[b]?=w.heap[b]?):bk w' b l:=by obtain⟨c,a,e,r⟩:=h;exact⟨c,a,hb.trans e,r⟩
def bk.below{l}(h:bk w b l)(a:M w w w'):bk w' b l:=h.of_block<|a.block b h.lt
def sF{es a l}(h:We es a l):es.size=l.length:=by have:=congrArg List.length h.keys;simpa using this
def sG(w:I)(b o):w.grownBy {w with heap:=w.heap.setIfInBounds b o} (U b):=⟨rfl,rfl,rfl,by simp,λk c a=>by have:k≠b:=λe=>a (by rw[e]);simp[Zx this]⟩
theorem kh{c d:Type}(f:c->d)(g:c->c):∀(l:List c) (i:Nat),(∀a,l[i]?=U a->f (g a)=f a) ->(l.modify i g).map f=l.map f
 |[],i,h=>by simp
 |a::l,0,h=>by simp[h a rfl]
 |a::l,i+1,h=>by
  have:=kh f g l i λb hb=>h b<|by grind
  simp[this]
def ki{l}(h:bk w b l):
 ∃w',(Zg 205 (.map<|U b) (Θ Ψ n)<|.bool Y).run prog w=.ok () w'/\bk w' b (nb l n)/\w.grownBy w' (U b)/\w'.heap.size=w.heap.size:=by
 obtain⟨g,f,hb,i⟩:=h;have q:=jb n w g.toList l i.keys;have m:=(Ω.1 hb).1;by_cases o:n∈l
 have hi:=Za o;have t:=sF i;have k:∀e,g.toList[l.idxOf n]?=U e->e.key=Θ Ψ n/\e.val=.bool Y:=by intro e c;have j:=congrArg (λz=>z[l.idxOf n]?) i.keys;simp only[Zz,c,Option.map_some]at j;rw[χ hi]at j;simp[zQ]at j;exact j
 refine⟨{w with heap:=w.heap.setIfInBounds b<|.map (g.modify (l.idxOf n) λe=>{e with key:=Θ Ψ n,val:=.bool Y}) f},?_,?_,sG w b _,by simp⟩;unfold Zg;simp only[ZX,ε nl,κ,run_get hb,ZE,sE,q,if_pos o];have u:(((g[l.idxOf n]?).map (·.key)).getD<|Θ Ψ n)=Θ Ψ n:=by have:g[l.idxOf n]?=U (g[l.idxOf n]'(by omega)):=Y5 (by omega);rw[this];exact(k _<|by simp).1
 rw[u];simp[Instr.keyThatStays,Instr.sameBits,setObj,Yy,hb];have d:nb l n=l:=by unfold nb;rw[if_pos (by simpa using o)]
 rw[d];refine⟨g.modify (l.idxOf n) λe=>{e with key:=Θ Ψ n,val:=.bool Y},f,by simp[m],⟨?_,?_,?_⟩⟩;rw[<-i.keys,YE];exact kh _ _ _ _ λe c=>by rw[(k e c).1,(k e c).2]
 rw[YE];have:=kh (λe:MapEntry=>e.born) (λe:MapEntry=>{e with key:=Θ Ψ n,val:=Value.bool Y}) g.toList (l.idxOf n) λe _=>rfl;rw[this];exact i.born;intro e c;rw[YE]at c;have:e.born∈(g.toList.modify (l.idxOf n) λe=>{e with key:=Θ Ψ n,val:=.bool Y}).map (·.born):=YB c;rw[(kh (λe:MapEntry=>e.born) (λe:MapEntry=>{e with key:=Θ Ψ n,val:=Value.bool Y}) g.toList (l.idxOf n) λe _=>rfl)]at this;obtain⟨p,j,r⟩:=YK.1 this;rw[<-r];exact i.old p j;refine⟨{w with heap:=w.heap.setIfInBounds b<|.map (g.push {key:=Θ Ψ n,val:=.bool Y,born:=f})<|f+1},?_,?_,sG w b _,by simp⟩
 ·unfold Zg;simp only[ZX,ε nl,κ,run_get hb,ZE,sE,q,if_neg o];simp[setObj,Yy,hb]
 have d:nb l n=l++[n]:=by unfold nb;rw[if_neg (by simpa using o)]
 rw[d];refine⟨_,f+1,by simp[m];rfl,⟨?_,?_,?_⟩⟩;rw[Y0,ζ,i.keys,ζ];simp[zQ];rw[Y0,ζ,YV];refine⟨i.born,by simp,λa s b hb e=>?_⟩;simp at hb;subst hb;subst e;obtain⟨p,j,r⟩:=YK.1 s;have:=i.old p j;omega;intro e c;rw[Y0]at c;obtain c|c:=Zf.1 c
 have:=i.old e c;omega;simp at c;subst c;exact Nat.lt_succ_self _
def uV{l}(h:bk w b l):(Builtin.len_ #[205] ty #[.map (U b)]).run prog w=.ok (Θ Ψ (l.length:Int)) w:=by obtain⟨d,c,hb,a⟩:=h;simp[Builtin.len_,run_get hb,(sF a)];rfl
def wE{l}(h:bk w b l):
 ∃w',(Yj #[205,3] ty #[.map (U b),Θ Ψ n]).run prog w=.ok (.tuple #[]) w'/\bk w' b (l.erase n)/\w.grownBy w' (U b)/\w'.heap.size=w:=by
 obtain⟨g,c,hb,f⟩:=h;have o:=jb n w g.toList l f.keys;have k:=(Ω.1 hb).1;by_cases m:n∈l
 refine⟨{w with heap:=w.heap.setIfInBounds b<|.map (g.eraseIdxIfInBounds<|l.idxOf n) c},?_,?_,sG w b _,by simp⟩
 ·simp[Yj,ε nl,run_get hb,sE,o,if_pos m,setObj,Yy,hb]
 have hi:=Za m;have p:=sF f;have d:(g.eraseIdxIfInBounds<|l.idxOf n).toList=g.toList.eraseIdx (l.idxOf n):=by unfold Array.eraseIdxIfInBounds;rw[dif_pos (by omega)];simp
 refine⟨_,c,by simp[k];rfl,⟨?_,?_,?_⟩⟩;rw[d,gL,f.keys,<-gL,List.erase_eq_eraseIdx_of_idxOf (a:=n) (i:=l.idxOf n) rfl];rw[d,gL];exact f.born.sublist<|XS _ _;intro e j;rw[d]at j;exact f.old e<|(XS _ _).subset j;refine⟨{w with heap:=w.heap.setIfInBounds b<|.map g c},?_,?_,sG w b _,by simp⟩
 ·simp[Yj,ε nl,run_get hb,sE,o,if_neg m,setObj,Yy,hb]
 rw[List.erase_of_not_mem m];exact⟨g,c,by simp[k],f⟩
def eD(w:I)(r b:Nat)(l left:List Int):Prop:=∃es clk since seen c0,w.heap[b]?=U (.map es clk)/\We es clk l/\w.heap[r]?=U (.mapIter (U b) since seen c0)/\(∀e∈es.toList,e.born<since)/\since<=c0/\since<=clk/\
 (Ys es seen).toList.map (·.key)=left.map (Θ Ψ)
def eD.keys{l}(h:eD w r b l left):bk w b l:=by obtain⟨f,c,a,seen,c0,e,d,_⟩:=h;exact⟨f,c,e,d⟩
def eD.of_block{l}(h:eD w r b l left)(hb:w'.heap[b]?=w.heap[b]?)(e:w'.heap[r]?=w.heap[r]?):eD w' r b l left:=by obtain⟨g,c,a,seen,c0,f,d,h3,h4⟩:=h;exact⟨g,c,a,seen,c0,hb.trans f,d,e.trans h3,h4⟩
def eD.lt{l}(h:eD w r b l left):r<w/\b<w/\r≠b:=by
 obtain⟨f,c,a,seen,c0,e,d,h3,h4⟩:=h
 grind
def qg{l}(h:bk w b l):
 ∃w',(Instr.range 205<|.map<|U b).run prog w=.ok (.pointer w.heap.size) w'/\eD w' w b l l/\w.grownBy w' Z/\w'.heap.size=w.heap.size+1:=by
 obtain⟨c,a,hb,d⟩:=h;refine⟨_,run_range_map w 205 3 4 b c a nl hb,⟨c,a,a,#[],a,(ZW w _ b<|(Ω.1 hb).1).trans hb,d,ξ w _,d.old,.refl,.refl,?_⟩,Ze w _ Z,by simp⟩;have:Ys c #[]=c:=by unfold Ys;simp
 rw[this];have:=congrArg (X3 Prod.fst) d.keys;simpa[zQ,Function.comp_def]using this
theorem filter_one{b c:Type}[DecidableEq c](f:b->c):∀(L:List b) (e:b),(L.map f).Nodup->e∈L->∃A B,L=A++e::B/\L.filter (λx=>!(f x==f e))=A++B
 |[],e,_,h=>by cases h
 |a::L,e,hn,h=>by
  rw[Zr,List.nodup_cons]at hn;obtain rfl|h:=List.mem_cons.1 h
  refine⟨[],L,rfl,?_⟩
  simp_all
  obtain⟨A,B,g,d⟩:=filter_one f L e hn.2 h
  grind
def sH{l}(h:eD w r b l left):
 (left=[]/\(Instr.next (.pointer r) R ty).run prog w=.ok (.tuple #[.bool R]) w)\/
 ∃A B n w',left=A++n::B/\(Instr.next (.pointer r) R ty).run prog w=.ok (.tuple #[.bool Y,Θ Ψ n,.bool Y]) w'/\eD w' r b l (A++B)/\w.grownBy w' (U r)/\w'.heap.size=w/\
  (Instr.entry<|.pointer r).run prog w'=.ok (.tuple #[Θ Ψ n,.bool Y]) w':=by
 obtain⟨H,y,D⟩:=h.lt;obtain⟨f,c,a,seen,c0,O,u,h3,h4,h5,m,v⟩:=h;obtain⟨h0,d⟩|⟨e,j,i,p,d⟩:=run_next_at (P:=prog) w ty r b a c0 seen f c h3 O h4 h5
 left;refine⟨?_,d⟩;have:(Ys f seen).toList=[]:=by simpa using h0
 rw[this]at v;simpa using v.symm;right;have s:e∈f.toList:=by unfold Ys at j;simp at j;simpa using j.1
 have G:∃n,e.key=Θ Ψ n/\e.val=.bool Y:=by have:(e.key,e.val)∈f.toList.map (λe=>(e.key,e.val)):=YB s;rw[u.keys]at this;obtain⟨n,_,L⟩:=YK.1 this;simp[zQ]at L;exact⟨n,L.1.symm,L.2.symm⟩
 obtain⟨n,z,Q⟩:=G;have J:((Ys f seen).toList.map (·.born)).Nodup:=by unfold Ys;rw[YD];exact u.born.sublist<|List.Sublist.map _ List.filter_sublist
 obtain⟨A,B,C,W⟩:=filter_one (λe:MapEntry=>e.born) _ e J j;rw[C,ζ,Zr]at v;obtain⟨T,C',rfl,K,N⟩:=List.map_eq_append_iff.1 v.symm;obtain⟨X,S,rfl,o,F⟩:=List.map_eq_cons_iff.1 N;rw[z]at o;cases o
 have g:i.heap=w.heap:=by obtain rfl|rfl:=p<;>rfl
 have q:w.grownBy (setBlock i r<|.mapIter (U b) a (seen.push e.born) c) (U r):=by
  have:=sG i r<|.mapIter (U b) a (seen.push e.born) c;obtain rfl|rfl:=p
  exact this;exact⟨this.os,this.tape,this.output,this.size,this.block⟩
 have E:(setBlock i r<|.mapIter (U b) a (seen.push e.born) c).heap.size=w:=by rw[<-g];simp[setBlock]
 have k:(setBlock i r<|.mapIter (U b) a (seen.push e.born) c).heap[r]?=U (.mapIter (U b) a (seen.push e.born) c):=by simp[setBlock,g,H]
 have t:(setBlock i r<|.mapIter (U b) a (seen.push e.born) c).heap[b]?=U (.map f c):=by rw[q.block b y (λj=>D (Z1 j).symm)];exact O
 refine⟨T,S,n,_,rfl,?_,⟨f,c,a,seen.push e.born,c,t,u,k,h4,m,m,?_⟩,q,E,?_⟩;rw[d,z,Q];have:(Ys f<|seen.push e.born).toList=(Ys f seen).toList.filter (λx=>!(x.born==e.born)):=by unfold Ys;rw[YD,YD,List.filter_filter];refine List.filter_congr λx _=>?_;rw[Array.contains_push,Bool.not_or,Bool.and_comm]
 rw[this,W,ζ,ζ,K,F]
 ·have:=run_entry_at (P:=prog) _ r b a seen f c e k t s u.born;rw[this,z,Q]
end
end Kn
namespace Kn
open Go Go.RowKit Md
section
variable(w:I)(a:Option Yl)(n:Nat)(s:υ)(m b:Nat)
def qw(w:I)(b:Nat)(h:PH):Prop:=∃c r wi d,w b=U c/\w (b,1)=U r/\w (b,2)=U wi/\w (b,3)=U d/\sa w c h.cells/\eI w r h.roots/\By w wi h.aA/\By w d h.done
def qw.below{w w':I}{b h}(a:M w w w')(e:qw w b h):qw w' b h:=by
 obtain⟨c,r,f,d,c0,c1,c2,c3,i,g,h3,h4⟩:=e;refine⟨c,r,f,d,?_,?_,?_,?_,i.below a,g.below a,h3.below a,h4.below a⟩
 all_goals rw[a.cell (az c0)];assumption
def dq(e):ι prog 219 #[.bool R,Θ Ψ e] w λr w'=>r=.returned (.tuple #[])/\w'=w:=by
 go_enter (fU func219 rfl),ntmps219
 go_wp2
 go_end0;exact⟨rfl,rfl⟩
def sI:ι prog 181 #[.agg #[Θ Ψ 0,.slice a n m]] w λe w'=>e=.returned (.iface 264<|.agg #[Θ Ψ 0,.slice a n m])/\M w w w':=by
 go_enter (fU func181 rfl),ntmps181
 go_wp2
 go_ret;exact⟨rfl,((Δ _ _).alloc .refl _)⟩
def sJ:ι prog 181 #[.agg #[Θ Ψ 1,.slice a n m]] w λe w'=>e=.returned (.iface 265<|.agg #[Θ Ψ 1,.slice a n m])/\M w w w':=by
 go_enter (fU func181 rfl),ntmps181
 go_wp2
 go_ret;exact⟨rfl,((Δ _ _).alloc .refl _)⟩
def Oc(name)(f:Nat)(h:name= "caracole/heap.least"/\f=317\/name= "caracole/heap.most"/\f=319\/name= "caracole/heap.keeps"/\f=316\/name= "caracole/heap.loses"/\f=318):
 (XR 463 264 (.agg #[Θ Ψ 0,s]) name).run prog w=.ok (f,.agg #[Θ Ψ 0,s]) w:=by
 obtain⟨rfl,rfl⟩|⟨rfl,rfl⟩|⟨rfl,rfl⟩|⟨rfl,rfl⟩:=h<;>kernel_rfl
def Od(name)(f:Nat)(h:name= "caracole/heap.least"/\f=323\/name= "caracole/heap.most"/\f=325\/name= "caracole/heap.keeps"/\f=322\/name= "caracole/heap.loses"/\f=324):
 (XR 463 265 (.agg #[Θ Ψ 1,s]) name).run prog w=.ok (f,.agg #[Θ Ψ 1,s]) w:=by
 obtain⟨rfl,rfl⟩|⟨rfl,rfl⟩|⟨rfl,rfl⟩|⟨rfl,rfl⟩:=h<;>kernel_rfl
def Oe:ι prog 317 #[.agg #[Θ Ψ 0,.slice a n m]] w λe w'=>e=.returned (Θ Ψ 0)/\M w w w':=by
 go_enter (fU func317 rfl),ntmps317
 go_wp2
 go_ret;exact⟨rfl,((Δ _ _).alloc .refl _)⟩
def Wf:ι prog 319 #[.agg #[Θ Ψ 0,.slice a n m]] w λe w'=>e=.returned (Θ Ψ 4)/\M w w w':=by
 go_enter (fU func319 rfl),ntmps319
 go_wp2
 go_ret;exact⟨rfl,((Δ _ _).alloc .refl _)⟩
def Of:ι prog 323 #[.agg #[Θ Ψ 1,.slice a n m]] w λe w'=>e=.returned (Θ Ψ 1)/\M w w w':=by
 go_enter (fU func323 rfl),ntmps323
 go_wp2
 go_ret;exact⟨rfl,((Δ _ _).alloc .refl _)⟩
def Wh:ι prog 325 #[.agg #[Θ Ψ 1,.slice a n m]] w λe w'=>e=.returned (Θ Ψ 1)/\M w w w':=by
 go_enter (fU func325 rfl),ntmps325
 go_wp2
 go_ret;exact⟨rfl,((Δ _ _).alloc .refl _)⟩
def Og:ι prog 318 #[.agg #[Θ Ψ 0,.slice a n m],.map<|U b] w λe w'=>e=.returned (.bool R)/\M w w w':=by
 go_enter (fU func318 rfl),ntmps318
 go_wp2
 go_ret;exact⟨rfl,((Δ _ _).alloc .refl _)⟩
def afa(l v)(h:bk w b l):ι prog 180 #[.map (U b),eB v] w λe w'=>e=.returned (.bool<|has l v)/\M w w w':=by
 obtain⟨k,n⟩:=v;unfold eB;dsimp only;by_cases c:k=1
 ·subst c;have f:=ke n<|h.of_block (w':=w.alloc<|ω #[Θ Ψ 1,Θ Ψ n] 50)<|ZW w _ b h.lt;have a:has l (1,n)=decide (n∈l):=by unfold has;simp
  rw[a];have g:=V h;clear a h;generalize decide (n∈l)=t at f⊢
  go_enter (fU func180 rfl),ntmps180
  go_wp2
  go_ret;exact⟨rfl,((Δ _ _).alloc .refl _)⟩
 ·have a:has l (k,n)=Y:=by unfold has;simp[c]
  rw[a];have d:(k==1)=R:=by simp[c]
  clear a h
  go_enter (fU func180 rfl),ntmps180
  go_wp2
  go_ret;exact⟨rfl,((Δ _ _).alloc .refl _)⟩
def Oh(l v vs)(h:bk w b l)(hs:eI w s (v::vs)):ι prog 324 #[.agg #[Θ Ψ 1,s],.map<|U b] w λe w'=>e=.returned (.bool<|!has l v)/\M w w w':=by
 obtain⟨a,m,rfl,u,t,k⟩:=hs;obtain⟨p,q⟩:=v;obtain⟨bv,o,rfl,hb,d⟩:=k (by simp);obtain⟨r,i⟩:=d 0 p q rfl;have c:=af w<|ω #[Θ Ψ 1,.slice (bv,o) ((p,q)::vs).length m] 265;have e1:=cG c r hb;have e2:=cG c i hb;simp only[Nat.zero_mul,Nat.add_zero]at e1 e2;have f:(0:Int)<(((p,q)::vs).length:Int):=by simp
 have j:=V<|h.below c;generalize ((p,q)::vs).length=n at c e1 e2 f j⊢;clear h d k r i
 go_enter (fU func324 rfl),ntmps324
 go_wp2_with fail
 refine(afa _ b l (p,q) j.out).mono ?_;rintro e x ⟨rfl,g⟩
 go_wp2_with fail
 go_ret;exact⟨rfl,c.trans<|g.mono<|by simp⟩
def I1:ι prog 261 #[.iface 264 (.agg #[Θ Ψ 0,.slice a n m])] w λe w'=>e=.returned (.slice a n m)/\M w w w':=by
 have b:∀w:I,(YR (.iface 264<|.agg #[Θ Ψ 0,.slice a n m]) 208 264 Y).run prog w=.ok (.tuple #[.agg #[Θ Ψ 0,.slice a n m],.bool Y]) w:=λw=>by kernel_rfl
 go_enter (fU func261 rfl),ntmps261
 go_wp2
 go_ret;exact⟨rfl,((Δ _ _).alloc .refl _)⟩
end
def EX{h n}(e:Ik h n=0):∃(i:Nat) (k:Int) (vs:List HV),n=(i:Int)/\h.cells[i]?=U (k,vs)/\k≠3:=by
 unfold Ik at e
 grind
def I2(w b h n)(l:qw w b h)(A:h.cells.length<=1000000)(e:Ik h n=0):ι prog 221 #[YT (U ⟨b,0,Z⟩),Θ Ψ n] w λe w'=>e=.returned (.tuple #[])/\M w.heap.size w w':=by
 obtain⟨i,k,q,rfl,g,h3⟩:=EX e;obtain⟨c,r,y,d,c0,c1,c2,c3,t,_⟩:=l;obtain⟨a,m,rfl,z,u,j⟩:=t;have hi:=(Ξ.1 g).1;obtain⟨bc,o,rfl,hb,f⟩:=j (by omega);obtain⟨B,_⟩:=f i k q g;have v:¬((i:Int)<0):=by omega
 have p:¬((h.cells.length:Int)<=(i:Int)):=by omega
 have s:(i:Int)<(h.cells.length:Int):=by omega
 have x:(k==3)=R:=by simp[h3]
 clear f j e g h3
 go_enter (fU func221 rfl),ntmps221
 go_wp2_with fail
 ((with_reducible refine(dq _ _).mono ?_))
 rintro e w' ⟨rfl,rfl⟩
 go_wp2_with fail
 ((with_reducible refine(dq _ _).mono ?_))
 rintro e w' ⟨rfl,rfl⟩
 go_wp2
 go_end0;exact⟨rfl,Δ _ _⟩
def pq(w b h p q)(d:qw w b h)(g:h.cells.length<=1000000)(e:uI h (p,q)=0):ι prog 220 #[YT (U ⟨b,0,Z⟩),.agg #[Θ Ψ p,Θ Ψ q]] w λe w'=>e=.returned (.tuple #[])/\M w.heap.size w w':=by
 have i:=V d;clear d;by_cases h0:p=0
 ·subst h0;have a:¬(q< -99)/\¬(99<q):=by simp[uI]at e;omega
  obtain⟨a,c⟩:=a;clear e
  go_enter (fU func220 rfl),ntmps220
  go_wp2_with fail
  ((with_reducible refine(dq _ _).mono ?_))
  rintro e w' ⟨rfl,rfl⟩
  go_wp2
  go_end0;exact⟨rfl,af _ _⟩
 ·by_cases a:p=1
  ·subst a;have f:Ik h q=0:=by simpa[uI]using e
   have HR:=V f;clear e f h0
   go_enter (fU func220 rfl),ntmps220
   go_wp2_with fail
   refine(I2 _ b h q (i.out.below<|af _ _) g HR.out).mono ?_;rintro e w' ⟨rfl,hw⟩
   go_wp2
   go_end0;exact⟨rfl,(af _ _).trans<|hw.mono<|by simp⟩
  ·have c:p=2/\q=0:=by
    unfold uI at e;dsimp only at e;rw[if_neg h0,if_neg a]at e;split at e
    rename_i c;split at e
    rename_i h3;exact⟨c,h3⟩;cases e
    cases e
   obtain⟨rfl,rfl⟩:=c;have j:=nc 2 0;clear e h0 a
   go_enter (fU func220 rfl),ntmps220
   go_wp2_with fail
   ((with_reducible refine(dq _ _).mono ?_))
   rintro e w' ⟨rfl,rfl⟩
   go_wp2
   go_end0;exact⟨rfl,af _ _⟩
structure HOK(h:PH):Prop where
 kinds:∀c∈h.cells,(c.1=0/\c.2.length<=4)\/(c.1=1/\c.2.length=1)
 eT:∀c∈h.cells,∀v∈c.2,uI h v=0
 many:h.cells.length<=40
 four:h.roots.length=4
 roots:∀v∈h.roots,uI h v=0
 aA:h.aA=[]
 done:h.done=[]
section
def d6:υ->Option Nat
 |Z8 (U a) _ _=>U a.block
 |_=>Z
def OQ(w:I)(B:Nat)(s:υ)(l:List Int):Prop:=∃a m,s=.slice a l.length m/\l.length<=m/\m<=9223372036854775807/\(a=Z->m=0)/\
 ∀ad,a=U ad->∃g o cur,ad=⟨g,o,Z⟩/\B<=g/\w.heap[g]?=U (.cells cur 3 (0,0))/\o+m<=cur.size/\∀i n,l[i]?=U n->cur[o+i]?=U (Θ Ψ n)
def OQ.nil(w B):OQ w B (Z8 Z 0 0) []:=⟨Z,0,rfl,.refl,by decide,λ_=>rfl,λad e=>by cases e⟩
def OQ.lt{w B s l}(h:OQ w B s l){g}(c:d6 s=U g):B<=g/\g<w/\∃b,w.heap[g]?=U (.cells b 3 (0,0)):=by
 obtain⟨a,m,rfl,_,_,_,h5⟩:=h;obtain _|ad:=a
 cases c
 cases c
 grind
def OQ.of_block{w w' B s l}(h:OQ w B s l)(c:∀g,d6 s=U g->w'.heap[g]?=w.heap[g]?):OQ w' B s l:=by obtain⟨a,m,rfl,d,h3,h4,h5⟩:=h;refine⟨a,m,rfl,d,h3,h4,λad e=>?_⟩;subst e;obtain⟨g,o,b,rfl,f,hb,r⟩:=h5 _ rfl;exact⟨g,o,b,rfl,f,(c g rfl).trans hb,r⟩
def OQ.below{w w' B s l}(h:OQ w B s l)(b:M w w w'):OQ w' B s l:=h.of_block λg a=>b.block g (h.lt a).2.1
def NE:prog.underlying 24=U (.slice 3):=se
def Wi{w:I}{bx:Nat}{n t fr}(b:w.heap[bx]?=U (ω #[Θ Ψ n] t fr)):∀j u,([Θ Ψ n])[j]?=U u->w ((bx:Yl).add j)=U u:=by
 intro j u a
 match j,a with
 |0,a=>cases a;simp[Γ,b,ZQ]
 |j+1,a=>simp at a
theorem Wj:∀l:List Int,(l.flatMap eP).length=l.length
 |[]=>rfl
 |a::l=>by rw[η,μ,Wj l];simp[eP];omega
def wF(w:I)(b o v):w.setCells b o [v]=w.setCell (b,o) v:=by rfl
def aB{w:I}{b:Nat}{a t fr}(h:w.heap[b]?=U (.cells a t fr))(i v):(w.setCell (b,i) v).heap[b]?=U (.cells (a.setIfInBounds i v) t fr):=by simp[ZD,Zm,h]
def wG{w ty}{B bx:Nat}{s l n t fr}(h:OQ w B s l)(L:w.heap[bx]?=U (ω #[Θ Ψ n] t fr))(hl:l.length<=1000000)(hB:B<=w):
 ∃s' w',(Z0 #[24,24] ty #[s,.slice bx 1 1]).run prog w=.ok s' w'/\OQ w' B s' (l++[n])/\w.grownBy w' (d6 s)/\(∀g,d6 s'=U g->d6 s=U g\/w.heap.size<=g)/\∃a' m',s'=.slice a' (l.length+1) m':=by
 obtain⟨i0,hi,C,q,F⟩:=ZM Dq;obtain⟨a,m,rfl,h2,h3,h4,h5⟩:=h;have d:=Wi L;have fin:∀f w',w'.ownsRow w 3 1 f (l.length+1) (l.flatMap eP++[Θ Ψ n]) ->OQ w' B f (l++[n])/\(∀g,d6 f=U g->w.heap.size<=g)/\∃a' m',f=.slice a' (l.length+1) m':=by
  intro f w' r1;obtain⟨g,S,rfl,hg1,hg2⟩:=r1.form (by omega);obtain⟨e,_⟩|⟨g',cap',G,e,r,hb,hle,W,z,O⟩:=r1.2
  cases e
  injection e with e1 e2 e3
  injection e1 with e1
  injection e1 with e1 _ _
  subst e1;subst e3;refine⟨⟨U (g:Nat),S,by simp,by simpa using hle,by unfold ZU at W;omega,⟨λe=>(by cases e),λad e=>?_⟩⟩,λg0 e=>(by cases e;exact r),_,_,rfl⟩;cases e
  refine⟨g,0,G,rfl,Nat.le_trans hB r,hb,by rw[Nat.zero_add,z,Nat.mul_one];exact Nat.le_refl _,λi x c=>?_⟩;have v:(l.flatMap eP++[Θ Ψ n]).length=l.length+1:=by rw[μ,Wj];rfl
  have E:(l.flatMap eP++[Θ Ψ n])[i]?=U (Θ Ψ x):=by have:=zn eP (λn=>Θ Ψ n) (λ_=>rfl) (l++[n]) i x c;rw[ZI]at this;simpa[eP]using this
  rw[<-O]at E;rw[Z4]at E;split at E
  rw[Nat.zero_add];simpa using E;cases E
 obtain _|ad:=a
 have T:=h4 rfl;subst T;have H:l=[]:=φ (by omega);subst H;obtain⟨f,w',b,r1,r2,_⟩:=Yu (P:=prog) w w 24 ty 3 i0 _ 1 8 se hi C q F rfl (by decide) (Z8 Z 0 0) 0 [] (ZC w _ 3 1) bx 1 1 [Θ Ψ n] rfl d (by simp[X6]) (by unfold ZU;omega) (by omega) .refl;obtain⟨q1,q2,X⟩:=fin f w' (by simpa using r1);exact⟨f,w',b,q1,r2,λg K=>.inr<|q2 g K,X⟩;obtain⟨g,o,G,rfl,r,hb,z,D⟩:=h5 _ rfl;have K:=(Ω.1 hb).1;by_cases p:l.length+1<=m
 have b:=run_append_room_cells (P:=prog) w 24 ty 3 i0 se hi g o l.length m bx 1 1 [Θ Ψ n] (by rw[q];rfl) d (by simp[X6]) p
  (λj A=>by rw[q];simp at A;subst A;simp[Γ,hb];omega)
  (λj A=>by simp[Z9,hb])
 rw[q,Nat.mul_one,wF]at b;refine⟨_,_,b,⟨U ((g:Nat),o),m,by simp,by simpa using p,h3,⟨λe=>(by cases e),λad e=>?_⟩⟩,⟨rfl,rfl,rfl,by simp[ZD],λk hk N=>ο _ _ _ _ λe=>N (by rw[e];rfl)⟩,λg0 hg0=>.inl hg0,_,_,rfl⟩;cases e
 refine⟨g,o,_,rfl,r,aB hb (o+l.length)<|Θ Ψ n,by simpa using z,λi x c=>?_⟩;obtain J|J:=Nat.lt_or_ge i l.length
 rw[YZ J]at c;rw[Yq (by omega)];exact D i x c;have hie:i=l.length:=by have:=(Ξ.1 c).1;simp at this;omega
 subst hie;simp at c;subst c;rw[Array.getElem?_setIfInBounds_self_of_lt (by omega)];have v:(l.flatMap eP).length=l.length*1:=by rw[Wj,Nat.mul_one]
 have y:∀j u,(l.flatMap eP)[j]?=U u->w ((((g:Nat),o):Yl).add j)=U u:=by
  intro j u A;have Q:j<l.length:=by have:=(Ξ.1 A).1;omega
  obtain⟨x,L⟩:=ot Q;rw[(zn eP (λn=>Θ Ψ n) (λ_=>rfl) l j x L)]at A;cases A
  have:=D j x L;unfold ZQ;split
  rename_i h0;subst h0;simpa[Γ,hb]using this;simpa[Γ,hb]using this
 obtain⟨f,w',b,r1,r2⟩:=Yr (P:=prog) w 24 ty 3 i0 _ 1 8 se hi C q F rfl (by decide) ((g:Nat),o) l.length m (l.flatMap eP) v y bx 1 1 [Θ Ψ n] rfl d (by omega) (by unfold ZU;omega) (by omega);obtain⟨q1,q2,X⟩:=fin f w' r1;exact⟨f,w',b,q1,⟨r2.os,r2.tape,r2.output,r2.size,λk hk _=>r2.block k hk<|by simp⟩,λg K=>.inr<|q2 g K,X⟩
def ow{P w ops rest o a Q}(e:o.guard=Z)(s x t)(f:o.op=.call {callee:=.builtin .append,args:=#[s,x],argTypes:=#[t,t]})(v v2)(hs:a.eval s=v)(k:a.eval x=v2)(b:υ->I->Prop)(d:∃c w',(Z0 #[t,t] o.type #[v,v2]).run P w=.ok c w'/\b c w')(h:∀c w',b c w'->ZN P ops Q rest (a.put o.dst c) w'):ZN P ops Q (o::rest) a w:=by refine X9 e λK j=>?_;obtain⟨c,w',i,g⟩:=d;unfold Zb YF;simp only[f,resolve,invoke,builtin,ZX,ZE,κ,YP,Zr,Yo,hs,k,i];exact j _ _<|h c w' g
def zS(w:I)(B bq:Nat)(s:υ)(l:List Int):Prop:=w.heap[bq]?=U (ω #[s] 305 (0,0))/\OQ w B s l
structure JY(w w':I)(bq bm:Nat)(s s':υ):Prop where
 os:w'.os=w.os
 tape:w'.tape=w.tape
 output:w'.output=w.output
 size:w.heap.size<=w'
 block:∀k,k<w.heap.size->k≠bq->k≠bm->d6 s≠U k->w'.heap[k]?=w.heap[k]?
 own:∀k,d6 s'=U k->d6 s=U k\/w.heap.size<=k
def JY.bK{w w':I}{bq bm s}(h:M w w w'):JY w w' bq bm s s:=⟨h.os,h.tape,h.output,h.size,λk a _ _ _=>h.block k a,λk e=>.inl e⟩
def JY.trans{w w' b bq bm s s' a}(h:JY w w' bq bm s s')(k:JY w' b bq bm s' a):JY w b bq bm s a:=
 ⟨k.os.trans h.os,k.tape.trans h.tape,k.output.trans h.output,Nat.le_trans h.size k.size,
   λi hi d c h3=>(k.block i (Nat.lt_of_lt_of_le hi h.size) d c (λe=>by obtain e|e:=h.own i e;exact h3 e;omega)).trans<|h.block i hi d c h3,
   λi e=>by
    obtain e|e:=k.own i e
    exact h.own i e;exact .inr (Nat.le_trans h.size e)⟩
def JY.below{w w' B bq bm s s' l}(h:JY w w' bq bm s s')(a:OQ w B s l)(d:B<=bq)(c:B<=bm)(f:B<=w):M B w w':=⟨h.os,h.tape,h.output,h.size,λk b=>h.block k (by omega) (by omega) (by omega) (λe=>by have:=(a.lt e).1;omega)⟩
def zS.ne{w B bq s cs l}(hb:w.heap[bq]?=U (.cells cs 305 (0,0)))(b:OQ w B s l):d6 s≠U bq:=λe=>by
 obtain⟨_,_,a,hc⟩:=b.lt e
 grind
section
variable{w w1:I}{B bq n0:Nat}{s s':υ}{l l':List Int}{o:Obj}
def pr(hb:w.heap[bq]?=U (ω #[s] 305 (0,0)))(c:OQ w B s l)(b:(w.alloc o).grownBy w1 (d6 s)):w1.heap[bq]?=U (ω #[s] 305 (0,0)):=by have a:=(Ω.1 hb).1;rw[b.block bq (by simp;omega) (Zx<|zS.ne hb c),ZW w o bq a];exact hb
def I4(hb:w.heap[bq]?=U (ω #[s] 305 (0,0)))(b:OQ w B s l)(a:(w.alloc o).grownBy w1 (d6 s)):w1 bq=U s:=by simp[Γ,pr hb b a]
def BO(hb:w.heap[bq]?=U (ω #[s] 305 (0,0)))(b:OQ w B s l)(a:(w.alloc o).grownBy w1 (d6 s)):w1.frozen? bq=R:=by simp[Z9,pr hb b a]
def Oj{bm}(hb:w.heap[bq]?=U (ω #[s] 305 (0,0)))(m:OQ w B s l)(f:OQ w1 B s' l')(a:(w.alloc o).grownBy w1 (d6 s))(p:∀g,d6 s'=U g->d6 s=U g\/(w.alloc o).heap.size<=g):
 ∃c,zS (w1.setCell ⟨bq,0,Z⟩ s') B bq c l'/\JY w (w1.setCell ⟨bq,0,Z⟩ s') bq bm s c:=by
 have b:=pr hb m a;have d:w.heap.size<=w1.heap.size:=by have:=a.size;simp at this;omega
 refine⟨s',⟨?_,f.of_block λg e=>ο _ _ _ _ λe2=>?_⟩,⟨a.os,a.tape,a.output,by simpa[ZD]using d,λk j i q n=>?_,λk e=>?_⟩⟩;rw[aB b];rfl;subst e2;exact zS.ne b f e;rw[ο _ _ _ _ i,a.block k (by simp;omega)<|Zx n,ZW w o k j];obtain h|h:=p k e
 ·exact .inl h
 right;simp at h;omega
end
def afd(w B bq bm s l n)(h:zS w B bq s l)(v:B<=w)(j:l.length<=1000000):
 ι prog 258 #[YT (U ⟨bq,0,Z⟩),Θ Ψ n] w λe w'=>e=.returned (.tuple #[])/\∃s',zS w' B bq s' (l++[n])/\JY w w' bq bm s s':=by
 obtain⟨hb,f⟩:=h;have g:=(Ω.1 hb).1;have b:=V f;obtain⟨a,m,rfl,r,h3,h4,h5⟩:=f;have c0:w bq=U (.slice a l.length m):=by simp[Γ,hb]
 have c:=V hb;clear h5 h4 hb
 go_enter (fU func258 rfl),ntmps258
 go_wp2_with (at_builtin;refine ow rfl _ _ 24 rfl (.slice a l.length m) (.slice w.heap.size 1 1) rfl rfl _ (wG (b.out.below<|af w _) (ξ w _) j (by simp;omega)) ?_;rintro q o ⟨i,d,k,t,x,rfl⟩;have u:=I4 c.out b.out d;have p:=BO c.out b.out d)
 go_end0;exact⟨rfl,Oj c.out b.out i d k⟩
end
section
variable{x:HV}{w a:I}{l:List HV}{k:Nat}{f:HV->HV}
def zF{row}(h:a.grownBy w row)(n):a.grownBy (w.drewN n) row:=⟨h.os,h.tape,h.output,h.size,h.block⟩
def zG{row}(h:a.grownBy w row)(o):a.grownBy (w.alloc o) row:=⟨h.os,h.tape,h.output,Nat.le_trans h.size<|by simp,λi hi b=>(ZW w o i<|Nat.lt_of_lt_of_le hi h.size).trans<|h.block i hi b⟩
def sz{g}(h:a.grownBy w (U g)){p}(c:p.block=g\/a.heap.size<=p.block)(u):a.grownBy (w.setCell p u) (U g):=
 ⟨h.os,h.tape,h.output,by simpa[ZD]using h.size,λi hi b=>(ο w p u i (by
   obtain c|c:=c
   grind
   omega)).trans (h.block i hi b)⟩
def jA.of_block{w' b}(h:jA w b l)(hb:w'.heap[b]?=w.heap[b]?):jA w' b l:=by obtain⟨d,a,c,e⟩:=h;exact⟨d,a,hb.trans c,e⟩
def jA.lt{b}(h:jA w b l):b<w.heap.size:=by obtain⟨d,c,a,e⟩:=h;exact(Ω.1 a).1
def IB(h:l[k]?=U x):((l.take k).map f++l.drop k).set k (f x)=(l.take<|k+1).map f++l.drop (k+1):=by
 have a:=(Ξ.1 h).1;have b:=(Ξ.1 h).2;have:k-((l.take k).map f).length=0:=by simp;omega
 rw[XT _ _ (by simp;omega),this,Zt a,Yv,bW h];simp
def IC(h:l[k]?=U x)(a:f x=x):(l.take k).map f++l.drop k=(l.take<|k+1).map f++l.drop (k+1):=by rw[Zt ((Ξ.1 h).1),bW h,((Ξ.1 h).2)];simp[a]
def Wa(h:l[k]?=U x):((l.take k).map f++l.drop k)[k]?=U x:=by grind
def uO(w B bs bm v so l order b)(u:OV w B v l)(hs:w.heap[bs]?=U (ω #[so,.map<|U bm] 112 (0,0)))(y:jA w bm order)(X:0<=b)(hf1:b<=1000000)(ho:order.length<=1000000)(hl:l.length<=1000000):
 ι prog 227 #[v,YT<|U ⟨bs,0,Z⟩,Θ Ψ b] w λe w'=>e=.returned (.tuple #[])/\OV w' B v (l.map<|E8 order b)/\w.grownBy w' v.ownBlock:=by
 have HV:=V u;have t:v.ownBlock≠U bs:=by
  intro e;obtain⟨_,⟨rfl,_⟩|⟨g,E,J,rfl,hB,D,_⟩⟩:=u;cases e
  cases e
  rw[D]at hs;cases hs
 have x:v.ownBlock≠U bm:=by
  intro e;obtain⟨es,clk,O,_⟩:=y;obtain⟨_,⟨rfl,_⟩|⟨g,E,J,rfl,hB,D,_⟩⟩:=u;cases e
  cases e
  rw[D]at O;cases O
 have A:=(Ω.1 hs).1;have C:=y.lt;obtain⟨a,m,G,hm1,F,P⟩:=aF u;unfold ZU at F;have HA:=V P;have K:=V t;have H:=V x;have HS:=V hs;have T:=V y;clear P t x hs y u;subst G
 go_enter (fU func227 rfl),ntmps227
 go_wp2
 go_loopw [12] (λi wr=>∃k:Nat,k<=l.length/\i=Θ Ψ k/\OV wr B (.slice a l.length m) ((l.take k).map (E8 order b)++l.drop k)/\w.grownBy wr (X5<|.slice a l.length m)) (λi _=>l.length-(intOf i).toNat)
 case atStart=>exact⟨0,Nat.zero_le _,rfl,by simpa using HV.out,Zw _ _⟩
 case round=>
  obtain⟨k,hk,rfl,c,h⟩:=hrel;by_cases z:k<l.length
  ·obtain⟨g,rfl,_⟩:=HA.out (by omega);obtain⟨p,q,e1⟩:=ep z;have hsz:=h.size;have n:((l.take k).map (E8 order b)++l.drop k).length=l.length:=by simp;omega
   have j:=c;rw[<-n]at j;obtain⟨c1,c2,o,W,hgl⟩:=OV.at_ c<|Wa e1;have f1:=o<|k*2;have f2:=o<|k*2+1;have S:wr.cell? ⟨bs,1,Z⟩=U (.map<|U bm):=by have:=(h.block bs A<|Zx K.out).trans HS.out;simp[Γ,this]
   have s:=T.out.of_block<|h.block bm C<|Zx H.out;have f:=λnq=>fP (w:=(wr.alloc<|ω #[Θ Ψ p,Θ Ψ q] 50).drewN nq) (p,q)<|s.of_block<|ZW wr _ bm<|by omega
   have N:bs<wr.heap.size:=by omega
   have Q:=V e1;have HO:=V c;clear j o e1 s n c;unfold eB at f;dsimp only at f;by_cases r:(p,q)∈order
   ·simp only[r,if_true,decide_true]at f;have L:=Za r;have d:E8 order b (p,q)=(4,b+(order.idxOf (p,q):Nat)):=by simp[E8,r]
    have HR:=V d;clear d r;generalize order.idxOf (p,q)=ix at f L HR
    go_wp2
    go_quiet (fail)
    clear f
    go_wp2
    refine⟨⟨k+1,by omega,by go_num,?_,?_⟩,by simp[intOf];omega⟩;rw[<-IB Q.out,HR.out];exact((HO.out.alloc _).below<|hU _ _ _).set (by simp;omega);show w.grownBy _ (U g);exact sz (p:=⟨g,k*2+1,Z⟩) (sz (p:=⟨g,k*2,Z⟩) (zF (zG h _) _) (.inl rfl) _) (.inl rfl) _
   ·simp only[r,if_false,decide_false]at f;have d:E8 order b (p,q)=(p,q):=by simp[E8,r]
    have HR:=V d;clear d r
    go_wp2
    go_quiet (fail)
    clear f
    go_wp2
    exact⟨⟨k+1,by omega,by go_num,by rw[<-IC Q.out HR.out];exact(HO.out.alloc _).below<|hU _ _ _,zF (zG h _) _⟩,by simp[intOf];omega⟩
  ·go_wp2
   go_end0;refine⟨rfl,?_,h⟩;rw[θ (by omega),YJ<|by omega,List.append_nil]at c;exact c
end
section
def bS(w:I)(B bs bm:Nat)(so:υ)(l:List HV):Prop:=B<=bs/\B<=bm/\w.heap[bs]?=U (ω #[so,.map<|U bm] 112 (0,0))/\OV w B so l/\jA w bm l
structure cz(w w':I)(bs bm:Nat)(so so':υ):Prop where
 os:w'.os=w.os
 tape:w'.tape=w.tape
 output:w'.output=w.output
 size:w.heap.size<=w'
 block:∀k,k<w.heap.size->k≠bs->k≠bm->so.ownBlock≠U k->w'.heap[k]?=w.heap[k]?
 own:∀k,so'.ownBlock=U k->so.ownBlock=U k\/w.heap.size<=k
section
variable{w w' w'':I}{B bs bm:Nat}{so so' ae1:υ}{l:List HV}
def cz.bK(h:M w w w'):cz w w' bs bm so so:=⟨h.os,h.tape,h.output,h.size,λk a _ _ _=>h.block k a,λk e=>.inl e⟩
def cz.refl(w):cz w w bs bm so so:=.bK<|Δ _ _
def cz.trans(h:cz w w' bs bm so so')(k:cz w' w'' bs bm so' ae1):cz w w'' bs bm so ae1:=
 ⟨k.os.trans h.os,k.tape.trans h.tape,k.output.trans h.output,Nat.le_trans h.size k.size,
   λi hi a b h3=>(k.block i (Nat.lt_of_lt_of_le hi h.size) a b (λe=>by
    obtain e|e:=h.own i e
    grind
    omega)).trans (h.block i hi a b h3),
   λi e=>by
    obtain e|e:=k.own i e
    exact h.own i e;exact .inr (Nat.le_trans h.size e)⟩
def cz.below(h:cz w w' bs bm so so')(hs:bS w B bs bm so l)(b:B<=w):M B w w':=⟨h.os,h.tape,h.output,h.size,λk a=>h.block k (by omega) (by have:=hs.1;omega) (by have:=hs.2.1;omega) (λe=>by have:=(hs.2.2.2.1.lt k e).1;omega)⟩
def cz.cell(h:cz w w' bs bm so so'){a:Yl}(c:a.block<w)(b:a.block≠bs)(d:a.block≠bm)(h3:so.ownBlock≠U a.block):w' a=w a:=World.cell?_of_block<|h.block a.block c b d h3
def bS.below(h:bS w B bs bm so l)(a:M w w w'):bS w' B bs bm so l:=⟨h.1,h.2.1,(a.block bs (Ω.1 h.2.2.1).1).trans h.2.2.1,h.2.2.2.1.below a,h.2.2.2.2.of_block<|a.block bm h.2.2.2.2.lt⟩
def bS.Q4(h:bS w B bs bm so l):bs<w/\bm<w:=⟨(Ω.1 h.2.2.1).1,h.2.2.2.2.lt⟩
def wm(k bs bm:Nat)(so:υ):Prop:=k≠bs/\k≠bm/\so.ownBlock≠U k
def bS.free(h:bS w B bs bm so l){k a t fr}(b:w.heap[k]?=U (.cells a t fr))(o:t≠112)(f:t≠50):wm k bs bm so:=by
 obtain⟨_,_,hb,d,p,i,n,_⟩:=h;refine⟨λe=>?_,λe=>?_,λe=>?_⟩
 grind
 grind
 obtain⟨_,⟨rfl,_⟩|⟨g,j,c,rfl,q,m,_⟩⟩:=d
 ·cases e
 cases e;rw[m]at b;cases b;exact f rfl
def bS.low(h:bS w B bs bm so l){k}(a:k<B):wm k bs bm so:=⟨λe=>by have:=h.1;omega,λe=>by have:=h.2.1;omega,λe=>by have:=(h.2.2.2.1.lt k e).1;omega⟩
end
def ID(w B bs bm so l p q)(hs:bS w B bs bm so l)(g:(p,q)∈l):
 ι prog 197 #[.pointer bs,.agg #[Θ Ψ p,Θ Ψ q]] w λe w'=>(∃i,e=.returned (Θ Ψ i))/\(∃d,bS w' B bs bm d (meet l (p,q))/\cz w w' bs bm so d):=by
 have c:meet l (p,q)=l:=by unfold meet;rw[if_pos (by simpa using g)]
 rw[c];have m:=V hs;obtain⟨o,j,hb,k,f⟩:=hs;have h:=(Ω.1 hb).1;have hc:w (bs,1)=U (.map<|U bm):=by simp[Γ,hb]
 have a:=λnq=>fP (w:=(w.alloc<|ω #[Θ Ψ p,Θ Ψ q] 50).drewN nq) (p,q)<|f.of_block<|ZW w _ bm f.lt;unfold eB at a;simp only[g,if_true,decide_true]at a;clear hb k f g c;generalize l.idxOf (p,q)=n at a
 go_enter (fU func197 rfl),ntmps197
 go_wp2
 go_quiet (fail)
 clear a
 go_wp2
 go_ret;have b:M w w ((w.alloc<|ω #[Θ Ψ p,Θ Ψ q] 50).drewN nq):=bl (af w _) _;exact⟨⟨_,rfl⟩,_,m.out.below b,cz.bK b⟩
end
section
variable{w:I}
def heap_setCell_same{b i:Nat}{a t fr v}(h:w.heap[b]?=U (.cells a t fr)):(w.setCell (b,i) v).heap[b]?=U (.cells (a.setIfInBounds i v) t fr):=by simp[ZD,Zm,h]
def ae2{a b c:I}{row}(h:M a a b)(k:b.grownBy c row):a.grownBy c row:=⟨k.os.trans h.os,k.tape.trans h.tape,k.output.trans h.output,Nat.le_trans h.size k.size,λi hi d=>(k.block i (Nat.lt_of_lt_of_le hi h.size) d).trans<|h.block i hi⟩
def bS.ne{B bs bm so l}(h:bS w B bs bm so l):bs≠bm/\so.ownBlock≠U bs/\so.ownBlock≠U bm:=by
 obtain⟨_,_,hb,f,k,i,d,_⟩:=h;refine⟨λe=>?_,λe=>?_,λe=>?_⟩
 grind
 obtain⟨_,⟨rfl,_⟩|⟨g,b,a,rfl,j,c,_⟩⟩:=f
 ·cases e
 cases e;rw[c]at hb;cases hb
 obtain⟨_,⟨rfl,_⟩|⟨g,b,a,rfl,j,c,_⟩⟩:=f
 ·cases e
 cases e;rw[c]at d;cases d
def IE{w2 f w4}{B bs bm b a:Nat}{so l x}(hs:bS w B bs bm so l)(c:M w w w2)(h3:w2.grownBy f (U bm))(s:jA f bm (l++[x]))(h4:f.grownBy w4 so.ownBlock)(r:OV w4 B (.slice b (l.length+1) a) (l++[x]))(d:so.ownBlock=U b\/f.heap.size<=b):
 bS (w4.setCell bs<|.slice b (l.length+1) a) B bs bm (.slice b (l.length+1) a) (l++[x])/\
 cz w (w4.setCell bs<|.slice b (l.length+1) a) bs bm so (.slice b (l.length+1) a):=by
 obtain⟨h,j,n⟩:=hs.ne;obtain⟨u,C⟩:=hs.Q4;have z:=c.size;have z3:=h3.size;have A:=h4.size;have y:b≠bs:=by
  obtain e|e:=d
  rintro rfl;exact j e;omega
 refine⟨⟨hs.1,hs.2.1,?_,?_,?_⟩,⟨?_,?_,?_,?_,?_,?_⟩⟩;have:=heap_setCell_same (i:=0) (v:=.slice b (l.length+1) a)<|(h4.block bs (by omega)<|Zx j).trans<|(h3.block bs (by omega) λe=>h<|Z1 e).trans<|(c.block bs u).trans hs.2.2.1;simpa using this;refine aS r λg o=>ο _ _ _ _ ?_;cases o
 exact y;exact(s.of_block<|h4.block bm (by omega)<|Zx n).of_block<|ο _ _ _ _<|Zx h;exact h4.os.trans<|h3.os.trans c.os;exact h4.tape.trans<|h3.tape.trans c.tape;exact h4.output.trans<|h3.output.trans c.output;simp[ZD];omega;intro k p m t q;refine(ο _ _ _ _ m).trans<|(h4.block k (by omega)<|Zx q).trans<|(h3.block k (by omega) λe=>t<|Z1 e).trans<|c.block k p;intro k e;cases e
 obtain e|e:=d
 exact .inl e;exact .inr (by dsimp only;omega)
def IF(w B bs bm so l p q)(hs:bS w B bs bm so l)(K:(p,q)∉l)(hl:l.length<=1000000):
 ι prog 197 #[.pointer bs,.agg #[p,q]] w λe w'=>(∃i,e=.returned (Θ Ψ i))/\(∃J,bS w' B bs bm J (meet l (p,q))/\cz w w' bs bm so J):=by
 have F:meet l (p,q)=l++[(p,q)]:=by unfold meet;rw[if_neg (by simpa using K)]
 rw[F];have W:=V hs;obtain⟨hB,hBm,hb,ho,hm⟩:=hs;obtain⟨i0,hi,z,D,E⟩:=ZM nh;have s:=(Ω.1 hb).1;have H:w (bs,1)=U (.map<|U bm):=by simp[Γ,hb]
 have L:=hm.lt;obtain⟨a,m,G,hm1,hm2,_⟩:=aF ho;have u:w bs=U (.slice a l.length m):=by simp[Γ,hb,G]
 have x:=λnq=>fP (w:=(w.alloc<|ω #[p,q] 50).drewN nq) (p,q)<|hm.of_block<|ZW w _ bm L;unfold eB at x;simp only[K,if_false,decide_false]at x;have HI:=V hi;have X:=V z;have HZ1:=V D;have P:=V E;have HX:=V K;subst G;clear hb ho hm K F hi z D E
 go_enter (fU func197 rfl),ntmps197
 go_wp2
 go_quiet (fail)
 clear x;have c:M w w ((w.alloc<|ω #[p,q] 50).drewN nq):=bl (af w _) _;have n:((w.alloc<|ω #[p,q] 50).drewN nq) w.heap.size=U (Θ Ψ p):=by go_simp
 have k:((w.alloc<|ω #[p,q] 50).drewN nq) (w.heap.size,1)=U (Θ Ψ q):=by go_simp
 have d:w.heap.size<((w.alloc<|ω #[p,q] 50).drewN nq).heap.size:=by simp
 generalize (w.alloc _).drewN nq=y at c n k d⊢;have k0:=(zp c bs 0 s).trans u;have k1:=(zp c bs 1 s).trans H
 go_wp2_with fail
 go_still_tail 6,(by kernel_rfl)
 change ZN _ _ _ _ _ (World.drew _)
 clear k0 k1;replace c:=c.drew;replace n:y.drew.cell? w.heap.size=U (Θ Ψ p):=n;replace k:y.drew.cell? (w.heap.size,1)=U (Θ Ψ q):=k;replace d:w.heap.size<y.drew.heap.size:=d;generalize y.drew=y at c n k d⊢;have h:=W.out.below c;obtain⟨b,o,C,f⟩:=sx (p,q) h.2.2.2.2 HX.out;unfold eB at o;dsimp only at o;have O:w.heap.size≠bm:=by omega
 obtain⟨n1,n2,n3⟩:=h.ne;have g0:=(f.cell_far bs h.Q4.1 λe=>n1<|Z1 e).trans<|(zp c bs 0 s).trans u;have gf:b.frozen? bs=R:=(f.frozen_far bs h.Q4.1 λe=>n1<|Z1 e).trans (by simp[Z9,h.2.2.1]);have g1:b w.heap.size=U (Θ Ψ p):=(f.cell_far w.heap.size d λe=>O<|Z1 e).trans n;have g2:b (w.heap.size,1)=U (Θ Ψ q):=(f.cell_far (w.heap.size,1) d λe=>O<|Z1 e).trans k;have A:OV b B (.slice a l.length m) l:=aS h.2.2.2.1 λg hg=>f.block g (h.2.2.2.1.lt g hg).2 λe=>n3<|by rw[hg,Z1 e]
 have hz3:=f.size;have hBz:B<=w:=by omega
 have r:bs<b:=by omega
 have HO:=V A;have HN:=V n2;have H5:=V (λe=>by have:=(W.out.2.2.2.1.lt _ e.symm).2;omega:U w.heap.size≠X5 (.slice a l.length m));have HB:=V (⟨c,f,C⟩:M w w y/\y.grownBy b (U bm)/\jA b bm (l++[(p,q)]));clear u H c n k h C f n1 n2 n3 A O
 go_wp2_with fail
 clear o
 go_region_law
  ((refine step_append_lies _ (by rfl) _ _ _ (by rfl) B 50 i0 _ 2 16 lx HI.out X.out HZ1.out P.out rfl (by omega) (.slice a l.length m) l.length (l.flatMap lU) (by rfl) (HO.out.below (by first|exact(af b _).drew|exact(af b _)|exact((Δ _ b).drew.alloc .refl _)|exact((Δ _ b).drew.alloc .refl _).drew))
     b.heap.size 1 1 [Θ Ψ p,q] (by rfl) (by rfl) (World.news_of_block (cs:=#[p,q]) (t:=50) (fr:=(0,0))<|ξ b _) (by simp[X6])
     (by omega) (by unfold ZU;omega) (by omega) (by simp;omega) (b.heap.size+1) (by simp) ?_;intro gg Q w4 v j N hlt;have gf4:w4.frozen? bs=R:=(j.frozen_far bs (by simp;omega) (Zx HN.out)).trans ((((af b _).drew).frozen (p:=⟨bs,0,Z⟩) r).trans gf);have gc4:w4 bs=U (.slice a l.length m):=(j.cell_far bs (by simp;omega) (Zx HN.out)).trans ((((af b _).drew).cell (p:=⟨bs,0,Z⟩) r).trans g0)))
 all_goals go_wp2
 all_goals
  go_ret;obtain⟨b2,b3,m3⟩:=HB.out;have T:b.grownBy w4 (X5<|.slice a l.length m):=ae2 (by first|exact(af b _).drew|exact(af b _)|exact((Δ _ b).drew.alloc .refl _)|exact((Δ _ b).drew.alloc .refl _).drew) j;have S:OV w4 B (.slice gg (l.length+1) Q) (l++[(p,q)]):=by unfold OV;rw[ZI,μ];exact v
  obtain⟨e1,e2⟩:=IE W.out b2 b3 m3 T S (by obtain e|e:=N;exact .inl e;exact .inr<|by omega);exact⟨⟨_,rfl⟩,_,e1,e2⟩
end
def IG(w B bs bm so l p q)(hs:bS w B bs bm so l)(c:l.length<=1000000):
 ι prog 197 #[.pointer bs,.agg #[Θ Ψ p,Θ Ψ q]] w λe w'=>(∃i,e=.returned (Θ Ψ i))/\(∃a,bS w' B bs bm a (meet l (p,q))/\cz w w' bs bm so a):=by
 by_cases b:(p,q)∈l
 exact ID w B bs bm so l p q hs b;exact IF w B bs bm so l p q hs b c
def IH(l v):(meet l v).length<=l.length+1:=by unfold meet;split<;>simp
def lW(a):∀vs l,(visit a l vs).length<=l.length+vs.length
 |[],l=>by simp[visit]
 |v::vs,l=>by have:=lW a vs (if a v then meet l v else l);have b:=IH l v;simp only[visit,List.foldl_cons]at this⊢;split at this<;>split<;>simp_all<;>omega
def CM(a vs l v):visit a l (vs++[v])=if a v then meet (visit a l vs) v else visit a l vs:=by simp[visit]
def wn(f:Nat)(mv:HV->Bool):Prop:=(f=151/\mv=dy)\/(f=168/\mv=co)
def Q5(v:υ)(bs bm:Nat)(so:υ):Prop:=∀a n m,v=Z8 (U a) n m->0<n->wm a.block bs bm so
def wo(f F)(P:wn f F)(w)(B bs bm A E:Nat)(so v l vs)(hs:bS w B bs bm so l)(hv:eI w v vs)(hf:Q5 v bs bm so)(Q:w A=U (.func (.func f) #[] #[]))(f1:wm A bs bm so)(N:w E=U (.pointer bs))(f2:wm E bs bm so)(hl:l.length+vs.length<=1000000):
 ι prog 196 #[v,.pointer A,.pointer E] w λe w'=>e=.returned (.tuple #[])/\(∃d,bS w' B bs bm d (visit F l vs)/\cz w w' bs bm so d):=by
 have HV:=V hv;have HF:=V hf;have S:=V f1;have O:=V f2;obtain⟨a,m,rfl,hm,hm2,ha⟩:=hv;have X:=az Q;have T:=az N;have H1:=V Q;have H2:=V N;have HA:=V ha;clear Q N ha hf f1 f2
 go_enter (fU func196 rfl),ntmps196
 go_wp2
 go_loopw [8] (λi wr=>∃k:Nat,k<=vs.length/\i=Θ Ψ k/\∃d,bS wr B bs bm d (visit F l<|vs.take k)/\cz w wr bs bm so d) (λi _=>vs.length-(intOf i).toNat)
 case atStart=>exact⟨0,Nat.zero_le _,rfl,so,hs,cz.refl _⟩
 case round=>
  obtain⟨k,hk,rfl,d,j,g⟩:=hrel;by_cases L:k<vs.length
  ·obtain⟨ba,oa,rfl,D,C⟩:=HA.out (by omega);obtain⟨p,q,e1⟩:=ep L;have hz:=g.size;have fr:=HF.out _ _ _ rfl (by omega);obtain⟨d1,d2⟩:=C k p q e1;have c1:=(g.cell (a:=⟨ba,oa+k*2,Z⟩) D fr.1 fr.2.1 fr.2.2).trans d1;have c2:=(g.cell (a:=⟨ba,oa+k*2+1,Z⟩) D fr.1 fr.2.1 fr.2.2).trans d2;have H:=(g.cell (a:=⟨A,0,Z⟩) X S.out.1 S.out.2.1 S.out.2.2).trans H1.out;have z:=(g.cell (a:=⟨E,0,Z⟩) T O.out.1 O.out.2.1 O.out.2.2).trans H2.out;have hvl:=lW F (vs.take k) l;have am0:(vs.take k).length<=k:=Yx _ _;have hb1':A<wr:=by omega
   have o:E<wr:=by omega
   have K:=V e1;have J:=V j;have G:=V g;have FR:=V fr;clear C e1 j g fr d1 d2;have n:(visit F l<|vs.take k).length<=1000000:=by omega
   obtain⟨rfl,rfl⟩|⟨rfl,rfl⟩:=P
   ·by_cases y:dy (p,q)=Y
    ·have x:=V y
     go_wp2_with fail
     refine(wd _ (p,q)).mono ?_;rintro e h ⟨rfl,c⟩;have b:=(af _ _).trans<|c.mono<|by simp
     have n1:h wr.heap.size=U (Θ Ψ p):=(c.cell (p:=⟨wr.heap.size,0,Z⟩)<|by simp).trans (by go_simp);have n2:h (wr.heap.size,1)=U (Θ Ψ q):=(c.cell (p:=⟨wr.heap.size,1,Z⟩)<|by simp).trans (by go_simp);have g3:=cG b z o;have W:=b.size;clear c1 c2 H z
     go_wp2_with fail
     refine(IG _ B bs bm d _ p q (J.out.below b) n).mono ?_;rintro e w4 ⟨⟨ix,rfl⟩,r,s,u⟩
     go_wp2_with fail
     exact⟨⟨k+1,by omega,by go_num,r,by rw[bW K.out,CM,if_pos x.out];exact s,G.out.trans<|(cz.bK b).trans u⟩,by simp[intOf];omega⟩
    ·have t:dy (p,q)=R:=by simpa using y
     have x:=V t;clear y
     go_wp2_with fail
     refine(wd _ (p,q)).mono ?_;rintro e h ⟨rfl,c⟩;have b:M wr wr h:=(af _ _).trans<|c.mono<|by simp
     clear c1 c2 H z
     go_wp2_with fail
     exact⟨⟨k+1,by omega,by go_num,d,by rw[bW K.out,CM,if_neg (by rw[x.out];decide)];exact J.out.below b,G.out.trans<|cz.bK b⟩,by simp[intOf];omega⟩
   ·by_cases y:co (p,q)=Y
    ·have x:=V y
     go_wp2_with fail
     refine(sd _ (p,q)).mono ?_;rintro e h ⟨rfl,c⟩;have b:M wr wr h:=(af _ _).trans<|c.mono<|by simp
     have n1:h wr.heap.size=U (Θ Ψ p):=(c.cell (p:=⟨wr.heap.size,0,Z⟩)<|by simp).trans (by go_simp);have n2:h (wr.heap.size,1)=U (Θ Ψ q):=(c.cell (p:=⟨wr.heap.size,1,Z⟩)<|by simp).trans (by go_simp);have g3:=cG b z o;have W:=b.size;clear c1 c2 H z
     go_wp2_with fail
     refine(IG _ B bs bm d _ p q (J.out.below b) n).mono ?_;rintro e w4 ⟨⟨ix,rfl⟩,r,s,u⟩
     go_wp2_with fail
     exact⟨⟨k+1,by omega,by go_num,r,by rw[bW K.out,CM,if_pos x.out];exact s,G.out.trans<|(cz.bK b).trans u⟩,by simp[intOf];omega⟩
    ·have t:co (p,q)=R:=by simpa using y
     have x:=V t;clear y
     go_wp2_with fail
     refine(sd _ (p,q)).mono ?_;rintro e h ⟨rfl,c⟩;have b:M wr wr h:=(af _ _).trans<|c.mono<|by simp
     clear c1 c2 H z
     go_wp2_with fail
     exact⟨⟨k+1,by omega,by go_num,d,by rw[bW K.out,CM,if_neg (by rw[x.out];decide)];exact J.out.below b,G.out.trans<|cz.bK b⟩,by simp[intOf];omega⟩
  ·go_wp2
   go_end0;rw[θ (by omega)]at j;exact⟨rfl,d,j,g⟩
end Kn
namespace Kn
open Go Go.RowKit Go.Shelf Md
section
attribute [local go_sem] Yc
def tb(B:Nat)(W W':I):Prop:=M B W W'/\∀(k:Nat) cur fr,W.heap[k]?=U (.cells cur 23 fr) ->W'.heap[k]?=U (.cells cur 23 fr)
def tb.trans{B X a b}(h:tb B X a)(k:tb B a b):tb B X b:=⟨h.1.trans k.1,λi c fr e=>k.2 i c fr<|h.2 i c fr e⟩
def tb.refl(B X):tb B X X:=⟨Δ _ _,λ_ _ _ e=>e⟩
def tb.book{B:Nat}{w:I}(d:B<=w)(W l o a)(c:w.heap.size<=l)(h:W.heap[l]?=U o)(hc:o.isCells=R)(hw:o.isWalk=R):tb B W (W.putObj l a):=⟨belowK_b d W l o a c h hc hw,λk b fr e=>(World.putObj_heap_other (by rintro rfl;rw[h]at e;cases e;cases hc)).trans e⟩
def tb.alloc{B X a}(h:tb B X a)(c:B<=a)(o):tb B X (a.alloc o):=⟨h.1.alloc c o,λk b fr e=>(ZW a o k (Ω.1<|h.2 k b fr e).1).trans<|h.2 k b fr e⟩
def N8{a w:I}{row}(h:a.grownBy w row):a.grownBy w.drew row:=⟨h.os,h.tape,h.output,h.size,h.block⟩
def II(w)(b:Nat):ι prog 198 #[.pointer b] w λe w'=>e=.returned (.func (.func 231) #[] #[.pointer w.heap.size])/\w'=w.alloc (ω #[.pointer b] 104):=by
 go_enter (fU func198 rfl),ntmps198
 go_wp2
 go_ret;exact⟨rfl,rfl⟩
def three(g:GH):List (List HV):=[g.roots,g.done,g.aA]
def Dx:∀(b:List (List HV)) k l j,b[k]?=U l->j<l.length->((b.take k).flatten++l.take j).length<b.flatten.length
 |[],k,l,j,h,_=>by simp at h
 |a::b,0,l,j,h,hj=>by grind
 |a::b,k+1,l,j,h,hj=>by
  have:=Dx b k l j (by simpa using h) hj
  grind
def uP(g):(three g).flatten=cJ g:=by simp[three,cJ]
def ET{a:List (List HV)}{k l}(h:a[k]?=U l):(a.take<|k+1).flatten=(a.take k).flatten++l.take l.length:=by rw[Yp,h];simp
def EU(n)(hn:1<=n)(l b bg:Nat)(g)(J Jx:List HV->I->Prop)(W0 W:I)(hJ:AbidesFrom W J) (hY:∀a x W1,J a W1->a.length<(cJ g).length->YieldAt Fence.wide (n-1) prog l #[eB x] W1 λe z=>
 (e=.returned (.bool Y)/\J (a++[x]) z/\tb W0 W1 z)\/(e=.returned (.bool R)/\Jx (a++[x]) z)) (hbg:W bg=U (.pointer b)) (hg:mi W0 b g) (A:M W0 W0 W) (h0:J [] W):
 CallsIn Fence.wide n prog 231 #[.func (.yield l) #[] #[],.pointer bg] W λe z=>(∃v,e=.returned v)/\
  ((∃ys,ys=cJ g/\J ys z)\/(∃a,True/\Jx a z)):=by
 obtain⟨n0,o0,r0,wi,d0,m0,c0,c1,c2,c3,c4,c5,_,_,h3,h4,h5,_⟩:=hg;have H3:=V h3;have H4:=V h4;have H5:=V h5;obtain⟨ar,f,rfl,_,_,_⟩:=h3;obtain⟨aw,o,rfl,_,_,_⟩:=h4;obtain⟨ad,m,rfl,_,_,_⟩:=h5;have hb:=az c0;have f2:=cG A c2 hb;have f3:=cG A c3 hb;have f4:=cG A c4 hb;have ard:=az hbg;have hb':=Nat.lt_of_lt_of_le hb A.size;have HY:=V hY;clear hY c0 c1 c2 c3 c4 c5;refine callsIn_of_wp (fU func231 rfl) rfl trivial ?_ rfl;simp only[ntmps231,YX,Z2,ZJ,Nat.reduceAdd,Nat.reduceSub,YH,YG,Yn,YA,Ye,Yg]
 gi_wp2_with fail
 refine wpIn_wide.2 ?_
 go_region_held3 (λT=>T bg=U (.pointer b)/\T (b,2)=U (.slice ar g.roots.length f)/\T (b,3)=U (.slice aw g.aA.length o)/\T (b,4)=U (.slice ad g.done.length m)) (go_keep) (fail)
 gi_wp2_with fail
 have hz0:=A.size;have F:tb W0 W ((W.alloc<|ω #[.slice ar g.roots.length f,.slice ad g.done.length m,.slice aw g.aA.length o] 23).drew):=by have:=(tb.refl W0 W).alloc hz0<|ω #[.slice ar g.roots.length f,.slice ad g.done.length m,.slice aw g.aA.length o] 23;exact⟨this.1.drew,this.2⟩
 have t:J [] ((W.alloc<|ω #[.slice ar g.roots.length f,.slice ad g.done.length m,.slice aw g.aA.length o] 23).drew):=hJ _ _ _ Z h0 (N8<|Ze W _ Z) (λr e=>by cases e);have hx:((W.alloc<|ω #[.slice ar g.roots.length f,.slice ad g.done.length m,.slice aw g.aA.length o] 23).drew).heap[W.heap.size]?=U (ω #[.slice ar g.roots.length f,.slice ad g.done.length m,.slice aw g.aA.length o] 23 (0,0)):=ξ W _;have E:W.heap.size<((W.alloc<|ω #[.slice ar g.roots.length f,.slice ad g.done.length m,.slice aw g.aA.length o] 23).drew).heap.size:=by simp
 generalize (W.alloc _).drew=W9 at F t hx E⊢;have hL:∀k:Nat,k<3->∃ax mx l,(three g)[k]?=U l/\(∀X:I,X.heap[W.heap.size]?=U (ω #[.slice ar g.roots.length f,.slice ad g.done.length m,.slice aw g.aA.length o] 23 (0,0)) ->X (W.heap.size,k)=U (.slice ax l.length mx))/\eI W0 (.slice ax l.length mx) l:=by
  intro k hk
  match k,hk with
  |0,_=>exact⟨ar,f,g.roots,rfl,λX e=>by simp[Γ,e],H3.out⟩
  |1,_=>exact⟨ad,m,g.done,rfl,λX e=>by simp[Γ,e],H5.out⟩
  |2,_=>exact⟨aw,o,g.aA,rfl,λX e=>by simp[Γ,e],H4.out⟩
 have HL:=V hL;have HX:=V hx;clear hL hx f2 f3 f4
 gi_loopw [24] (λi wr=>∃k:Nat,k<=3/\i=Θ Ψ k/\J ((three g).take k).flatten wr/\tb W0 W9 wr) (λi _=>3-(intOf i).toNat)
 case atStart=>exact⟨0,by omega,rfl,by simpa using t,tb.refl _ _⟩
 case round=>
  obtain⟨k,hk,rfl,y,u⟩:=hrel;clear t;by_cases D:k<3
  ·obtain⟨ax,mx,P,C,B,hvx⟩:=HL.out k D;have hcw:=B wr<|u.2 _ _ _ HX.out;obtain⟨ax',mx',he,hmx,N4,H⟩:=hvx;cases he
   have HA:=V H;have G:=V C;have N:=Nat.lt_of_lt_of_le E u.1.size;have w:decide ((k:Int)<3)=Y:=by simp;omega
   clear B H C
   gi_wp2_with fail
   clear w
   gi_loopw [30] (λi wr=>∃j:Nat,j<=P.length/\i=Θ Ψ j/\J (((three g).take k).flatten++P.take j) wr/\tb W0 W9 wr) (λi _=>P.length-(intOf i).toNat)
   case atStart=>exact⟨0,by omega,rfl,by simpa using y,u⟩
   case round=>
    obtain⟨j,hj,rfl,h,s⟩:=hrel;clear y hcw N;by_cases d:j<P.length
    ·obtain⟨ba,oa,e,hba,O⟩:=HA.out (by omega);cases e
     obtain⟨p,q,e1⟩:=ep d;have Q:=A.trans<|F.1.trans s.1;obtain⟨d1,d2⟩:=(O.below Q hba) j p q e1;have c:=Dx _ _ _ _ G.out d;rw[uP]at c;have L:=hJ _ _ (wr.alloc<|ω #[Θ Ψ p,Θ Ψ q] 50) Z h (Ze wr _ Z) (λr e=>by cases e);obtain⟨fn,tmps,S,body,hy,hR⟩:=HY.out _ (p,q) _ L c;unfold eB at hy;dsimp only at hy;have E1:=V e1;have hsz:=Q.size;clear O e1 c L h
     gi_wp2_with fail
     refine hR.mono ?_;rintro e W3 (⟨rfl,hJ3,w⟩|⟨rfl,K⟩)
     ·gi_wp2_with fail
      go_roundw
      case rel=>exact⟨j+1,by omega,by go_num,by rw[bW E1.out,<-List.append_assoc];exact hJ3,(s.alloc hsz _).trans w⟩
      case measure=>simp[intOf];omega
     ·gi_wp2_with fail
      refine ZS (results_none rfl _ _ _) rfl ?_;exact⟨⟨_,rfl⟩,.inr ⟨_,trivial,K⟩⟩
    ·have hje:j=P.length:=by omega
     subst hje;rw[<-ET G.out]at h;clear d
     gi_wp2_with fail
     exact⟨⟨k+1,by omega,by go_num,h,s⟩,by simp[intOf];omega⟩
  ·have hke:k=3:=by omega
   subst hke;clear D
   gi_wp2_with fail
   go_end0;refine⟨⟨_,rfl⟩,.inl ⟨_,rfl,?_⟩⟩;rw[<-uP];exact y
def wu(n)(k:1<=n)(b c:Nat)(g)(w0 w:I)(hb:M w0 w0 w)(a:w c=U (.pointer b))(i:mi w0 b g):
 SeqStopsK Fence.wide n prog 231 #[.pointer c] (λx=>#[eB x]) (tb w0) (λe=>e=cJ g) (λ_=>True) (cJ g).length w:=λl J j W d h m f h0=>
 EU n k l b c g J j w0 W h f (cG d a<|az a) i (hb.trans<|d.mono hb.size) h0
end
end Kn
namespace Md
def j8:∀N (l:List Nat),l.Nodup->(∀x∈l,x<N) ->l.length<=N
 |0,l,_,h=>by
  obtain _|⟨a,l⟩:=l
  exact .refl;exact absurd (h a Zq)<|Nat.not_lt_zero _
 |N+1,l,hn,h=>by
  by_cases d:N∈l
  have c:=j8 N (l.erase N) (hn.erase N) λx b=>by grind
  grind
  ·have:=j8 N l hn λx b=>by grind
   omega
def zH(g:GH)(v:HV):Prop:=(v.1=3/\0<=v.2/\v.2<g.new.length)\/(v.1=4/\0<=v.2/\v.2<g.old.length)
def Wb(g:GH)(v:HV):Nat:=if v.1=3 then v.2.toNat else g.new.length+v.2.toNat
structure c9(g:GH)(mv:HV->Bool)(o:List HV):Prop where
 nodup:o.Nodup
 ok:∀v∈o,zH g v/\mv v=Y
def c9.len{g i o}(h:c9 g i o):o.length<=g.new.length+g.old.length:=by
 have:=j8 (g.new.length+g.old.length) (o.map<|Wb g) ?_ ?_;simpa using this;rw[List.Nodup,List.pairwise_map];refine h.nodup.imp_of_mem λ{a b} c hb d e=>d ?_;obtain⟨c,_⟩:=h.ok a c;obtain⟨hb,_⟩:=h.ok b hb;obtain⟨a1,p⟩:=a;obtain⟨n,q⟩:=b;unfold zH at c hb;unfold Wb at e
 grind
 intro x m;obtain⟨v,j,rfl⟩:=YK.1 m;obtain⟨f,_⟩:=h.ok v j;unfold zH at f;unfold Wb;obtain⟨e,l,k⟩|⟨e,l,k⟩:=f
 rw[if_pos e];omega;rw[if_neg (by omega)];omega
def c9.nil(g b):c9 g b []:=⟨List.nodup_nil,λv a=>by cases a⟩
def c9.meet{g:GH}{d:HV->Bool}{o:List HV}{v:HV}(h:c9 g d o)(i:zH g v)(f:d v=Y):c9 g d (meet o v):=by
 unfold Md.meet;split
 exact h;rename_i hc;refine⟨?_,λx c=>?_⟩;rw[YV];refine⟨h.nodup,by simp,λa j b hb e=>?_⟩
 grind
 obtain c|c:=Zf.1 c
 ·exact h.ok x c
 grind
def c9.visit{g:GH}{a:HV->Bool}:∀{vs:List HV} {o:List HV},c9 g a o->(∀v∈vs,a v=Y->zH g v) ->c9 g a (visit a o vs)
 |[],o,h,_=>h
 |v::vs,o,h,hv=>by
  have:Md.visit a o (v::vs)=Md.visit a (if a v then Md.meet o v else o) vs:=rfl;rw[this];refine c9.visit ?_ λx c=>hv x<|Zi _ c;split
  rename_i b;exact h.meet (hv v Zq b) b;exact h
def zI(g:GH)(v:HV):Prop:=co v=Y->zH g v
def pY{g v}(h:mh g v=0):zI g v:=by
 intro hc;obtain⟨k,n⟩:=v;unfold co at hc;unfold zH;simp at hc;obtain rfl|rfl:=hc
 simp[mh,eO]at h;omega;simp[mh,eO]at h;omega
def uQ(mv:HV->Bool):Prop:=mv=dy\/mv=co
def uQ.cell{mv}(h:uQ mv){v}(a:mv v=Y):co v=Y:=by
 obtain rfl|rfl:=h
 unfold dy at a;unfold co;rw[a];rfl;omega
def jB(g:GH):Prop:=∀c∈g.new++g.old,∀v∈c.2,zI g v
def j9{g v}(h:zH g v):cellAt g v∈g.new++g.old:=by
 unfold cellAt;obtain⟨e,a,b⟩|⟨e,a,b⟩:=h
 grind
 grind
def c9.round{g a o}{k:Nat}{v}(h:c9 g a o)(c:uQ a)(hc:jB g)(d:o[k]?=U v):c9 g a (Md.visit a o (cellAt g v).2):=h.visit λx e b=>hc _ (j9 (h.ok v<|ψ d).1) x e<|c.cell b
def c9.Dm{g:GH}{a:HV->Bool}(b:uQ a)(hc:jB g):∀(f k:Nat) {o:List HV},c9 g a o->c9 g a (Dm g a f k o)
 |0,k,o,h=>h
 |f+1,k,o,h=>by
  unfold Md.Dm;split
  exact h;rename_i v c;exact c9.Dm b hc f (k+1)<|h.round b hc c
def c9.bV{g:GH}{a:HV->Bool}{more:List HV}(b:uQ a)(hc:jB g)(hs:∀v∈cJ g,zI g v)(d:∀v∈more,zI g v):c9 g a (bV g a more):=c9.Dm b hc _ _ (((c9.nil g a).visit λv c e=>hs v c<|b.cell e).visit λv c e=>d v c<|b.cell e)
end Md
namespace Kn
open Go Go.RowKit Go.Shelf Md
section
attribute [local go_sem] Yc
structure RS(w W:I)(f:Nat)(so:υ)(l:List HV):Prop where
 scan:bS W w (w.heap.size+1+1) (w.heap.size+1) so l
 c1:W.heap[w.heap.size]?=U (ω #[.func (.func f) #[] #[]] 181 (0,0))
 c2:W.heap[w.heap.size+1+1+1]?=U (ω #[.pointer (w.heap.size+1+1:Nat)] 106 (0,0))
 cf:W.heap[w.heap.size+1+1+1+1]?=U (ω #[.func (.func 196) #[] #[.pointer w.heap.size,.pointer (w.heap.size+1+1+1:Nat)]] 232 (0,0))
 below:M w w W
section
variable{w W W':I}{f:Nat}{so so':υ}{l l':List HV}
def RS.uR(h:RS w W f so l):wm w (w.heap.size+1+1) (w.heap.size+1) so:=h.scan.free h.c1 (by simp) (by simp)
def RS.uS(h:RS w W f so l):wm (w.heap.size+1+1+1) (w.heap.size+1+1) (w.heap.size+1) so:=h.scan.free h.c2 (by simp) (by simp)
def RS.IJ(h:RS w W f so l):wm (w.heap.size+1+1+1+1) (w.heap.size+1+1) (w.heap.size+1) so:=h.scan.free h.cf (by simp) (by simp)
def RS.IK(h:RS w W f so l):W w.heap.size=U (.func (.func f) #[] #[]):=by simp[Γ,h.c1]
def RS.zJ(h:RS w W f so l):W (w.heap.size+1+1+1:Nat)=U (.pointer (w.heap.size+1+1:Nat)):=by simp[Γ,h.c2]
def RS.zK(h:RS w W f so l):W (w.heap.size+1+1+1+1:Nat)=U (.func (.func 196) #[] #[.pointer w.heap.size,.pointer (w.heap.size+1+1+1:Nat)]):=by simp[Γ,h.cf]
def RS.to(h:RS w W f so l)(hs:bS W' w (w.heap.size+1+1) (w.heap.size+1) so' l')(a:cz W W' (w.heap.size+1+1) (w.heap.size+1) so so'):RS w W' f so' l':=
 ⟨hs,(a.block _ (Ω.1 h.c1).1 h.uR.1 h.uR.2.1 h.uR.2.2).trans h.c1,(a.block _ (Ω.1 h.c2).1 h.uS.1 h.uS.2.1 h.uS.2.2).trans h.c2,
   (a.block _ (Ω.1 h.cf).1 h.IJ.1 h.IJ.2.1 h.IJ.2.2).trans h.cf,h.below.trans (a.below h.scan h.below.size)⟩
def RS.low(h:RS w W f so l)(a:M W W W'):RS w W' f so l:=h.to (h.scan.below a)<|cz.bK a
def RS.grown(h:RS w W f so l){row B}(u:w.heap.size+1<B)(i:W.grownBy W' row)(n:∀r,row=U r->B<=r/\∃o,W.heap[r]?=U o/\o.isCells=R):RS w W' f so l:=by
 have a:∀(k:Nat) (b:Array υ) (t:TypeId) (fr:Nat×Nat),W.heap[k]?=U (.cells b t fr) ->W'.heap[k]?=W.heap[k]?:=λk b t fr m=>
  i.block k (Ω.1 m).1 (λe=>by
   obtain⟨_,o,c,hc⟩:=n k e.symm;rw[m]at c;cases c
   cases hc)
 obtain⟨q,p,hb,c,j⟩:=h.scan;refine⟨⟨q,p,(a _ _ _ _ hb).trans hb,aS c λg e=>?_,j.of_block (i.block _ j.lt λe=>?_)⟩,(a _ _ _ _ h.c1).trans h.c1,(a _ _ _ _ h.c2).trans h.c2,(a _ _ _ _ h.cf).trans h.cf,
  h.below.grown i h.below.size (λk e=>by have:=(n k e).1;omega)⟩
 obtain⟨_,⟨rfl,_⟩|⟨v,s,b,rfl,_,d,_⟩⟩:=c
 ·cases e
 cases e
 exact a _ _ _ _ d
 grind
def RS.keeps(h:RS w W f so l)(c:cz W W' (w.heap.size+1+1) (w.heap.size+1) so so'){B}(j:w.heap.size+1<B):KeepsFrom B W W':=
 ⟨c.size,λk o i a hc=>by
   refine(c.block k (Ω.1 a).1 (λe=>?_) (by omega) λe=>?_).trans a;subst e;rw[h.scan.2.2.1]at a;cases a
   cases hc
   obtain⟨_,⟨rfl,_⟩|⟨m,g,d,rfl,_,b,_⟩⟩:=h.scan.2.2.2.1
   ·cases e
   cases e
   rw[b]at a;cases a
   cases hc⟩
def RS.kps(h:RS w W f so l)(b:cz W W' (w.heap.size+1+1) (w.heap.size+1) so so'):tb w W W':=⟨b.below h.scan h.below.size,λk c fr e=>by have a:=h.scan.free e (by simp) (by simp);exact(b.block k (Ω.1 e).1 a.1 a.2.1 a.2.2).trans e⟩
end
def N9{g a k o}(h:o.length<=k):∀f,Dm g a f k o=o
 |0=>rfl
 |f+1=>by unfold Dm;rw[ZA h]
def IL{g a k N o v}(h:o[k]?=U v)(b:k<N+1):Dm g a (N+1-k) k o=Dm g a (N+1-(k+1)) (k+1) (visit a o (cellAt g v).2):=by rw[show N+1-k=(N+1-(k+1))+1 by omega,Dm,h]
def IM(w)(f b:Nat):RS w ((((((w.alloc (ω #[.func (.func f) #[] #[]] 181)).alloc (.map #[] 0)).alloc (ω #[Z8 Z 0 0,.map (U (w.heap.size+1))] 112)).alloc (ω #[.pointer (w.heap.size+1+1:Nat)] 106)).alloc
 (ω #[.func (.func 196) #[] #[.pointer w.heap.size,.pointer (w.heap.size+1+1+1:Nat)]] 232)).alloc (ω #[.pointer b] 104)) f (Z8 Z 0 0) []:=by
 have push:∀(w:I) (o:Obj) (k:Nat),k<w->(w.alloc o).heap[k]?=w.heap[k]?:=λw o k h=>ZW w o k h;refine⟨⟨by omega,by omega,?_,OV.nil _ _,⟨#[],0,?_,rfl⟩⟩,?_,?_,?_,?_⟩;rw[push _ _ _ (by simp),push _ _ _<|by simp,push _ _ _<|by simp];have:=ξ ((w.alloc<|ω #[.func (.func f) #[] #[]] 181).alloc<|.map #[] 0)<|ω #[Z8 Z 0 0,.map<|U<|w.heap.size+1] 112;simpa using this;rw[push _ _ _ (by simp),push _ _ _<|by simp,push _ _ _<|by simp,push _ _ _<|by simp];have:=ξ (w.alloc<|ω #[.func (.func f) #[] #[]] 181)<|.map #[] 0;simpa using this;rw[push _ _ _ (by simp;omega),push _ _ _ (by simp;omega),push _ _ _ (by simp;omega),push _ _ _ (by simp;omega),push _ _ _<|by simp];exact ξ w _;rw[push _ _ _ (by simp),push _ _ _<|by simp];have:=ξ (((w.alloc<|ω #[.func (.func f) #[] #[]] 181).alloc<|.map #[] 0).alloc<|ω #[Z8 Z 0 0,.map<|U<|w.heap.size+1] 112)<|ω #[.pointer (w.heap.size+1+1:Nat)] 106;simpa using this;rw[push _ _ _ (by simp)];have:=ξ ((((w.alloc<|ω #[.func (.func f) #[] #[]] 181).alloc<|.map #[] 0).alloc<|ω #[Z8 Z 0 0,.map<|U<|w.heap.size+1] 112).alloc<|ω #[.pointer (w.heap.size+1+1:Nat)] 106)<|ω #[.func (.func 196) #[] #[.pointer w.heap.size,.pointer (w.heap.size+1+1+1:Nat)]] 232;simpa using this;exact(((((((Δ _ w).alloc .refl _).alloc (by simp) _).alloc (by simp;omega) _).alloc (by simp;omega) _).alloc (by simp;omega) _).alloc (by simp;omega) _)
end
section
variable{w:I}{B:Nat}
attribute [local go_sem] Yc
theorem zL(a:HV->Bool):∀(vs l:List HV),l.length<=(visit a l vs).length
 |[],l=>.refl
 |v::vs,l=>by
  have:=zL a vs (if a v then meet l v else l);have b:l.length<=(if a v then meet l v else l).length:=by
   split
   unfold meet;split<;>simp
   simp
  exact Nat.le_trans b this
def wn.jw{f a}(h:wn f a):uQ a:=by
 obtain⟨_,rfl⟩|⟨_,rfl⟩:=h
 exact .inl rfl;exact .inr rfl
def Wc(W:I)(p q):eI (W.alloc<|ω #[Θ Ψ p,Θ Ψ q] 50) (.slice W.heap.size 1 1) [(p,q)]:=by
 refine⟨_,1,rfl,.refl,by decide,λ_=>⟨W.heap.size,0,rfl,by simp,λi k n e=>?_⟩⟩;cases i with
 |zero=>simp_all
 |succ i=>simp at e
def IN{W bs bm so l}(h:bS W B bs bm so l):wm W bs bm so:=⟨λe=>by have:=h.Q4.1;omega,λe=>by have:=h.Q4.2;omega,λe=>by have:=(h.2.2.2.1.lt _ e).2;omega⟩
def Pi{W v so l d bs bm}(h:eI w v l)(hs:bS W w bs bm so d):Q5 v bs bm so:=λa n m e h0=>by
 obtain⟨f,g,rfl,_,_,c⟩:=h;cases e
 obtain⟨b,o,e,hb,_⟩:=c h0;cases e
 exact hs.low hb
def Dy{b:Nat}{g n o m row}(hb:w.heap[b]?=U (ω #[n,o,row (0,0),row (0,1),row (0,2),m] 114 (0,0)))(J:RC w B n (cellsOf row 3 g.new))(H:RC w B o (cellsOf row 4 g.old))(h4:kD w B row g){p q}(hi:zH g (p,q))(K:g.new.length+g.old.length<=100000):∃x j ar l,row (p,q)=.slice ar (cellAt g (p,q)).2.length l/\w ((x:Nat),j*2)=U (Θ Ψ (cellAt g (p,q)).1)/\
 w ((x:Nat),j*2+1)=U (.slice ar (cellAt g (p,q)).2.length l)/\eI w (.slice ar (cellAt g (p,q)).2.length l) (cellAt g (p,q)).2/\x<w/\
 ∀w1,M w w w1->ι prog 199 #[.pointer b,.agg #[Θ Ψ p,Θ Ψ q]] w1 λe w'=>e=.returned (.pointer ((x:Nat),j*2))/\M w1 w1 w':=by
 have s:=(Ω.1 hb).1;obtain⟨e,r,G⟩|⟨e,r,G⟩:=hi
 dsimp only at e r G;subst e;obtain⟨i,rfl⟩:=Int.eq_ofNat_of_zero_le r;have hi:i<g.new.length:=by omega
 obtain⟨y,A,d⟩:=cQ hi;obtain⟨gn,t,rfl,_,k,D,_,u⟩:=J.cells (by rw[aT];omega);obtain⟨C,F⟩:=jx dW (λv=>Θ Ψ v.1) (λv=>v.2) (λ_=>rfl) _ i _<|bH (row:=row) (kind:=3) d;obtain⟨z,E⟩:=JX d;have a:=(h4.1 _ z).reads;rw[E]at a;dsimp only at a;obtain⟨ar,l,f,_⟩:=id a;rw[(by simp[cellAt,ZH,d]:cellAt g (3,(i:Int))=(y,A))];dsimp only;rw[f]at a;refine⟨gn,i,ar,l,f,u _ _ C,?_,a,k,λw1 h=>?_⟩;rw[<-f];exact u _ _ F;have c:w1 b=U (.slice gn g.new.length t):=by rw[h.cell (p:=⟨b,0,Z⟩) s];simp[Γ,hb,aT]
 exact zD w1 b gn g.new.length t i c hi (by omega);dsimp only at e r G;subst e;obtain⟨i,rfl⟩:=Int.eq_ofNat_of_zero_le r;have hi:i<g.old.length:=by omega
 obtain⟨y,A,d⟩:=cQ hi;obtain⟨gn,t,rfl,_,k,D,_,u⟩:=H.cells (by rw[aT];omega);obtain⟨C,F⟩:=jx dW (λv=>Θ Ψ v.1) (λv=>v.2) (λ_=>rfl) _ i _<|bH (row:=row) (kind:=4) d;obtain⟨z,E⟩:=j6 d;have a:=(h4.1 _ z).reads;rw[E]at a;dsimp only at a;obtain⟨ar,l,f,_⟩:=id a;rw[(by simp[cellAt,ZH,d]:cellAt g (4,(i:Int))=(y,A))];dsimp only;rw[f]at a;refine⟨gn,i,ar,l,f,u _ _ C,?_,a,k,λw1 h=>?_⟩;rw[<-f];exact u _ _ F;have c:w1 (b,1)=U (.slice gn g.old.length t):=by rw[h.cell (p:=⟨b,1,Z⟩) s];simp[Γ,hb,aT]
 exact ol w1 b gn g.old.length t i c hi (by omega)
def EV{b g}(k:dm w B b g){p q}(hi:zH g (p,q))(d:g.new.length+g.old.length<=100000):∃a j ar c,w ((a:Nat),j*2)=U (Θ Ψ (cellAt g (p,q)).1)/\
 w ((a:Nat),j*2+1)=U (.slice ar (cellAt g (p,q)).2.length c)/\eI w (.slice ar (cellAt g (p,q)).2.length c) (cellAt g (p,q)).2/\a<w/\
 ∀w1,M w w w1->ι prog 199 #[.pointer b,.agg #[Θ Ψ p,Θ Ψ q]] w1 λe w'=>e=.returned (.pointer ((a:Nat),j*2))/\M w1 w1 w':=by
 obtain⟨n,o,m,row,l,hb,i,f,h3,h4⟩:=k;obtain⟨a,j,ar,c,_,h⟩:=Dy hb i f h4 hi d;exact⟨a,j,ar,c,h⟩
def po(f y)(L:wn f y)(w B b g more ms)(hg:dm w B b g)(hv:eI w more ms)(hc:jB g)(hs:∀v∈cJ g,zI g v)(hm:∀v∈ms,zI g v)(hml:ms.length<=100000)(hn:g.new.length+g.old.length<=100000)(hsl:(cJ g).length<=100000)(hvl:∀c∈g.new++g.old,c.2.length<=100000):
 ι prog 150 #[.pointer b,.func (.func f) #[] #[],more] w λe w'=>(∃bs bm so,e=.returned (.pointer (bs:Nat))/\bS w' w bs bm so (bV g y ms))/\M w w w':=by
 have hmm:=@run_makeMap prog;have HG:=V hg;have HV:=V hv;have HS:=V hs;have HM:=V hm;clear hs hm;obtain⟨am,mm,rfl,_,_,_⟩:=hv;refine(X4 (n:=6)).1 ?_;refine callsIn_of_wp_marks (fU func150 rfl) rfl trivial ?_ rfl;simp only[ntmps150,YX,Z2,ZJ,Nat.reduceAdd,Nat.reduceSub,YH,YG,Yn,YA,Ye,Yg]
 gi_wp2_with (refine⟨trivial,?_⟩;gi_at_call 198;refine(X4.2<|II _ b).mono ?_;rintro e w' ⟨rfl,rfl⟩)
 clear hmm;have h0:=IM w f b;have hbg:((((((w.alloc (ω #[.func (.func f) #[] #[]] 181)).alloc (.map #[] 0)).alloc (ω #[Z8 Z 0 0,.map (U (w.heap.size+1))] 112)).alloc (ω #[.pointer (w.heap.size+1+1:Nat)] 106)).alloc
  (ω #[.func (.func 196) #[] #[.pointer w.heap.size,.pointer (w.heap.size+1+1+1:Nat)]] 232)).alloc (ω #[.pointer b] 104)) (w.heap.size+1+1+1+1+1:Nat)=U (.pointer b):=by go_simp
 have X:((((((w.alloc (ω #[.func (.func f) #[] #[]] 181)).alloc (.map #[] 0)).alloc (ω #[Z8 Z 0 0,.map (U (w.heap.size+1))] 112)).alloc (ω #[.pointer (w.heap.size+1+1:Nat)] 106)).alloc
  (ω #[.func (.func 196) #[] #[.pointer w.heap.size,.pointer (w.heap.size+1+1+1:Nat)]] 232)).alloc (ω #[.pointer b] 104)).heap.size=w.heap.size+1+1+1+1+1+1:=by simp
 generalize (((((w.alloc (ω #[.func (.func f) #[] #[]] 181)).alloc (.map #[] 0)).alloc (ω #[Z8 Z 0 0,.map (U (w.heap.size+1))] 112)).alloc (ω #[.pointer (w.heap.size+1+1:Nat)] 106)).alloc
  (ω #[.func (.func 196) #[] #[.pointer w.heap.size,.pointer (w.heap.size+1+1+1:Nat)]] 232)).alloc (ω #[.pointer b] 104)=w6 at h0 hbg X⊢
 have Z6:=V X;have N:w.heap.size+1<w6:=by omega
 have anh:w.heap.size<=w6:=by omega
 clear X;refine wpIn_rangeFunc_ownH rfl (by omega) (gf:=231) (lb:=#[.pointer (w.heap.size+1+1+1+1+1:Nat)]) rfl trivial (enters_of (fU func231 rfl) (by kernel_rfl) rfl)
  (wu 5 (by omega) b (w.heap.size+1+1+1+1+1) g w w6 h0.below hbg HG.out.reads) tb.trans (tb.book anh) (Δ _ _) (λ_=>rfl)
  (λF W=>∃so,RS w W f so<|visit y [] F) (λ_ _ _=>False)
  (λs A C row hs' hg' hr=>by obtain⟨so,h⟩:=hs';exact⟨so,h.grown N hg' hr⟩) (λ_ _ _ _ _ h _ _=>h) ⟨_,h0⟩
  (λx a' W=>∃Bx,W.heap[Bx]?=U (ω #[Θ Ψ x.1,Θ Ψ x.2] 50 (0,0))/\a'={tmps:=#[.pointer b,.func (.func f) #[] #[],.slice am ms.length mm,undef,.pointer w.heap.size,undef,YT Z,.pointer (w.heap.size+1+1+1:Nat),.pointer (w.heap.size+1+1+1+1:Nat),.pointer (Bx:Nat),undef,.map<|U<|w.heap.size+1,.agg #[Z8 Z 0 0,.map<|U<|w.heap.size+1],.pointer (w.heap.size+1+1:Nat),.func (.func 196) #[] #[.pointer w.heap.size,.pointer (w.heap.size+1+1+1:Nat)],.pointer b,.func (.func 231) #[] #[.pointer (w.heap.size+1+1+1+1+1:Nat)],eB x,undef,undef,undef,undef,undef,undef,undef,undef,undef,undef,undef,undef,undef,undef,undef,undef,undef,undef,undef,undef,undef,undef,undef,undef,undef,undef,undef,undef,undef,undef,undef],defers:=[]})
  (λx a' s A C row hs' hg' hr=>by
    obtain⟨Bx,h1,h2⟩:=hs';refine⟨Bx,(hg'.block Bx (Ω.1 h1).1 λe=>?_).trans h1,h2⟩;obtain⟨_,o,ho,hc'⟩:=hr Bx e.symm;rw[h1]at ho;cases ho
    cases hc') ?assign ?body ?done ?stop
 case assign=>
  rintro l F ⟨p,q⟩ W K ⟨so,P⟩ H;unfold eB
  gi_wp2
  exact H _ _ ((KeepsOthers.alloc _ _).from _) ((tb.refl _ _).alloc P.below.size _) ⟨so,P.low<|af W _⟩ ⟨W.heap.size,ξ W _,rfl⟩
 case body=>
  rintro l F ⟨p,q⟩ a' W hl ⟨r,hr⟩ ⟨so,P⟩ ⟨Bx,S,rfl⟩ hlt;have cf:=P.zK;have x0:W (Bx:Nat)=U (Θ Ψ p):=by simp[Γ,S]
  have x1:W ((Bx:Nat),1)=U (Θ Ψ q):=by simp[Γ,S]
  have G:=V P;clear hr S P;unfold eB
  gi_wp2_with fail
  refine⟨trivial,?_⟩;have hb1:=af W<|ω #[Θ Ψ p,Θ Ψ q] 50;have E:=G.out.low hb1;have am0:=lW y F [];simp only[ZJ,Nat.zero_add]at am0;refine(CallsIn.inRound l<|X4.2<|wo f y L _ w _ _ _ _ so _ (visit y [] F) [(p,q)] E.scan (Wc W p q) (λa n m e _=>by cases e;exact IN G.out.scan) E.IK E.uR E.zJ E.uS (by simp;omega)).mono ?_;rintro e W3 ⟨rfl,so3,hs3,ht3⟩
  gi_wp2_with fail
  have T:=(cz.bK (bs:=w.heap.size+1+1) (bm:=w.heap.size+1) (so:=so) hb1).trans ht3;have hvx:visit y (visit y [] F) [(p,q)]=visit y [] (F++[(p,q)]):=by simp[visit]
  rw[hvx]at hs3;exact⟨G.out.keeps T N,G.out.kps T,so3,G.out.to hs3 T⟩
 case done=>
  rintro D xs W hD rfl ⟨so,P⟩ H;have cf:=P.zK;have G:=V P;clear P
  gi_wp2_with fail
  refine⟨trivial,?_⟩;have am1:=lW y (cJ g) [];simp only[ZJ,Nat.zero_add]at am1;refine(X4.2<|wo f y L _ w _ _ _ _ so _ (visit y []<|cJ g) ms G.out.scan (HV.out.below<|G.out.below) (Pi HV.out G.out.scan) G.out.IK G.out.uR G.out.zJ G.out.uS<|by omega).mono ?_;rintro e W1 ⟨rfl,so1,hs1,ht1⟩;have E:=G.out.to hs1 ht1;have hK1:=(G.out.keeps ht1 N).same D _ hD H rfl;have c21:=E.zJ;have z:=V E;have HK:=V hK1;clear E hs1 ht1 H hK1 cf G;have O:=((c9.nil g y).visit (vs:=cJ g) λv hv S=>HS.out v hv<|L.jw.cell S).visit (vs:=ms) λv hv S=>HM.out v hv<|L.jw.cell S;have hR:bV g y ms=Dm g y (g.new.length+g.old.length+1-0) 0 (visit y (visit y []<|cJ g) ms):=rfl;generalize visit y (visit y []<|cJ g) ms=o1 at z O hR;have HR:=V hR;have HO:=V O;clear hR O
  gi_wp2_with fail
  clear c21
  gi_loopw [10] (λi wr=>∃k:Nat,∃so o,i=Θ Ψ k/\k<=o.length/\Hid (bV g y ms=Dm g y (g.new.length+g.old.length+1-k) k o)/\Hid (RS w wr f so o)/\Hid (c9 g y o)/\Hid (wr.heap[D]?=U (.deferred<|U []))) (λi _=>g.new.length+g.old.length-(intOf i).toNat)
  case atStart=>exact⟨0,so1,o1,rfl,Nat.zero_le _,HR,z,HO,HK⟩
  case round=>
   clear z HO HK HR;obtain⟨k,so,o,rfl,hk,HR,z,HO,HK⟩:=hrel;have hol:=HO.out.len;have c2:=z.out.zJ;have hbs:=z.out.scan.2.2.1;obtain⟨aso,mso,hso,hle,_,_⟩:=aF z.out.scan.2.2.2.1;have c0:wr (w.heap.size+1+1:Nat)=U (.slice aso o.length mso):=by simp[Γ,hbs,hso]
   clear hbs;by_cases hlt:k<o.length
   ·obtain⟨p,q,e1⟩:=ep hlt;subst hso;obtain⟨gs,cs,e,_⟩:=z.out.scan.2.2.2.1.form (by omega);obtain rfl:aso=U ⟨gs,0,Z⟩:=by injection e
    clear e;obtain⟨d1,d2,_,_,_⟩:=OV.at_ z.out.scan.2.2.2.1 e1;obtain⟨hin,_⟩:=HO.out.ok _<|ψ e1;have hcl:=hvl _<|j9 hin;obtain⟨bn,j,ar,mr,t1,t2,t3,t4,t5⟩:=EV HG.out hin hn;have cf:=z.out.zK;have J:=z.out.below;have HFV:=V<|Pi t3 z.out.scan;have HT3:=V t3;have HT5:=V t5;have E1:=V e1;clear e1 t3 t5 t1 hin;have hk0:(0:Int)<=(k:Int):=by omega
    have hk1:(k:Int)<(o.length:Int):=by omega
    gi_wp2_with fail
    refine wpIn_wide.2 ?_;have hbw:=(Δ wr wr).drew;refine wp_region_noPanic ?_;refine Rg.aaH 9 4 (λx=>x (w.heap.size+1+1+1+1:Nat)=U (.func (.func 196) #[] #[.pointer w.heap.size,.pointer (w.heap.size+1+1+1:Nat)])/\x (w.heap.size+1+1+1:Nat)=U (.pointer (w.heap.size+1+1:Nat))/\x (w.heap.size+1+1:Nat)=U (.slice gs o.length mso)/\x (gs,k*2)=U (Θ Ψ p)/\x (gs,k*2+1)=U (Θ Ψ q)) (by kernel_rfl) (by kernel_rfl) (λc a d v w h=>h) ⟨cf,c2,c0,d1,d2⟩ ?_;simp only[Nat.reduceAdd,XN,List.take_zero,XM,List.drop_zero]
    iterate 9
     (refine Rg.fp.step (v:=?_) (by rfl) (λu hu=>?_) ?_
      rotate_left
      (obtain⟨hu0,hu1,hu2,hu3,hu4⟩:=hu
       go_simp
       try rfl))
    refine Rg.fp.nil<|Rg.pA.succ ?_;simp only[Zu,X1,Yv,Y7];refine Ym rfl λK H=>?_;go_simp;refine(HT5.out _<|J.trans<|hbw.mono J.size).mono ?_;rintro e w3 ⟨rfl,hb3⟩;have t:=hbw.trans<|hb3.mono<|by simp
    have q2:=((J.trans<|t.mono J.size).cell (p:=⟨bn,j*2+1,Z⟩) t4).trans t2;have s3:=((z.out.low t).zK);have hz3:=t.size;have z0:=cG t cf<|az cf;have z1:=cG t c2<|az c2;have z2:=cG t c0<|az c0;have z3:=cG t d1<|az d1;have z4:=cG t d2<|az d2;refine H _ _ ⟨⟨z0,z1,z2,z3,z4⟩,Rg.pA.succ ?_⟩;clear H K;refine Ym rfl λK H=>?_;go_simp;refine H _ _ ⟨⟨z0,z1,z2,z3,z4⟩,Rg.pA.succ ?_⟩;clear H K;refine Ym rfl λK H=>?_;go_simp;refine H _ _ ⟨⟨z0,z1,z2,z3,z4⟩,Rg.pA.succ ?_⟩;clear H K;refine Ym rfl λK H=>?_;go_simp;refine H _ _ ⟨⟨z0,z1,z2,z3,z4⟩,Rg.pA.zero ?_⟩;clear H K z0 z1 z2 z3 z4
    go_wp2_with (go_at_call 196;refine(wo f y L _ w _ _ _ _ _ _ o (cellAt g (p,q)).2 (z.out.low t).scan (HT3.out.below<|J.trans<|t.mono J.size) HFV.out (z.out.low t).IK (z.out.low t).uR (z.out.low t).zJ (z.out.low t).uS<|by omega).mono ?_;rintro e w4 ⟨rfl,so4,hs4,ht4⟩;have H4:=V<|(z.out.low t).to hs4 ht4;have hK4:=(((z.out.low t).keeps ht4 N).same D _ hD (((t.block D (Ω.1 HK.out).1)).trans HK.out) rfl);have HK4:=V hK4;clear hK4;have s4:=H4.out.zK)
    refine NoPanic.normal ?_
    gi_wp2_with fail
    refine⟨⟨k+1,so4,visit y o (cellAt g (p,q)).2,by go_num,?_,V ?_,H4,V<|HO.out.round L.jw hc E1.out,HK4⟩,by simp[intOf];omega⟩;have:=zL y (cellAt g (p,q)).2 o;omega;rw[<-IL E1.out (by omega)];exact HR.out
   ·have hre:=HR.out;rw[N9 (by omega)]at hre;have HRE:=V hre;clear hre
    gi_wp2_with fail
    refine⟨by simp,.inl ⟨_,_,rfl,run_takeDeferred HK.out,?_⟩⟩;have Q:=z.out.grown (row:=U D) N (grownBy_putObj' wr D<|.deferred Z) (λr e=>by cases e;exact⟨hD,_,HK.out,rfl⟩);have hsc:=Q.scan;rw[<-HRE.out]at hsc;exact⟨_,results_tmp rfl _ _ _,⟨w.heap.size+1+1,w.heap.size+1,so,rfl,hsc⟩,Q.below⟩
 case stop=>rintro D c F W _ _ h _;exact h.elim
end
end Kn
namespace Kn
open Go Go.RowKit Md
section
def ww(w:I)(B:Nat)(KS:List HV)(row:HV->υ)(eT:HV->List HV):Prop:=(∀k∈KS,OV w B (row k)<|eT k)/\∀k∈KS,∀k'∈KS,k≠k'->Apart (row k) (row k')
def ww.step{w w' B b row eT k d}(h:ww w B b row eT)(f:k∈b)(j:w.grownBy w' (row k).ownBlock)(l:OV w' B (row k) d):ww w' B b row (λx=>if x=k then d else eT x):=by
 refine⟨λx c=>?_,h.2⟩;by_cases e:x=k
 grind
 simp only[e];exact aS (h.1 x c) λg a=>j.block g ((h.1 x c).lt g a).2 λi=>h.2 x c k f e g a i.symm
def ww.low{w w' B a row eT}(h:ww w B a row eT)(c:M w.heap.size w w'):ww w' B a row eT:=⟨λx b=>(h.1 x b).below c,h.2⟩
def fQ(f:List HV->List HV)(nj:HV->List HV)(KS:List HV)(i:Nat)(x:HV):List HV:=if x∈KS.take i then f (nj x)else nj x
def pZ{f a b i k}(m:b.Nodup)(e:b[i]?=U k):
 (λx=>if x=k then f (fQ f a b i k)else fQ f a b i x)=fQ f a b (i+1):=by
 funext x
 have n:k∉b.take i:=by
  intro l;obtain⟨j,d⟩:=ZR.1 l;have c:j<i:=by have:=(Ξ.1 d).1;simp at this;omega
  rw[Z4,if_pos c]at d;have h:=(Ξ.1 d);have g:=(Ξ.1 e);have:=(ZK.1 m) j i h.1 g.1 c;exact this<|h.2.trans g.2.symm
 unfold fQ;rw[bW e]
 grind
def hV{f a c i k}(n:c.Nodup)(m:c[i]?=U k):fQ f a c i k=a k:=by
 have d:k∉c.take i:=by
  intro l;obtain⟨j,e⟩:=ZR.1 l;have b:j<i:=by grind
  rw[Z4,if_pos b]at e;have h:=(Ξ.1 e);have g:=(Ξ.1 m);have:=(ZK.1 n) j i h.1 g.1 b;exact this<|h.2.trans g.2.symm
 simp[fQ,d]
def BK{f a b k}(c:k∈b):fQ f a b b.length k=f (a k):=by simp[fQ,c]
def zM{f a b}:fQ f a b 0=a:=by rfl
def TC(w:I)(B B0:Nat)(v:υ)(l:List (Int×υ)):Prop:=OC w B0 v l\/(RC w B v l/\∃a,v=.slice a l.length l.length)
def TC.rc{w B B0 v l}(h:TC w B B0 v l)(a:B<=B0):RC w B v l:=by
 obtain h|h:=h
 exact(h.less a).rc
 grind
def TC.low{w w' B B0 v l}(h:TC w B B0 v l)(a:M w.heap.size w w'):TC w' B B0 v l:=by
 obtain h|h:=h
 exact .inl<|h.below a;exact .inr ⟨h.1.low a,h.2⟩
section
variable{ops:Array ZF}{rest:List ZF}{o:ZF}{a:YU}{w:I}{Q:X0->YU->I->Prop}
def tL(m:o.guard=Z)(s x)(E:o.op=.call {callee:=.builtin .append,args:=#[s,x],argTypes:=#[22,22]})(B B0 v l)(hs:a.eval s=v)(d:TC w B B0 v l)(ad c u)(G:u.2.oneCell'=Y)(F:a.eval x=Z8 (U ad) 1 c)(C:w.cell? (ad.add 0)=U (Θ Ψ u.1)/\w.cell? (ad.add 1)=U u.2)(K:l.length<=1000000000)(D:B0<=w.heap.size)(h:∀f w',OC w' B0 f (l++[u]) ->M B0 w w'->ZN prog ops Q rest (a.put o.dst f) w'):ZN prog ops Q (o::rest) a w:=by
 obtain d|⟨hrc,a0,rfl⟩:=d
 exact wh m s x E B0 v l hs d ad c u G F C K D λf w' r p _=>h f w' r p;obtain⟨J,hi,q,t,A⟩:=ZM ni;refine wpList_append_grows w m s x 22 E 76 J _ 2 32 mF hi q t A rfl (by decide) a0 l.length l.length (l.flatMap dW) hs (λe=>?_) (su l) (λb e j H n=>?_) ad 1 c (dW u) F rfl (λj z i=>?_) (λz hz=>?_) (by omega) (by unfold ZU;omega) (by omega) λf w' r p=>?_;obtain⟨N,L,y,_,_,h3,_⟩:=hrc;cases y
 exact⟨h3 e,h3 e⟩;have h0:0<l.length:=by
  obtain h0|h0:=Nat.eq_zero_or_pos l.length
  have:=φ h0;subst this;simp at n;exact h0
 obtain⟨g,L,y,_,_,_,_,hc⟩:=hrc.cells h0;cases y
 cases e
 have:(⟨g,0,Z⟩:Yl).add j=⟨g,j,Z⟩:=by unfold ZQ;split<;>simp_all
 rw[this];exact hc j H n
 ·match j,i with
  |0,i=>cases i;exact C.1
  |1,i=>cases i;exact C.2
  |j+2,i=>simp[dW]at i
 simp[dW]at hz;obtain rfl|rfl:=hz
 rfl;exact G;refine h f w' ?_<|(Δ B0 w).grown p D λk e=>by cases e
 have:w'.ownsRow B0 76 2 f (l++[u]).length ((l++[u]).flatMap dW):=by rw[ZI,μ];simpa using (eV r D)
 exact this
end
def RC.take{w B a n m s l}(h:RC w B (.slice a n m) l)(hs:s<=l.length):RC w B (.slice a s s) (l.take s)/\(a=Z->s=0):=by
 obtain⟨o,q,e,p,k,h3,h4⟩:=h;cases e
 have c:(l.take s).length=s:=by simp;omega
 refine⟨⟨a,s,by rw[c],by omega,by omega,λe=>by have:=h3 e;omega,λh0=>?_⟩,λe=>by have:=h3 e;omega⟩;obtain⟨g,b,rfl,f,j,i⟩:=h4 (by omega);refine⟨g,b,rfl,f,j,?_⟩;rw[c];have d:(l.take s).flatMap dW=(l.flatMap dW).take (s*2):=by rw[(by rw[<-ZI,XU]:l.flatMap dW=(l.take s).flatMap dW++(l.drop s).flatMap dW),<-(by rw[su,c]:((l.take s).flatMap dW).length=s*2),List.take_left]
 rw[d,<-i,List.take_take]
 congr 1
 omega
end
section
variable{stay:Nat}{w':I}{J:Nat->Prop}{g:GH}
def bC(stay:Nat)(order:List HV):List HV:=(ZT stay).map (λi:Nat=>((4,(i:Int)):HV))++order
def rowsOf(g:GH)(row:HV->υ)(ks:List HV):List (Int×υ):=ks.map λk=>((cellAt g k).1,row k)
def fo(stay order):(bC stay order).length=stay+order.length:=by simp[bC]
def nk(g row a):(rowsOf g row a).length=a.length:=by simp[rowsOf]
def wy{row order}(h:stay<=g.old.length):(cellsOf row 4 g.old).take stay=(rowsOf g row<|bC stay order).take stay:=by
 apply YW;intro i;rw[Z4,Z4];by_cases hi:i<stay
 rw[if_pos hi];obtain⟨p,q,e⟩:=cQ (by omega:i<g.old.length);rw[bH e];simp[rowsOf,bC,Zz,YZ,hi,cellAt,ZH,e]
 grind
def zN{row k order v}(h:order[k]?=U v):(rowsOf g row<|bC stay order).take (stay+(k+1))=(rowsOf g row<|bC stay order).take (stay+k)++[((cellAt g v).1,row v)]:=by
 rw[<-Nat.add_assoc];apply bW;have:(bC stay order)[stay+k]?=U v:=by unfold bC;rw[Y6 (by simp)];simpa using h
 simp[rowsOf,Zz,this]
def gB(stay:Nat)(order:List HV):List HV:=bC stay order++[(0,0),(0,2),(0,1)]
def sA{order k}(h:k∈bC stay order):(∃i,i<stay/\k=(4,(i:Int)))\/k∈order:=by
 obtain h|h:=Zf.1 h
 grind
 grind
def jC{order}(a:∀v∈order,zH g v){k}(h:k∈bC stay order):k.1≠0:=by
 obtain⟨i,_,rfl⟩|h:=sA h
 simp;obtain⟨e,_⟩|⟨e,_⟩:=a k h<;>omega
def IP{order}(hs:stay<=g.old.length)(a:∀v∈order,zH g v){k}(h:k∈bC stay order):zH g k:=by
 obtain⟨i,hi,rfl⟩|h:=sA h
 exact .inr ⟨rfl,by omega⟩
 grind
def IQ{order}(hs:stay<=g.old.length)(a:∀v∈order,zH g v){k}(h:k∈gB stay order):IsKey g k:=by
 obtain h|h:=Zf.1 h
 obtain h|h:=IP hs a h
 ·exact .inr<|.inl h
 exact .inr<|.inr h;simp at h;obtain rfl|rfl|rfl:=h
 exact .inl ⟨rfl,by decide,by decide⟩;exact .inl ⟨rfl,by decide,by decide⟩;exact .inl ⟨rfl,by decide,by decide⟩
def oq{g:GH}{order}(f:order.Nodup)(d:(∀v∈order,v.1=3)\/stay=0):(bC stay order).Nodup:=by
 unfold bC;rw[YV];refine⟨?_,f,λa h b hb e=>?_⟩;rw[List.Nodup,List.pairwise_map];refine(List.nodup_range).imp λ{i j} c e=>c ?_
 grind
 grind
def BL{order}(h:order.Nodup)(c:(∀v∈order,v.1=3)\/stay=0)(d:∀v∈order,zH g v):(gB stay order).Nodup:=by
 unfold gB;rw[YV];refine⟨oq (g:=g) h c,by decide,λa f b hb e=>?_⟩;have:=jC d f
 grind
def PN{w B row d}(h:kD w B row g)(b:∀k∈d,IsKey g k):ww w B d row (bd g):=⟨λk a=>h.1 k<|b k a,λk i e f c=>h.2 k e (b k i) (b e f) c⟩
def IR{order}(hs:stay<=g.old.length):g.old.take stay++order.map (cellAt g)=(bC stay order).map (cellAt g):=by
 unfold bC;rw[ζ]
 congr 1
 apply YW;intro i;rw[Z4];by_cases hi:i<stay
 rw[if_pos hi];obtain⟨p,q,e⟩:=cQ (by omega:i<g.old.length);simp[hi,cellAt,ZH,e];rw[if_neg hi];simp[hi]
def sB{order}(hs:stay<=g.old.length):(Md.move g order stay).old=(bC stay order).map λk=>Xm order stay (cellAt g k):=by show(g.old.take stay++order.map (cellAt g)).map (Xm order stay)=_;rw[IR hs,List.map_map];rfl
def cR(w:I)(B b:Nat)(g:GH)(J:Nat->Prop):Prop:=∃n o m row,B<=b/\w.heap[b]?=U (ω #[n,o,row (0,0),row (0,1),row (0,2),m] 114 (0,0))/\
 RC w B n (cellsOf row 3 g.new)/\RC w B o (cellsOf row 4 g.old)/\OI w B m g.marked/\kD w B row g/\∀j,J j->j≠b/\∀k,IsKey g k->(row k).ownBlock≠U j
def cR.own{w B b}(h:cR w B b g J):dm w B b g:=by obtain⟨n,o,m,row,d,hb,a,c,h3,h4,_⟩:=h;exact⟨n,o,m,row,d,hb,a,c,h3,h4⟩
def cR.Kk{w B b}(h:dm w B b g)(l:∀j,J j->j<B):cR w B b g J:=by
 obtain⟨n,o,m,row,i,hb,f,d,h3,h4⟩:=h;refine⟨n,o,m,row,i,hb,f,d,h3,h4,λj c=>⟨λe=>?_,λk a e=>?_⟩⟩
 grind
 have:=l j c;have:=((h4.1 k a).lt j e).1;omega
def cR.below{w w' B b g J}(h:cR w B b g J)(a:M w.heap.size w w'):cR w' B b g J:=by obtain⟨n,o,m,row,f,hb,e,d,h3,h4,h5⟩:=h;exact⟨n,o,m,row,f,(a.block b (Ω.1 hb).1).trans hb,e.low a,d.low a,h3.below a,⟨λk c=>(h4.1 k c).below a,h4.2⟩,h5⟩
def IS{w B b order row v}(P:B<=b)(hb:w.heap[b]?=U (ω #[Z8 Z 0 0,v,row (0,0),row (0,1),row (0,2),Z8 Z 0 0] 114 (0,0)))(O:RC w B v (rowsOf g row<|bC stay order))(D:ww w B (gB stay order) row (fQ (X3<|E8 order stay) (bd g) (gB stay order) (gB stay order).length))(X:(bC stay order).Nodup)(hs:stay<=g.old.length)(A:∀v∈order,zH g v)(E:∀j,J j->j≠b/\∀k∈gB stay order,(row k).ownBlock≠U j):cR w B b (Md.move g order stay) J:=by
 have n:∀k,k∈gB stay order->OV w B (row k) ((bd g k).map<|E8 order stay):=λk h=>by have:=D.1 k h;rwa[BK h]at this
 have C:(0,0)∈gB stay order:=by simp[gB]
 have m1:(0,1)∈gB stay order:=by simp[gB]
 have m2:(0,2)∈gB stay order:=by simp[gB]
 have s:(Md.move g order stay).old.length=(bC stay order).length:=by rw[sB hs];simp
 have l:∀k,IsKey (Md.move g order stay) k->(∃i:Nat,i<(bC stay order).length/\k=(4,(i:Int)))\/k=(0,0)\/k=(0,1)\/k=(0,2):=by
  rintro⟨a,c⟩ (⟨o,x,h3⟩|⟨o,x,h3⟩|⟨o,x,h3⟩);dsimp only at o x h3;subst o;have:c=0\/c=1\/c=2:=by omega
  obtain rfl|rfl|rfl:=this<;>simp
  dsimp only at o x h3;have:(Md.move g order stay).new.length=0:=rfl;omega;dsimp only at o x h3;subst o;rw[s]at h3;exact .inl ⟨c.toNat,by omega,by simp;omega⟩
 obtain⟨f,d⟩:∃r:HV->υ,r=λk=>if k.1=4 then row ((bC stay order).getD k.2.toNat (0,0))else row k:=⟨_,rfl⟩
 have m:∀i:Nat,i<(bC stay order).length->∃k,(bC stay order)[i]?=U k/\f (4,(i:Int))=row k:=λi hi=>by obtain⟨k,e⟩:∃k,(bC stay order)[i]?=U k:=⟨_,χ hi⟩;exact⟨k,e,by simp[d,ZH,e]⟩
 have N:f (0,0)=row (0,0):=by simp[d]
 have K:f (0,1)=row (0,1):=by simp[d]
 have G:f (0,2)=row (0,2):=by simp[d]
 clear d;refine⟨Z8 Z 0 0,v,Z8 Z 0 0,f,P,by rw[N,K,G];exact hb,?_,?_,OI.nil _ _,⟨?_,?_⟩,λj t=>⟨(E j t).1,λk y=>?_⟩⟩;exact⟨Z,0,rfl,.refl,by simp[ZU],λ_=>rfl,λh=>absurd h<|Nat.lt_irrefl 0⟩;have e:cellsOf f 4 (Md.move g order stay).old=rowsOf g row (bC stay order):=by
  apply YW;intro i;obtain hi|hi:=Nat.lt_or_ge i (bC stay order).length
  obtain⟨k,z,er⟩:=m i hi;have T:(Md.move g order stay).old[i]?=U (Xm order stay<|cellAt g k):=by rw[sB hs];simp[z]
  rw[bH T,er];simp[rowsOf,z,Xm];rw[ZA (by rw[aT,s];exact hi),ZA (by rw[nk];exact hi)]
 rw[e];exact O
 ·intro k y;obtain⟨i,hi,rfl⟩|rfl|rfl|rfl:=l k y
  obtain⟨k,z,er⟩:=m i hi;rw[er];have S:=ψ z;have hv:bd (Md.move g order stay) (4,(i:Int))=(bd g k).map (E8 order stay):=by simp[bd,jC A S,cellAt,ZH,sB hs,z,Xm]
  rw[hv];exact n k<|ZV _ S;rw[N];exact n _ C;rw[K];exact n _ m1;rw[G];exact n _ m2
 ·intro k W o x u;obtain⟨i,hi,rfl⟩|rfl|rfl|rfl:=l k o<;>obtain⟨j,t,rfl⟩|rfl|rfl|rfl:=l W x
  obtain⟨p,F,er⟩:=m i hi;obtain⟨q,eq,Q⟩:=m j t;rw[er,Q];refine D.2 p (ZV _<|ψ F) q (ZV _<|ψ eq) λe=>u ?_;subst e;have L:=Ξ.1 F;have H:=Ξ.1 eq;have:=ZK.1 X;obtain h|h|h:=Nat.lt_trichotomy i j
  exact absurd (L.2.trans H.2.symm)<|this i j L.1 H.1 h;rw[h];exact absurd (H.2.trans L.2.symm)<|this j i H.1 L.1 h
  all_goals (try rw[N])
  all_goals (try rw[K])
  all_goals (try rw[G])
  all_goals first
   |exact absurd rfl u
   |(obtain⟨p,F,er⟩:=m i hi
     rw[er];exact D.2 p (ZV _ (ψ F)) _ (by first|exact C|exact m1|exact m2) (λe=>by have:=jC A (ψ F);rw[e]at this;exact this rfl))
   |(obtain⟨q,eq,Q⟩:=m j t
     rw[Q];exact D.2 _ (by first|exact C|exact m1|exact m2) q (ZV _ (ψ eq)) (λe=>by have:=jC A (ψ eq);rw[<-e]at this;exact this rfl))
   |exact D.2 _ (by first|exact C|exact m1|exact m2) _ (by first|exact C|exact m1|exact m2) u
 obtain⟨i,hi,rfl⟩|rfl|rfl|rfl:=l k y
 ·obtain⟨k,z,er⟩:=m i hi;rw[er];exact(E j t).2 k<|ZV _<|ψ z
 rw[N];exact(E j t).2 _ C;rw[K];exact(E j t).2 _ m1;rw[G];exact(E j t).2 _ m2
def qb(w w':I):Prop:=∀(j:Nat) c,w.heap[j]?=U (.cells c 131 (0,0)) ->w'.heap[j]?=w.heap[j]?
def qb.trans{w w1 w2}(b:qb w w1)(d:qb w1 w2):qb w w2:=λj c a=>(d j c<|(b j c a).trans a).trans<|b j c a
def qb.bK{w}(h:M w.heap.size w w'):qb w w':=λj c a=>h.block j (Ω.1 a).1
def qb.sC{w x}(h:w.grownBy w' x)(d:∀g,x=U g->∃a,w.heap[g]?=U (.cells a 50 (0,0))):qb w w':=λj c b=>h.block j (Ω.1 b).1 λe=>by grind
def qb.IT{w}{b:Nat}{c0}(hb:w.heap[b]?=U (.cells c0 114 (0,0)))(h:∀k,k≠b->w'.heap[k]?=w.heap[k]?):qb w w':=λj c a=>h j λe=>by grind
structure MS(w W:I)(B b bs bm:Nat)(order:List HV)(v:υ)(L:List (Int×υ))(KS:List HV)(row:HV->υ)(eT:HV->List HV):Prop where
 below:M B w W
 rc:RC W B v L
 kr:ww W B KS row eT
 hb:W.heap[b]?=w.heap[b]?
 hs:W.heap[bs]?=w.heap[bs]?/\qb w W/\∀j,j<w.heap.size->j≠b->(∀k∈KS,(row k).ownBlock≠U j) ->W.heap[j]?=w.heap[j]?
 met:jA W bm order
def MS.low{w W g B b bs bm order v L f row eT}(h:MS w W B b bs bm order v L f row eT)(a:M W.heap.size W g)(k:B<=W.heap.size)(c:b<W.heap.size)(d:bs<W.heap.size):MS w g B b bs bm order v L f row eT:=⟨h.below.trans<|a.mono k,h.rc.low a,h.kr.low a,(a.block b c).trans h.hb,⟨(a.block bs d).trans h.hs.1,h.hs.2.1.trans<|qb.bK a,λj e i h3=>(a.block j<|Nat.lt_of_lt_of_le e h.below.size).trans<|h.hs.2.2 j e i h3⟩,h.met.of_block<|a.block bm h.met.lt⟩
def MS.rename{w W q B b bs bm order v L o row eT k s c1 c2}(h:MS w W B b bs bm order v L o row eT)(m:k∈o)(f:W.grownBy q (row k).ownBlock)(z:OV q B (row k) s)(hb:w.heap[b]?=U (.cells c1 114 (0,0)))(hs:w.heap[bs]?=U (.cells c2 112 (0,0)))(C:B<=W.heap.size):MS w q B b bs bm order v L o row (λx=>if x=k then s else eT x):=by
 have a:∀g,(row k).ownBlock=U g->∃d,W.heap[g]?=U (.cells d 50 (0,0)):=λg e=>by obtain⟨_,⟨p,_⟩|⟨D,y,d,p,_,i,_⟩⟩:=h.kr.1 k m;rw[p]at e;cases e;rw[p]at e;cases e;exact⟨d,i⟩
 have l:=h.hb.trans hb;have n:=h.hs.1.trans hs;refine⟨h.below.grown f C λg e=>(h.kr.1 k m).lt g e|>.1,h.rc.below λg d i=>f.block g (Ω.1 i).1 λe=>?_,h.kr.step m f z,(f.block b (Ω.1 l).1 λe=>?_).trans h.hb,⟨(f.block bs (Ω.1 n).1 λe=>?_).trans h.hs.1,h.hs.2.1.trans (qb.sC f a),λj r t h3=>(f.block j (Nat.lt_of_lt_of_le r h.below.size) λe=>h3 _ m e.symm).trans (h.hs.2.2 j r t h3)⟩,
  h.met.of_block (f.block bm h.met.lt λe=>?_)⟩
 grind
 obtain⟨c,hc⟩:=a b e.symm;rw[l]at hc;cases hc
 grind
 obtain⟨c,hc⟩:=a bm e.symm;obtain⟨E,u,A,_⟩:=h.met;rw[A]at hc;cases hc
end
def qd{W B b v l c t fr}(d:OV W B v l)(hb:W.heap[b]?=U (.cells c t fr))(i:t≠50):v.ownBlock≠U b:=by
 intro e;obtain⟨_,⟨rfl,_⟩|⟨g,f,a,rfl,_,h,_⟩⟩:=d;cases e
 cases e
 grind
def IU{w B v a l}(h:v=a)(k:OV w B v l):OV w B a l:=h▸k
def BM(w B b Bs bs bm so g mv order stay){J}(hg:cR w B b g J)(hs:bS w Bs bs bm so order)(S:c9 g mv order)(hst:(stay=g.old.length/\∀v∈order,v.1=3)\/stay=0)(hB:B<=w)(hn:g.new.length+g.old.length<=1000)(hvl:∀c∈g.new++g.old,c.2.length<=100000)(hr:g.roots.length<=100000)(hwl:g.aA.length<=100000)(hdl:g.done.length<=100000):
 ι prog 191 #[.pointer b,.pointer bs,Θ Ψ stay] w λe w'=>e=.returned (.tuple #[])/\cR w' B b (Md.move g order stay) J/\M B w w'/\w'.heap[bs]?=w.heap[bs]?/\qb w w'/\∀j,J j->j<w->w'.heap[j]?=w.heap[j]?:=by
 have HG:=V hg;have HS:=V hs;have HO:=V S;obtain⟨n,o,m,row,hBb,hb,h1,h2,h3,h4,h5⟩:=hg;have HJ:=V h5;clear h5;have hol:=S.len;have f:stay<=g.old.length:=by obtain⟨h,_⟩|h:=hst<;>omega
 have hbl:=(Ω.1 hb).1;have hc1:w (b,1)=U o:=by simp[Γ,hb]
 have hcs0:w bs=U so:=by simp[Γ,hs.2.2.1]
 have ai7:=hs.Q4.1;obtain⟨as0,ms0,hso,hsm,aek,_⟩:=aF hs.2.2.2.1;unfold ZU at aek;obtain⟨ao,mo,ho,hm1,hm2,Fw,_⟩:=id h2;rw[aT]at ho hm1;subst ho;subst hso;obtain⟨htk,F⟩:=h2.take (s:=stay) (by rw[aT];exact f);rw[wy (order:=order) f]at htk;have ae4:TC w B w (.slice ao stay stay) ((rowsOf g row<|bC stay order).take<|stay+0):=.inr ⟨htk,ao,by simp[rowsOf,bC]⟩;have ae5:=V ae4;have HB:=V hb;have HR:=V h4;have HM2:=V hm2;have H1:=V h1;have H2:=V h2;have HM3:=V Fw;have HNo:=V F;have hk0:(0:Int)<=(stay:Int):=by omega
 have hk1:(stay:Int)<=(mo:Int):=by omega
 have hk2:(stay:Int)<=(stay:Int):=by omega
 have hmo:mo<=9223372036854775807:=by unfold ZU at hm2;exact hm2
 obtain⟨r0,r1,r2⟩:=h4.roots;obtain⟨a0,m0,hr0,_⟩:=aF r0;obtain⟨a1,m1,hr1,_⟩:=aF r1;obtain⟨a2,m2,hr2,_⟩:=aF r2;have HR0:=V hr0;have HR1:=V hr1;have HR2:=V hr2;clear hb h1 h2 h3 h4 htk ae4 hs S hm2 Fw F hr0 hr1 hr2 r0 r1 r2
 go_enter (fU func191 rfl),ntmps191
 go_wp2_with fail
 go_loopw [6,26] (λv i wr=>∃k:Nat,k<=order.length/\i=Θ Ψ k/\TC wr B w v ((rowsOf g row<|bC stay order).take<|stay+k)/\M w w wr) (λ_ i _=>order.length-(intOf i).toNat)
 case atStart=>exact⟨0,Nat.zero_le _,rfl,ae5.out,Δ _ _⟩
 case round=>
  obtain⟨k,N,rfl,L,a⟩:=hrel;clear hc1 hcs0;by_cases r:k<order.length
  ·obtain⟨p,q,e1⟩:=ep r;obtain⟨gs,cs,e,_⟩:=HS.out.2.2.2.1.form (by omega);obtain rfl:as0=U ⟨gs,0,Z⟩:=by injection e
   clear e;obtain⟨d1,d2,_,_,hgl⟩:=OV.at_ HS.out.2.2.2.1 e1;obtain⟨A,_⟩:=HO.out.ok _<|ψ e1;obtain⟨bn,j,ar,mr,t0,t1,t2,t3,t4,t5⟩:=Dy HB.out H1.out H2.out HR.out A (by omega);have HT0:=V t0;clear t0;have f1:=cG a d1 hgl;have f2:=cG a d2 hgl;have HT1:=V t1;have HT2:=V t2;have HT5:=V t5;have E1:=V e1;have HTC:=V L;have hz:=a.size;clear t1 t2 t3 t5 e1 L d1 d2 A
   go_wp2_with fail
   refine(HT5.out _<|a.trans<|(af wr _).mono hz).mono ?_;rintro e w3 ⟨rfl,hb3⟩;have hB3:=a.trans<|((af wr<|ω #[Θ Ψ p,Θ Ψ q] 50).mono hz).trans<|hb3.mono (by simp;omega);have q1:=cG hB3 HT1.out t4;have q2:=cG hB3 HT2.out t4;clear f1 f2;have hcl:=hvl _<|j9 (HO.out.ok _<|ψ E1.out).1;have hz3:=hB3.size;have H:((rowsOf g row<|bC stay order).take<|stay+k).length<=1000000000:=by have:=Yx (stay+k)<|rowsOf g row<|bC stay order;omega
   go_wp2_with (at_builtin;refine tL rfl _ _ rfl B w _ _ rfl (HTC.out.low<|((af wr<|ω #[Θ Ψ p,Θ Ψ q] 50).trans<|hb3.mono<|by simp).alloc (by have:=hb3.size;simp at this;omega) _) w3.heap.size _ ((cellAt g (p,q)).1,.slice ar (cellAt g (p,q)).2.length mr) rfl rfl (by simp[go_sem,ZQ]) H (by simp;omega) ?_;intro v' w5 Ro hb5)
   go_wp2_with fail
   go_roundw
   case rel=>exact⟨k+1,by omega,by go_num,.inl (by rw[zN E1.out,HT0.out];exact Ro),(hB3.alloc hz3 _).trans hb5⟩
   case measure=>simp[intOf];omega
  ·have O:k=order.length:=by omega
   subst O;obtain⟨w1,hw1⟩:∃w1,w1=wr:=⟨_,rfl⟩;subst hw1;have T:(rowsOf g row<|bC stay order).take (stay+order.length)=rowsOf g row (bC stay order):=θ (by rw[nk,fo];exact .refl);rw[T]at L;have hrc:=L.rc hB;clear L T ae5;have hLl:(rowsOf g row<|bC stay order).length=stay+order.length:=by rw[nk,fo]
   obtain⟨av,G,hv,hvm,arm,_,_⟩:=id hrc;rw[hLl]at hv hvm;subst hv;have A:∀v∈order,zH g v:=λv hv=>(HO.out.ok v hv).1;have K:(∀v∈order,v.1=3)\/stay=0:=hst.elim (λh=>.inl h.2) .inr;have hND:=oq (g:=g) (stay:=stay) HO.out.nodup K;have hKN:=BL (g:=g) (stay:=stay) HO.out.nodup K A;have hms:MS w w1 B b bs bm order (.slice av (stay+order.length) G) (rowsOf g row<|bC stay order) (gB stay order) row (fQ (X3<|E8 order stay) (bd g) (gB stay order) 0):=by rw[zM];exact⟨a.mono hB,hrc,(PN HR.out λk N=>IQ f A N).low a,a.block b hbl,⟨a.block bs ai7,qb.bK a,λj h1 _ _=>a.block j h1⟩,HS.out.2.2.2.2.of_block<|a.block bm HS.out.Q4.2⟩
   have hzw:=a.size;have HMS:=V hms;have HND:=V hND;have z:=V hKN;have Q:=V A;have ae7:=V hLl;clear hrc hms hND hKN A hLl r a hst K
   go_wp2_with fail
   go_loopw [41] (λi wr=>∃k:Nat,k<=stay+order.length/\i=Θ Ψ k/\w1.heap.size<=wr/\Hid (MS w wr B b bs bm order (.slice av (stay+order.length) G) (rowsOf g row<|bC stay order) (gB stay order) row<|fQ (X3<|E8 order stay) (bd g) (gB stay order) k)) (λi _=>stay+order.length-(intOf i).toNat)
   case atStart=>exact⟨0,Nat.zero_le _,rfl,.refl,HMS⟩
   case round=>
    obtain⟨k,N,rfl,hzx,u⟩:=hrel;clear HMS;by_cases r:k<stay+order.length
    ·obtain⟨d,ek⟩:∃d,(bC stay order)[k]?=U d:=⟨_,χ (by rw[fo];exact r)⟩;have eK:(gB stay order)[k]?=U d:=by unfold gB;rw[YZ (by rw[fo];exact r)];exact ek
     have eL:(rowsOf g row<|bC stay order)[k]?=U ((cellAt g d).1,row d):=by simp[rowsOf,ek]
     obtain⟨f1,f2⟩:=jx dW (λv=>Θ Ψ v.1) (λv=>v.2) (λ_=>rfl) _ k _ eL;obtain⟨gv,mv2,e,_,hgv,_,_,hx⟩:=u.out.rc.cells (by rw[ae7.out];omega);rw[ae7.out]at e;obtain rfl:av=U ⟨gv,0,Z⟩:=by injection e
     clear e;have c1:=hx _ _ f1;have c2:=hx _ _ f2;have t:=ψ eK;have x:=u.out.kr.1 d t;rw[hV z.out eK]at x;have hkl:(bd g d).length<=100000:=by have hmk:=ψ ek;have h1:=jC Q.out hmk;have h2:=hvl _<|j9<|IP f Q.out hmk;simpa[bd,h1]using h2
     obtain⟨ar,mr,l,_⟩:=aF x;rw[l]at c2;have HOV:=V x;have C:=V l;have EK:=V eK;clear hx f1 f2 x l eL ek eK;have hbx:b<wr:=by omega
     have hsx:bs<wr:=by omega
     have hBx:B<=wr:=by omega
     have hal:=u.out.low (af wr<|ω #[Θ Ψ (cellAt g d).1,.slice ar (bd g d).length mr] 76) hBx hbx hsx
     go_wp2_with fail
     refine(uO _ B bs bm _ (.slice as0 order.length ms0) (bd g d) order stay (IU C.out (by have:=hal.kr.1 d t;rwa[hV z.out EK.out]at this)) (hal.hs.1.trans HS.out.2.2.1) hal.met (by omega) (by omega) (by omega)<|by omega).mono ?_;rintro e w4 ⟨rfl,P,D⟩
     go_wp2_with fail
     refine⟨⟨k+1,by omega,by go_num,?_,V ?_⟩,by simp[intOf];omega⟩;have:=D.size;simp at this;omega;rw[<-pZ z.out EK.out];have:=hal.rename t (by rw[C.out];exact D) (IU C.out.symm P) HB.out HS.out.2.2.1 (by simp;omega);rw[hV z.out EK.out];exact this
    ·have O:k=stay+order.length:=by omega
     subst O;have a:=u.out.hb.trans HB.out;have e2:wr (b,2)=U (.slice a0 g.roots.length m0):=by simp[Γ,a,HR0.out]
     have e3:wr (b,3)=U (.slice a1 g.aA.length m1):=by simp[Γ,a,HR1.out]
     have e4:wr (b,4)=U (.slice a2 g.done.length m2):=by simp[Γ,a,HR2.out]
     have hbx:b<wr:=by omega
     have hsx:bs<wr:=by omega
     have hBx:B<=wr:=by omega
     clear a
     go_wp2_with fail
     go_region_held3 (λw'=>w' (b,2)=U (.slice a0 g.roots.length m0)/\w' (b,3)=U (.slice a1 g.aA.length m1)/\w' (b,4)=U (.slice a2 g.done.length m2)) (go_keep) (fail)
     go_wp2_with fail
     clear e2 e3 e4;have BP:M wr wr ((wr.alloc<|ω #[.slice a0 g.roots.length m0,.slice a2 g.done.length m2,.slice a1 g.aA.length m1] 23).drew):=(af wr _).drew;have hx9:((wr.alloc<|ω #[.slice a0 g.roots.length m0,.slice a2 g.done.length m2,.slice a1 g.aA.length m1] 23).drew).heap[wr.heap.size]?=U (ω #[.slice a0 g.roots.length m0,.slice a2 g.done.length m2,.slice a1 g.aA.length m1] 23 (0,0)):=ξ wr _;have hM9:=u.out.low BP hBx hbx hsx;have hz9:=BP.size;generalize (wr.alloc _).drew=w9 at BP hx9 hM9 hz9⊢;have hL:∀j:Nat,j<3->∃aj mj d,(gB stay order)[stay+order.length+j]?=U d/\row d=.slice aj (bd g d).length mj/\(bd g d).length<=100000/\
      (∀X:I,X.heap[wr.heap.size]?=U (ω #[.slice a0 g.roots.length m0,.slice a2 g.done.length m2,.slice a1 g.aA.length m1] 23 (0,0)) ->X (wr.heap.size,j)=U (.slice aj (bd g d).length mj)):=by
      have hat:∀j:Nat,(gB stay order)[stay+order.length+j]?=([(0,0),(0,2),(0,1)]:List HV)[j]?:=λj=>by unfold gB;rw[Y6 (by rw[fo];omega),fo,Nat.add_sub_cancel_left]
      intro j E
      match j,E with
      |0,_=>exact⟨a0,m0,(0,0),hat 0,HR0.out,hr,λX e=>by simp[Γ,e];rfl⟩
      |1,_=>exact⟨a2,m2,(0,2),hat 1,HR2.out,hdl,λX e=>by simp[Γ,e];rfl⟩
      |2,_=>exact⟨a1,m1,(0,1),hat 2,HR1.out,hwl,λX e=>by simp[Γ,e];rfl⟩
     have HL:=V hL;have HM9:=V hM9;have HX9:=V hx9;have aro:wr.heap.size<w9:=(Ω.1 hx9).1;obtain⟨W2,hW2⟩:∃W2,W2=wr:=⟨_,rfl⟩;subst hW2;clear hL hM9 hx9 BP u
     go_loopw [68] (λi wr=>∃k:Nat,k<=3/\i=Θ Ψ k/\w9.heap.size<=wr/\Hid (wr.heap[W2.heap.size]?=U (ω #[.slice a0 g.roots.length m0,.slice a2 g.done.length m2,.slice a1 g.aA.length m1] 23 (0,0)))/\Hid (MS w wr B b bs bm order (.slice av (stay+order.length) G) (rowsOf g row<|bC stay order) (gB stay order) row<|fQ (X3<|E8 order stay) (bd g) (gB stay order)<|stay+order.length+k)) (λi _=>3-(intOf i).toNat)
     case atStart=>exact⟨0,Nat.zero_le _,rfl,.refl,HX9,HM9⟩
     case round=>
      obtain⟨k,N,rfl,hzx,HXr,u⟩:=hrel;clear HM9 HX9;by_cases r:k<3
      ·obtain⟨aj,mj,d,eK,l,hkl,hcx⟩:=HL.out k r;have c1:=hcx wr HXr.out;have t:=ψ eK;have x:=u.out.kr.1 d t;rw[hV z.out eK,l]at x;have hBr:B<=wr:=by omega
       have hx3:W2.heap.size<wr:=by omega
       have HOV:=V x;have C:=V l;have EK:=V eK;clear hcx x l eK
       go_wp2_with fail
       refine(uO _ B bs bm _ (.slice as0 order.length ms0) (bd g d) order stay HOV.out (u.out.hs.1.trans HS.out.2.2.1) u.out.met (by omega) (by omega) (by omega)<|by omega).mono ?_;rintro e w4 ⟨rfl,P,D⟩
       go_wp2_with fail
       refine⟨⟨k+1,by omega,by go_num,?_,V ?_,V ?_⟩,by simp[intOf];omega⟩;have:=D.size;omega;exact(D.block _ hx3<|Zx<|qd HOV.out HXr.out<|by decide).trans HXr.out;rw[<-Nat.add_assoc,<-pZ z.out EK.out];have:=u.out.rename t (by rw[C.out];exact D) (IU C.out.symm P) HB.out HS.out.2.2.1 hBr;rw[hV z.out EK.out];exact this
      ·have O:k=3:=by omega
       subst O;have a:=u.out.hb.trans HB.out;have e0:wr b=U n:=by simp[Γ,a]
       have e1:wr (b,1)=U (.slice ao g.old.length mo):=by simp[Γ,a]
       have e5:wr (b,5)=U m:=by simp[Γ,a]
       have q0:wr.frozen? b=R:=by simp[Z9,a]
       have q1:wr.frozen? (b,1)=R:=by simp[Z9,a]
       have q5:wr.frozen? (b,5)=R:=by simp[Z9,a]
       have HBW:=V a;clear a r
       go_wp2_with fail
       go_end0;have s1:=heap_setCell_same (i:=1) (v:=.slice av (stay+order.length) G) HBW.out;have s2:=heap_setCell_same (i:=0) (v:=Z8 Z 0 0) s1;have s3:=heap_setCell_same (i:=5) (v:=Z8 Z 0 0) s2;have y:∀g':Nat,g'≠b->(((wr.setCell (b,1)<|.slice av (stay+order.length) G).setCell b<|Z8 Z 0 0).setCell (b,5)<|Z8 Z 0 0).heap[g']?=wr.heap[g']?:=λg' h=>by rw[ο _ _ _ _ h,ο _ _ _ _ h,ο _ _ _ _ h]
       have H:stay+order.length+3=(gB stay order).length:=by simp[gB,fo]
       have W:=u.out.kr;rw[H]at W;refine⟨rfl,IS hBb (by simpa using s3) (u.out.rc.below λg' cur hg'=>y g' (by rintro rfl;rw[HBW.out]at hg';cases hg')) ⟨λk N=>aS (W.1 k N) λg' e=>y g' (by rintro rfl;exact qd (W.1 k N) HBW.out (by decide) e),W.2⟩ HND.out f Q.out λj E=>⟨(HJ.out j E).1,λk N=>(HJ.out j E).2 k<|IQ f Q.out N⟩,?_,?_,λj c E=>(y j (by rintro rfl;rw[HB.out]at E;cases E)).trans<|u.out.hs.2.1 j c E,λj E r=>(y j (HJ.out j E).1).trans<|u.out.hs.2.2 j r (HJ.out j E).1 λk N=>(HJ.out j E).2 k<|IQ f Q.out N⟩;exact((u.out.below.setCell (p:=⟨b,1,Z⟩) hBb _).setCell (p:=⟨b,0,Z⟩) hBb _).setCell (p:=⟨b,5,Z⟩) hBb _;refine(y bs ?_).trans u.out.hs.1;rintro rfl;have:=HS.out.2.2.1;rw[HB.out]at this;cases this
def aX{P w ops o a K Q E}(e:o.guard=Z)(s x t)(f:o.op=.call {callee:=.builtin .append,args:=#[s,x],argTypes:=#[t,t]})(v v2)(hs:a.eval s=v)(j:a.eval x=v2)(b:υ->I->Prop)(d:∃c w',(Z0 #[t,t] o.type #[v,v2]).run P w=.ok c w'/\b c w')(h:∀c w',b c w'->K (a.put o.dst c) w'):
 if Y2 o (yielded ops a.tmps)=Y then Zb P o a w K Q else E:=by
 rw[if_pos (by simp[Y2,e])];obtain⟨c,w',i,g⟩:=d;unfold Zb YF;simp only[f,resolve,invoke,builtin,ZX,ZE,κ,YP,Zr,Yo,hs,j,i];exact h c w' g
def tN{w ty a n l l2 v2}(h:eI w (.slice a n n) l)(C:eI w v2 l2)(L:l.length<=1000000)(D:l2.length<=1000000):
 ∃g w',(Z0 #[23,23] ty #[.slice a n n,v2]).run prog w=.ok g w'/\(eI w' g (l++l2)/\M w.heap.size w w'/\∃a' q,g=.slice a' (l++l2).length q):=by
 obtain⟨x,hi,r,s,t⟩:=ZM nh;obtain⟨a',q,e,K,h3,h4⟩:=id h;cases e
 obtain⟨y,m2,rfl,H,J,G⟩:=id C;obtain h0|h0:=Nat.eq_zero_or_pos l2.length
 have d:l2=[]:=φ h0;subst d;refine⟨.slice a l.length l.length,w,?_,by simpa using h,Δ _ _,a,l.length,by simp⟩;obtain _|y:=y
 simp[Z0,ε lx,sizeOf,Ya,hi,Zn,Zs,Yf];cases a<;>simp
 have E:=run_firstCells_some (P:=prog) w x.size 0 y 0 m2 [] (by simp) (by simp);simp[Z0,ε lx,sizeOf,Ya,hi,Zn,Yf,E];cases a<;>simp[Yf]
 obtain⟨A,z,rfl,F,i⟩:=G h0;obtain _|a:=a
 have d:l=[]:=by
  obtain h5|h5:=Nat.eq_zero_or_pos l.length
  exact φ h5;obtain⟨_,_,e,_⟩:=h4 h5;cases e
 subst d;obtain⟨g,w',f,r1,r2,_⟩:=Yu (P:=prog) w w.heap.size 23 ty 50 x _ 2 16 lx hi r s t rfl (by decide) (Z8 Z 0 0) 0 [] (ZC w _ 50 2) ⟨A,z,Z⟩ l2.length m2 (l2.flatMap lU) (fx l2) (zt i) (V1 l2) (by unfold ZU;omega) (by omega) .refl;have c:OV w' w.heap.size g l2:=by unfold OV;simpa using r1
 obtain⟨a',q,m,_⟩:=aF c;exact⟨g,w',f,by simpa using c.reads,(Δ _ w).grown r2 .refl (λk e=>by cases e),a',q,by simpa using m⟩
 ·have p:∀j u,(l.flatMap lU)[j]?=U u->w.cell? (a.add j)=U u:=by
   intro j u B;obtain h5|h5:=Nat.eq_zero_or_pos l.length
   have:l=[]:=φ h5;subst this;simp at B;obtain⟨b,o,e,hb,v⟩:=h4 h5;cases e
   exact zt v j u B
  obtain⟨g,w',f,r1,r2⟩:=Yr (P:=prog) w 23 ty 50 x _ 2 16 lx hi r s t rfl (by decide) a l.length l.length (l.flatMap lU) (fx l) p ⟨A,z,Z⟩ l2.length m2 (l2.flatMap lU) (fx l2) (zt i) (by omega) (by unfold ZU;omega) (by omega);have c:OV w' w.heap.size g (l++l2):=by unfold OV;rw[ZI,μ];exact r1
  obtain⟨a',q,m,_⟩:=aF c;exact⟨g,w',f,c.reads,(Δ _ w).grown r2 .refl (λk e=>by cases e),a',q,m⟩
section
variable(w:I)(B b:Nat)
structure im(g:GH):Prop where
 cells:jB g
 cJ:∀v∈cJ g,zI g v
 news:g.new.length<=400
 bw:g.old.length<=400
 roots:g.roots.length<=10000
 aA:g.aA.length<=10000
 done:g.done.length<=10000
 eT:∀c∈g.new++g.old,c.2.length<=100
 marks:∀n∈g.marked,0<=n/\n<g.old.length
 marked:g.marked.length<=1000
def im.pp{g}(h:im g):(Md.cJ g).length<=100000:=by have:=h.roots;have:=h.aA;have:=h.done;simp[Md.cJ];omega
theorem sD{g:GH}(h:im g):∀(l:List Int),(∀n∈l,0<=n/\n<g.old.length) ->(l.flatMap λn=>(g.old.getD n.toNat (0,[])).2).length<=l.length*100
 |[],_=>.refl
 |n::l,hm=>by
  have c:=sD h l λx b=>hm x<|Zi _ b;have d:=hm n Zq;have a:n.toNat<g.old.length:=by omega
  rw[η,μ,Z2];have h4:(g.old.getD n.toNat (0,[])).2.length<=100:=by rw[ZH,χ a];exact h.eT (g.old[n.toNat])<|ZB _<|List.getElem_mem a
  omega
def im.more{g}(h:im g):(l1 g).length<=100000:=by have:=sD h g.marked h.marks;have:=h.marked;unfold l1;omega
def im.zO{g}(h:im g):∀v∈l1 g,zI g v:=by
 intro v a;obtain⟨n,c,a⟩:=YQ.1 a;have d:=h.marks n c;have b:n.toNat<g.old.length:=by omega
 rw[ZH,χ b]at a;exact h.cells _ (ZB _<|List.getElem_mem b) v a
def EW{g:GH}{l}{n:Int}:(l++[n]).flatMap (λn=>(g.old.getD n.toNat (0,[])).2)=l.flatMap (λn=>(g.old.getD n.toNat (0,[])).2)++(g.old.getD n.toNat (0,[])).2:=by simp
def dv{w}:eI w (Z8 Z 0 0) []:=⟨Z,0,rfl,.refl,by decide,λh=>absurd h<|Nat.lt_irrefl 0⟩
def bS.less{w B B' bs bm so l}(h:bS w B bs bm so l)(a:B'<=B):bS w B' bs bm so l:=⟨Nat.le_trans a h.1,Nat.le_trans a h.2.1,h.2.2.1,h.2.2.2.1.less a,h.2.2.2.2⟩
def eI.tight{w a n m l}(h:eI w (.slice a n m) l):n=l.length/\eI w (.slice a n n) l:=by
 obtain⟨c,f,e,d,b,h3⟩:=h;cases e
 exact⟨rfl,a,l.length,rfl,.refl,by omega,h3⟩
def BN(g)(i:dm w B b g)(h:im g):
 ι prog 307 #[.agg #[],.pointer b] w λe w'=>(∃bs bm so,e=.returned (.tuple #[.pointer (bs:Nat),Θ Ψ 0])/\bS w' w bs bm so (bV g co []))/\M w w w':=by
 have j:=V i;have a:=V h;clear i h
 go_enter (fU func307 rfl),ntmps307
 go_wp2_with fail
 have d:=af w<|ω #[] 119;refine(po 168 co (.inr ⟨rfl,rfl⟩) _ B b g _ [] (j.out.below d) dv a.out.cells a.out.cJ (λv k=>by cases k) (by simp) (by have:=a.out.news;have:=a.out.bw;omega) a.out.pp (λc hc=>by have:=a.out.eT c hc;omega)).mono ?_;rintro e l ⟨⟨bs,bm,so,rfl,hs⟩,f⟩
 go_wp2_with fail
 go_ret2
 exact⟨⟨bs,bm,so,rfl,hs.less<|by simp⟩,d.trans<|f.mono<|by simp⟩
def zP(g)(i:dm w B b g)(h:im g):
 ι prog 309 #[.agg #[],.pointer b] w λe w'=>(∃bs bm so,e=.returned (.tuple #[.pointer (bs:Nat),Θ Ψ 0])/\bS w' w bs bm so (bV g co []))/\M w w w':=by
 have j:=V i;have a:=V h;clear i h
 go_enter (fU func309 rfl),ntmps309
 go_wp2_with fail
 have d:=af w<|ω #[] 120;refine(po 168 co (.inr ⟨rfl,rfl⟩) _ B b g _ [] (j.out.below d) dv a.out.cells a.out.cJ (λv k=>by cases k) (by simp) (by have:=a.out.news;have:=a.out.bw;omega) a.out.pp (λc hc=>by have:=a.out.eT c hc;omega)).mono ?_;rintro e l ⟨⟨bs,bm,so,rfl,hs⟩,f⟩
 go_wp2_with fail
 go_ret2
 exact⟨⟨bs,bm,so,rfl,hs.less<|by simp⟩,d.trans<|f.mono<|by simp⟩
def qe(g)(hg:dm w B b g)(hp:im g):
 ι prog 83 #[.agg #[],.pointer b] w λe w'=>(∃bs bm so,e=.returned (.tuple #[.pointer (bs:Nat),Θ Ψ (g.old.length:Int)])/\bS w' w bs bm so (bV g dy<|l1 g))/\M w w w':=by
 have HG:=V hg;have f:=V hp;obtain⟨n,o,m,row,hBb,hb,W,h2,h3,h4⟩:=hg;have j:=(Ω.1 hb).1;obtain⟨am,mm,Q,hm1,hm2,T⟩:=h3.reads;have S:w (b,5)=U (.slice am g.marked.length mm):=by simp[Γ,hb,Q]
 obtain⟨ao,mo,F,ho1,ho2,_⟩:=h2.reads h4.Du;have q:w (b,1)=U (.slice ao g.old.length mo):=by simp[Γ,hb,F]
 have E:=V q;have HM:=V T;have HB:=V hb;have H1:=V W;have H2:=V h2;have H4:=V h4;clear hp hb W h2 h3 h4 T F Q q;have X:=af w<|ω #[] 102
 go_enter (fU func83 rfl),ntmps83
 go_wp2_with fail
 have O:=cG X S j
 go_loopw [6,15] (λv i wr=>∃k:Nat,k<=g.marked.length/\i=Θ Ψ k/\eI wr v ((g.marked.take k).flatMap λn=>(g.old.getD n.toNat (0,[])).2)/\M w w wr) (λ_ i _=>g.marked.length-(intOf i).toNat)
 case atStart=>exact⟨0,Nat.zero_le _,rfl,dv,X⟩
 case round=>
  obtain⟨k,hk,rfl,z,a⟩:=hrel;clear S O;by_cases hlt:k<g.marked.length
  ·obtain⟨ba,oa,e,hba,P⟩:=HM.out (by omega);cases e
   obtain⟨n0,e1⟩:=ot hlt;have d1:=(P.below a hba) k n0 e1;obtain⟨J,hn1⟩:=f.out.marks n0<|ψ e1;obtain⟨i,rfl⟩:=Int.eq_ofNat_of_zero_le J;have hi:i<g.old.length:=by omega
   obtain⟨kd,y,D⟩:=cQ hi;have r:=bH (row:=row) (kind:=4) D;obtain⟨gn,mn,e,_,hgn,_,_,hx⟩:=H2.out.cells (by rw[aT];omega);subst e;have q:wr (b,1)=U (.slice gn g.old.length mn):=by have:=HB.out;rw[aT]at this;rw[a.cell (p:=⟨b,1,Z⟩) j];simp[Γ,this]
   obtain⟨f1,f2⟩:=jx dW (λv=>Θ Ψ v.1) (λv=>v.2) (λ_=>rfl) _ i _ r;obtain⟨ky,kv⟩:=j6 D;have d:=(H4.out.1 _ ky).reads;rw[kv]at d;dsimp only at d;obtain⟨ar,mr,hr,_⟩:=id d;rw[hr]at d;have c2:wr (gn,i*2+1)=U (.slice ar y.length mr):=by rw[a.cell (p:=⟨gn,i*2+1,Z⟩) hgn,<-hr];exact hx _ _ f2
   have hvl:=f.out.eT (kd,y)<|ZB _<|ψ D;have hLl:((g.marked.take k).flatMap λn=>(g.old.getD n.toNat (0,[])).2).length<=100000:=by have W:=sD f.out (g.marked.take k) λx hx=>f.out.marks x<|XQ hx;have h2:=Yx k g.marked;have h3:=f.out.marked;omega
   have A:(g.old.getD (Int.toNat (i:Int)) (0,[])).2=y:=by simp[ZH,D]
   have G:((g.marked.take<|k+1).flatMap λn=>(g.old.getD n.toNat (0,[])).2)=((g.marked.take k).flatMap λn=>(g.old.getD n.toNat (0,[])).2)++y:=by rw[bW e1,EW,A]
   have K:=V G;obtain⟨av,mv,rfl,s,hv2,_⟩:=id z;have HV:=V z;have HVS:=V d;have hi0:(0:Int)<=(i:Int):=by omega
   have hL0:(0:Int)<=(((g.marked.take k).flatMap λn=>(g.old.getD n.toNat (0,[])).2).length:Int):=by omega
   have hL1:(((g.marked.take k).flatMap λn=>(g.old.getD n.toNat (0,[])).2).length:Int)<=(mv:Int):=by omega
   clear P e1 J r f1 f2 d hr z G A D hx kv ky;generalize ((g.marked.take k).flatMap λn=>(g.old.getD n.toNat (0,[])).2)=L at K HV hLl hL0 hL1 s⊢
   go_wp2_with fail
   go_region_law ((refine aX rfl _ _ 23 (by rfl) (.slice av L.length L.length) (.slice ar y.length mr) (by rfl) (by rfl) _ (tN (l:=L) (l2:=y) ((HV.out.tight.2).below (Δ _ wr).drew) (HVS.out.below<|a.trans<|(Δ _ wr).drew.mono a.size) (by omega)<|by omega) ?_;intro v' w1 W))
   all_goals
    obtain⟨k1,k2,_⟩:=W
    go_wp2_with fail
    go_roundw
    case rel=>exact⟨k+1,by omega,by go_num,by rw[K.out];exact k1,a.trans<|((Δ _ wr).drew.trans k2).mono a.size⟩
    case measure=>simp[intOf];omega
  ·have hke:k=g.marked.length:=by omega
   subst hke;rw[θ .refl]at z;have u:eI wr _ (l1 g):=z;clear z;have H:=f.out.more;have N:=V f.out.zO;obtain⟨av,mv,rfl,s,hv2,_⟩:=id u;have HV:=V u;have q:=cG a E.out j;clear u;obtain⟨ms,t⟩:∃ms,ms=l1 g:=⟨_,rfl⟩;rw[<-t]at HV N s H⊢;have HMS:=V t;clear t
   go_wp2_with fail
   have h:=a.trans<|(Δ _ wr).drew.mono a.size
   go_region_held3 (λw'=>w' (b,1)=U (.slice ao g.old.length mo)) (first|assumption|go_keep)
    (first|(go_at_call 150;(refine(po 151 dy (.inl ⟨rfl,rfl⟩) _ B b g _ ms (HG.out.below h) (HV.out.below (Δ _ wr).drew) f.out.cells f.out.cJ N.out H (by have:=f.out.news;have:=f.out.bw;omega) f.out.pp (λc hc=>by have:=f.out.eT c hc;omega)).mono ?_);rintro e w3 ⟨⟨bs,bm,so,rfl,hs⟩,hb3⟩;have C:=h.trans<|hb3.mono h.size;have hc3:=cG C E.out j))
   go_wp2_with fail
   go_ret2
   exact⟨⟨bs,bm,so,rfl,by rw[<-HMS.out];exact hs.less h.size⟩,C⟩
end
section
variable{c:Array υ}{b:Nat}(w:I){J:Nat->Prop}(g:GH){B:Nat}
def cq(J:Nat->Prop)(B b:Nat)(g:GH)(s:uH)(w:I)(e:Ending)(w':I):Prop:=
 match Md.collect s g with
 |none=>e=.returned (.tuple #[Θ Ψ 0,.bool R])/\cR w' B b g J/\M B w w'/\qb w w'/\∀j,J j->j<w->w'.heap[j]?=w.heap[j]?
 |some (n,g')=>e=.returned (.tuple #[Θ Ψ (n:Int),.bool Y])/\cR w' B b g' J/\M B w w'/\qb w w'/\∀j,J j->j<w->w'.heap[j]?=w.heap[j]?
def cF{w:I}{e size n v xs t fr}(d:w.ownsRow B e size v n xs)(hb:w.heap[b]?=U (.cells c t fr))(i:t≠e):v.ownBlock≠U b:=by
 intro h;obtain⟨_,⟨rfl,_⟩|⟨g,f,a,rfl,_,j,_⟩⟩:=d;cases h
 cases h
 grind
def cR.ne{w j g}(h:cR w B b g J)(a:J j):j≠b:=by obtain⟨n,o,m,row,f,c,e,d,h3,h4,h5⟩:=h;exact(h5 j a).1
def cR.copy{w L g}(h:cR w B L g J)(p:∀j,J j->j≠b)(hb:w.heap[b]?=U (.cells c 114 (0,0)))(l:B<=b):
 ∃a0 D e a1 P m1 f S m2 C x v F y Q E u N,w.heap[L]?=U (ω #[.slice a0 D e,.slice a1 P m1,.slice f S m2,.slice C x v,.slice F y Q,.slice E u N] 114 (0,0))/\
  ∀w',w'.heap[b]?=U (ω #[.slice a0 D e,.slice a1 P m1,.slice f S m2,.slice C x v,.slice F y Q,.slice E u N] 114 (0,0)) ->(∀k,k≠b->w'.heap[k]?=w.heap[k]?) ->cR w' B b g J:=by
 obtain⟨n,o,m,row,hB,r,A,t,h3,h4,h5⟩:=h;obtain⟨r0,r1,r2⟩:=h4.roots;obtain⟨an,mn,K,_⟩:=id A;obtain⟨X,W,H,_⟩:=id t;obtain⟨T,mm,G,_⟩:=aF h3;obtain⟨a0,e,s,_⟩:=aF r0;obtain⟨a1,m1,e1,_⟩:=aF r1;obtain⟨f,m2,e2,_⟩:=aF r2;refine⟨an,_,mn,X,_,W,a0,_,e,a1,_,m1,f,_,m2,T,_,mm,by rw[r,K,H,G,s,e1,e2],λw' i a=>?_⟩;refine⟨n,o,m,row,l,by rw[i,K,H,G,s,e1,e2],A.below λg q d=>a g (by rintro rfl;rw[hb]at d;cases d),t.below λg q d=>a g (by rintro rfl;rw[hb]at d;cases d),aS h3 λg d=>a g (by rintro rfl;exact cF h3 hb (by decide) d),⟨λk z=>aS (h4.1 k z) λg d=>a g (by rintro rfl;exact cF (h4.1 k z) hb (by decide) d),h4.2⟩,λj O=>⟨p j O,(h5 j O).2⟩⟩
def dm.obj{w g}(h:dm w B b g):B<=b/\b<w/\∃c,w.heap[b]?=U (.cells c 114 (0,0)):=by obtain⟨n,o,m,row,a,hb,_⟩:=h;exact⟨a,(Ω.1 hb).1,_,hb⟩
def PO{w:I}{v0 v1 v2 v3 v4 v5}(hb:w.heap[b]?=U (.cells c 114 (0,0)))(hc:c.size=6):
 ((((((w.setCell b v0).setCell (b,1) v1).setCell (b,2) v2).setCell (b,3) v3).setCell (b,4) v4).setCell (b,5) v5).heap[b]?=U (ω #[v0,v1,v2,v3,v4,v5] 114 (0,0))/\
 ∀k,k≠b->((((((w.setCell b v0).setCell (b,1) v1).setCell (b,2) v2).setCell (b,3) v3).setCell (b,4) v4).setCell (b,5) v5).heap[k]?=w.heap[k]?:=by
 constructor
 ·have h:=heap_setCell_same (i:=5) (v:=v5) (heap_setCell_same (i:=4) (v:=v4)<|heap_setCell_same (i:=3) (v:=v3)<|heap_setCell_same (i:=2) (v:=v2)<|heap_setCell_same (i:=1) (v:=v1)<|heap_setCell_same (i:=0) (v:=v0) hb);rw[h];clear h;obtain⟨l⟩:=c;have d:l.length=6:=hc;clear hc hb;obtain _|⟨x0,_|⟨x1,_|⟨x2,_|⟨x3,_|⟨x4,_|⟨x5,_|⟨x6,l⟩⟩⟩⟩⟩⟩⟩:=l
  all_goals first
   |(exfalso;simp at d;done)
   |rfl
 intro k a;rw[ο _ _ _ _ a,ο _ _ _ _ a,ο _ _ _ _ a,ο _ _ _ _ a,ο _ _ _ _ a,ο _ _ _ _ a]
def mH:Md.collect .minor g=if 32<g.old.length+(bV g dy<|l1 g).length then Z else U ((bV g dy<|l1 g).length,Md.move g (bV g dy<|l1 g) g.old.length):=rfl
def ou:Md.collect .full g=if 32<(bV g co []).length then Z else U ((bV g co []).length,Md.move g (bV g co []) 0):=by show(if 32<0+_ then _ else _)=_;simp
def mI:Md.collect .major g=if 32<(bV (iF g) co []).length then Z else U ((bV (iF g) co []).length,Md.move (iF g) (bV (iF g) co []) 0):=by show(if 32<0+_ then _ else _)=_;simp
def IV:(YR (.iface 102<|.agg #[]) 171 120 Y).run prog w=.ok (.tuple #[.agg #[],.bool R]) w:=by kernel_rfl
def Oa:(YR (.iface 119<|.agg #[]) 171 120 Y).run prog w=.ok (.tuple #[.agg #[],.bool R]) w:=by kernel_rfl
def IW:(YR (.iface 120<|.agg #[]) 171 120 Y).run prog w=.ok (.tuple #[.agg #[],.bool Y]) w:=by kernel_rfl
def IX:(XR 463 102 (.agg #[]) "caracole/gc.plan").run prog w=.ok (83,.agg #[]) w:=by kernel_rfl
def IY:(XR 463 102 (.agg #[]) "caracole/gc.sort").run prog w=.ok (306,.agg #[]) w:=by kernel_rfl
def Ob:(XR 463 119 (.agg #[]) "caracole/gc.plan").run prog w=.ok (307,.agg #[]) w:=by kernel_rfl
def IZ:(XR 463 120 (.agg #[]) "caracole/gc.plan").run prog w=.ok (309,.agg #[]) w:=by kernel_rfl
def I0:(XR 463 120 (.agg #[]) "caracole/gc.sort").run prog w=.ok (310,.agg #[]) w:=by kernel_rfl
def lz(B b g)(hg:cR w B b g J)(hp:im g)(X:B<=w):
 ι prog 144 #[.pointer b,.iface 102<|.agg #[]] w (cq J B b g .minor w):=by
 have O:=V hg;have l:=V hp;clear hg hp;have W:=IV;have hmp:=IX
 go_enter (fU func144 rfl),ntmps144
 go_wp2_with fail
 clear W hmp;have K:=af w<|ω #[] 120;refine(qe _ B b g (O.out.own.below K) l.out).mono ?_;rintro e w3 ⟨⟨N,bm,so,rfl,hs⟩,hb3⟩;obtain⟨order,h⟩:∃o,o=bV g dy (l1 g):=⟨_,rfl⟩;rw[<-h]at hs;have r:c9 g dy order:=by rw[h];exact c9.bV (.inl rfl) l.out.cells l.out.cJ l.out.zO
 have a:=K.trans<|hb3.mono<|by simp
 obtain⟨z,D,F,hsm,aek,_⟩:=aF hs.2.2.2.1;have C:w3 N=U (.slice z order.length D):=by simp[Γ,hs.2.2.1,F]
 have hol:=r.len;have hn1:=l.out.news;have hn2:=l.out.bw;have HO:=V h;have HK:=V r;have HS:=V hs;have A:=O.out.below a;have x:=V A;clear h r hs F A;by_cases q:32<g.old.length+order.length
 ·have s:(32:Int)<(g.old.length:Int)+(order.length:Int):=by omega
  go_wp2_with fail
  go_ret2
  have T:Md.collect .minor g=Z:=by rw[mH,<-HO.out,if_pos q]
  unfold cq;rw[T];exact⟨rfl,x.out,a.mono X,qb.bK a,λj _ m=>a.block j m⟩
 ·have s:¬(32:Int)<(g.old.length:Int)+(order.length:Int):=by omega
  go_wp2_with fail
  refine(BM w3 B b _ N bm so g dy order g.old.length x.out HS.out HK.out (.inl ⟨rfl,λv hv=>by have:=(HK.out.ok v hv).2;simpa[dy]using this⟩) (Nat.le_trans X a.size) (by omega) (λc hc=>by have:=l.out.eT c hc;omega) (by have:=l.out.roots;omega) (by have:=l.out.aA;omega) (by have:=l.out.done;omega)).mono ?_;rintro e w4 ⟨rfl,u,H,y,G,E⟩;have hcs:w4 N=U (.slice z order.length D):=by have:=C;simp only[Γ]at this⊢;rw[y];exact this
  obtain⟨f,hbl,c,t⟩:=u.own.obj;obtain⟨a0,n0,m0,a1,n1,m1,a2,n2,m2,a3,n3,m3,a4,n4,m4,a5,n5,m5,n,k⟩:=u.copy (λj L=>O.out.ne L) t f;have e0:w4 b=U (.slice a0 n0 m0):=by simp[Γ,n]
  have e1:w4 (b,1)=U (.slice a1 n1 m1):=by simp[Γ,n]
  have e2:w4 (b,2)=U (.slice a2 n2 m2):=by simp[Γ,n]
  have e3:w4 (b,3)=U (.slice a3 n3 m3):=by simp[Γ,n]
  have e4:w4 (b,4)=U (.slice a4 n4 m4):=by simp[Γ,n]
  have e5:w4 (b,5)=U (.slice a5 n5 m5):=by simp[Γ,n]
  have d:∀i,w4.frozen? ⟨b,i,Z⟩=R:=λi=>by simp[Z9,n]
  have f0:=d 0;have f1:=d 1;have f2:=d 2;have f3:=d 3;have f4:=d 4;have f5:=d 5;have hne:N≠b:=by rintro rfl;have:=HS.out.2.2.1;obtain⟨_,_,c',S⟩:=x.out.own.obj;rw[S]at this;cases this
  have HC:=V k;have Q:=V<|(qb.bK a).trans G;have HFJ:=V<|And.intro E t;clear G E;have H2:=V n;have H4:=V H;clear d k n t u H y C
  go_wp2_with fail
  go_ret2
  obtain⟨k1,P⟩:=PO (v0:=.slice a0 n0 m0) (v1:=.slice a1 n1 m1) (v2:=.slice a2 n2 m2) (v3:=.slice a3 n3 m3) (v4:=.slice a4 n4 m4) (v5:=.slice a5 n5 m5) H2.out rfl;have T:Md.collect .minor g=U (order.length,Md.move g order g.old.length):=by rw[mH,<-HO.out,if_neg q]
  unfold cq;rw[T];exact⟨rfl,HC.out _ k1 P,(a.mono X).trans<|(((((H4.out.setCell (p:=⟨b,0,Z⟩) f _).setCell (p:=⟨b,1,Z⟩) f _).setCell (p:=⟨b,2,Z⟩) f _).setCell (p:=⟨b,3,Z⟩) f _).setCell (p:=⟨b,4,Z⟩) f _).setCell (p:=⟨b,5,Z⟩) f _,Q.out.trans<|qb.IT H2.out P,λj L m=>(P j<|O.out.ne L).trans<|(HFJ.out.1 j L<|Nat.lt_of_lt_of_le m a.size).trans<|a.block j m⟩
def tO(B b g)(hg:cR w B b g J)(hp:im g)(X:B<=w):
 ι prog 144 #[.pointer b,.iface 119<|.agg #[]] w (cq J B b g .full w):=by
 have O:=V hg;have n:=V hp;clear hg hp;have W:=Oa;have hmp:=Ob
 go_enter (fU func144 rfl),ntmps144
 go_wp2_with fail
 clear W hmp;have K:=af w<|ω #[] 120;refine(BN _ B b g (O.out.own.below K) n.out).mono ?_;rintro e w3 ⟨⟨N,bm,so,rfl,hs⟩,hb3⟩;obtain⟨order,h⟩:∃o,o=bV g co []:=⟨_,rfl⟩;rw[<-h]at hs;have r:c9 g co order:=by rw[h];exact c9.bV (.inr rfl) n.out.cells n.out.cJ (λv hv=>by cases hv)
 have a:=K.trans<|hb3.mono<|by simp
 obtain⟨z,D,F,hsm,aek,_⟩:=aF hs.2.2.2.1;have C:w3 N=U (.slice z order.length D):=by simp[Γ,hs.2.2.1,F]
 have hol:=r.len;have hn1:=n.out.news;have hn2:=n.out.bw;have HO:=V h;have HK:=V r;have HS:=V hs;have A:=O.out.below a;have x:=V A;clear h r hs F A;by_cases q:32<order.length
 ·have s:(32:Int)<(order.length:Int):=by omega
  go_wp2_with fail
  go_ret2
  have T:Md.collect .full g=Z:=by rw[ou,<-HO.out,if_pos q]
  unfold cq;rw[T];exact⟨rfl,x.out,a.mono X,qb.bK a,λj _ l=>a.block j l⟩
 ·have s:¬(32:Int)<(order.length:Int):=by omega
  go_wp2_with fail
  refine(BM w3 B b _ N bm so g co order 0 x.out HS.out HK.out (.inr rfl) (Nat.le_trans X a.size) (by omega) (λc hc=>by have:=n.out.eT c hc;omega) (by have:=n.out.roots;omega) (by have:=n.out.aA;omega) (by have:=n.out.done;omega)).mono ?_;rintro e w4 ⟨rfl,u,H,y,G,E⟩;have hcs:w4 N=U (.slice z order.length D):=by have:=C;simp only[Γ]at this⊢;rw[y];exact this
  obtain⟨f,hbl,c,t⟩:=u.own.obj;obtain⟨a0,n0,m0,a1,n1,m1,a2,n2,m2,a3,n3,m3,a4,n4,m4,a5,n5,m5,m,k⟩:=u.copy (λj L=>O.out.ne L) t f;have e0:w4 b=U (.slice a0 n0 m0):=by simp[Γ,m]
  have e1:w4 (b,1)=U (.slice a1 n1 m1):=by simp[Γ,m]
  have e2:w4 (b,2)=U (.slice a2 n2 m2):=by simp[Γ,m]
  have e3:w4 (b,3)=U (.slice a3 n3 m3):=by simp[Γ,m]
  have e4:w4 (b,4)=U (.slice a4 n4 m4):=by simp[Γ,m]
  have e5:w4 (b,5)=U (.slice a5 n5 m5):=by simp[Γ,m]
  have d:∀i,w4.frozen? ⟨b,i,Z⟩=R:=λi=>by simp[Z9,m]
  have f0:=d 0;have f1:=d 1;have f2:=d 2;have f3:=d 3;have f4:=d 4;have f5:=d 5;have hne:N≠b:=by rintro rfl;have:=HS.out.2.2.1;obtain⟨_,_,c',S⟩:=x.out.own.obj;rw[S]at this;cases this
  have HC:=V k;have Q:=V<|(qb.bK a).trans G;have HFJ:=V<|And.intro E t;clear G E;have H2:=V m;have H4:=V H;clear d k m t u H y C
  go_wp2_with fail
  go_ret2
  obtain⟨k1,P⟩:=PO (v0:=.slice a0 n0 m0) (v1:=.slice a1 n1 m1) (v2:=.slice a2 n2 m2) (v3:=.slice a3 n3 m3) (v4:=.slice a4 n4 m4) (v5:=.slice a5 n5 m5) H2.out rfl;have T:Md.collect .full g=U (order.length,Md.move g order 0):=by rw[ou,<-HO.out,if_neg q]
  unfold cq;rw[T];exact⟨rfl,HC.out _ k1 P,(a.mono X).trans<|(((((H4.out.setCell (p:=⟨b,0,Z⟩) f _).setCell (p:=⟨b,1,Z⟩) f _).setCell (p:=⟨b,2,Z⟩) f _).setCell (p:=⟨b,3,Z⟩) f _).setCell (p:=⟨b,4,Z⟩) f _).setCell (p:=⟨b,5,Z⟩) f _,Q.out.trans<|qb.IT H2.out P,λj L l=>(P j<|O.out.ne L).trans<|(HFJ.out.1 j L<|Nat.lt_of_lt_of_le l a.size).trans<|a.block j l⟩
end
section
variable{l:List (Int×υ)}{n:Nat}{w:I}{a:Option Yl}{m B:Nat}
def qP(h:m<=9223372036854775807):By w (.slice a 0 m) []:=⟨a,m,rfl,Nat.zero_le _,h,λh0=>absurd h0<|Nat.lt_irrefl 0⟩
def afc{g:Nat}(h:OC w B (.slice g n m) l):∀j u,(l.flatMap dW)[j]?=U u->w ((g:Yl).add j)=U u:=by
 intro j u c;have b:0<l.length:=by grind
 obtain⟨a,d,e,_,_,h3⟩:=aF h;cases e
 obtain⟨f,e,_,_,_,hc⟩:=h3 b;cases e
 have:=hc j u c;unfold ZQ;split
 rename_i h0;subst h0;exact this;simpa using this
def Dz(h:OC w B (.slice a n m) l):n=l.length/\(a=Z\/∃g,a=U ⟨g,0,Z⟩):=by
 obtain⟨e,_⟩|⟨g,c,b,e,_⟩:=h.2
 grind
 grind
def tP{ty}{bx:Nat}{k x t fr}(h:OC w B (.slice a n m) l)(D:w.heap[bx]?=U (ω #[Θ Ψ k,x] t fr))(E:x.oneCell'=Y)(F:l.length<=1000000):
 ∃b w',(Z0 #[22,22] ty #[.slice a n n,.slice bx 1 1]).run prog w=.ok b w'/\OC w' w b (l++[(k,x)])/\M w w w'/\∃g y,b=.slice (g:Nat) (l.length+1) y:=by
 obtain⟨A,hi,i,o,p⟩:=ZM ni;have d:∀j u,(dW (k,x))[j]?=U u->w ((bx:Yl).add j)=U u:=by
  intro j u f
  match j,f with
  |0,f=>cases f;simp[Γ,D,ZQ]
  |1,f=>cases f;simp[Γ,D,ZQ]
  |j+2,f=>simp[dW]at f
 have v:∀u∈dW (k,x),u.oneCell'=Y:=by
  intro u C;simp[dW]at C;obtain rfl|rfl:=C
  rfl;exact E
 have fin:∀b w',w'.ownsRow w 76 2 b (l.length+1) (l.flatMap dW++dW (k,x)) ->OC w' w b (l++[(k,x)])/\∃g y,b=.slice (g:Nat) (l.length+1) y:=by
  intro b w' r1;have r:OC w' w b (l++[(k,x)]):=by unfold OC;rw[ZI,μ];simpa using r1
  refine⟨r,?_⟩;obtain⟨g,s,e,_⟩:=r1.form (by omega);exact⟨g,s,e⟩
 obtain⟨rfl,rfl|⟨g,rfl⟩⟩:=Dz h;have q:l=[]:=by
  obtain h5|h5:=Nat.eq_zero_or_pos l.length
  exact φ h5;obtain⟨_,_,e,_,_,h4⟩:=aF h;cases e
  obtain⟨_,e,_⟩:=h4 h5;cases e
 subst q;obtain⟨b,w',c,r1,r2,_⟩:=Yu (P:=prog) w w 22 ty 76 A _ 2 32 mF hi i o p rfl (by decide) (Z8 Z 0 0) 0 [] (ZC w _ 76 2) bx 1 1 (dW (k,x)) rfl d v (by unfold ZU;omega) (by omega) .refl;obtain⟨q1,z⟩:=fin b w' (by simpa using r1);exact⟨b,w',c,q1,(Δ _ w).grown r2 .refl (λk e=>by cases e),z⟩
 ·obtain⟨b,w',c,r1,r2⟩:=Yr (P:=prog) w 22 ty 76 A _ 2 32 mF hi i o p rfl (by decide) (g:Nat) l.length l.length (l.flatMap dW) (iu l) (afc h) bx 1 1 (dW (k,x)) rfl d (by omega) (by unfold ZU;omega) (by omega);obtain⟨q1,z⟩:=fin b w' r1;exact⟨b,w',c,q1,(Δ _ w).grown r2 .refl (λk e=>by cases e),z⟩
def zR{g l z}(b:l.length=n)(c:B<=g)(hw:w.heap[g]?=U (.cells (l.flatMap lU++(ZO z<|n*2).toList.drop (l.flatMap lU).length).toArray 50 (0,0)))(d:n<=1000000):OV w B (.slice g n n) l:=by
 subst b;have a:=fx l;rw[(YJ (by rw[a];have:=jz z<|l.length*2;simp at this⊢;omega))]at hw;refine⟨a,.inr ⟨g,l.length,_,rfl,c,hw,.refl,by unfold ZU;omega,by simpa using a,?_⟩⟩
 grind
def aq{b i k:Nat}{v}(h:k≠b):(w.setCell (b,i) v).heap[k]?=w.heap[k]?:=ο _ _ _ _ h
end
section
def BQ(w:I)(c:Nat)(k:Int):Prop:=∃a l mc u,w.heap[c]?=U (ω #[.slice a (l:List Int).length mc,Θ Ψ k,Θ .u64 u] 95 (0,0))/\By w (.slice a l.length mc) l/\∀p,0<l.length->a=U p->p.block<c
def ml(w:I)(c m:Nat):Prop:=∃k,BQ w c k/\0<=k/\k<=(m:Int)
def aas(op a b):0<=bits op .u64 a b:=(wrap_within .u64 _).1
section
variable{w w':I}{c:Nat}
def Kl{i:Nat}{v}(h:w.grownBy w' (U c)):w.grownBy (w'.setCell (c,i) v) (U c):=⟨h.os,h.tape,h.output,by simpa using h.size,λj b a=>(aq λe=>a<|congrArg U e).trans<|h.block j b a⟩
def aat{r}(h:w.grownBy w' r)(n):w.grownBy (w'.drewN n) r:=⟨h.os,h.tape,h.output,h.size,h.block⟩
def af1{r}(h:w.grownBy w' r):w.grownBy w'.drew r:=⟨h.os,h.tape,h.output,h.size,h.block⟩
def By.grown{a n m l}(h:By w (.slice a n m) l)(g:w.grownBy w' (U c))(d:∀p,0<l.length->a=U p->p.block≠c):By w' (.slice a n m) l:=by
 obtain⟨q,r,e,k,j,h3⟩:=h;cases e
 refine⟨a,m,rfl,k,j,λh0=>?_⟩;obtain⟨b,o,rfl,hb,f⟩:=h3 h0;refine⟨b,o,rfl,Nat.lt_of_lt_of_le hb g.size,λi n e=>g.cell (f i n e) ?_⟩
 exactλe=>d _ h0 rfl<|Z1 e
def BQ.ajc{k k':Int}(h:BQ w c k):BQ (w.setCell (c,1) k') c k':=by obtain⟨a,l,mc,u,hc,d,b⟩:=h;exact⟨a,l,mc,u,heap_setCell_same hc,d.grown (Kl<|Zw w<|U c) λp h0 e=>Nat.ne_of_lt<|b p h0 e,b⟩
def BQ.anz{k b}(h:BQ w c k):BQ (w.setCell (c,2)<|Θ .u64 b) c k:=by obtain⟨a,l,mc,u,hc,f,d⟩:=h;exact⟨a,l,mc,b,heap_setCell_same hc,f.grown (Kl<|Zw w<|U c) λp h0 e=>Nat.ne_of_lt<|d p h0 e,d⟩
def BQ.reads{k}(h:BQ w c k):∃a l mc u,w c=U (.slice a (l:List Int).length mc)/\w (c,1)=U (Θ Ψ k)/\w (c,2)=U (Θ .u64 u)/\w.frozen? (c,1)=R/\w.frozen? (c,2)=R/\(0<=k->(∃b o x,a=U ⟨b,o,Z⟩/\w ((b:Nat),o+k.toNat)=U (Θ Ψ x)/\k<(l.length:Int))\/¬k<(l.length:Int))/\l.length<=mc/\mc<=9223372036854775807:=by
 obtain⟨a,l,mc,u,hc,⟨m,n,f,i,g,h3⟩,p⟩:=h;cases f
 refine⟨a,l,mc,u,by simp[Γ,hc],by simp[Γ,hc],by simp[Γ,hc],by simp[Z9,hc],by simp[Z9,hc],λh0=>?_,i,g⟩;by_cases d:k<(l.length:Int)
 obtain⟨b,o,rfl,hb,e⟩:=h3 (by omega);obtain⟨x,j⟩:=ot (l:=l) (k:=k.toNat) (by omega);exact .inl ⟨b,o,x,rfl,e _ _ j,d⟩;exact .inr d
end
def af2(w c m)(h:ml w c m)(E:m<=1000000000):
 ι prog 91 #[.pointer c] w λe w'=>(∃r,e=.returned (Θ .u64 r)/\0<=r)/\ml w' c (m+1)/\w.grownBy w' (U c):=by
 obtain⟨k,g,i,q⟩:=h;have v:=V g;obtain⟨a,l,mc,u,c0,c1,c2,s,y,n,C,A⟩:=g.reads;clear g;obtain⟨b,o,x,rfl,n,f⟩|f:=n i
 all_goals
  go_enter (fU func91 rfl),ntmps91
  go_wp2_with fail
  go_quiet (fail)
  go_wp2_with fail
  try
   go_quiet (fail)
   go_wp2_with fail
  go_region
  generalize hw:World.drew _=p;have d:BQ p c (k+1):=by rw[<-hw];exact BQ.anz<|BQ.anz<|BQ.ajc (w:=w.drewN _) v.out
  have j:w.grownBy p (U c):=by rw[<-hw];exact af1<|Kl<|Kl<|Kl<|aat (Zw w<|U c) _
  clear hw;obtain⟨D,F,t,u6,_,_,z,_,B,_⟩:=d.reads;clear c0 c1 c2 s y n
  go_wp2_with fail
  go_quiet (fail)
  go_wp2_with fail
  go_ret;exact⟨⟨_,rfl,Int.ediv_nonneg (aas _ _ _)<|by omega⟩,⟨k+1,d.anz,by omega,by omega⟩,aat (Kl j) nq⟩
end
section
variable{c:Nat}{w:I}
def ka(w:I)(c m:Nat)(w':I):Prop:=ml w' c m/\w.grownBy w' (U c)
def Xq(w c m n)(h:ml w c m)(b:m<=1000000000)(f:-1000000<=n)(d:n<=1000000):
 ι prog 35 #[.pointer c,Θ Ψ n] w λe w'=>(∃r,e=.returned (Θ Ψ r)/\0<=r/\(r=0\/r<=n))/\ka w c (m+1) w':=by
 go_enter (fU func35 rfl),ntmps35
 go_wp2_with fail
 refine(af2 _ c m h b).mono ?_;rintro e g ⟨⟨x,rfl,i⟩,hc,a⟩;by_cases j:n<1
 ·go_wp2_with fail
  go_ret;exact⟨⟨0,rfl,by omega,.inl rfl⟩,hc,a⟩
 ·have e1:=Int.emod_nonneg x (by omega:n+1≠0);have e2:=Int.emod_lt_of_pos x (by omega:0<n+1)
  go_wp2_with fail
  go_ret;exact⟨⟨_,rfl,e1,.inr<|by omega⟩,hc,a⟩
def Rs(w c m n)(h:ml w c m)(a:m<=1000000000)(f:0<=n)(d:n<=1000000):
 ι prog 38 #[.pointer c,Θ Ψ n] w λe w'=>(∃b,e=.returned (.bool b))/\ka w c (m+1) w':=by
 go_enter (fU func38 rfl),ntmps38
 go_wp2_with fail
 refine(Xq _ c m (n-1) h a (by omega)<|by omega).mono ?_;rintro e g ⟨⟨x,rfl,i⟩,hw⟩
 go_wp2_with fail
 go_ret;exact⟨⟨_,rfl⟩,hw⟩
def af3(w c m lo hi)(h:ml w c m)(a:m<=1000000000)(d:-100000<=lo)(b:lo<=hi)(h3:hi<=100000):
 ι prog 90 #[.pointer c,Θ Ψ lo,Θ Ψ hi] w λe w'=>(∃r,e=.returned (Θ Ψ r)/\lo<=r/\r<=hi)/\ka w c (m+1) w':=by
 go_enter (fU func90 rfl),ntmps90
 go_wp2_with fail
 refine(Xq _ c m (hi-lo) h a (by omega)<|by omega).mono ?_;rintro e f ⟨⟨x,rfl,g⟩,hw⟩
 go_wp2_with fail
 go_ret;exact⟨⟨_,rfl,by omega,by omega⟩,hw⟩
def Qj(w)(c m g n:Nat)(l)(h:ml w c m)(t:m<=1000000000)(j:By w (.slice g n n) l)(A:g≠c)(z:0<l.length)(B:l.length<=1000000):
 ι prog 34 #[.pointer c,.slice g n n] w λe w'=>(∃r,e=.returned (Θ Ψ r)/\r∈l)/\ka w c (m+1) w':=by
 have HV:=V j;obtain⟨a,mc,i,f,s,_⟩:=j;cases i
 clear f
 go_enter (fU func34 rfl),ntmps34
 go_wp2_with fail
 refine(Xq _ c m (l.length-1) h t (by omega)<|by omega).mono ?_;rintro e D ⟨⟨x,rfl,E⟩,hw⟩;obtain⟨C,u,i,f,_,d⟩:=HV.out.grown hw.2 (λp _ e=>by cases e;exact A);cases i
 obtain⟨b,o,i,hb,d⟩:=d z;cases i
 obtain⟨y,q⟩:=ot (l:=l) (k:=x.toNat) (by omega);have hc:=d _ _ q;have v:x<l.length:=by omega
 rw[Nat.zero_add]at hc;clear d
 go_wp2_with fail
 go_ret;exact⟨⟨y,rfl,ψ q⟩,hw⟩
def NG(w:I)(l cs n)(a:l.length=n)(hc:cs.toList=l.map (.int Ψ))(b:n<=1000000):By (w.alloc<|.cells cs 3) (.slice w.heap.size n n) l:=by
 subst a;refine⟨_,_,rfl,.refl,by omega,λ_=>⟨_,_,rfl,by simp,λi k e=>?_⟩⟩;have hi:cs[i]?=U (Θ Ψ k):=by rw[<-Array.getElem?_toList,hc,Zz,e];rfl
 simp_all
def ka.trans{w w1 w2 c m n}(h:ka w c m w1)(k:ka w1 c n w2):ka w c n w2:=⟨k.1,h.2.trans k.2⟩
def ml.Qk{w' m}(h:ml w c m)(b:M w w w'):ml w' c m:=by obtain⟨k,⟨a,l,mc,u,hc,d,g⟩,f,e⟩:=h;exact⟨k,⟨a,l,mc,u,(b.block c (Ω.1 hc).1).trans hc,d.below b,g⟩,f,e⟩
def ka.below{w1 w2 m}(h:ka w c m w1)(a:M w1 w1 w2):ka w c m w2:=⟨h.1.Qk a,⟨a.os.trans h.2.os,a.tape.trans h.2.tape,a.output.trans h.2.output,Nat.le_trans h.2.size a.size,λj b d=>(a.block j<|Nat.lt_of_lt_of_le b h.2.size).trans<|h.2.block j b d⟩⟩
def ml.B1{m}(h:ml w c m):ka w c m w:=⟨h,.refl _ _⟩
def ml.more{m n}(h:ml w c m)(d:m<=n):ml w c n:=by obtain⟨k,b,a,e⟩:=h;exact⟨k,b,a,by omega⟩
def ml.lt{m}(h:ml w c m):c<w:=by obtain⟨k,⟨a,l,mc,u,hc,_⟩,_⟩:=h;exact(Ω.1 hc).1
def ka.more{w w' c m n}(h:ka w c m w')(a:m<=n):ka w c n w':=⟨h.1.more a,h.2⟩
def ka.off{w' k o}(h:ka (w.alloc o) c k w'):ka w c k w':=⟨h.1,(Ze w o _).trans h.2⟩
def ka.upto{s W k}(h:ka w c k s)(hc:c<w)(hb:M w s W):ka w c k W:=by
 obtain⟨⟨x,⟨a,l,mc,u,h0,v,f⟩,p,m⟩,d⟩:=h;refine⟨⟨x,⟨a,l,mc,u,(hb.block c hc).trans h0,?_,f⟩,p,m⟩,hb.os.trans d.os,hb.tape.trans d.tape,hb.output.trans d.output,Nat.le_trans d.size hb.size,λj r f=>(hb.block j r).trans<|d.block j r f⟩;obtain⟨y,z,e,p,m,h3⟩:=v;cases e
 refine⟨a,mc,rfl,p,m,λh0=>?_⟩;obtain⟨b,o,rfl,g,q⟩:=h3 h0;have t:b<c:=f _ (by omega) rfl;exact⟨b,o,rfl,Nat.lt_of_lt_of_le g hb.size,λi n e=>by have:=q i n e;simpa only[Γ,hb.block b<|by omega]using this⟩
def fl{b:Nat}{x y t}(h:w.heap[b]?=U (ω #[x,y] t (0,0))):w b=U x/\w (b,1)=U y/\w.frozen? b=R/\w.frozen? (b,1)=R:=⟨by simp[Γ,h],by simp[Γ,h],by simp[Z9,h],by simp[Z9,h]⟩
def Ql{b:Nat}{x y t}(h:w.heap[b]?=U (ω #[x,y] t (0,0)))(p q):((w.setCell b p).setCell (b,1) q) b=U p/\((w.setCell b p).setCell (b,1) q) (b,1)=U q:=by have a:=heap_setCell_same (i:=1) (v:=q)<|heap_setCell_same (i:=0) (v:=p) h;exact⟨by simp[Γ,a],by simp[Γ,a]⟩
def NH(n p q:Int):Prop:=(p=1/\0<=q/\q<n)\/(p=2/\q=0)\/(p=0/\-99<=q/\q<=99)
def Pj(w c m n)(h:ml w c m)(N:m<=900000000)(K:0<=n)(J:n<=1000):
 ι prog 127 #[.pointer c,Θ Ψ n] w λe w'=>(∃p q,e=.returned (.agg #[Θ Ψ p,Θ Ψ q])/\NH n p q)/\ka w c (m+4) w':=by
 have B:=af w<|ω #[Θ Ψ 0,Θ Ψ 0] 50;have h0:=h.Qk B;have s:=h.lt;have hw:=(h0.more (by omega:m<=m+1)).B1;have fin:∀(g:I) (k:Nat) (p q:Int),k<=m+4->ka (w.alloc<|ω #[Θ Ψ 0,Θ Ψ 0] 50) c k g->NH n p q->g.heap[w.heap.size]?=U (ω #[Θ Ψ 0,Θ Ψ 0] 50 (0,0))/\
  ∀W,W=(g.setCell w.heap.size<|Θ Ψ p).setCell (w.heap.size,1) (Θ Ψ q) ->W w.heap.size=U (Θ Ψ p)/\W (w.heap.size,1)=U (Θ Ψ q)/\ka w c (m+4) W:=by
  intro g k p q F hw l;have hb:g.heap[w.heap.size]?=U (ω #[Θ Ψ 0,Θ Ψ 0] 50 (0,0)):=(hw.2.block _ (by simp) (by simp;omega)).trans<|ξ w _;refine⟨hb,?_⟩;rintro W rfl;obtain⟨i,f⟩:=Ql hb (Θ Ψ p)<|Θ Ψ q;exact⟨i,f,(hw.off.upto s<|((Δ _ _).setCell (p:=⟨w.heap.size,0,Z⟩) .refl _).setCell (p:=⟨w.heap.size,1,Z⟩) .refl _).more F⟩
 by_cases L:0<n<;>(go_enter (fU func127 rfl),ntmps127;go_wp2_with fail)<;>try (refine(Rs _ c m 4 h0 (by omega) (by omega)<|by omega).mono ?_;rintro e O ⟨⟨b,rfl⟩,hw⟩;go_wp2_with fail)
 ·refine(Xq _ c (m+1) (n-1) hw.1 (by omega) (by omega)<|by omega).mono ?_;rintro e g ⟨⟨x,rfl,H⟩,u⟩;have l:NH n 1 x:=.inl ⟨rfl,by omega,by omega⟩;obtain⟨hb,j⟩:=fin g _ _ _ (by omega) (hw.trans u) l;obtain⟨z,r,g0,C⟩:=fl hb
  go_wp2_with fail
  obtain⟨i,f,o⟩:=j _ rfl;exact ZS (v:=.agg #[Θ Ψ 1,Θ Ψ x]) (by simp[Zo,results127,go_sem,i,f]) rfl ⟨⟨1,x,rfl,l⟩,o⟩
 all_goals
  refine(Rs _ c (m+1) 8 hw.1 (by omega) (by omega)<|by omega).mono ?_;rintro e w4 ⟨⟨b4,rfl⟩,a⟩;replace a:=hw.trans a;obtain⟨hb,j⟩:=fin w4 _ 2 0 (by omega) a<|.inr<|.inl ⟨rfl,rfl⟩;obtain⟨z,r,g0,C⟩:=fl hb
  go_wp2_with fail
  ·obtain⟨i,f,o⟩:=j _ rfl;exact ZS (v:=.agg #[Θ Ψ 2,Θ Ψ 0]) (by simp[Zo,results127,go_sem,i,f]) rfl ⟨⟨2,0,rfl,.inr<|.inl ⟨rfl,rfl⟩⟩,o⟩
  ·refine(af3 _ c (m+1+1) (-99) 99 a.1 (by omega) (by omega) (by omega)<|by omega).mono ?_;rintro e w5 ⟨⟨x,rfl,H⟩,d⟩;clear z r g0 C hb j
   go_wp2_with fail
   have A:=af w5<|ω #[Θ Ψ 0,Θ Ψ 1,Θ Ψ 7,Θ Ψ<|-3,Θ Ψ x] 3;have E:=d.1.lt;have d:=(a.trans d).below A;refine(Qj _ c _ _ _ [0,1,7,-3,x] d.1 (by omega) (NG w5 _ _ 5 rfl rfl<|by omega) (by omega) (by simp)<|by simp).mono ?_;rintro e D ⟨⟨y,rfl,G⟩,t⟩;have l:NH n 0 y:=.inr<|.inr (by simp at G;omega);obtain⟨hb,j⟩:=fin D _ _ _ (by omega) (d.trans t) l;obtain⟨z,r,g0,C⟩:=fl hb
   go_wp2_with fail
   obtain⟨i,f,o⟩:=j _ rfl;exact ZS (v:=.agg #[Θ Ψ 0,Θ Ψ y]) (by simp[Zo,results127,go_sem,i,f]) rfl ⟨⟨0,y,rfl,l⟩,o⟩
end
section
def Do(w:I)(g:Nat)(l:List Int):Prop:=w.heap[g]?=U (.cells (l.map<|Θ Ψ).toArray 3 (0,0))
section
variable{w w':I}{g:Nat}{l:List Int}
def Do.cell(h:Do w g l){i}(hi:i<l.length):w (g,i)=U (Θ Ψ<|l.getD i 0):=by unfold Do at h;simp[Γ,h,hi]
def Do.thaw(h:Do w g l)(i:Nat):w.frozen? (g,i)=R:=by unfold Do at h;simp[Z9,h]
def Do.set(h:Do w g l)(i)(n:Int):Do (w.setCell (g,i) n) g (l.set i n):=by unfold Do at h⊢;rw[heap_setCell_same h];simp
end
def Do.own{w B g k l}(h:Do w g l)(f:B<=g)(c:k<=l.length)(i:l.length<=1000000):OI w B (.slice g k l.length) (l.take k):=by
 have b:(l.take k).length=k:=by simp;omega
 unfold OI World.ownsRow;rw[b];refine⟨by rw[EO,b],.inr ⟨g,_,_,rfl,f,h,c,by unfold ZU;omega,by simp,?_⟩⟩;have e:∀l:List Int,l.flatMap eP=l.map (Θ Ψ):=λl=>by
  induction l with
  |nil=>rfl
  |cons a l d=>rw[η,d];rfl
 simp_all
def Rt(n:Nat)(e:n<=1000000)(w):(YL 24 (Θ Ψ (n:Int))<|Θ Ψ (n:Int)).run prog w=.ok (.slice w.heap.size n n) (w.alloc<|.cells (ZO #[Θ Ψ 0] n) 3):=by obtain⟨c,hi,a,b,d⟩:=ZM Dq;have:=mG 24 3 c _ se hi a Ψ Ψ n n .refl (by grind) (by omega) w;rw[b,Nat.mul_one]at this;exact this
def Xr(w:I)(n):Do (w.alloc<|.cells (ZO #[Θ Ψ 0] n) 3) w (Zv n 0):=by
 unfold Do;rw[ξ]
 congr 2
 apply Array.ext;simp[ZO];intro i a b;simp[ZO,Nat.mod_one]
def Ordered(k:Nat)(f:Nat->Int):Prop:=(∀a,a<k->0<=f a/\f a<k)/\∀a b,a<k->b<k->f a=f b->a=b
def Ordered.step{k x f d}(h:Ordered k f)(l:x<=k)(c:∀a,a<=k->d a=if a=x then(k:Int)else if a=k then f x else f a):Ordered (k+1) d:=by
 refine⟨λa g=>?_,λa b g hb e=>?_⟩;rw[c a (by omega)];have j:=h.1 a;have i:=h.1 x;split
 omega;split<;>omega
 ·rw[c a (by omega),c b<|by omega]at e;have j:=h.1 a;have i:=h.1 b;have h3:=h.1 x
  repeat' split at e
  all_goals first
   |omega
   |exact(h.2 a b) (by omega) (by omega) e
   |(have:=(h.2 x b) (by omega) (by omega) e;omega)
   |(have:=(h.2 a x) (by omega) (by omega) e;omega)
def ael(w)(c m n:Nat)(h:ml w c m)(X:m<=900000000)(S:n<=1000):
 ι prog 182 #[.pointer c,Θ Ψ n] w λe w'=>(∃g l,e=.returned (.slice (g:Nat) n n)/\Do w' g l/\w.heap.size<=g/\l.length=n/\Ordered n λa=>l.getD a 0)/\ka w c (m+n) w':=by
 have C:=Rt n (by omega)
 go_enter (fU func182 rfl),ntmps182
 go_wp2_with fail
 clear C;have f:=Xr w n;have u:=h.lt;have j:=h.B1.below<|af w<|.cells (ZO #[Θ Ψ 0] n) 3;have q:(w.alloc<|.cells (ZO #[Θ Ψ 0] n) 3).heap.size=w.heap.size+1:=by simp
 generalize w.alloc _=P at f j q⊢;generalize F:w.heap.size=g at f q u⊢
 go_loopw [6] (λi wr=>∃(k:Nat) (l:List Int),k<=n/\i=Θ Ψ k/\Do wr g l/\l.length=n/\(Ordered k λa=>l.getD a 0)/\ka w c (m+k) wr) (λi _=>n-(intOf i).toNat)
 case atStart=>exact⟨0,_,Nat.zero_le _,rfl,f,by simp,⟨λa s=>absurd s<|Nat.not_lt_zero _,λa b s=>absurd s<|Nat.not_lt_zero _⟩,j⟩
 case round=>
  obtain⟨k,l,N,rfl,A,H,G,hw⟩:=hrel;clear f j;by_cases K:k<n
  ·go_wp2_with fail
   refine(Xq _ c (m+k) k hw.1 (by omega) (by omega)<|by omega).mono ?_;rintro e L ⟨⟨x,rfl,D,Q⟩,o⟩;obtain⟨x,rfl⟩:=Int.eq_ofNat_of_zero_le D;have d:Do L g l:=(o.2.block g ((Ω.1 A).1) (by simp;omega)).trans A;have c1:=d.cell (i:=x) (by omega);have O:=d.thaw k;have T:=d.thaw x;have v:=d.cell (i:=k) (by omega);generalize J:l.getD x 0=y at c1;generalize l.getD k 0=W at v;have r:=d.set k y;have c2:=r.cell (i:=x) (by simp;omega);generalize (l.set k y).getD x 0=z at c2;have B:Ordered (k+1) λa=>((l.set k y).set x k).getD a 0:=G.step (x:=x) (by omega) λa s=>by
    simp only[ZH,List.getElem?_set,Yd,<-J];by_cases e1:x=a
    subst e1;simp[show x<l.length by omega];have E:¬a=x:=λe=>e1 e.symm;rw[if_neg e1,if_neg E];by_cases e2:k=a
    subst e2;simp[show k<l.length by omega];have t:¬a=k:=λe=>e2 e.symm;rw[if_neg e2,if_neg t]
   clear J
   go_wp2_with fail
   exact⟨⟨k+1,_,by omega,by go_num,r.set x k,by simpa using H,B,(hw.trans o).upto (by omega)<|((Δ _ _).setCell (p:=⟨g,k,Z⟩) (Nat.le_of_eq F) _).setCell (p:=⟨g,x,Z⟩) (Nat.le_of_eq F) _⟩,by simp[intOf];omega⟩
  ·go_wp2_with fail
   go_ret;have e:k=n:=by omega
   subst e;exact⟨⟨g,l,rfl,A,by omega,H,G⟩,hw⟩
def I3(n:Int)(l:List Int):Prop:=l.Nodup/\∀x∈l,0<=x/\x<n
def Ordered.some{n}{l:List Int}(h:Ordered n λa=>l.getD a 0)(m:l.length=n)(k):I3 n (l.take k):=by
 have f:l.Nodup:=by rw[List.Nodup,ZK];intro i j hi g c e;have:=h.2 i j (by omega) (by omega) (by grind);omega
 refine⟨f.sublist<|List.take_sublist k l,λx d=>?_⟩;obtain⟨i,hi⟩:=ZR.1<|XQ d;have b:=(Ξ.1 hi).1;have:=h.1 i (by omega);simpa[ZH,hi]using this
def Qm(w)(c m n:Nat)(h:ml w c m)(t:m<=900000000)(A:n<=1000):
 ι prog 128 #[.pointer c,Θ Ψ n] w λe w'=>(∃r l,e=.returned r/\OI w' w r l/\I3 n l/\l.length<=6)/\ka w c (m+n+1) w':=by
 go_enter (fU func128 rfl),ntmps128
 go_wp2_with fail
 refine(ael _ c m n h t A).mono ?_;rintro e q ⟨⟨g,l,rfl,p,z,o,u⟩,hw⟩
 go_wp2_with fail
 have d:=af q<|ω #[Θ Ψ 0,Θ Ψ 0,Θ Ψ 1,Θ Ψ 2,Θ Ψ 3,Θ Ψ 6] 3;have b:=hw.below d;have s:=hw.1.lt;refine(Qj _ c _ _ _ [0,0,1,2,3,6] b.1 (by omega) (NG q _ _ 6 rfl rfl<|by omega) (by omega) (by simp)<|by simp).mono ?_;rintro e w4 ⟨⟨y,rfl,v⟩,a⟩;have i:0<=y/\y<=6:=by simp at v;omega
 obtain⟨y,rfl⟩:=Int.eq_ofNat_of_zero_le i.1;have j:=(Ω.1 p).1;have x:g≠c:=by have:=h.lt;omega
 have f:Do w4 g l:=(a.2.block g (by simp;omega) (by simp;omega)).trans<|(d.block g j).trans p
 go_wp2_with fail
 all_goals
  go_ret;exact⟨⟨_,rfl,_,o▸f.own (k:=_) z (by omega) (by omega),u.some o _,by simp;omega⟩,b.trans a⟩
end
def Xs{w w' c m B e size n v xs}(h:w.ownsRow B e size v n xs)(hw:ka w c m w')(hc:c<B):w'.ownsRow B e size v n xs:=aS h λg a=>hw.2.block g (h.lt g a).2 (by have:=(h.lt g a).1;simp;omega)
def aau(n:Int)(c:HC):Prop:=((c.1=0/\c.2.length<=4)\/(c.1=1/\c.2.length=1)\/(c.1=2/\c.2.length=2))/\∀v∈c.2,NH n v.1 v.2
def Ru(w c m)(n:Int)(p)(h:ml w c m)(hm:m<=800000000)(h1:0<=n)(h2:n<=1000):
 ι prog 126 #[.pointer (c:Nat),n,.bool p] w λe w'=>(∃k x vs,e=.returned (.agg #[Θ Ψ k,x])/\OV w' w x vs/\aau n (k,vs))/\ka w c (m+20) w':=by
 have hb0:=af w<|ω #[Θ Ψ 0,()] 76;have h0:=h.B1.below hb0;have T:=h.lt;have z0:(w.alloc<|ω #[Θ Ψ 0,()] 76).heap[w.heap.size]?=U (ω #[Θ Ψ 0,()] 76 (0,0)):=ξ _ _;have Q:(w.alloc<|ω #[Θ Ψ 0,()] 76).heap.size=w.heap.size+1:=by simp
 go_enter (fU func126 rfl),ntmps126
 go_wp2_with fail
 generalize w.alloc _=w1 at h0 z0 Q⊢;have J:=af w1<|ω #[Θ Ψ 0,Θ Ψ 0,Θ Ψ 1,Θ Ψ 2,Θ Ψ 2] 3;have H:=h0.below J;have W:=NG w1 [0,0,1,2,2] #[Θ Ψ 0,Θ Ψ 0,Θ Ψ 1,Θ Ψ 2,Θ Ψ 2] 5 rfl rfl (by omega);rw[Q]at W;refine(Qj _ c _ _ _ [0,0,1,2,2] H.1 (by omega) W (by omega) (by simp)<|by simp).mono ?_;rintro e w2 ⟨⟨N,rfl,B⟩,t⟩;have B:0<=N/\N<=2:=by simp at B;omega
 have z2:=(t.2.block w (by simp;omega) (by simp;omega)).trans<|(J.block _<|by omega).trans z0;have G:=H.trans t;have hs2:w.heap.size+2<=w2:=by have:=t.2.size;simp at this;omega
 clear J H h0 t z0
 go_upto_if 14 with(fail)
 generalize hg:w2.heap.size=g at hs2⊢
 go_cut [7]from 15 to 15 λv O=>∃kk:Int,v=.pointer g/\0<=kk/\kk<=2/\O.heap[g]?=U (ω #[Θ Ψ kk,()] 76 (0,0))/\O.heap[w.heap.size]?=U (ω #[Θ Ψ 0,()] 76 (0,0))/\ka w c (m+1) O
 case first=>
  have z:=λk:Int=>af w2<|ω #[Θ Ψ k,()] 76;have D:=λk:Int=>ξ w2<|ω #[Θ Ψ k,()] 76;rw[hg]at D
  go_wp2_with fail
  ·go_meet
   exact⟨0,rfl,by omega,by omega,D 0,((z 0).block _<|by omega).trans z2,G.below<|z 0⟩
  ·go_meet
   exact⟨N,rfl,B.1,B.2,D N,((z N).block _<|by omega).trans z2,G.below<|z N⟩
 case rest=>
  obtain⟨kk,rfl,hk0,hk2,x1,x0,hw⟩:=hcut;generalize wc=w3 at x1 x0 hw⊢;have hg3:=(Ω.1 x1).1;clear G z2
  go_wp2_with fail
  have A:=af w3<|ω #[Θ Ψ 0,Θ Ψ 1,Θ Ψ 1,Θ Ψ 2,Θ Ψ 2,Θ Ψ 3,Θ Ψ 4] 3;have F:=hw.below A;refine(Qj _ c _ _ _ [0,1,1,2,2,3,4] F.1 (by omega) (NG w3 _ _ 7 rfl rfl<|by omega) (by omega) (by simp)<|by simp).mono ?_;rintro e w4 ⟨⟨y,rfl,hy⟩,s⟩;have hy:0<=y/\y<=4:=by simp at hy;omega
  have y0:=(s.2.block w (by simp;omega) (by simp;omega)).trans<|(A.block _<|by omega).trans x0;have y1:=(s.2.block g (by simp;omega) (by simp;omega)).trans<|(A.block _<|by omega).trans x1;have C:=F.trans s;clear A F hw s x0 x1;have d0:w4 g=U (Θ Ψ kk):=by simp[Γ,y1]
  go_upto_if 21 with(fail)
  go_cut [8]from 22 to 23 λv O=>∃j:Nat,v=Θ Ψ j/\j<=4/\(kk=1->j=1)/\(kk=2->j=2)/\O=w4
  case first=>
   go_wp2_with fail
   all_goals go_meet
   have hne:kk≠0:=by simp_all
   obtain⟨j,rfl⟩:=Int.eq_ofNat_of_zero_le hk0;exact⟨j,rfl,by omega,by omega,by omega,rfl⟩;have hne:kk=0:=by simp_all
   obtain⟨j,rfl⟩:=Int.eq_ofNat_of_zero_le hy.1;exact⟨j,rfl,by omega,by omega,by omega,rfl⟩
  case rest=>
   obtain⟨nn,rfl,hn4,hn1,hn2,rfl⟩:=hcut
   go_wp2_with fail
   clear d0
   go_loopw [9] (λi wr=>∃(k:Nat) (x:υ) (vs:List HV),k<=nn/\i=Θ Ψ k/\OV wr (g+1) x vs/\vs.length=k/\(∀v∈vs,NH n v.1 v.2)/\wr.heap[g]?=U (ω #[Θ Ψ kk,x] 76 (0,0))/\wr.heap[w.heap.size]?=U (ω #[Θ Ψ 0,()] 76 (0,0))/\ka w c (m+2+4*k) wr) (λi _=>nn-(intOf i).toNat)
   case atStart=>exact⟨0,_,[],Nat.zero_le _,rfl,OV.nil _ _,rfl,(λv hv=>by cases hv),y1,y0,C⟩
   case round=>
    obtain⟨_,x,vs,hk,rfl,L,rfl,hv,e1,e0,hw⟩:=hrel;clear y0 y1 C;by_cases hlt:vs.length<nn
    ·have d1:wr (g,1)=U x:=by simp[Γ,e1]
     have hgr:=(Ω.1 e1).1
     go_wp2_with fail
     refine Rg.aaH 4 2 (λu=>u ⟨g,1,Z⟩=U x) (by kernel_rfl) (by kernel_rfl) (λc a d v w h=>by cases d<;>exact h) d1 ?_;simp only[Nat.reduceAdd,XN,List.take_zero,XM,List.drop_zero]
     iterate 4
      (refine Rg.fp.step (v:=?_) (by rfl) (λu hu=>?_) ?_
       rotate_left
       (go_simp
        try rfl))
     refine Rg.fp.nil<|Rg.pA.succ ?_;simp only[Zu,X1,Yv,Y7];refine Ym rfl λK X=>?_;go_simp;have hd:=(Δ wr wr).drew;have E:=hw.below hd;refine(Pj _ c _ n E.1 (by omega) h1 h2).mono ?_;rintro e w5 ⟨⟨p,q,rfl,ho⟩,r⟩;have b1:=(r.2.block g hgr (by simp;omega)).trans e1;have b0:=(r.2.block w (by simp;omega) (by simp;omega)).trans e0;have hx5:=Xs (L.below hd) r (by omega);have S:=E.trans r;have hg5:g<w5:=(Ω.1 b1).1;obtain⟨_,d5,_,f5⟩:=fl b1;refine X _ _ ⟨d5,Rg.pA.succ ?_⟩;clear X K;refine Ym rfl λK X=>?_;go_simp;have l:=af w5<|ω #[p,q] 50;refine X _ _ ⟨cG l d5 hg5,Rg.pA.zero ?_⟩;clear X K d1 L hw E r
     go_wp2_with (at_builtin;refine fO rfl _ _ rfl (g+1) _ _ rfl (hx5.alloc _) w5.heap.size _ (p,q) rfl (by simp[go_sem,ZQ]) (by omega) (by simp;omega) ?_;intro v' w6 b f Qn;obtain⟨a6,m6,rfl,_⟩:=aF b;have t1:=(f.block g<|by omega).trans<|(l.block g hg5).trans b1;obtain⟨_,s1,_,sf⟩:=fl t1)
     have t0:=(f.block w<|by omega).trans<|(l.block w<|by omega).trans b0;have hz6:=f.size;have o:OV (w6.setCell (g,1)<|.slice a6 (vs++[(p,q)]).length m6) (g+1) (.slice a6 (vs++[(p,q)]).length m6) (vs++[(p,q)]):=aS b λj hj=>aq (by have:=(b.lt j hj).1;omega);have hw7:ka w c (m+2+4*(vs.length+1)) (w6.setCell (g,1)<|.slice a6 (vs++[(p,q)]).length m6):=S.upto T<|((l.mono<|by omega).trans<|f.mono<|by omega).setCell (p:=((g,1):Yl)) (by show w.heap.size<=g;omega) _;have hl':(vs++[(p,q)]).length=vs.length+1:=by simp
     rw[hl']at o hw7;exact⟨⟨vs.length+1,_,vs++[(p,q)],by omega,by go_num,o,by simp,λv hv'=>(Zf.1 hv').elim (hv v) λh=>by simp at h;subst h;exact ho,heap_setCell_same (i:=1) t1,(aq<|by omega).trans t0,hw7⟩,by simp[intOf];omega⟩
    ·obtain⟨a0,a1,_,_⟩:=fl e1;obtain⟨b0,b1,f0,f1⟩:=fl e0;have hok:aau n (kk,vs):=⟨by dsimp only;omega,hv⟩;obtain⟨ax,P,rfl,_⟩:=aF L
     go_wp2_with fail
     obtain⟨k0,k1⟩:=Ql e0 (Θ Ψ kk)<|.slice ax vs.length P;have l:=((Δ w wr).setCell (p:=(w.heap.size:Yl)) .refl<|Θ Ψ kk).setCell (p:=((w.heap.size,1):Yl)) .refl<|.slice ax vs.length P;have hw6:=(hw.upto T l).more (by omega:m+2+4*vs.length<=m+20);have hx6:OV ((wr.setCell w.heap.size<|Θ Ψ kk).setCell (w.heap.size,1)<|.slice ax vs.length P) w (.slice ax vs.length P) vs:=eV (aS L λj hj=>(aq (by have:=(L.lt j hj).1;omega)).trans<|aq (by have:=(L.lt j hj).1;omega)) (by omega);exact ZS (v:=.agg #[Θ Ψ kk,.slice ax vs.length P]) (by simp[Zo,results126,go_sem,k0,k1]) rfl ⟨⟨kk,_,vs,rfl,hx6,hok⟩,hw6⟩
section
def sK(w:I)(B bo:Nat)(t:TypeId)(rest:List υ)(cs:List HC):Prop:=∃sc l,B<=bo/\w.heap[bo]?=U (.cells (sc::rest).toArray t (0,0))/\OC w B sc l/\df w B l cs
def fy{w w':I}{B p e e2 size b n o v s xs d}(h:w.ownsRow B e size v n xs)(hs:w.ownsRow p e2 b s o d)(t:e≠e2)(q:w.grownBy w' s.ownBlock):w'.ownsRow B e size v n xs:=
 aS h λg a=>q.block g (h.lt g a).2 λc=>by
  obtain⟨e1,_⟩|⟨r,i,k,e1,_,l,_⟩:=h.2
  rw[e1]at a;cases a;rw[e1]at a;cases a;obtain⟨e3,_⟩|⟨u,j,f,e3,_,m,_⟩:=hs.2
  rw[e3]at c;cases c;rw[e3]at c;cases c
  grind
def bp{w w':I}{B b:Nat}{e size n v xs c t fr}(h:w.ownsRow B e size v n xs)(hb:w.heap[b]?=U (.cells c t fr))(f:t≠e)(i:∀k,k≠b->w'.heap[k]?=w.heap[k]?):w'.ownsRow B e size v n xs:=aS h λg a=>i g λd=>by subst d;exact cF h hb f a
section
variable{w w1 w2 w3:I}{B bo:Nat}{t:TypeId}{rest:List υ}{cs:List HC}
def sK.below(h:sK w B bo t rest cs)(a:M w w w1):sK w1 B bo t rest cs:=by obtain⟨c,l,e,hb,d,b⟩:=h;exact⟨c,l,e,(a.block bo (Ω.1 hb).1).trans hb,d.below a,b.below a⟩
def Ok{y s' l k x vs}(E:B<=bo)(hb:w.heap[bo]?=U (.cells (y::rest).toArray t (0,0)))(H:OC w B y l)(s:df w B l cs)(m:B<=w)(r:t≠76/\t≠50)(o:M w w w2)(D:OV w2 w x vs)(n:w2.grownBy w3 y.ownBlock)(K:OC w3 B s' (l++[(k,x)])):
 sK (w3.setCell bo s') B bo t rest (cs++[(k,vs)])/\M B w (w3.setCell bo s'):=by
 have c:=H.below o;have b:=s.below o;have a:=(o.block bo (Ω.1 hb).1).trans hb;have f:=(n.block bo (Ω.1 a).1 (λe=>by
  obtain⟨e1,_⟩|⟨L,C,F,e1,_,z,_⟩:=c.2
  rw[e1]at e;cases e;rw[e1]at e;cases e;rw[z]at a;injection a with a
  injection a with _ h4 _
  exact r.1 h4.symm)).trans a
 have d:df w3 B l cs:=⟨b.1,λi k x q vs e1 e2=>⟨(b.2.1 i k x q vs e1 e2).1,fy (b.2.1 i k x q vs e1 e2).2 c (by decide) n⟩,b.2.2⟩;have j:∀k,k≠bo->(w3.setCell bo s').heap[k]?=w3.heap[k]?:=λk h=>aq h;refine⟨⟨s',l++[(k,x)],E,?_,bp K f r.1 j,?_⟩,?_⟩;rw[aB f];simp;have A:df (w3.setCell bo s') B l cs:=⟨d.1,λi k x q vs e1 e2=>⟨(d.2.1 i k x q vs e1 e2).1,bp (d.2.1 i k x q vs e1 e2).2 f r.2 j⟩,d.2.2⟩;refine A.snoc (OV.less (bp (fy D c (by decide) n) f r.2 j) m) λi p hi g n u=>?_;have v:i<cs.length:=by rw[<-s.1];exact(Ξ.1 hi).1
 obtain⟨G,J,e3⟩:=cQ v;have:=((s.2.1 i p.1 p.2 G J hi e3).2.lt g n).2;have:=(D.lt g u).1;omega;refine((o.mono m).grown n (Nat.le_trans m o.size) λk e=>?_).setCell (p:=⟨bo,0,Z⟩) E _;exact(c.lt k e).1
end
end
end Kn
