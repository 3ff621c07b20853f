/- A part of the proof of GcWhole; no conditions. -/
import Init
import Derived.Test.YtbnmpafbfoaggaaGreatDoorU0
import Derived.WalkKit
import Derived.LoopTactic
import Derived.RegionTactic
import Derived.Deep.QuietTactic
import Derived.BigQuiet
import Derived.Outline
import Derived.OwnWalk
import Derived.Laws.StructEq
import Derived.KernelRfl
import Derived.Lib.Hide
import Derived.Below
import Derived.Maps.AppendAt
import Derived.Laws.MakeOwn
import Derived.Laws.Entries
import Derived.WalkSpells
import Derived.WalkMore
import Derived.StillTailTactics
import Derived.Deep.RegionHeld3
import Derived.Laws.CopyOwn
import Derived.Deep.RegionLaw
import Derived.Deep.AppendLies
import Derived.RangeFuncNested
import Derived.RangeFuncBound
import Derived.RangeFuncCalls
import Derived.RangeFuncLeaves
import Derived.Shelf.Abstract
import Derived.Shelf.RegionOpen
import Derived.OwnWalkIn
import Derived.TacticsInMore
import Derived.LoopNIn
import Derived.LoopIn
set_option linter.defProp false
set_option linter.unusedVariables false
set_option linter.unusedSimpArgs false
set_option maxRecDepth 100000
set_option maxHeartbeats 16000000
noncomputable section
open Go.Lib renaming hid->V,run_eql_slice_nil->ZF
open Option renaming some->U,none->M
open List renaming getElem?_eq_some_iff->Ω,getElem?_eq_getElem->Δ,take_of_length_le->ω,flatMap_cons->ψ,mem_of_getElem?->φ,length_append->υ,eq_nil_of_length_eq_zero->ξ,map_append->ι,drop_eq_getElem_cons->Z4,range->ZZ,length_cons->ZM,getElem?_cons_zero->ZL,length_nil->ZI,map_singleton->ZD,take_add_one->ZB,size_toArray->ZA,mem_flatMap->Zx,drop_eq_nil_of_le->Zl,mem_append_right->Zi,set_append_right->Zh,mem_iff_getElem?->Zg,getElem?_eq_none->Zf,mem_append_left->Ze,append_toArray->Zb,set_cons_succ->Y',push_toArray->Y7,getElem?_map->Y6,append_assoc->Y5,map_toArray->Y4,cons_append->Y3,nil_append->YZ,length_set->YY,append_nil->YX,map_cons->YU,take_set->YT,map_nil->YR
open Go.IntKind renaming i64->Ψ
open Go.RowKit.Below renaming refl->Ξ,heap_setCell->Z0,heap_alloc->ZX
open Go.Value renaming int->Θ,slice->ZV,ownBlock->Zr,pointer->Y1
open Go.RowKit renaming Below->I
open Array renaming getElem?_eq_some_iff->Γ,replicate->Z1,getElem?_setIfInBounds->ZW,getElem?_modify->ZH,toList_setIfInBounds->Zs,size_setIfInBounds->Zp,replicate_succ->Zk,replicate_zero->Zj,ext_getElem?->Zc
open Go renaming World->Y,Value->R,Calls->μ,heap_alloc_new->ε,bodyPost_ret->Z9,maxLen->Z8,run_underlying->Z3,info_parts->ZY,madeCells->ZU,wpList->ZS,wp_seq->ZO,results->ZJ,wpList_append_own->Zu,execOp->Zq,wpList_plain->Y8,typeInfo->Y0
open Bool renaming false->Z,true->κ
open Go.Obj renaming cells->χ
open Go.Result renaming andThen_ok->ο
open Option.some renaming inj->θ
open Go.World renaming cell?->η,setCell->ZQ,ownsRow_nil->ZC,frozen?->Zo,grownBy_alloc->Zd,size_alloc->Y9
open Go.Region.linearise renaming go->ζ
open Go.Sem renaming run_bind->Z7,run_pure->Zz
open Go.Addr renaming add->Z2
open Go.Builtin renaming firstCells->ZT,append_->ZN,lenOf->ZE,copy_->Zt
open Go.Act renaming eval->ZR,put->ZP
open Go.Region renaming schedule->ZK,binds->Zm,linearise->Za
open Ne renaming symm->ZG
open Go.Instr renaming findAsking->Zy,field->Zw,makeSlice->Zv,findNow->Zn,mapUpdate->Y2,findKey->YW,sameNow->YV,lookup->YS
namespace Go.Proofs.YtbnmpafbfoaggaaGreatDoor
open Go.Proofs.Tryz hiding prog
open Go.Proofs.aD
namespace Md
abbrev HV:=Int×Int
abbrev HC:=Int×List HV
structure GH where
 new:List HC
 old:List HC
 roots:List HV
 aA:List HV
 done:List HV
 marked:List Int
 deriving DecidableEq
structure PH where
 cells:List HC
 roots:List HV
 aA:List Int
 done:List Int
 deriving DecidableEq
def co(v:HV):Bool:=v.1==3||v.1==4
def dy(v:HV):Bool:=v.1==3
def cp(bw:Int)(v:HV):HV:=if v.1=3 then(1,v.2+bw)else if v.1=4 then(1,v.2)else v
def Bz(bw:Int)(c:HC):HC:=(c.1,c.2.map<|cp bw)
def plain(g:GH):PH:=
 let o:Int:=g.old.length
 ⟨(g.old++g.new).map<|Bz o,g.roots.map<|cp o,(g.aA.map<|cp o).map (·.2),(g.done.map<|cp o).map (·.2)⟩
def ed(bw:Int)(v:HV):HV:=if v.1=1 then(if v.2<bw then(4,v.2)else(3,v.2-bw))else v
def qO(bw:Int)(c:HC):HC:=(c.1,c.2.map<|ed bw)
def Ij(h:PH)(bw:Nat):GH:=
 let o:Int:=bw
 ⟨(h.cells.drop bw).map<|qO o,(h.cells.take bw).map<|qO o,h.roots.map<|ed o,(h.aA.map λn=>((1,n):HV)).map<|ed o,(h.done.map λn=>((1,n):HV)).map<|ed o,[]⟩
def cU:List Int->Int
 |[]=>0
 |e::l=>if e=0 then cU l else e
def eO(g:GH)(v:HV):Int:=if v.2<0\/(if v.1=3 then(g.new.length:Int)else g.old.length)<=v.2 then 9 else 0
def mh(g:GH)(v:HV):Int:=
 if v.1=0 then(if v.2< -99\/99<v.2 then 13 else 0)
 else if v.1=2 then(if v.2=0 then 0 else 13)
 else if v.1=3\/v.1=4 then eO g v else 4
def zj(g:GH)(c:HC):Int:=
 if c.1<0\/2<c.1 then 4
 else if c.2.length<(if c.1=0 then 0 else if c.1=1 then 1 else 2)then 5
 else if(if c.1=0 then 4 else if c.1=1 then 1 else 2)<c.2.length then 6
 else cU (c.2.map<|mh g)
def jt(g:GH)(l:List Int)(i:Nat):Int:=
 let n:=l.getD i 0
 if n<0\/(g.old.length:Int)<=n then 9 else if n<=(if i=0 then-1 else l.getD (i-1) 0)then 14 else 0
def jW(c:HC):Bool:=c.2.any dy
def ju(g:GH):List Int:=(((ZZ g.old.length).filter λi=>jW<|g.old.getD i (0,[])).map λ(i:Nat)=>(i:Int))
def meet(order:List HV)(v:HV):List HV:=if order.contains v then order else order++[v]
def visit(jw:HV->Bool)(order l:List HV):List HV:=l.foldl (λo v=>if jw v then meet o v else o) order
def cellAt(g:GH)(v:HV):HC:=(if v.1=3 then g.new else g.old).getD v.2.toNat (0,[])
def Dm(g:GH)(jw:HV->Bool):Nat->Nat->List HV->List HV
 |0,_,o=>o
 |f+1,k,o=>match o[k]? with
  |none=>o
  |some v=>Dm g jw f (k+1)<|visit jw o (cellAt g v).2
def cJ(g:GH):List HV:=g.roots++g.done++g.aA
def bV(g:GH)(jw:HV->Bool)(more:List HV):List HV:=Dm g jw (g.new.length+g.old.length+1) 0<|visit jw (visit jw []<|cJ g) more
def lr(order:List HV)(from_:Int)(v:HV):HV:=if order.contains v then(4,from_+(order.idxOf v:Nat))else v
def B6(order:List HV)(from_:Int)(c:HC):HC:=(c.1,c.2.map<|lr order from_)
def move(g:GH)(order:List HV)(stay:Nat):GH:=⟨[],(g.old.take stay++order.map (cellAt g)).map<|B6 order stay,g.roots.map<|lr order stay,g.aA.map<|lr order stay,g.done.map<|lr order stay,[]⟩
inductive uH where
 |minor|full|major
 deriving DecidableEq
def ka(g:GH):List HV:=g.marked.flatMap λn=>(g.old.getD n.toNat (0,[])).2
def aeP(s:uH)(g:GH):List HV×Nat:=
 match s with
 |.minor=>(bV g dy<|ka g,g.old.length)
 |_=>(bV g co [],0)
def has(alive:List Int)(v:HV):Bool:=v.1≠1||alive.contains v.2
def keeps(c:HC)(alive:List Int):List HV:=
 if c.1=0 then c.2
 else if c.1=2 then(if has alive (c.2.getD 0 (0,0))then [c.2.getD 1 (0,0)]else [])
 else []
def ml(l:List Int)(n:Int):List Int:=if l.contains n then l else l++[n]
def Dn(l:List HV)(q met:List Int):List Int×List Int:=l.foldl (λx v=>if v.1=1 then(if x.2.contains v.2 then x else(x.1++[v.2],x.2++[v.2]))else x) (q,met)
def VX(h:PH):List HV:=h.roots.filter (·.1==1)++h.done.map λn=>(1,n)
def zk(h:PH):Nat->List Int->List Int->List Int->List Int
 |0,_,_,alive=>alive
 |f+1,q,met,alive=>match q with
  |[]=>alive
  |n::q=>
   let alive:=ml alive n
   let(q,met):=Dn (keeps (h.cells.getD n.toNat (0,[])) alive) q met
   zk h f q met alive
def BA(h:PH)(alive:List Int):List Int:=
 let(q,met):=Dn (VX h) [] []
 zk h (h.cells.length+1) q met alive
def zl(h:PH):Nat->List Int->List Int
 |0,alive=>alive
 |f+1,alive=>
  let next:=BA h alive
  if alive.length<next.length then zl h f next else next
def alive(h:PH):List Int:=zl h (h.cells.length+1) []
def zm(c:HC)(alive:List Int):Bool:=(c.1==1||c.1==2)&&!has alive (c.2.getD 0 (0,0))
def lu(h:PH):PH:=
 let a:=alive h
 let h1:PH:=⟨h.cells.map λc=>if zm c a then(c.1,c.2.map λ_=>(2,0))else c,h.roots,h.aA.filter (a.contains ·),h.done++h.aA.filter (λn=>!a.contains n)⟩
 let b:=alive h1
 {h1 with cells:=h1.cells.zipIdx.map λx=>if b.contains (x.2:Int)then x.1 else(3,[])}
def Ik(h:PH)(n:Int):Int:=if n<0\/(h.cells.length:Int)<=n then 9 else if(h.cells.getD n.toNat (0,[])).1=3 then 10 else 0
def uI(h:PH)(v:HV):Int:=
 if v.1=0 then(if v.2< -99\/99<v.2 then 13 else 0)
 else if v.1=1 then Ik h v.2
 else if v.1=2 then(if v.2=0 then 0 else 13)else 4
def least(k:Int):Int:=if k=0 then 0 else if k=1 then 1 else if k=2 then 2 else 0
def tG(k:Int):Int:=if k=0 then 4 else if k=1 then 1 else if k=2 then 2 else 0
def iF(g:GH):GH:=Ij (lu<|plain g) g.old.length
def collect(s:uH)(g:GH):Option (Nat×GH):=
 let g:=if s=.major then iF g else g
 let(order,stay):=aeP s g
 if 32<stay+order.length then M else U (order.length,move g order stay)
def jw(g:GH):Option (List HV):=
 let(order,stay):=aeP .minor g
 if 32<stay+order.length then M
 else U ((ZZ g.new.length).map λ(n:Nat)=>if order.contains ((3,(n:Int)):HV)then((4,(stay:Int)+(order.idxOf ((3,(n:Int)):HV):Nat)):HV)else(2,0))
structure RS where
 g:GH
 minors:Int:=0
 uJ:Int:=0
 fk:Int:=0
 dA:Int:=0
 deriving DecidableEq
structure Cmd where
 op:Int
 to_:Int:=0
 a:Int:=0
 b:Int:=0
 deriving DecidableEq
def counted(r:RS)(s:uH)(n:Nat)(g:GH):RS:=
 match s with
 |.minor=>{r with g,minors:=r.minors+1,dA:=r.dA+n}
 |.full=>{r with g,uJ:=r.uJ+1,dA:=r.dA+n}
 |.major=>{r with g,fk:=r.fk+1,dA:=r.dA+n}
def Q1(r:RS)(s:uH):Option RS:=(collect s r.g).map λx=>counted r s x.1 x.2
def room(r:RS):Except Int RS:=
 if r.g.new.length<8 then .ok r
 else match Q1 r .minor with
  |some r=>.ok r
  |none=>match Q1 r .full with
   |some r=>.ok r
   |none=>.error 8
def rootOf(r:RS)(n:Int):Except Int HV:=if n<0\/(r.g.roots.length:Int)<=n then .error 9 else .ok (r.g.roots.getD n.toNat (0,0))
def el(r:RS)(n:Int)(v:HV):RS:={r with g:={r.g with roots:=r.g.roots.set n.toNat v}}
def made(r:RS)(kind bP:Int)(l:List Int):Except Int (HV×RS):=do
 for n in l do
  let _<-rootOf r n
 let r<-room r
 let eT:=List.replicate bP.toNat ((0,0):HV)++l.map λn=>r.g.roots.getD n.toNat (0,0)
 let new:=r.g.new++[(kind,eT)]
 pure ((3,(new.length:Int) -1),{r with g:={r.g with new}})
def Do(n:Int):List Int->List Int
 |[]=>[n]
 |m::l=>if m<n then m::Do n l else if m=n then m::l else n::m::l
def BB(c:HC)(k:Nat)(v:HV):HC:=(c.1,c.2.set k v)
def put(r:RS)(to_:Int)(v:HV)(place:Int):Except Int RS:=
 let own:=r.g.roots.getD to_.toNat (0,0)
 if !co own||(cellAt r.g own).1≠0 then .error 4
 else
  let c:=cellAt r.g own
  if place<0\/(c.2.length:Int)<=place then .error 9
  else
   let c':=BB c place.toNat v
   let g:=if own.1=3 then {r.g with new:=r.g.new.set own.2.toNat c'}else {r.g with old:=r.g.old.set own.2.toNat c'}
   let g:=if own.1=4/\dy v then {g with marked:=Do own.2 g.marked}else g
   .ok {r with g}
def seen(g:GH)(v:HV):HV:=if co v then(1,10*(cellAt g v).1+(cellAt g v).2.length)else v
end Md
namespace Kn
open Go Go.RowKit Md
section
def Il(w:Y)(b o:Nat)(l:List HV):Prop:=∀i k n,l[i]?=U (k,n) ->w (b,o+i*2)=U (Θ Ψ k)/\w (b,o+i*2+1)=U (Θ Ψ n)
def Im(w:Y)(b o:Nat)(l:List Int):Prop:=∀i n,l[i]?=U n->w (b,o+i)=U (Θ Ψ n)
def eI(w:Y)(v:R)(l:List HV):Prop:=∃a m,v=.slice a l.length m/\l.length<=m/\m<=9223372036854775807/\(0<l.length->∃b o,a=U ⟨b,o,M⟩/\b<w/\Il w b o l)
def n9(w:Y)(v:R)(l:List Int):Prop:=∃a m,v=.slice a l.length m/\l.length<=m/\m<=9223372036854775807/\(0<l.length->∃b o,a=U ⟨b,o,M⟩/\b<w/\Im w b o l)
def In(w:Y)(b o:Nat)(l:List HC):Prop:=∀i k vs,l[i]?=U (k,vs) ->w (b,o+i*2)=U (Θ Ψ k)/\∃v,w (b,o+i*2+1)=U v/\eI w v vs
def sa(w:Y)(v:R)(l:List HC):Prop:=∃a m,v=.slice a l.length m/\l.length<=m/\m<=9223372036854775807/\(0<l.length->∃b o,a=U ⟨b,o,M⟩/\b<w/\In w b o l)
section
variable{w w':Y}{v:R}
def az{b o:Nat}{x}(h:w (b,o)=U x):b<w:=by
 obtain a|a:=Nat.lt_or_ge b w.heap.size
 omega;simp[η,Array.getElem?_eq_none a]at h
def Il.below(a:I w w w'){b o:Nat}{l}(hb:b<w)(h:Il w b o l):Il w' b o l:=λi k n e=>by rw[a.cell hb,a.cell hb];exact h i k n e
def Im.below(a:I w w w'){b o:Nat}{l}(hb:b<w)(h:Im w b o l):Im w' b o l:=λi n e=>by rw[a.cell hb];exact h i n e
def eI.below(d:I w w w'){l}(h:eI w v l):eI w' v l:=by obtain⟨a,m,rfl,f,e,h⟩:=h;refine⟨a,m,rfl,f,e,λh0=>?_⟩;obtain⟨b,o,rfl,hb,c⟩:=h h0;exact⟨b,o,rfl,Nat.lt_of_lt_of_le hb d.size,c.below d hb⟩
def n9.below(d:I w w w'){l}(h:n9 w v l):n9 w' v l:=by obtain⟨a,m,rfl,f,e,h⟩:=h;refine⟨a,m,rfl,f,e,λh0=>?_⟩;obtain⟨b,o,rfl,hb,c⟩:=h h0;exact⟨b,o,rfl,Nat.lt_of_lt_of_le hb d.size,c.below d hb⟩
def In.below(a:I w w w'){b o:Nat}{l}(hb:b<w)(h:In w b o l):In w' b o l:=λi k c e=>by rw[a.cell hb,a.cell hb];obtain⟨f,v,d,h3⟩:=h i k c e;exact⟨f,v,d,h3.below a⟩
def sa.below(d:I w w w'){l}(h:sa w v l):sa w' v l:=by obtain⟨a,m,rfl,f,e,h⟩:=h;refine⟨a,m,rfl,f,e,λh0=>?_⟩;obtain⟨b,o,rfl,hb,c⟩:=h h0;exact⟨b,o,rfl,Nat.lt_of_lt_of_le hb d.size,c.below d hb⟩
def hU(w B n):I B w (w.drewN n):=⟨rfl,rfl,rfl,.refl,λ_ _=>rfl⟩
def af(w:Y)(o):I w w (w.alloc o):=(Ξ _ _).alloc .refl o
def alE{w w1 o}(e:w.alloc o=w1):w1.heap[w.heap.size]?=U o/\I w.heap.size w w1/\w1.heap.size=w.heap.size+1:=by subst e;exact⟨ε w o,af w o,by simp⟩
end
def ep{l:List HV}{k}(h:k<l.length):∃p q,l[k]?=U (p,q):=⟨_,_,Δ h⟩
def cQ{l:List HC}{k}(h:k<l.length):∃p q,l[k]?=U (p,q):=⟨_,_,Δ h⟩
def lw{l:List Int}{k}(h:k<l.length):∃p,l[k]?=U p:=by simp_all
def VY(p q a b w):(Op.equalIn 10000 50 (.agg #[Θ Ψ p,Θ Ψ q])<|.agg #[Θ Ψ a,Θ Ψ b]).run prog w=.ok (p==a&&q==b) w:=by rw[run_equalIn_agg _ 9999 50 _ _ (by kernel_rfl) (by kernel_rfl)];simp[go_sem];by_cases h:p=a<;>by_cases c:q=b<;>simp[h,c,go_sem]
def aeQ(p q a b w):(binOp .neq 50 (.agg #[Θ Ψ p,Θ Ψ q])<|.agg #[Θ Ψ a,Θ Ψ b]).run prog w=.ok (.bool<|!(p==a&&q==b)) w:=by rw[run_neq_struct,VY];rfl
def nc(p q w):(binOp .neq 50 (.agg #[Θ Ψ p,Θ Ψ q])<|.agg #[Θ Ψ p,Θ Ψ q]).run prog w=.ok (.bool Z) w:=by rw[aeQ];simp
end
end Kn
section
open Go Go.RowKit
def cG{B w w' p v}(h:I B w w')(c:w.cell? p=v)(a:p.block<B):w'.cell? p=v:=(h.cell a).trans c
end
namespace Kn
open Go Go.RowKit Md
def nd(w j h l)(g:eI w j l)(f:eI w h l):
 μ prog 27 #[j,h] w λe w'=>e=.returned (.bool κ)/\∃n,w'=w.drewN n:=by
 obtain⟨a,m,rfl,t,s,c⟩:=g;obtain⟨x,B,rfl,_,_,hb⟩:=f
 go_enter (fU func27 rfl),ntmps27
 go_wp2
 go_loopw [5] (λi wr=>∃k:Nat,k<=l.length/\i=Θ Ψ k/\∃n,wr=w.drewN n) (λi _=>l.length-(intOf i).toNat)
 case atStart=>exact⟨0,Nat.zero_le _,rfl,0,rfl⟩
 case round=>
  obtain⟨k,u,rfl,n,rfl⟩:=hrel
  go_wp2
  ·have d:k<l.length:=by assumption
   obtain⟨A,v,rfl,_,c⟩:=c (by omega);obtain⟨z,y,rfl,_,hb⟩:=hb (by omega);obtain⟨p,q,e1⟩:=ep d;obtain⟨c1,c2⟩:=c k p q e1;obtain⟨c3,r⟩:=hb k p q e1;have b:=nc p q;clear c hb
   go_quiet (fail)
   clear b c1 c2 c3 r
   go_wp2
   exact⟨⟨k+1,by omega,by go_num,_,rfl⟩,by simp[intOf];omega⟩
  ·have o:¬k<l.length:=by assumption
   go_ret;exact⟨rfl,_,rfl⟩
def v8(w h g l)(f:n9 w h l)(d:n9 w g l):
 μ prog 51 #[h,g] w λe w'=>e=.returned (.bool κ)/\∃n,w'=w.drewN n:=by
 obtain⟨a,m,rfl,r,o,b⟩:=f;obtain⟨u,z,rfl,_,_,hb⟩:=d
 go_enter (fU func51 rfl),ntmps51
 go_wp2
 go_loopw [5] (λi wr=>∃k:Nat,k<=l.length/\i=Θ Ψ k/\∃n,wr=w.drewN n) (λi _=>l.length-(intOf i).toNat)
 case atStart=>exact⟨0,Nat.zero_le _,rfl,0,rfl⟩
 case round=>
  obtain⟨k,s,rfl,n,rfl⟩:=hrel
  go_wp2
  ·have c:k<l.length:=by assumption
   obtain⟨y,t,rfl,_,b⟩:=b (by omega);obtain⟨x,v,rfl,_,hb⟩:=hb (by omega);obtain⟨p,e1⟩:=lw c;have c1:=b k p e1;have c3:=hb k p e1;have q:(p !=p)=Z:=by simp
   clear b hb
   go_quiet (fail)
   clear c1 c3
   go_wp2
   exact⟨⟨k+1,by omega,by go_num,_,rfl⟩,by simp[intOf];omega⟩
  ·have j:¬k<l.length:=by assumption
   go_ret;exact⟨rfl,_,rfl⟩
section
variable{w:Y}
def uK{P f args a n v}(h:μ P f args (w.drewN<|a+n) λe w'=>e=.returned v/\∃m,w'=(w.drewN<|a+n).drewN m):
 μ P f args (w.drewN<|a+n) λe b=>e=.returned v/\∃m,b=w.drewN (a+m):=
 h.mono λ_ _ ⟨c,m,d⟩=>⟨c,n+m,by rw[d,World.drewN_drewN,Nat.add_assoc]⟩
def eI.drewN{v l}(h:eI w v l)(n):eI (w.drewN n) v l:=by trivial
def Dp(w o h l)(f:sa w o l)(d:sa w h l):
 μ prog 87 #[o,h] w λe w'=>e=.returned (.bool κ)/\∃n,w'=w.drewN n:=by
 obtain⟨a,m,rfl,E,s,b⟩:=f;obtain⟨z,D,rfl,_,_,hb⟩:=d
 go_enter (fU func87 rfl),ntmps87
 go_wp2
 go_loopw [5] (λi wr=>∃k:Nat,k<=l.length/\i=Θ Ψ k/\∃n,wr=w.drewN n) (λi _=>l.length-(intOf i).toNat)
 case atStart=>exact⟨0,Nat.zero_le _,rfl,0,rfl⟩
 case round=>
  obtain⟨k,y,rfl,n,rfl⟩:=hrel
  go_wp2
  ·have c:k<l.length:=by assumption
   obtain⟨B,F,rfl,_,b⟩:=b (by omega);obtain⟨x,A,rfl,_,hb⟩:=hb (by omega);obtain⟨p,q,e1⟩:=cQ c;obtain⟨c1,v1,c2,j⟩:=b k p q e1;obtain⟨c3,v2,v,g⟩:=hb k p q e1;have C:(p !=p)=Z:=by simp
   have t:=V j;have u:=V g;clear b hb j g
   go_quiet ((go_at_call 27;exact uK<|nd _ _ _ q (t.out.drewN _)<|u.out.drewN _))
   clear c1 c2 c3 v
   go_wp2
   exact⟨⟨k+1,by omega,by go_num,_,rfl⟩,by simp[intOf];omega⟩
  ·have r:¬k<l.length:=by assumption
   go_ret;exact⟨rfl,_,rfl⟩
def bl{B a}(h:I B a w)(n):I B a (w.drewN n):=⟨h.os,h.tape,h.output,h.size,h.block⟩
def GV(w:Y)(v:R)(g:GH):Prop:=∃n o r wi d m,v=.agg #[n,o,r,wi,d,m]/\sa w n g.new/\sa w o g.old/\eI w r g.roots/\eI w wi g.aA/\eI w d g.done/\n9 w m g.marked
def tH(w:Y)(v:R)(h:PH):Prop:=∃c r wi d,v=.agg #[c,r,wi,d]/\sa w c h.cells/\eI w r h.roots/\n9 w wi h.aA/\n9 w d h.done
def GV.below{w w' v g}(a:I w.heap.size w w')(h:GV w v g):GV w' v g:=by obtain⟨n,o,r,b,d,m,rfl,f,e,h3,h4,h5,c⟩:=h;exact⟨n,o,r,b,d,m,rfl,f.below a,e.below a,h3.below a,h4.below a,h5.below a,c.below a⟩
def tH.below{w w' v g}(a:I w.heap.size w w')(h:tH w v g):tH w' v g:=by obtain⟨c,r,b,d,rfl,f,e,h3,h4⟩:=h;exact⟨c,r,b,d,rfl,f.below a,e.below a,h3.below a,h4.below a⟩
def NU(w t l g)(f:GV w t g)(b:GV w l g):
 μ prog 26 #[t,l] w λe w'=>e=.returned (.bool κ)/\I w.heap.size w w':=by
 obtain⟨n,o,r,N,d,m,rfl,p,j,h3,h4,h5,u⟩:=f;obtain⟨O,o',P,K,d',m',rfl,i,v,k,y,q,s⟩:=b;have x:∀h c:Obj,I w.heap.size w ((w.alloc h).alloc c):=λh c=>(af w h).alloc (by simp) c;have a:=V x;clear x;have J:=V p;have L:=V j;have B:=V h3;have C:=V h4;have H5:=V h5;have z:=V u;have D:=V i;have A:=V v;have F:=V k;have H:=V y;have G:=V q;have E:=V s;clear p j h3 h4 h5 u i v k y q s
 go_enter (fU func26 rfl),ntmps26
 go_wp2_with fail
 refine(Dp _ _ _ g.new (J.out.below<|a.out _ _)<|D.out.below<|a.out _ _).mono ?_;rintro e w' ⟨rfl,n1,rfl⟩
 go_wp2_with fail
 refine(Dp _ _ _ g.old (L.out.below<|bl (a.out _ _) _)<|A.out.below<|bl (a.out _ _) _).mono ?_;rintro e w' ⟨rfl,W,rfl⟩
 go_wp2_with fail
 refine(nd _ _ _ g.roots (B.out.below<|bl (a.out _ _) _)<|F.out.below<|bl (a.out _ _) _).mono ?_;rintro e w' ⟨rfl,S,rfl⟩
 go_wp2_with fail
 refine(nd _ _ _ g.aA (C.out.below<|bl (a.out _ _) _)<|H.out.below<|bl (a.out _ _) _).mono ?_;rintro e w' ⟨rfl,T,rfl⟩
 go_wp2_with fail
 refine(nd _ _ _ g.done (H5.out.below<|bl (a.out _ _) _)<|G.out.below<|bl (a.out _ _) _).mono ?_;rintro e w' ⟨rfl,Q,rfl⟩
 go_wp2_with fail
 refine(v8 _ _ _ g.marked (z.out.below<|bl (a.out _ _) _)<|E.out.below<|bl (a.out _ _) _).mono ?_;rintro e w' ⟨rfl,X,rfl⟩
 go_wp2
 go_ret;exact⟨rfl,bl (a.out _ _) _⟩
end
section
variable(w:Y)(n:Int)
def ns(v:HV):R:=.agg #[Θ Ψ v.1,Θ Ψ v.2]
def gK(e:Int):List PanicEntry:=[{v:=.iface 177<|.agg #[Θ Ψ e],recovered:=Z}]
def aeR:μ prog 56 #[Θ Ψ n] w λe w'=>e=.returned (ns (0,n))/\I w.heap.size w w':=by
 go_enter (fU func56 rfl),ntmps56
 go_wp2
 exact Z9 (v:=ns (0,n)) (by simp[ZJ,results56,go_sem,ns]) rfl ⟨rfl,((Ξ _ _).alloc .refl _)⟩
def NV:μ prog 61 #[Θ Ψ n] w λe w'=>e=.returned (ns (3,n))/\I w.heap.size w w':=by
 go_enter (fU func61 rfl),ntmps61
 go_wp2
 exact Z9 (v:=ns (3,n)) (by simp[ZJ,results61,go_sem,ns]) rfl ⟨rfl,((Ξ _ _).alloc .refl _)⟩
def aeS:μ prog 59 #[Θ Ψ n] w λe w'=>e=.returned (ns (4,n))/\I w.heap.size w w':=by
 go_enter (fU func59 rfl),ntmps59
 go_wp2
 exact Z9 (v:=ns (4,n)) (by simp[ZJ,results59,go_sem,ns]) rfl ⟨rfl,((Ξ _ _).alloc .refl _)⟩
def V0:μ prog 58 #[] w λe w'=>e=.returned (ns (2,0))/\I w.heap.size w w':=by
 go_enter (fU func58 rfl),ntmps58
 go_wp2
 exact Z9 (v:=ns (2,0)) (by simp[ZJ,results58,go_sem,ns]) rfl ⟨rfl,((Ξ _ _).alloc .refl _)⟩
def aeT(v a n m)(b:v=.slice a n m):μ prog 55 #[v] w λe w'=>e=.returned (.agg #[Θ Ψ 0,v])/\I w.heap.size w w':=by
 subst b
 go_enter (fU func55 rfl),ntmps55
 go_wp2
 exact Z9 (by simp[ZJ,results55,go_sem]) rfl ⟨rfl,((Ξ _ _).alloc .refl _)⟩
def cd(e):μ prog 84 #[.bool Z,Θ Ψ e] w λr w'=>r=.returned (.tuple #[])/\w'=w:=by
 go_enter (fU func84 rfl),ntmps84
 go_wp2
 go_end0;exact⟨rfl,rfl⟩
def eU(e):μ prog 84 #[.bool κ,Θ Ψ e] w λr w'=>r=.panicked (gK e)/\w'=w:=by
 go_enter (fU func84 rfl),ntmps84
 go_wp2
 exact⟨rfl,rfl,rfl⟩
end
section
variable(w:Y)(v:HV)
def wd:μ prog 151 #[ns v] w λe w'=>e=.returned (.bool<|dy v)/\I w w w':=by
 unfold ns dy
 go_enter (fU func151 rfl),ntmps151
 go_wp2
 go_ret;exact⟨rfl,((Ξ _ _).alloc .refl _)⟩
def sd:μ prog 168 #[ns v] w λe w'=>e=.returned (.bool<|co v)/\I w w w':=by
 obtain⟨k,n⟩:=v;unfold ns co;by_cases h:k=3
 ·have h3:(k==3)=κ:=by simp[h]
  simp only[h3,Bool.true_or]
  go_enter (fU func168 rfl),ntmps168
  go_wp2
  go_ret;exact⟨rfl,((Ξ _ _).alloc .refl _)⟩
 ·have h3:(k==3)=Z:=by simp[h]
  simp only[h3,Bool.false_or]
  go_enter (fU func168 rfl),ntmps168
  go_wp2
  go_ret;exact⟨rfl,((Ξ _ _).alloc .refl _)⟩
def mi(w:Y)(b:Nat)(g:GH):Prop:=∃n o r wi d m,w b=U n/\w (b,1)=U o/\w (b,2)=U r/\w (b,3)=U wi/\w (b,4)=U d/\w (b,5)=U m/\
 sa w n g.new/\sa w o g.old/\eI w r g.roots/\eI w wi g.aA/\eI w d g.done/\n9 w m g.marked
def mi.below{w w':Y}{b g}(a:I w w w')(h:mi w b g):mi w' b g:=by
 obtain⟨n,o,r,c,d,m,c0,c1,c2,c3,k,j,i,f,h3,h4,h5,e⟩:=h;refine⟨n,o,r,c,d,m,?_,?_,?_,?_,?_,?_,i.below a,f.below a,h3.below a,h4.below a,h5.below a,e.below a⟩
 all_goals rw[a.cell (az c0)];assumption
def dZ(c:Int)(e:Ending):Prop:=if c=0 then e=.returned (.tuple #[])else e=.panicked (gK c)
def dZ.ok{c}(h:c=0):dZ c (.returned<|.tuple #[]):=by unfold dZ;rw[if_pos h]
def dZ.bad{c d}(h:c=d)(hd:d≠0):dZ c (.panicked<|gK d):=by unfold dZ;subst h;rw[if_neg hd]
def we(b g v)(h:mi w b g):μ prog 169 #[.pointer b,ns v] w λe w'=>dZ (eO g v) e/\I w w w':=by
 obtain⟨n,o,r,f,d,m,c0,c1,_,_,_,_,⟨a1,m1,rfl,_,_,_⟩,⟨i,m2,rfl,_,_,_⟩,_⟩:=h;obtain⟨k,n⟩:=v;have hb:=az c0;unfold ns;by_cases h3:k=3
 ·subst h3;by_cases h0:n<0
  ·go_enter (fU func169 rfl),ntmps169
   go_wp2_with fail
   refine(eU _ _).mono ?_;rintro e w' ⟨rfl,rfl⟩;exact⟨rfl,dZ.bad (by simp[eO,h0])<|by decide,((Ξ _ _).alloc .refl _)⟩
  ·by_cases a:(g.new.length:Int)<=n
   ·go_enter (fU func169 rfl),ntmps169
    go_wp2_with fail
    refine(eU _ _).mono ?_;rintro e w' ⟨rfl,rfl⟩;exact⟨rfl,dZ.bad (by simp[eO,a])<|by decide,((Ξ _ _).alloc .refl _)⟩
   ·go_enter (fU func169 rfl),ntmps169
    go_wp2_with fail
    refine(cd _ _).mono ?_;rintro e w' ⟨rfl,rfl⟩
    go_wp2
    go_end0;exact⟨dZ.ok (by simp[eO];omega),((Ξ _ _).alloc .refl _)⟩
 ·have c:(k==3)=Z:=by simp[h3]
  by_cases h0:n<0
  ·go_enter (fU func169 rfl),ntmps169
   go_wp2_with fail
   refine(eU _ _).mono ?_;rintro e w' ⟨rfl,rfl⟩;exact⟨rfl,dZ.bad (by simp[eO,h0])<|by decide,((Ξ _ _).alloc .refl _)⟩
  ·by_cases a:(g.old.length:Int)<=n
   ·go_enter (fU func169 rfl),ntmps169
    go_wp2_with fail
    refine(eU _ _).mono ?_;rintro e w' ⟨rfl,rfl⟩;exact⟨rfl,dZ.bad (by simp[eO,a,h3])<|by decide,((Ξ _ _).alloc .refl _)⟩
   ·go_enter (fU func169 rfl),ntmps169
    go_wp2_with fail
    refine(cd _ _).mono ?_;rintro e w' ⟨rfl,rfl⟩
    go_wp2
    go_end0;exact⟨dZ.ok (by simp[eO,h3];omega),((Ξ _ _).alloc .refl _)⟩
def Io(b g v)(h:mi w b g)(a:mh g v=0):μ prog 167 #[.pointer b,ns v] w λe w'=>e=.returned (.tuple #[])/\I w w w':=by
 obtain⟨k,n⟩:=v;have H:=V h;clear h;by_cases h0:k=0
 ·subst h0;have c:-99<=n/\n<=99:=by simp[mh]at a;omega
  obtain⟨c,d⟩:=c;clear a;unfold ns
  go_enter (fU func167 rfl),ntmps167
  go_wp2_with fail
  refine(cd _ _).mono ?_;rintro e w' ⟨rfl,rfl⟩
  go_wp2
  go_end0;exact⟨rfl,((Ξ _ _).alloc .refl _)⟩
 ·by_cases d:k=2
  ·subst d;have c:n=0:=by simp[mh]at a;exact a
   subst c;clear a;unfold ns
   go_enter (fU func167 rfl),ntmps167
   go_wp2_with fail
   refine(cd _ _).mono ?_;rintro e w' ⟨rfl,rfl⟩
   go_wp2
   go_end0;exact⟨rfl,((Ξ _ _).alloc .refl _)⟩
  ·by_cases h3:k=3
   ·subst h3;have c:eO g (3,n)=0:=by simpa[mh]using a
    have f:=V c;clear a c;unfold ns
    go_enter (fU func167 rfl),ntmps167
    go_wp2_with fail
    refine(we _ b g (3,n)<|H.out.below<|af _ _).mono ?_;rintro e w' ⟨a,hw⟩;unfold dZ at a;rw[if_pos f.out]at a;subst a
    go_wp2
    go_end0;exact⟨rfl,(af _ _).trans<|hw.mono<|by simp⟩
   ·have h4:k=4:=by
     obtain h|h:=Decidable.em<|k=4
     exact h;simp[mh,h0,d,h3,h]at a
    subst h4;have c:eO g (4,n)=0:=by simpa[mh]using a
    have f:=V c;clear a c h0 d h3;unfold ns
    go_enter (fU func167 rfl),ntmps167
    go_wp2_with fail
    refine(we _ b g (4,n)<|H.out.below<|af _ _).mono ?_;rintro e w' ⟨a,hw⟩;unfold dZ at a;rw[if_pos f.out]at a;subst a
    go_wp2
    go_end0;exact⟨rfl,(af _ _).trans<|hw.mono<|by simp⟩
end
section
def lU(v:HV):List R:=[Θ Ψ v.1,Θ Ψ v.2]
def eP(n:Int):List R:=[Θ Ψ n]
def dW(c:Int×R):List R:=[Θ Ψ c.1,c.2]
def OV(w:Y)(B:Nat)(v:R)(l:List HV):Prop:=w.ownsRow B 50 2 v l.length<|l.flatMap lU
def OI(w:Y)(B:Nat)(v:R)(l:List Int):Prop:=w.ownsRow B 3 1 v l.length<|l.flatMap eP
def OC(w:Y)(B:Nat)(v:R)(l:List (Int×R)):Prop:=w.ownsRow B 76 2 v l.length<|l.flatMap dW
def nh:(prog.info? 50).map (λi=>(i.zero,i.size,i.bytes))=U (U<|.agg #[Θ Ψ 0,Θ Ψ 0],2,16):=by kernel_rfl
def Dq:(prog.info? 3).map (λi=>(i.zero,i.size,i.bytes))=U (U<|Θ Ψ 0,1,8):=by kernel_rfl
def ni:(prog.info? 76).map (λi=>(i.zero,i.size,i.bytes))=U (U<|.agg #[Θ Ψ 0,ZV M 0 0],2,32):=by kernel_rfl
def lx:prog.underlying 23=U (.slice 50):=by kernel_rfl
def se:prog.underlying 24=U (.slice 3):=by kernel_rfl
def mF:prog.underlying 22=U (.slice 76):=by kernel_rfl
theorem jx{c:Type}(f:c->List R)(x y:c->R)(d:∀a,f a=[x a,y a]):∀(l:List c) (i:Nat) (a:c),l[i]?=U a->(l.flatMap f)[i*2]?=U (x a)/\(l.flatMap f)[i*2+1]?=U (y a)
 |[],i,a,h=>by simp at h
 |b::l,0,a,h=>by grind
 |b::l,i+1,a,h=>by
  have:=jx f x y d l i a (by simpa using h)
  grind
theorem zn{c:Type}(f:c->List R)(x:c->R)(d:∀a,f a=[x a]):∀(l:List c) (i:Nat) (a:c),l[i]?=U a->(l.flatMap f)[i]?=U (x a)
 |[],i,a,h=>by simp at h
 |b::l,0,a,h=>by grind
 |b::l,i+1,a,h=>by
  have:=zn f x d l i a (by simpa using h)
  grind
def V1(l:List HV):∀u∈l.flatMap lU,u.oneCell'=κ:=by intro u b;obtain⟨a,_,h⟩:=Zx.1 b;simp[lU]at h;obtain rfl|rfl:=h<;>rfl
def amT(l:List Int):∀u∈l.flatMap eP,u.oneCell'=κ:=by intro u b;obtain⟨a,_,h⟩:=Zx.1 b;simp[eP]at h;subst h;rfl
section
variable{w w':Y}{B:Nat}{v:R}
def aF{e size n xs}(h:w.ownsRow B e size v n xs):∃a m,v=.slice a n m/\n<=m/\m<=Z8/\(0<n->∃g,a=U ⟨g,0,M⟩/\B<=g/\g<w/\v.ownBlock=U g/\∀j u,xs[j]?=U u->w.cell? ⟨g,j,M⟩=U u):=by
 have hc:=λ(g:Nat) (c:v.ownBlock=U g)=>h.cells c;have b:=h.lt;obtain⟨p,⟨rfl,rfl⟩|⟨g,i,d,rfl,l,c,o,f,hs,q⟩⟩:=h
 grind
 refine⟨_,_,rfl,o,f,λh0=>⟨g,rfl,l,(b g rfl).2,rfl,λj u k=>?_⟩⟩;have:=hc g rfl j u k;rwa[show((g:Nat):Addr).add j=⟨g,j,M⟩ by unfold Z2;split<;>simp_all]at this
def OV.reads{l}(h:OV w B v l):eI w v l:=by
 obtain⟨a,m,rfl,c,b,h3⟩:=aF h;refine⟨a,m,rfl,c,by unfold Z8 at b;exact b,λh0=>?_⟩;obtain⟨g,rfl,_,d,_,hc⟩:=h3 h0;refine⟨g,0,rfl,d,λi k n e=>?_⟩;obtain⟨e1,e2⟩:=jx lU (λv=>Θ Ψ v.1) (λv=>Θ Ψ v.2) (λ_=>rfl) l i (k,n) e
 grind
def OI.reads{l}(h:OI w B v l):n9 w v l:=by obtain⟨a,m,rfl,c,b,h3⟩:=aF h;refine⟨a,m,rfl,c,by unfold Z8 at b;exact b,λh0=>?_⟩;obtain⟨g,rfl,_,d,_,hc⟩:=h3 h0;refine⟨g,0,rfl,d,λi n e=>?_⟩;rw[Nat.zero_add];exact hc _ _<|zn eP (λn=>Θ Ψ n) (λ_=>rfl) l i n e
def aY(w:Y)(l:List (Int×R))(cs:List HC):Prop:=l.length=cs.length/\∀(i:Nat) k v k' vs,l[i]?=U (k,v) ->cs[i]?=U (k',vs) ->k=k'/\eI w v vs
def OC.reads{l cs}(h:OC w B v l)(hc:aY w l cs):sa w v cs:=by
 obtain⟨a,m,rfl,c,b,h3⟩:=aF h;rw[hc.1]at c h3⊢;refine⟨a,m,rfl,c,by unfold Z8 at b;exact b,λh0=>?_⟩;obtain⟨g,rfl,_,n,_,q⟩:=h3 h0;refine⟨g,0,rfl,n,λi k f e=>?_⟩;have hi:i<l.length:=by rw[hc.1];exact(Ω.1 e).1
 obtain⟨o,j,d⟩:∃k v,l[i]?=U (k,v):=⟨_,_,Δ hi⟩;obtain⟨rfl,p⟩:=hc.2 i o j k f d e;obtain⟨e1,e2⟩:=jx dW (λv=>Θ Ψ v.1) (λv=>v.2) (λ_=>rfl) l i _ d
 grind
def OV.nil(w B):OV w B (ZV M 0 0) []:=ZC _ _ _ _
def OI.nil(w B):OI w B (ZV M 0 0) []:=ZC _ _ _ _
def OC.nil(w B):OC w B (ZV M 0 0) []:=ZC _ _ _ _
end
def aS{w w':Y}{B e size n v xs}(h:w.ownsRow B e size v n xs)(d:∀g,v.ownBlock=U g->w'.heap[g]?=w.heap[g]?):w'.ownsRow B e size v n xs:=by obtain⟨c,⟨rfl,rfl⟩|⟨g,b,a,rfl,i,j,f⟩⟩:=h;exact⟨c,.inl ⟨rfl,rfl⟩⟩;exact⟨c,.inr ⟨g,b,a,rfl,i,(d g rfl).trans j,f⟩⟩
def jy{w w':Y}{B e size n v xs}(h:w.ownsRow B e size v n xs)(b:I w w w'):w'.ownsRow B e size v n xs:=aS h λg a=>b.block g (h.lt g a).2
def eV{w:Y}{B B' e size n v xs}(h:w.ownsRow B e size v n xs)(i:B'<=B):w.ownsRow B' e size v n xs:=by obtain⟨d,⟨rfl,rfl⟩|⟨g,c,a,rfl,b,f⟩⟩:=h;exact⟨d,.inl ⟨rfl,rfl⟩⟩;exact⟨d,.inr ⟨g,c,a,rfl,Nat.le_trans i b,f⟩⟩
section
variable{w w':Y}{B B':Nat}{v:R}
def OV.below{l}(h:OV w B v l)(a:I w w w'):OV w' B v l:=jy h a
def OI.below{l}(h:OI w B v l)(a:I w w w'):OI w' B v l:=jy h a
def OC.below{l}(h:OC w B v l)(a:I w w w'):OC w' B v l:=jy h a
def OV.alloc{l}(h:OV w B v l)(o):OV (w.alloc o) B v l:=h.below<|af w o
def OI.alloc{l}(h:OI w B v l)(o):OI (w.alloc o) B v l:=h.below<|af w o
def OC.alloc{l}(h:OC w B v l)(o):OC (w.alloc o) B v l:=h.below<|af w o
def OV.less{l}(h:OV w B v l)(a:B'<=B):OV w B' v l:=eV h a
def OI.less{l}(h:OI w B v l)(a:B'<=B):OI w B' v l:=eV h a
def OC.less{l}(h:OC w B v l)(a:B'<=B):OC w B' v l:=eV h a
end
def cM{w w':Y}{B e size n v xs}(h:w.ownsRow B e size v n xs)(a:w.grownBy w' v.ownBlock)(c:B<=w):I B w w':=(Ξ B w).grown a c λk b=>(h.lt k b).1
section
variable{ops:Array Oper}{rest:List Oper}{o:Oper}{a:Act}{w:Y}{Q:Exit->Act->Y->Prop}
def fO(g:o.guard=M)(s x)(r:o.op=.call {callee:=.builtin .append,args:=#[s,x],argTypes:=#[23,23]})(B v l)(hs:a.eval s=v)(b:OV w B v l)(ad c u)(y:a.eval x=ZV (U ad) 1 c)(n:w (ad.add 0)=U (Θ Ψ u.1)/\w (ad.add 1)=U (Θ Ψ u.2))(A:l.length<=1000000000)(p:B<=w)(h:∀e w',OV w' B e (l++[u]) ->I B w w'->w.grownBy w' v.ownBlock->ZS prog ops Q rest (a.put o.dst e) w'):ZS prog ops Q (o::rest) a w:=by
 obtain⟨q,hi,i,k,f⟩:=ZY nh;refine Zu _ g s x 23 r B 50 q _ 2 16 lx hi i k f rfl (by simp) v l.length _ hs b ad 1 c (lU u) y rfl (λj z d=>?_) (λz hz=>?_) (by unfold Z8;omega) (by omega) p λe w' t m _=>?_
 match j,d with
 |0,d=>cases d;exact n.1
 |1,d=>cases d;exact n.2
 |j+2,d=>simp[lU]at d
 simp[lU]at hz;obtain rfl|rfl:=hz<;>rfl
 refine h e w' ?_ (cM b m p) m;unfold OV;simpa using t
def od(g:o.guard=M)(s x)(q:o.op=.call {callee:=.builtin .append,args:=#[s,x],argTypes:=#[24,24]})(B v l)(hs:a.eval s=v)(b:OI w B v l)(ad c u)(y:a.eval x=ZV (U ad) 1 c)(t:w (ad.add 0)=U (Θ Ψ u))(A:l.length<=1000000000)(n:B<=w)(h:∀e w',OI w' B e (l++[u]) ->I B w w'->w.grownBy w' v.ownBlock->ZS prog ops Q rest (a.put o.dst e) w'):ZS prog ops Q (o::rest) a w:=by
 obtain⟨p,hi,i,k,f⟩:=ZY Dq;refine Zu _ g s x 24 q B 3 p _ 1 8 se hi i k f rfl (by simp) v l.length _ hs b ad 1 c (eP u) y rfl (λj z d=>?_) (λz hz=>?_) (by unfold Z8;omega) (by omega) n λe w' r m _=>?_
 match j,d with
 |0,d=>cases d;exact t
 |j+1,d=>simp[eP]at d
 simp[eP]at hz;subst hz;rfl;refine h e w' ?_ (cM b m n) m;unfold OI;simpa using r
def wh(g:o.guard=M)(s x)(r:o.op=.call {callee:=.builtin .append,args:=#[s,x],argTypes:=#[22,22]})(B v l)(hs:a.eval s=v)(b:OC w B v l)(ad c u)(C:u.2.oneCell'=κ)(y:a.eval x=ZV (U ad) 1 c)(n:w (ad.add 0)=U (Θ Ψ u.1)/\w (ad.add 1)=U u.2)(A:l.length<=1000000000)(p:B<=w)(h:∀e w',OC w' B e (l++[u]) ->I B w w'->w.grownBy w' v.ownBlock->ZS prog ops Q rest (a.put o.dst e) w'):ZS prog ops Q (o::rest) a w:=by
 obtain⟨q,hi,i,k,f⟩:=ZY ni;refine Zu _ g s x 22 r B 76 q _ 2 32 mF hi i k f rfl (by decide) v l.length _ hs b ad 1 c (dW u) y rfl (λj z d=>?_) (λz hz=>?_) (by unfold Z8;omega) (by omega) p λe w' t m _=>?_
 match j,d with
 |0,d=>cases d;exact n.1
 |1,d=>cases d;exact n.2
 |j+2,d=>simp[dW]at d
 simp[dW]at hz;obtain rfl|rfl:=hz
 rfl;omega;refine h e w' ?_ (cM b m p) m;unfold OC;simpa using t
end
end
section
variable(w:Y)(v:R)
def bW{a:Type}{l:List a}{k x}(h:l[k]?=U x):l.take (k+1)=l.take k++[x]:=by rw[ZB,h];rfl
def lV(l)(u:eI w v l)(C:l.length<=1000000):
 μ prog 174 #[v] w λe w'=>(∃r,e=.returned r/\OI w' w r (l.map (·.2)))/\I w w w':=by
 obtain⟨a,m,rfl,D,o,g⟩:=u
 go_enter (fU func174 rfl),ntmps174
 go_wp2
 go_loopw [3,8] (λv i wr=>∃k:Nat,k<=l.length/\i=Θ Ψ k/\OI wr w v ((l.take k).map (·.2))/\I w w wr) (λ_ i _=>l.length-(intOf i).toNat)
 case atStart=>exact⟨0,Nat.zero_le _,rfl,OI.nil _ _,Ξ _ _⟩
 case round=>
  obtain⟨k,A,rfl,b,c⟩:=hrel;by_cases h:k<l.length
  ·obtain⟨B,E,rfl,j,g⟩:=g (by omega);obtain⟨p,q,e1⟩:=ep h;obtain⟨c1,c2⟩:=(g.below c j) k p q e1;have t:=c.size;have f:((l.take k).map (·.2)).length<=1000000000:=by simp;omega
   have x:=V e1;clear g e1
   go_wp2_with (at_builtin;refine od rfl _ _ rfl w _ _ rfl ((b.alloc _).alloc _) (wr.heap.size+1:Nat) _ q rfl (by simp[go_sem,Z2]) f (by simp;omega) ?_;intro z y d n s)
   go_wp2
   go_roundw
   case rel=>exact⟨k+1,by omega,by go_num,by rw[bW x.out,ι];exact d,c.trans<|(((Ξ _ _).alloc (by omega) _).alloc (by simp;omega) _).trans n⟩
   case measure=>simp[intOf];omega
  ·go_wp2
   go_ret;refine⟨⟨_,rfl,?_⟩,c⟩;rw[ω (by omega)]at b;exact b
def Ip(l)(u:n9 w v l)(C:l.length<=1000000):
 μ prog 132 #[v] w λe w'=>(∃r,e=.returned r/\OV w' w r (l.map λn=>((1,n):HV)))/\I w w w':=by
 obtain⟨a,m,rfl,D,p,g⟩:=u
 go_enter (fU func132 rfl),ntmps132
 go_wp2
 go_loopw [3,8] (λv i wr=>∃k:Nat,k<=l.length/\i=Θ Ψ k/\OV wr w v ((l.take k).map λn=>((1,n):HV))/\I w w wr) (λ_ i _=>l.length-(intOf i).toNat)
 case atStart=>exact⟨0,Nat.zero_le _,rfl,OV.nil _ _,Ξ _ _⟩
 case round=>
  obtain⟨k,A,rfl,b,c⟩:=hrel;by_cases h:k<l.length
  ·obtain⟨B,E,rfl,j,g⟩:=g (by omega);obtain⟨q,e1⟩:=lw h;have c1:=(g.below c j) k q e1;have t:=c.size;have f:((l.take k).map λn=>((1,n):HV)).length<=1000000000:=by simp;omega
   have x:=V e1;clear g e1
   go_wp2_with (at_builtin;refine fO rfl _ _ rfl w _ _ rfl (b.alloc _) wr.heap.size _ (1,q) rfl (by simp[go_sem,Z2]) f (by simp;omega) ?_;intro z y d o s)
   go_wp2
   go_roundw
   case rel=>exact⟨k+1,by omega,by go_num,by rw[bW x.out,ι];exact d,c.trans<|((Ξ _ _).alloc (by omega) _).trans o⟩
   case measure=>simp[intOf];omega
  ·go_wp2
   go_ret;refine⟨⟨_,rfl,?_⟩,c⟩;rw[ω (by omega)]at b;exact b
def Sm(n:Int):Prop:=-1000000<=n/\n<=1000000
def Iq(v o)(f:-1000000<=v.2)(d:v.2<=1000000)(h3:0<=o)(h4:o<=1000000):
 μ prog 277 #[ns v,Θ Ψ o] w λe w'=>e=.returned (ns<|ed o v)/\I w w w':=by
 obtain⟨k,n⟩:=v;dsimp only at f d;by_cases a:k=1
 ·by_cases b:n<o
  ·have hs:ed o (k,n)=(4,n):=by simp[ed,a,b]
   rw[hs];clear hs;subst a;unfold ns
   go_enter (fU func277 rfl),ntmps277
   go_wp2
   exact Z9 (v:=ns (4,n)) (by simp[ZJ,results277,go_sem,ns]) rfl ⟨rfl,((Ξ _ _).alloc .refl _).alloc (by simp) _⟩
  ·have hs:ed o (k,n)=(3,n-o):=by simp[ed,a,b]
   rw[hs];clear hs;subst a;unfold ns
   go_enter (fU func277 rfl),ntmps277
   go_wp2
   exact Z9 (v:=ns (3,n-o)) (by simp[ZJ,results277,go_sem,ns]) rfl ⟨rfl,((Ξ _ _).alloc .refl _).alloc (by simp) _⟩
 ·have hs:ed o (k,n)=(k,n):=by simp[ed,a]
  rw[hs];clear hs;have c:(k !=1)=κ:=by simp[a]
  unfold ns
  go_enter (fU func277 rfl),ntmps277
  go_wp2
  exact Z9 (v:=ns (k,n)) (by simp[ZJ,results277,go_sem,ns]) rfl ⟨rfl,((Ξ _ _).alloc .refl _).alloc (by simp) _⟩
def zo(l o)(D:eI w v l)(L:l.length<=1000000)(C:∀x∈l,Sm x.2)(y:0<=o/\o<=1000000):
 μ prog 262 #[v,Θ Ψ o] w λe w'=>(∃r,e=.returned r/\OV w' w r (l.map<|ed o))/\I w w w':=by
 obtain⟨a,m,rfl,N,z,j⟩:=D
 go_enter (fU func262 rfl),ntmps262
 go_wp2
 go_loopw [5,10] (λv i wr=>∃k:Nat,k<=l.length/\i=Θ Ψ k/\OV wr w v ((l.take k).map<|ed o)/\I w w wr) (λ_ i _=>l.length-(intOf i).toNat)
 case atStart=>exact⟨0,Nat.zero_le _,rfl,OV.nil _ _,Ξ _ _⟩
 case round=>
  obtain⟨k,J,rfl,b,c⟩:=hrel;by_cases n:k<l.length
  ·obtain⟨K,O,rfl,s,j⟩:=j (by omega);obtain⟨p,q,e1⟩:=ep n;obtain⟨c1,c2⟩:=(j.below c s) k p q e1;have B:=c.size;have g:((l.take k).map<|ed o).length<=1000000000:=by simp;omega
   have u:=C (p,q)<|φ e1;have E:=V e1;clear j e1
   go_wp2_with fail
   refine(Iq _ (p,q) o u.1 u.2 y.1 y.2).mono ?_;rintro e F ⟨rfl,f⟩;have h:=f.size;simp only[Y9]at h;unfold ns
   go_wp2_with (at_builtin;refine fO rfl _ _ rfl w _ _ rfl (((b.alloc<|χ #[Θ Ψ p,Θ Ψ q] 50).below f).alloc _) F.heap.size _ (ed o (p,q)) rfl (by simp[go_sem,Z2]) g (by simp;omega) ?_;intro H G d t A)
   go_wp2
   go_roundw
   case rel=>exact⟨k+1,by omega,by go_num,by rw[bW E.out,ι];exact d,c.trans<|((((Ξ _ _).alloc (by omega) _).trans<|f.mono (by simp;omega)).alloc (by omega) _).trans t⟩
   case measure=>simp[intOf];omega
  ·go_wp2
   go_ret;refine⟨⟨_,rfl,?_⟩,c⟩;rw[ω (by omega)]at b;exact b
end
section
variable(n c:Nat)(w:Y)
def mG{P}(t e i z)(g:P.underlying t=U (.slice e))(hi:P.info? e=U i)(hz:i.zero=U z)(d b)(n c:Nat)(f:n<=c)(a:i.bytes*c<=281474976710656)(h:c<=9223372036854775807)(w):
 (Zv t (.int d (n:Int))<|.int b (c:Int)).run P w=.ok (.slice w.heap.size n c) (w.alloc<|.cells (ZU z.cells<|c*i.size) e):=by
 have hb:i.bytes*(c:Int)<=281474976710656:=by grind
 have j:=run_make w t e i z g hi hz d b n c (by omega) (by omega) hb (by omega)
 grind
def BC(a:n<=c)(hc:c<=1000000000)(w):
 (Zv 23 (Θ Ψ (n:Int))<|Θ Ψ (c:Int)).run prog w=.ok (.slice w.heap.size n c) (w.alloc<|.cells (ZU #[Θ Ψ 0,Θ Ψ 0]<|c*2) 50):=by
 obtain⟨e,hi,b,d,f⟩:=ZY nh;have:=mG 23 50 e _ lx hi b Ψ Ψ n c a (by grind) (by omega) w;rw[d]at this;exact this
def jz(z n):(ZU z n).size=n:=by simp[ZU]
def QA(B c:Nat)(a:B<=w)(hc:c<=1000000000):OV (w.alloc<|.cells (ZU #[Θ Ψ 0,Θ Ψ 0]<|c*2) 50) B (.slice w.heap.size 0 c) []:=by refine⟨rfl,.inr ⟨w.heap.size,c,_,rfl,a,ε w _,Nat.zero_le _,by unfold Z8;omega,jz _ _,by simp⟩⟩
def gz(v l o)(P:eI w v l)(X:l.length<=1000000)(O:∀x∈l,Sm x.2)(K:0<=o/\o<=1000000):
 μ prog 173 #[v,Θ Ψ o] w λe w'=>(∃r,e=.returned r/\OV w' w r (l.map<|cp o))/\I w w w':=by
 obtain⟨a,m,rfl,hm,H,y⟩:=P;obtain⟨L,Q⟩:=K;have t:=λW=>BC 0 l.length (Nat.zero_le _) (by omega) W;simp only[Int.natCast_zero,Int.ofNat_zero]at t
 go_enter (fU func173 rfl),ntmps173
 go_wp2
 clear t;have j:=QA w w l.length .refl (by omega);have n:=af w<|.cells (ZU #[Θ Ψ 0,Θ Ψ 0]<|l.length*2) 50;generalize w.alloc _=w0 at j n⊢
 go_loopw [5,13] (λv i wr=>∃k:Nat,k<=l.length/\i=Θ Ψ k/\OV wr w v ((l.take k).map<|cp o)/\I w w wr) (λ_ i _=>l.length-(intOf i).toNat)
 case atStart=>exact⟨0,Nat.zero_le _,rfl,j,n⟩
 case round=>
  obtain⟨k,S,rfl,c,d⟩:=hrel;clear j n;by_cases A:k<l.length
  ·obtain⟨T,oa,rfl,B,y⟩:=y (by omega);obtain⟨p,q,e1⟩:=ep A;obtain⟨c1,c2⟩:=(y.below d B) k p q e1;have J:=d.size;have f:((l.take k).map<|cp o).length<=1000000000:=by simp;omega
   obtain⟨z,D⟩:=O (p,q)<|φ e1;dsimp only at z D;have C:=V e1;clear y e1;by_cases h3:p=3
   ·subst h3;have h:cp o (3,q)=(1,q+o):=by simp[cp]
    have u:=V h;clear h
    go_wp2_with (at_builtin;refine fO rfl _ _ rfl w _ _ rfl ((c.alloc<|χ #[Θ Ψ 1,Θ Ψ<|q+o] 50).alloc _) (wr.heap.size+1:Nat) _ (1,q+o) rfl (by simp[go_sem,Z2]) f (by simp;omega) ?_;intro F E b g s)
    go_wp2
    go_roundw
    case rel=>exact⟨k+1,by omega,by go_num,by rw[bW C.out,ι,ZD,u.out];exact b,d.trans<|(((Ξ _ _).alloc (by omega) _).alloc (by simp;omega) _).trans g⟩
    case measure=>simp[intOf];omega
   ·by_cases h4:p=4
    ·subst h4;have h:cp o (4,q)=(1,q):=by simp[cp]
     have u:=V h;clear h
     go_wp2_with (at_builtin;refine fO rfl _ _ rfl w _ _ rfl ((c.alloc<|χ #[Θ Ψ 1,Θ Ψ q] 50).alloc _) (wr.heap.size+1:Nat) _ (1,q) rfl (by simp[go_sem,Z2]) f (by simp;omega) ?_;intro F E b g s)
     go_wp2
     go_roundw
     case rel=>exact⟨k+1,by omega,by go_num,by rw[bW C.out,ι,ZD,u.out];exact b,d.trans<|(((Ξ _ _).alloc (by omega) _).alloc (by simp;omega) _).trans g⟩
     case measure=>simp[intOf];omega
    ·have h:cp o (p,q)=(p,q):=by simp[cp,h3,h4]
     have u:=V h;have N:(p==3)=Z:=by simp[h3]
     have G:(p==4)=Z:=by simp[h4]
     clear h h3 h4
     go_wp2_with (at_builtin;refine fO rfl _ _ rfl w _ _ rfl ((c.alloc<|χ #[Θ Ψ p,Θ Ψ q] 50).alloc _) (wr.heap.size+1:Nat) _ (p,q) rfl (by simp[go_sem,Z2]) f (by simp;omega) ?_;intro F E b g s)
     go_wp2
     go_roundw
     case rel=>exact⟨k+1,by omega,by go_num,by rw[bW C.out,ι,ZD,u.out];exact b,d.trans<|(((Ξ _ _).alloc (by omega) _).alloc (by simp;omega) _).trans g⟩
     case measure=>simp[intOf];omega
  ·go_wp2
   go_ret;refine⟨⟨_,rfl,?_⟩,d⟩;rw[ω (by omega)]at c;exact c
end
section
def oe{P}(w base t ty e i size)(d:P.underlying t=U (.slice e))(hi:P.info? e=U i)(v n xs)(a:w.ownsRow base e size v n xs)(c):(ZN #[t,t] ty #[v,ZV M 0 c]).run P w=.ok v w:=by
 obtain⟨rfl,rfl⟩|⟨g,h,f,rfl,_,_,b,_⟩:=a.2
 simp[ZN,Z3 d,sizeOf,Y0,hi,ZE,ZT];simp[ZN,Z3 d,sizeOf,Y0,hi,ZE,ZT,b,storeCells]
def zq{P}(w:Y)(base t ty e i z size bytes)(r:P.underlying t=U (.slice e))(hi:P.info? e=U i)(hz:i.zero=U z)(f:i.size=size)(p:i.bytes=bytes)(q:z.cells.size=size)(o:0<size)(v n xs)(a:w.ownsRow base e size v n xs)(A m c news)(s:news.length=m*size)(D:0<m->∃ad,A=U ad/\∀j u,news[j]?=U u->w (ad.add j)=U u)(y:∀u∈news,u.oneCell'=κ)(l:n+m<=Z8)(d:(n+m)*bytes<=140737488355328)(g:base<=w):
 ∃k w',(ZN #[t,t] ty #[v,.slice A m c]).run P w=.ok k w'/\w'.ownsRow base e size k (n+m) (xs++news)/\w.grownBy w' v.ownBlock:=by
 obtain _|ad:=A
 have C:m=0:=by grind
 subst C;have B:=ξ (by simpa using s);subst B;exact⟨v,w,oe w base t ty e i size r hi v n xs a c,by simpa using a,World.grownBy.refl w _⟩
 ·have b:∀j u,news[j]?=U u->w (ad.add j)=U u:=by grind
  obtain⟨k,w',h,x,h3,_⟩:=run_append_own (P:=P) w base t ty e i z size bytes r hi hz f p q o v n xs a ad m c news s b y l d g;exact⟨k,w',h,x,h3⟩
def sg{P}{w:Y}{o:Oper}{a K Q}(s x t)(B:o.op=.call {callee:=.builtin .append,args:=#[s,x],argTypes:=#[t,t]})(base e i z size bytes)(G:P.underlying t=U (.slice e))(hi:P.info? e=U i)(hz:i.zero=U z)(f:i.size=size)(q:i.bytes=bytes)(p:z.cells.size=size)(y:0<size)(v n xs)(hs:a.eval s=v)(g:w.ownsRow base e size v n xs)(A m c news)(H:a.eval x=.slice A m c)(D:news.length=m*size)(E:0<m->∃ad,A=U ad/\∀j u,news[j]?=U u->w (ad.add j)=U u)(F:∀u∈news,u.oneCell'=κ)(r:n+m<=Z8)(b:(n+m)*bytes<=140737488355328)(d:base<=w)(h:∀l w',w'.ownsRow base e size l (n+m) (xs++news) ->w.grownBy w' v.ownBlock->K (a.put o.dst l) w'):o.wp P a w K Q:=by obtain⟨l,w',k,C,h3⟩:=zq w base t o.type e i z size bytes G hi hz f q p y v n xs g A m c news D E F r b d;unfold Oper.wp Zq;simp only[B,resolve,invoke,builtin,Z7,Zz,ο,Y4,YU,YR,hs,H,k];exact h l w' C h3
def zt{w b o l}(h:Il w b o l):∀j u,(l.flatMap lU)[j]?=U u->w (((b,o):Addr).add j)=U u:=by
 intro j u c;have f:=(Ω.1 c).1;have d:(l.flatMap lU).length=l.length*2:=by
  clear c f h
  induction l with
  |nil=>rfl
  |cons a l g=>rw[ψ,υ,g];simp[lU];omega
 obtain⟨x,e⟩:∃x,l[j/2]?=U x:=⟨_,Δ<|by omega⟩;obtain⟨e1,e2⟩:=jx lU (λv=>Θ Ψ v.1) (λv=>Θ Ψ v.2) (λ_=>rfl) l (j/2) x e;obtain⟨m,k⟩:=h (j/2) x.1 x.2 e;have i:((b,o):Addr).add j=⟨b,o+j,M⟩:=by unfold Z2;split<;>simp_all
 grind
def aeU{w b o l}(h:Im w b o l):∀j u,(l.flatMap eP)[j]?=U u->w (((b,o):Addr).add j)=U u:=by
 intro j u c;have f:=(Ω.1 c).1;have d:(l.flatMap eP).length=l.length:=by
  clear c f h
  induction l with
  |nil=>rfl
  |cons a l i=>rw[ψ,υ,i];simp[eP];omega
 obtain⟨x,e⟩:∃x,l[j]?=U x:=⟨_,Δ<|by omega⟩;have g:((b,o):Addr).add j=⟨b,o+j,M⟩:=by unfold Z2;split<;>simp_all
 rw[g,h j x e];rw[(zn eP (λn=>Θ Ψ n) (λ_=>rfl) l j x e)]at c;exact c
def fx(l:List HV):(l.flatMap lU).length=l.length*2:=by
 induction l with
 |nil=>rfl
 |cons a l b=>rw[ψ,υ,b];simp[lU];omega
def EO(l:List Int):(l.flatMap eP).length=l.length*1:=by
 induction l with
 |nil=>rfl
 |cons a l b=>rw[ψ,υ,b];simp[eP];omega
section
variable{ops:Array Oper}{rest:List Oper}{o:Oper}{a:Act}{w:Y}{Q:Exit->Act->Y->Prop}{K:Act->Y->Prop}
def EP(s x)(q:o.op=.call {callee:=.builtin .append,args:=#[s,x],argTypes:=#[23,23]})(B v l)(hs:a.eval s=v)(d:OV w B v l)(v2 l2)(u:a.eval x=v2)(t:eI w v2 l2)(y:l.length<=1000000000)(p:l2.length<=1000000000)(m:B<=w)(h:∀e w',OV w' B e (l++l2) ->I B w w'->w.grownBy w' v.ownBlock->K (a.put o.dst e) w'):o.wp prog a w K Q:=by
 obtain⟨n,hi,g,i,f⟩:=ZY nh;obtain⟨A,c,rfl,_,_,r⟩:=t;refine sg s x 23 q B 50 n _ 2 16 lx hi g i f rfl (by decide) v l.length _ hs d A l2.length c (l2.flatMap lU) u (fx _) (λh0=>?_) (V1 _) (by unfold Z8;omega) (by omega) m λe w' z k=>?_;obtain⟨b,o,rfl,_,j⟩:=r h0;exact⟨_,rfl,zt j⟩;refine h e w' ?_ (cM d k m) k;unfold OV
 grind
def tI(d:o.guard=M)(s x)(f:o.op=.call {callee:=.builtin .append,args:=#[s,x],argTypes:=#[23,23]})(B v l)(hs:a.eval s=v)(b:OV w B v l)(v2 l2)(n:a.eval x=v2)(k:eI w v2 l2)(g:l.length<=1000000000)(e:l2.length<=1000000000)(m:B<=w)(h:∀c w',OV w' B c (l++l2) ->I B w w'->w.grownBy w' v.ownBlock->ZS prog ops Q rest (a.put o.dst c) w'):ZS prog ops Q (o::rest) a w:=Y8 d λ_ j=>EP s x f B v l hs b v2 l2 n k g e m λc w' i h3 h4=>j _ _<|h c w' i h3 h4
def EQ(s x)(q:o.op=.call {callee:=.builtin .append,args:=#[s,x],argTypes:=#[24,24]})(B v l)(hs:a.eval s=v)(d:OI w B v l)(v2 l2)(u:a.eval x=v2)(t:n9 w v2 l2)(y:l.length<=1000000000)(p:l2.length<=1000000000)(m:B<=w)(h:∀e w',OI w' B e (l++l2) ->I B w w'->w.grownBy w' v.ownBlock->K (a.put o.dst e) w'):o.wp prog a w K Q:=by
 obtain⟨n,hi,g,i,f⟩:=ZY Dq;obtain⟨A,c,rfl,_,_,r⟩:=t;refine sg s x 24 q B 3 n _ 1 8 se hi g i f rfl (by decide) v l.length _ hs d A l2.length c (l2.flatMap eP) u (EO _) (λh0=>?_) (amT _) (by unfold Z8;omega) (by omega) m λe w' z k=>?_;obtain⟨b,o,rfl,_,j⟩:=r h0;exact⟨_,rfl,aeU j⟩;refine h e w' ?_ (cM d k m) k;unfold OI
 grind
def tJ(d:o.guard=M)(s x)(f:o.op=.call {callee:=.builtin .append,args:=#[s,x],argTypes:=#[24,24]})(B v l)(hs:a.eval s=v)(b:OI w B v l)(v2 l2)(n:a.eval x=v2)(k:n9 w v2 l2)(g:l.length<=1000000000)(e:l2.length<=1000000000)(m:B<=w)(h:∀c w',OI w' B c (l++l2) ->I B w w'->w.grownBy w' v.ownBlock->ZS prog ops Q rest (a.put o.dst c) w'):ZS prog ops Q (o::rest) a w:=Y8 d λ_ j=>EQ s x f B v l hs b v2 l2 n k g e m λc w' i h3 h4=>j _ _<|h c w' i h3 h4
end
def zu(w:Y)(B:Nat)(a:B<=w):OV (w.alloc<|χ #[] 50) B (.slice w.heap.size 0 0) []:=⟨rfl,.inr ⟨w.heap.size,0,_,rfl,a,ε w _,.refl,by unfold Z8;omega,rfl,by simp⟩⟩
def zx(w:Y)(B:Nat)(a:B<=w):OI (w.alloc<|χ #[] 3) B (.slice w.heap.size 0 0) []:=⟨rfl,.inr ⟨w.heap.size,0,_,rfl,a,ε w _,.refl,by unfold Z8;omega,rfl,by simp⟩⟩
def Ir(n m a w):(binOp .eql 23 (.slice a n m)<|ZV M 0 0).run prog w=.ok (.bool a.isNone) w:=ZF w 23 50 a n m 0 0 lx
def Q2(n m a w):(binOp .eql 24 (.slice a n m)<|ZV M 0 0).run prog w=.ok (.bool a.isNone) w:=ZF w 24 3 a n m 0 0 se
def J6(w v l)(g:eI w v l)(s:l.length<=1000000):
 μ prog 148 #[v] w λe w'=>(∃r,e=.returned r/\OV w' w r l)/\I w w w':=by
 have H:=V g;obtain⟨a,m,rfl,n,k,d⟩:=g;obtain _|a:=a
 ·have h0:l=[]:=by
   obtain h0|h0:=Nat.eq_zero_or_pos l.length
   exact ξ h0;obtain⟨b,o,h,_⟩:=d h0;cases h
  subst h0;clear d;have i:=Ir 0 m M
  go_enter (fU func148 rfl),ntmps148
  go_wp2
  go_ret;exact⟨⟨_,rfl,OV.nil _ _⟩,Ξ _ _⟩
 ·clear d;have i:=Ir l.length m<|U a
  go_enter (fU func148 rfl),ntmps148
  go_wp2_with (at_builtin;refine tI rfl _ _ rfl w _ [] rfl (zu w _ .refl) _ l rfl (H.out.below<|af _ _) (by simp) (by omega) (by simp) ?_;intro q p c f j)
  go_wp2
  go_ret;exact⟨⟨_,rfl,by simpa using c⟩,(af _ _).trans f⟩
def wj(w v l)(g:n9 w v l)(s:l.length<=1000000):
 μ prog 149 #[v] w λe w'=>(∃r,e=.returned r/\OI w' w r l)/\I w w w':=by
 have H:=V g;obtain⟨a,m,rfl,n,k,d⟩:=g;obtain _|a:=a
 ·have h0:l=[]:=by
   obtain h0|h0:=Nat.eq_zero_or_pos l.length
   exact ξ h0;obtain⟨b,o,h,_⟩:=d h0;cases h
  subst h0;clear d;have i:=Q2 0 m M
  go_enter (fU func149 rfl),ntmps149
  go_wp2
  go_ret;exact⟨⟨_,rfl,OI.nil _ _⟩,Ξ _ _⟩
 ·clear d;have i:=Q2 l.length m<|U a
  go_enter (fU func149 rfl),ntmps149
  go_wp2_with (at_builtin;refine tJ rfl _ _ rfl w _ [] rfl (zx w _ .refl) _ l rfl (H.out.below<|af _ _) (by simp) (by omega) (by simp) ?_;intro q p c f j)
  go_wp2
  go_ret;exact⟨⟨_,rfl,by simpa using c⟩,(af _ _).trans f⟩
end
section
variable(w:Y)(v:R){α:Type}
def Q3(p q a b w):(binOp .eql 50 (.agg #[Θ Ψ p,Θ Ψ q])<|.agg #[Θ Ψ a,Θ Ψ b]).run prog w=.ok (.bool<|p==a&&q==b) w:=by rw[run_eql_struct,VY];rfl
def tK{α:Type}[DecidableEq α](l:List α)(v:α):Int:=if v∈l then(l.idxOf v:Nat)else-1
def si[DecidableEq α]{l}{v:α}{k:Nat}(h:l[k]?=U v)(b:v∉l.take k):tK l v=k:=by unfold tK;have a:=(Ω.1 h).1;rw[((List.take_append_drop k l).symm),List.idxOf_append,if_neg b,Z4 a,(Ω.1 h).2];simp;omega
def oh{l:List α}{v x k}(b:v∉l.take k)(h:l[k]?=U x)(a:v≠x):v∉l.take (k+1):=by rw[ZB,h];simp[b,a]
def NW(l x)(r:eI w v l):
 μ prog 217 #[v,ns x] w λe w'=>e=.returned (Θ Ψ<|tK l x)/\I w.heap.size w w':=by
 obtain⟨p0,b⟩:=x;obtain⟨a,m,rfl,z,u,f⟩:=r;unfold ns;dsimp only
 go_enter (fU func217 rfl),ntmps217
 go_wp2
 go_loopw [8] (λi wr=>∃k:Nat,k<=l.length/\i=Θ Ψ k/\Hid ((p0,b)∉l.take k)/\∃n,wr=(w.alloc<|χ #[Θ Ψ p0,Θ Ψ b] 50).drewN n) (λi _=>l.length-(intOf i).toNat)
 case atStart=>exact⟨0,Nat.zero_le _,rfl,V<|by simp,0,rfl⟩
 case round=>
  obtain⟨k,A,rfl,j,n,rfl⟩:=hrel;by_cases h:k<l.length
  ·obtain⟨C,B,rfl,g,f⟩:=f (by omega);obtain⟨p,q,e1⟩:=ep h;obtain⟨c1,c2⟩:=(f.below (af w<|χ #[Θ Ψ p0,Θ Ψ b] 50) g) k p q e1;have o:=V e1;clear f e1;by_cases d:(p0,b)=(p,q)
   ·cases d
    have c:∀w:Y,(binOp .eql 50 (.agg #[Θ Ψ p0,Θ Ψ b])<|.agg #[Θ Ψ p0,Θ Ψ b]).run prog w=.ok (.bool κ) w:=λw=>by rw[Q3];simp
    go_wp2
    go_quiet (fail)
    clear c c1 c2
    go_wp2
    go_ret;exact⟨by rw[si o.out j.out];rfl,by first|exact bl (af w _) _|exact bl (bl (af w _) _) _⟩
   ·have c:∀w:Y,(binOp .eql 50 (.agg #[Θ Ψ p0,Θ Ψ b])<|.agg #[Θ Ψ p,Θ Ψ q]).run prog w=.ok (.bool Z) w:=λw=>by
     rw[Q3];have:(p0==p&&b==q)=Z:=by simp only[Prod.mk.injEq]at d;simp;intro t s;exact d ⟨t,s⟩
     rw[this]
    have y:=V d;clear d
    go_wp2
    go_quiet (fail)
    clear c c1 c2
    go_wp2
    exact⟨⟨k+1,by omega,by go_num,V<|oh j.out o.out y.out,_,rfl⟩,by simp[intOf];omega⟩
  ·go_wp2
   go_ret;have:=j.out;rw[ω (by omega)]at this;exact⟨by unfold tK;rw[if_neg this];rfl,bl (af w _) _⟩
def NX(l x)(n:n9 w v l):
 μ prog 218 #[v,Θ Ψ x] w λe w'=>e=.returned (Θ Ψ<|tK l x)/\w'=w:=by
 obtain⟨a,m,rfl,r,o,b⟩:=n
 go_enter (fU func218 rfl),ntmps218
 go_wp2
 go_loopw [8] (λi wr=>∃k:Nat,k<=l.length/\i=Θ Ψ k/\Hid (x∉l.take k)/\wr=w) (λi _=>l.length-(intOf i).toNat)
 case atStart=>exact⟨0,Nat.zero_le _,rfl,V<|by simp,rfl⟩
 case round=>
  obtain⟨k,s,rfl,g,rfl⟩:=hrel;by_cases d:k<l.length
  ·obtain⟨u,t,rfl,j,b⟩:=b (by omega);obtain⟨p,e1⟩:=lw d;have c1:=b k p e1;have h:=V e1;clear b e1;by_cases c:x=p
   ·subst c;have f:(x==x)=κ:=by simp
    go_wp2
    go_ret;exact⟨by rw[si h.out g.out];rfl,rfl⟩
   ·have f:(x==p)=Z:=by simp[c]
    have q:=V c;clear c
    go_wp2
    exact⟨⟨k+1,by omega,by go_num,V<|oh g.out h.out q.out,by trivial⟩,by simp[intOf];omega⟩
  ·go_wp2
   go_ret;have:=g.out;rw[ω (by omega)]at this;exact⟨by unfold tK;rw[if_neg this];rfl,rfl⟩
def Dr[DecidableEq α](l)(v:α):(0<=tK l v)=(v∈l):=by unfold tK;split<;>simp[*]
def BD(l x)(d:eI w v l):
 μ prog 170 #[v,ns x] w λe w'=>e=.returned (.bool<|l.contains x)/\I w.heap.size w w':=by
 have H:=V d;obtain⟨a,m,rfl,_,_,_⟩:=d;obtain⟨p0,c⟩:=x;have b:decide (0<=tK l (p0,c))=l.contains (p0,c):=by simp[Dr]
 have f:=V b;clear b;unfold ns;dsimp only
 go_enter (fU func170 rfl),ntmps170
 go_wp2_with fail
 refine(NW _ _ l (p0,c)<|H.out.below<|af _ _).mono ?_;rintro e w' ⟨rfl,hb⟩
 go_wp2
 go_ret;exact⟨by rw[f.out];rfl,(af _ _).trans<|hb.mono<|by simp⟩
def sj(l x)(c:n9 w v l):
 μ prog 171 #[v,Θ Ψ x] w λe w'=>e=.returned (.bool<|l.contains x)/\w'=w:=by
 have H:=V c;obtain⟨a,m,rfl,_,_,_⟩:=c;have b:decide (0<=tK l x)=l.contains x:=by simp[Dr]
 have d:=V b;clear b
 go_enter (fU func171 rfl),ntmps171
 go_wp2_with fail
 refine(NX _ _ l x H.out).mono ?_;rintro e w' ⟨rfl,rfl⟩
 go_wp2
 go_ret;exact⟨by rw[d.out];rfl,rfl⟩
end
section
variable{vs:List HV}
def yg(cs:List HC)(k:Nat):List Int:=((ZZ k).filter λi=>jW<|cs.getD i (0,[])).map λ(i:Nat)=>(i:Int)
def V2(cs k):(yg cs k).length<=k:=by
 unfold yg
 grind
def NY{cs k c}(h:cs[k]?=U c):yg cs (k+1)=if jW c then yg cs k++[(k:Int)]else yg cs k:=by
 unfold yg;rw[List.range_succ]
 grind
def Is(g):ju g=yg g.old g.old.length:=rfl
def ER{p}{j:Nat}{n}(h:vs[j]?=U (3,n)):jW (p,vs)=κ:=by exact List.any_eq_true.2 ⟨_,φ h,rfl⟩
def It{p}(h:∀x∈vs,dy x=Z):jW (p,vs)=Z:=by
 unfold jW
 grind
def BE{j x}(h:∀y∈vs.take j,dy y=Z)(e:vs[j]?=U x)(a:dy x=Z):∀y∈vs.take (j+1),dy y=Z:=by
 rw[bW e]
 grind
def Dt(w b g)(h:mi w b g)(hl:g.old.length<=1000000):
 μ prog 107 #[.pointer b] w λe w'=>(∃r,e=.returned r/\OI w' w r (ju g))/\I w w w':=by
 obtain⟨n,o,r,wi,d,m,c0,c1,_,_,_,_,_,⟨a,m2,rfl,hm,hm2,Q⟩,_⟩:=h;have hb:=az c1;rw[Is];generalize hcs:g.old=cs at *;clear hcs
 go_enter (fU func107 rfl),ntmps107
 go_wp2
 go_step3
 go_wp2
 go_step3
 go_wp2
 go_loopw [3,14] (λv i wr=>∃k:Nat,k<=cs.length/\i=Θ Ψ k/\OI wr w v (yg cs k)/\I w w wr) (λ_ i _=>cs.length-(intOf i).toNat)
 case atStart=>exact⟨0,Nat.zero_le _,rfl,OI.nil _ _,Ξ _ _⟩
 case round=>
  obtain⟨k,hk,rfl,c,q⟩:=hrel;by_cases T:k<cs.length
  ·obtain⟨ba,oa,rfl,W,Q⟩:=Q (by omega);obtain⟨p,s,e1⟩:=cQ T;obtain⟨d1,x,d2,hx⟩:=(Q.below q W) k p s e1;obtain⟨ax,mx,rfl,hmx,N4,P⟩:=hx;have hsz:=q.size;have G:(yg cs k).length<=1000000000:=by have:=V2 cs k;omega
   have E1:=V<|NY e1;have HX:=V P;have HO:=V c;clear Q e1 P c
   go_wp2
   have f:=af wr<|χ #[Θ Ψ p,.slice ax s.length mx] 76;generalize O:wr.alloc (χ #[Θ Ψ p,.slice ax s.length mx] 76)=w0 at f⊢;have A:=q.trans<|f.mono hsz;have N:=V<|HO.out.below f;have HW0:=V O;clear HO O
   go_loopw [3,22] (λv i F=>∃j:Nat,j<=s.length/\i=Θ Ψ j/\Hid (∀y∈s.take j,dy y=Z)/\I w0 w0 F/\OI F w v (yg cs k)) (λ_ i _=>s.length-(intOf i).toNat)
   case atStart=>exact⟨0,Nat.zero_le _,rfl,V<|by simp,Ξ _ _,N.out⟩
   case round=>
    obtain⟨j,hj,rfl,D,l,C⟩:=hrel;clear N;have amU:=l.size;have u:=A.size;by_cases K:j<s.length
    ·obtain⟨bb,ob,rfl,H,E⟩:=HX.out (by omega);have t:=(E.below f H).below l<|Nat.lt_of_lt_of_le H f.size;obtain⟨S,nq,e2⟩:=ep K;obtain⟨f1,f2⟩:=t j S nq e2;have E2:=V e2;clear E t e2 HX;by_cases h3:S=3
     ·subst h3;have J:=ER (p:=p) E2.out;have z:=E1.out;rw[if_pos J]at z;have X:=V z;clear z J
      go_wp2_with (at_builtin;refine od rfl _ _ rfl w _ _ rfl ((C.alloc _).alloc _) (wr.heap.size+1:Nat) _ k rfl (by simp[go_sem,Z2]) G (by simp;omega) ?_;intro v' w1 B hb1 hg1)
      go_wp2
      exact⟨⟨k+1,by omega,by go_num,by rw[X.out];exact B,A.trans<|(l.mono u).trans<|(((Ξ _ _).alloc (by omega) _).alloc (by simp;omega) _).trans hb1⟩,by simp[intOf];omega⟩
     ·have h3':(S==3)=Z:=by simp[h3]
      have L:dy (S,nq)=Z:=by simp[dy,h3]
      have HN:=V L;clear h3 L
      go_wp2
      exact⟨⟨j+1,by omega,by go_num,V<|BE D.out E2.out HN.out,l.trans<|(Ξ _ _).alloc (by omega) _,C.alloc _⟩,by simp[intOf];omega⟩
    ·have J:jW (p,s)=Z:=It (by have:=D.out;rwa[ω (by omega)]at this);have z:=E1.out;rw[if_neg (by rw[J];decide)]at z;have X:=V z;clear z J
     go_wp2
     exact⟨⟨k+1,by omega,by go_num,by rw[X.out];exact C,A.trans<|l.mono u⟩,by simp[intOf];omega⟩
  ·go_wp2
   rw[Exit.noGoto_ret];go_ret;refine⟨⟨_,rfl,?_⟩,q⟩;rw[show cs.length=k by omega];exact c
end
end Kn
namespace Kn
open Go Go.RowKit Md Vc
section
variable{w:Y}{Q:Exit->Act->Y->Prop}{a:Act}
def ES(m t):ZK m aE t=[0,1]\/ZK m aE t=[1,0]:=by
 have h:ZK m aE t=Za .any aE t:=by unfold ZK;rw[if_pos (by rw[show Region.departs aE=Z by decide+kernel];simp)]
 rw[h];unfold Za;rw[show aE.size=1+1 from rfl];unfold ζ;rw[show(1+1)=aE.size from rfl];simp only[(by decide+kernel:((ZZ aE.size).filter λi=>!(Z1 aE.size Z).getD i κ&&((aE[i]?).map (·.after.all λe=>!Zm .any e||(Z1 aE.size Z).getD e.on Z)).getD Z)=[0,1])];obtain h0|h0:=Nat.mod_two_eq_zero_or_one t
 left;simp only[ZM,ZI,Nat.zero_add,Nat.reduceAdd,h0,ZL];unfold ζ;simp only[(by decide+kernel:((ZZ aE.size).filter λi=>!((Z1 aE.size Z).setIfInBounds 0 κ).getD i κ&&((aE[i]?).map (·.after.all λe=>!Zm .any e||((Z1 aE.size Z).setIfInBounds 0 κ).getD e.on Z)).getD Z)=[1])];simp[Nat.mod_one,ζ];right;simp only[ZM,ZI,Nat.zero_add,Nat.reduceAdd,h0,List.getElem?_cons_succ,ZL];unfold ζ;simp only[(by decide+kernel:((ZZ aE.size).filter λi=>!((Z1 aE.size Z).setIfInBounds 1 κ).getD i κ&&((aE[i]?).map (·.after.all λe=>!Zm .any e||((Z1 aE.size Z).setIfInBounds 1 κ).getD e.on Z)).getD Z)=[0])];simp[Nat.mod_one,ζ]
def kJ(x y:R)(a:Act):Act:={a with tmps:=(a.tmps.setIfInBounds 41 x).setIfInBounds 42 y}
def yC(x y c d a):kJ c d (kJ x y a)=kJ c d a:=by
 unfold kJ
 congr 1
 refine Zc λi=>?_;simp only[ZW,Zp];by_cases b:42=i
 simp[b];by_cases e:41=i<;>simp[b,e]
def V3{id}(h:∀y,Q .normal {a with tmps:=a.tmps.setIfInBounds 42<|.bool y} w.drew):(Code.region id aE κ).wp prog Q a w:=by
 refine wp_region_draw λd=>?_;have b:∀(a:Act) (w:Y) (y:Bool) (i:Nat) (o:Oper) (rest:List Nat),aE[i]?=U o->o={dst:=U 42,op:=.assign<|.const<|.bool y,type:=0,pos:= "",after:=#[],guard:=M} ->wpOps prog aE Q rest {a with tmps:=a.tmps.setIfInBounds 42<|.bool y} w->wpOps prog aE Q (i::rest) a w:=by intro a w y i o rest c e h;subst e;unfold wpOps;rw[c];left;simpa[Oper.wp,Zq,Oper.upon,ZR,ZP]using h
 obtain e|e:=ES (prog.follows .mixedOrders) d<;>rw[e]
 refine b _ _ κ 0 _ _ rfl rfl<|b _ _ Z 1 _ _ rfl rfl ?_;have:=h Z;simpa[wpOps]using this;refine b _ _ Z 1 _ _ rfl rfl<|b _ _ κ 0 _ _ rfl rfl ?_;have:=h κ;simpa[wpOps]using this
def iV{k t:Nat}(b:a.tmps.size=43)(h:∀x y w',I w.heap.size w w'->Q .normal (kJ x y a) w'):(tE k t).wp prog Q a w:=by
 unfold tE;refine ZO<|V3 λy=>?_;show(Code.cond (tm 42) _ _).wp _ _ _ _;have c:({a with tmps:=a.tmps.setIfInBounds 42<|.bool y}:Act).eval (tm 42)=.bool y:=by simp[ZR,tm,b]
 obtain _|_:=y
 refine wp_cond_false c<|wp_skip ?_;have:=h (a.tmps.getD 41 undef) (.bool Z) w.drew (Ξ _ _).drew;have e:kJ (a.tmps.getD 41 undef) (.bool Z) a={a with tmps:=a.tmps.setIfInBounds 42<|.bool Z}:=by
  unfold kJ
  congr 1
  refine Zc λi=>?_;simp only[ZW,Zp];by_cases f:42=i
  simp[f];by_cases d:41=i
  ·subst d;simp[Array.getD,b]
  simp[f,d]
 rw[e]at this;exact this;refine wp_cond_true c ?_;unfold rg;refine wp_region ?_;have:=h (Y1<|U ⟨w.heap.size,0,M⟩) (.bool κ) (w.drew.alloc<|χ #[] t)<|(Ξ _ _).drew.alloc .refl _;show wpOps _ _ _ [0] _ _;unfold wpOps;simp only[List.getElem?_toArray,ZL,Region.wanted,if_true];left;simpa[Oper.wp,Zq,Oper.upon,ZR,ZP,wpOps,kJ,go_sem,Array.setIfInBounds_comm]using this
def NZ(b:a.tmps.size=43)(h:∀x y w',I w.heap.size w w'->Q .normal (kJ x y a) w'):aao.wp prog Q a w:=by
 have hs:∀x y (a:Act),a.tmps.size=43->(kJ x y a).tmps.size=43:=by intro x y a h;simp[kJ,h]
 unfold aao;simp only[sq];refine ZO<|iV b λE q m c=>?_;refine ZO<|iV (hs _ _ _ b) λz G F j=>?_;refine ZO<|iV (hs _ _ _<|hs _ _ _ b) λo s n b3=>?_;simp only[yC];refine ZO<|iV (hs _ _ _ b) λx4 A w4 b4=>?_;simp only[yC];refine ZO<|iV (hs _ _ _ b) λB u w5 b5=>?_;simp only[yC];refine ZO<|iV (hs _ _ _ b) λD v p b6=>?_;simp only[yC];refine ZO<|iV (hs _ _ _ b) λr l w7 i=>?_;simp only[yC];refine iV (hs _ _ _ b) λC t w8 k=>?_;simp only[yC];have c2:=c.trans<|j.mono c.size;have c3:=c2.trans<|b3.mono c2.size;have g:=c3.trans<|b4.mono c3.size;have e:=g.trans<|b5.mono g.size;have f:=e.trans<|b6.mono e.size;have d:=f.trans<|i.mono f.size;exact h _ _ _<|d.trans<|k.mono d.size
def Iu{P dst op v}(b:(Zq a.eval {dst,op,type:=0,pos:= "",after:=#[],guard:=M}).run P w=.ok (.value v) w)(h:Q .normal (a.put dst v) w):(rg dst op).wp P Q a w:=by refine wp_region ?_;unfold wpOps;simp;left;unfold Oper.wp;rw[b];simpa[Oper.upon,wpOps]using h
def sk(j:a.tmps.size=43)(h0:a.tmps.getD 17 undef=Θ Ψ 0)(h:∀a' w',a'.tmps.size=43->a'.defers=a.defers->I w.heap.size w w'->Q (.exit 2) a' w'):
 (Code.loop<|.seq (rg (U 15)<|cmp .lss (tm 17)<|ci 2199023255552)<|.seq (.cond (tm 15) .skip<|.exit 2)<|.seq aao<|.seq (rg (U 16)<|.binOp .add 3 (tm 17) (ci 1) 3)<|rg (U 17)<|.move<|tm 16).wp prog Q a w:=by
 refine wp_loop (λa' w'=>a'.tmps.size=43/\a'.defers=a.defers/\I w.heap.size w w'/\∃k:Nat,k<=2199023255552/\a'.tmps.getD 17 undef=Θ Ψ k) (λa' _=>2199023255552-(intOf<|a'.tmps.getD 17 undef).toNat) ?_ ?_;exact⟨j,rfl,Ξ _ _,0,by omega,h0⟩
 ·rintro a' w' ⟨c,l,h3,k,n,h4⟩;have g:a'.eval (tm 17)=Θ Ψ k:=by simpa[ZR,tm]using h4
  refine ZO<|Iu (v:=.bool<|decide<|(k:Int)<2199023255552) (by simp[Zq,cmp,g,ci];simp[ZR,go_sem]) ?_;show(Code.seq _ _).wp _ _ _ _;have b:(a'.put (U 15)<|.bool<|decide<|(k:Int)<2199023255552).eval (tm 15)=.bool (decide<|(k:Int)<2199023255552):=by simp[ZR,tm,ZP,c]
  by_cases m:k<2199023255552
  ·have hd:decide ((k:Int)<2199023255552)=κ:=by simp;omega
   rw[hd]at b⊢;refine ZO<|wp_cond_true b<|wp_skip ?_;show(Code.seq _ _).wp _ _ _ _;refine ZO<|NZ (by simp[ZP,c]) λx y o i=>?_;show(Code.seq _ _).wp _ _ _ _;have f:(kJ x y<|a'.put (U 15)<|.bool κ).tmps.getD 17 undef=Θ Ψ k:=by have e:=h4;simp[c]at e;simp[kJ,ZP,c];exact e
   have d:(kJ x y<|a'.put (U 15)<|.bool κ).eval (tm 17)=Θ Ψ k:=by simpa[ZR,tm]using f
   refine ZO (Iu (v:=Θ Ψ ((k:Int)+1)) (by simp[Zq,d,ci];simp[ZR,go_sem];rw[IntKind.wrap_i64];omega) ?_)
   show(rg _ _).wp _ _ _ _;refine Iu (v:=Θ Ψ<|(k:Int)+1) (by simp[Zq,tm,ZR,ZP,kJ,c]) ?_;refine⟨⟨by simp[ZP,kJ,c],l,h3.trans<|i.mono h3.size,k+1,by omega,by simp[ZP,kJ,c]⟩,?_⟩;show 2199023255552-_<2199023255552-_;rw[h4];simp[ZP,kJ,c,intOf];omega
  have hd:decide ((k:Int)<2199023255552)=Z:=by simp;omega
  rw[hd]at b⊢;refine ZO<|wp_cond_false b ?_;exact wp_exit<|h _ _ (by simp[ZP,c]) l h3
end
section
variable(p:Int)(w:Y)
def func166:prog.funcs[166]?=U Vm:=by kernel_rfl
def ntmps166:Vm.ntmps=43:=rfl
def results166:Vm.results=#[]:=by kernel_rfl
def aeV(n m a w):(binOp .eql 22 (.slice a n m)<|ZV M 0 0).run prog w=.ok (.bool a.isNone) w:=ZF w 22 76 a n m 0 0 mF
theorem xl:∀{l:List Int},cU l=0->∀x∈l,x=0
 |[],_,x,a=>by cases a
 |e::l,h,x,a=>by
  unfold cU at h;split at h
  rename_i h0;obtain rfl|a:=List.mem_cons.1 a
  omega;exact xl h x a;omega
def N0{g k n}(h:mh g (k,n)=0):(k=0/\-99<=n/\n<=99)\/(k=2/\n=0)\/(k=3/\0<=n/\n<g.new.length)\/(k=4/\0<=n/\n<g.old.length):=by
 unfold mh at h;dsimp only at h;by_cases h0:k=0
 simp[h0]at h;omega;by_cases a:k=2
 ·simp[a]at h;omega
 by_cases h3:k=3
 ·subst h3;simp[eO]at h;omega
 by_cases h4:k=4
 ·subst h4;simp[eO]at h;omega
 simp[h0,a,h3,h4]at h
def zy{g p vs}(h:zj g (p,vs)=0):((p=0/\vs.length<=4)\/(p=1/\vs.length=1)\/(p=2/\vs.length=2))/\∀v∈vs,mh g v=0:=by
 unfold zj at h;dsimp only at h;by_cases b:p<0\/2<p
 omega;rw[if_neg b]at h;by_cases a:vs.length<(if p=0 then 0 else if p=1 then 1 else 2)
 rw[if_pos a]at h;exact absurd h (by decide);rw[if_neg a]at h;by_cases h3:(if p=0 then 4 else if p=1 then 1 else 2)<vs.length
 rw[if_pos h3]at h;exact absurd h (by decide);rw[if_neg h3]at h;refine⟨?_,λv c=>xl h _<|List.mem_map_of_mem c⟩
 grind
def V4(x w):(Zw 76 (.agg #[Θ Ψ p,x]) 0).run prog w=.ok (Θ Ψ p) w:=by kernel_rfl
def V5(x w):(Zw 76 (.agg #[Θ Ψ p,x]) 1).run prog w=.ok x w:=by kernel_rfl
def V6(q w):(Zw 50 (.agg #[Θ Ψ p,Θ Ψ q]) 0).run prog w=.ok (Θ Ψ p) w:=by kernel_rfl
def V7(q w):(Zw 50 (.agg #[Θ Ψ p,Θ Ψ q]) 1).run prog w=.ok (Θ Ψ q) w:=by kernel_rfl
def Iv(b g v cs tG)(X:mi w b g)(hv:sa w v cs)(hm:cs.length<=tG)(S:tG<=1000000)(hc:∀c∈cs,zj g c=0):
 μ prog 166 #[Y1 (U ⟨b,0,M⟩),v,Θ Ψ tG] w λe w'=>e=.returned (.tuple #[])/\I w.heap.size w w':=by
 obtain⟨n,o,r,wi,d,m,c0,c1,_,_,_,_,⟨a1,m1,rfl,_,_,_⟩,⟨a2,m2,rfl,_,_,_⟩,_⟩:=X;obtain⟨a,m,rfl,hm0,hm2,H⟩:=hv;have hb:=az c0;have E:=V H;have HC:=V hc;have hz:(a.isNone&&decide (cs.length≠0))=Z:=by
  obtain _|a:=a
  obtain h0|h0:=Nat.eq_zero_or_pos cs.length
  ·simp[h0]
  obtain⟨_,_,h,_⟩:=H h0;cases h
  simp
 clear H hc;have hq:=aeV;have hq2:=Ir;have hf0:=V4;have hf1:=V5;have hf2:=V6;have T:=V7;refine calls_of_wp func166 rfl ?_;simp only[ntmps166,ZA,ZM,ZI,Nat.reduceAdd,Nat.reduceSub,Zk,Zj,Y7,Zb,YZ,Y3];unfold Hs;simp only[sq,Hr,rg,EC,tm,ci,Hq,rf,yS,cmp,cellC,adR];have C:¬(tG<cs.length):=by omega
 have Q:¬((1000000:Int)<cs.length):=by omega
 obtain _|ad:=a
 ·have O:cs.length=0:=by simpa using hz
  have G:=ξ O;subst G;clear hz O
  go_wp2
  go_loopw [17] (λi wr=>i=Θ Ψ 0/\wr=w) (λi _=>0)
  case atStart=>exact⟨rfl,rfl⟩
  case round=>
   obtain⟨rfl,rfl⟩:=hrel
   go_wp2_with fail
   refine sk rfl rfl λa' w' h1 B h3=>?_;refine‹∀(a:Act) (w:Y),Code.wp prog Code.ret _ a w->_› _ _ (wp_ret ?_);exact⟨B,.tuple #[],by simp[ZJ,results166],rfl,h3⟩
 ·clear hz
  go_wp2
  go_loopw [17] (λi wr=>∃k:Nat,k<=cs.length/\i=Θ Ψ k/\wr=w) (λi _=>cs.length-(intOf i).toNat)
  case atStart=>exact⟨0,Nat.zero_le _,rfl,rfl⟩
  case round=>
   obtain⟨k,hk,rfl,rfl⟩:=hrel;by_cases A:k<cs.length
   ·obtain⟨ba,oa,e,hba,f⟩:=E.out (by omega);cases e
    obtain⟨p,l,e1⟩:=cQ A;obtain⟨c2,x,c3,hx⟩:=f k p l e1;obtain⟨N,z⟩:=zy<|HC.out _<|φ e1;obtain⟨u,mx,rfl,hmx,L,s⟩:=hx;have J:=V s;have HV:=V z;have hz:(u.isNone&&decide (l.length≠0))=Z:=by
     obtain _|a:=u
     obtain h0|h0:=Nat.eq_zero_or_pos l.length
     ·simp[h0]
     obtain⟨_,_,h,_⟩:=s h0;cases h
     simp
    clear f e1 s z;have W:l.length<=4:=by omega
    have F:((p==0)=κ/\((4:Int)<l.length->False))\/((p==0)=Z/\(p==1)=κ/\((l.length:Int) !=1)=Z)\/((p==0)=Z/\(p==1)=Z/\(p==2)=κ/\((l.length:Int) !=2)=Z):=by
     obtain⟨rfl,h⟩|⟨rfl,h⟩|⟨rfl,h⟩:=N
     exact .inl ⟨rfl,λh'=>by omega⟩;exact .inr<|.inl ⟨rfl,rfl,by simp[h]⟩;exact .inr<|.inr ⟨rfl,rfl,rfl,by simp[h]⟩
    clear N E HC;have q:u=M->((l.length:Int) !=0)=Z:=by rintro rfl;simp at hz;simp[hz]
    clear hz;obtain _|u:=u
    all_goals
     first
     |(have hz3:=q rfl;clear q)
     |clear q
     obtain⟨K,P⟩|⟨K,P,k3⟩|⟨K,P,k3,k4⟩:=F
     all_goals
      go_wp2
      go_loopw [30] (λi D=>∃j:Nat,j<=l.length/\i=Θ Ψ j/\D=wr) (λi _=>l.length-(intOf i).toNat)
      case atStart=>exact⟨0,Nat.zero_le _,rfl,rfl⟩
      case round=>
       obtain⟨j,hj,rfl,rfl⟩:=hrel;by_cases y:j<l.length
       ·obtain⟨bb,ob,e,hbb,f⟩:=J.out (by omega)
        first
        |(cases e;done)
        |(cases e
          obtain⟨kq,nq,e1⟩:=ep y;obtain⟨d1,d2⟩:=f j kq nq e1;have t:=N0<|HV.out _<|φ e1;clear f e1 J HV;obtain⟨rfl,v1,v2⟩|⟨rfl,rfl⟩|⟨rfl,v1,v2⟩|⟨rfl,v1,v2⟩:=t
          all_goals
           go_wp2
           exact⟨⟨j+1,by omega,by go_num,by trivial⟩,by simp[intOf];omega⟩)
       ·clear J HV
        go_wp2
        exact⟨⟨k+1,by omega,by go_num,by trivial⟩,by simp[intOf];omega⟩
   ·clear E HC
    go_wp2_with fail
    refine sk rfl rfl λa' w' h1 B h3=>?_;refine‹∀(a:Act) (w:Y),Code.wp prog Code.ret _ a w->_› _ _ (wp_ret ?_);exact⟨B,.tuple #[],by simp[ZJ,results166],rfl,h3⟩
end
end Kn
namespace Kn
open Go Go.RowKit Md
section
variable(w:Y)(p:Int)(b:Nat)(q:Int)
def BF(g:GH)(l:List HV):Prop:=l.length<=40/\∀i v,l[i]?=U v->co v=κ/\eO g v=0/\(l.take i).contains v=Z
def eI.take{w a m l j}(h:eI w (.slice a l.length m) l)(q:j<=l.length):eI w (.slice a j m) (l.take j):=by
 obtain⟨p,s,d,r,g,h3⟩:=h;cases d
 have f:(l.take j).length=j:=by simp;omega
 refine⟨a,m,by rw[f],by omega,g,λh0=>?_⟩;obtain⟨b,o,rfl,hb,c⟩:=h3 (by omega);refine⟨b,o,rfl,hb,λi k n e=>c i k n ?_⟩
 grind
def sm{e c}(h:dZ c e)(hc:c=0):e=.returned (.tuple #[]):=by unfold dZ at h;rwa[if_pos hc]at h
def jX(h:co (p,q)=κ):μ prog 168 #[.agg #[Θ Ψ p,Θ Ψ q]] w λe w'=>e=.returned (.bool κ)/\I w w w':=by have:=sd w (p,q);rw[h]at this;exact this
def Iw(g p q)(h:mi w b g)(a:eO g (p,q)=0):μ prog 169 #[.pointer b,.agg #[Θ Ψ p,Θ Ψ q]] w λe w'=>e=.returned (.tuple #[])/\I w w w':=(we w b g (p,q) h).mono λe w' h=>⟨sm h.1 a,h.2⟩
def zA(v l p q)(a:eI w v l)(h:l.contains (p,q)=Z):
 μ prog 170 #[v,.agg #[Θ Ψ p,Θ Ψ q]] w λe w'=>e=.returned (.bool Z)/\I w w w':=by
 have:=BD w v l (p,q) a;rw[h]at this;exact this
theorem jY:∀{l r:List Int} {k:Nat} {e:Int},(∀i x,i<k->l[i]?=U x->x=0) ->l[k]?=U e->e≠0->cU (l++r)=e
 |[],r,k,e,h,he,hn=>by simp at he
 |a::l,r,0,e,h,he,hn=>by simp at he;subst he;simp[cU,hn]
 |a::l,r,k+1,e,h,he,hn=>by have h0:=h 0 a (by omega) rfl;subst h0;exact jY (l:=l) (r:=r) (k:=k) (e:=e) (λi x hi b=>h (i+1) x (Nat.succ_lt_succ hi)<|by grind) (by grind) hn
theorem jZ:∀{l r:List Int},(∀x∈l,x=0) ->cU (l++r)=cU r
 |[],r,h=>rfl
 |a::l,r,h=>by have h0:=h a List.mem_cons_self;subst h0;simp;exact jZ λx b=>h x<|List.mem_cons_of_mem _ b
def cN(g:GH):Int:=cU ((ZZ g.marked.length).map (jt g g.marked)++(ju g).map λn=>if g.marked.contains n then 0 else 11)
def uL(l:List Int)(k:Nat):Int:=if k=0 then-1 else l.getD (k-1) 0
def BG{l k n}(h:l[k]?=U n):uL l (k+1)=n:=by simp[uL,h]
def uM{g k n e}(hz:∀i,i<k->jt g g.marked i=0)(h:g.marked[k]?=U n)(b:jt g g.marked k=e)(a:e≠0):cN g=e:=by
 refine jY (k:=k) (λi x hi c=>?_) ?_ a
 grind
 grind
def zB{g}(hz:∀i,i<g.marked.length->jt g g.marked i=0):cN g=cU ((ju g).map λn=>if g.marked.contains n then 0 else 11):=by
 refine jZ λx a=>?_
 grind
structure oy(g:GH):Prop where
 cells:∀c∈g.new++g.old,zj g c=0
 news:g.new.length<=8
 bw:g.old.length<=32
 four:g.roots.length=4
 roots:∀v∈g.roots,mh g v=0
 aA:BF g g.aA
 done:BF g g.done
def uN(g v cs tG)(d:mi w b g)(a:sa w v cs)(h:(cs.length:Int)<=tG)(f:tG<=1000000)(hc:∀c∈cs,zj g c=0):
 μ prog 166 #[.pointer b,v,Θ Ψ tG] w λe w'=>e=.returned (.tuple #[])/\I w w w':=by
 obtain⟨n,rfl⟩:=Int.eq_ofNat_of_zero_le (by omega:0<=tG);exact Iv w b g v cs n d a (by omega) (by omega) hc
def Ix(g)(h:mi w b g)(J:oy g)(hm:g.marked.length<=1000000):
 μ prog 110 #[.pointer b] w λe w'=>dZ (cN g) e/\I w w w':=by
 have H:=V h;have K:=V J;obtain⟨n,o,r,wi,d,m,c0,c1,c2,c3,c4,c5,h1,h2,h3,h4,h5,h6⟩:=h;have hb:=az c0;have HC1:=V c1;have H1:=V h1;have H2:=V h2;have H3:=V h3;have H4:=V h4;have H5:=V h5;have H6:=V h6;obtain⟨ar,mr,rfl,hmr,aeW,har⟩:=h3;obtain⟨aw,mw,rfl,hmw,aeX,haw⟩:=h4;obtain⟨ad,md,rfl,hmd,aeY,had⟩:=h5;obtain⟨am,mm,rfl,hmm,aq4,ham⟩:=h6;obtain⟨an,mn,rfl,hmn,aq5,han⟩:=h1;obtain⟨ao,mo,rfl,hmo,aq7,hao⟩:=h2;have HR:=V har;have HM:=V ham;have four:=V J.four;have hr4:decide ((g.roots.length:Int)<4)=Z:=by have:=J.four;simp;omega
 have Xq:decide ((4:Int)<g.roots.length)=Z:=by have:=J.four;simp;omega
 clear J har haw had ham han hao
 go_enter (fU func110 rfl),ntmps110
 go_wp2_with fail
 refine(uN _ b g _ g.new 8 H.out H1.out (by have:=K.out.news;omega) (by omega) λc hc=>K.out.cells c<|Ze _ hc).mono ?_;rintro e w1 ⟨rfl,D⟩;have d1:=cG D c1 hb
 go_wp2_with fail
 refine(uN _ b g _ g.old 32 (H.out.below D) (H2.out.below D) (by have:=K.out.bw;omega) (by omega) λc hc=>K.out.cells c<|Zi _ hc).mono ?_;rintro e w2 ⟨rfl,hb2'⟩;have hb2:=D.trans<|hb2'.mono D.size;have e2:=cG hb2 c2 hb;clear D hb2' d1 c1 c0
 go_wp2_with fail
 ((with_reducible refine(cd _ _).mono ?_))
 rintro e w' ⟨rfl,rfl⟩
 go_wp2_with fail
 ((with_reducible refine(cd _ _).mono ?_))
 rintro e w' ⟨rfl,rfl⟩
 go_wp2_with fail
 clear e2 hr4 Xq
 go_loopw [49] (λi wr=>∃k:Nat,k<=g.roots.length/\i=Θ Ψ k/\I w w wr) (λi _=>g.roots.length-(intOf i).toNat)
 case atStart=>exact⟨0,Nat.zero_le _,rfl,hb2⟩
 case round=>
  obtain⟨k,J,rfl,a⟩:=hrel;clear hb2;by_cases z:k<g.roots.length
  ·obtain⟨ba,oa,e,A,f⟩:=HR.out (by omega);cases e
   obtain⟨p,q,e1⟩:=ep z;obtain⟨f1,f2⟩:=(f.below a A) k p q e1;have hv0:=V<|K.out.roots _<|φ e1;have u:=a.size;clear f e1
   go_wp2_with fail
   refine(Io _ b g (p,q) (H.out.below<|a.alloc u _) hv0.out).mono ?_;rintro e w3 ⟨rfl,hb3⟩
   go_wp2_with fail
   exact⟨⟨k+1,by omega,by go_num,(a.alloc u _).trans<|hb3.mono (by simp;omega)⟩,by simp[intOf];omega⟩
  ·clear HR;have e3:=cG a c3 hb;have e4:=cG a c4 hb;have u:=a.size
   go_wp2_with fail
   go_region_held3 (λw'=>w' (b,3)=U (.slice aw g.aA.length mw)/\w' (b,4)=U (.slice ad g.done.length md)) (go_keep) (fail)
   go_wp2_with fail
   have L:I w w ((wr.alloc<|χ #[.slice aw g.aA.length mw,.slice ad g.done.length md] 23).drew):=(a.alloc u _).drew;have Q:((wr.alloc<|χ #[.slice aw g.aA.length mw,.slice ad g.done.length md] 23).drew) wr.heap.size=U (.slice aw g.aA.length mw):=by go_simp
   have W:((wr.alloc<|χ #[.slice aw g.aA.length mw,.slice ad g.done.length md] 23).drew) (wr.heap.size,1)=U (.slice ad g.done.length md):=by go_simp
   have hbx:wr.heap.size<((wr.alloc<|χ #[.slice aw g.aA.length mw,.slice ad g.done.length md] 23).drew).heap.size:=by simp
   generalize (wr.alloc _).drew=w9 at L Q W hbx⊢;generalize wr.heap.size=bx at Q W hbx u⊢;have hL:∀k:Nat,k<2->∃ax mx l,w9 (bx,k)=U (.slice ax l.length mx)/\eI w (.slice ax l.length mx) l/\BF g l:=by
    intro k J
    match k,J with
    |0,_=>exact⟨aw,mw,g.aA,Q,H4.out,K.out.aA⟩
    |1,_=>exact⟨ad,md,g.done,W,H5.out,K.out.done⟩
   have HL:=V hL;clear hL Q W e3 e4 a
   go_loopw [69] (λi wr=>∃k:Nat,k<=2/\i=Θ Ψ k/\I w9 w9 wr) (λi _=>2-(intOf i).toNat)
   case atStart=>exact⟨0,by omega,rfl,Ξ _ _⟩
   case round=>
    obtain⟨k,J,rfl,a⟩:=hrel;have O:=L.size;by_cases z:k<2
    ·obtain⟨ax,mx,l,hc,Js,hok⟩:=HL.out k z;have hcw:=cG a hc hbx;have HV:=V Js;obtain⟨ax',mx',he,hmx,N4,hax⟩:=Js;cases he
     have HX:=V hax;have HK:=V hok.2;have h40:decide ((40:Int)<l.length)=Z:=by have:=hok.1;simp;omega
     have u:=a.size;clear hc hax hok
     go_wp2_with fail
     ((with_reducible refine(cd _ _).mono ?_))
     rintro e w' ⟨rfl,rfl⟩
     go_wp2_with fail
     clear h40 hcw
     go_loopw [79] (λi wr=>∃j:Nat,j<=l.length/\i=Θ Ψ j/\I w9 w9 wr) (λi _=>l.length-(intOf i).toNat)
     case atStart=>exact⟨0,by omega,rfl,a⟩
     case round=>
      obtain⟨j,hj,rfl,X⟩:=hrel;clear a u;have amU:=X.size;by_cases hlt2:j<l.length
      ·obtain⟨ba,oa,e,A,f⟩:=HX.out (by omega);cases e
       obtain⟨p,q,e1⟩:=ep hlt2;have F:=L.trans<|X.mono O;obtain⟨f1,f2⟩:=(f.below F A) j p q e1;obtain⟨k1,k2,k3⟩:=HK.out j (p,q) e1;have K1:=V k1;have K2:=V k2;have K3:=V k3;clear f e1 k1 k2 k3
       go_wp2_with fail
       refine(jX _ p q K1.out).mono ?_;rintro e w4 ⟨rfl,t⟩;have n1:w4 wr.heap.size=U (Θ Ψ p):=(t.cell (p:=⟨wr.heap.size,0,M⟩)<|by simp).trans (by go_simp);have n2:w4 (wr.heap.size,1)=U (Θ Ψ q):=(t.cell (p:=⟨wr.heap.size,1,M⟩)<|by simp).trans (by go_simp);have hn4:wr.heap.size<w4:=by have:=t.size;simp at this;omega
       have q4:I wr wr w4:=(af _ _).trans<|t.mono<|by simp
       go_wp2_with fail
       ((with_reducible refine(cd _ _).mono ?_))
       rintro e w' ⟨rfl,rfl⟩
       go_wp2_with fail
       refine(Iw _ b g p q (H.out.below<|F.trans<|q4.mono<|by omega) K2.out).mono ?_;rintro e w5 ⟨rfl,T⟩;have q1:=cG T n1 hn4;have q2:=cG T n2 hn4;have q5:I wr wr w5:=q4.trans<|T.mono<|by omega
       have VT:=V<|(HV.out.take<|Nat.le_of_lt hlt2).below<|F.trans<|q5.mono<|by omega
       clear n1 n2 t T q4;have hjm:(j:Int)<=mx:=by omega
       go_wp2_with fail
       go_still_tail 4,(by kernel_rfl)
       change ZS _ _ _ _ _ w5.drew
       go_wp2_with fail
       refine(zA _ _ (l.take j) p q (VT.out.below<|(Ξ _ _).drew) K3.out).mono ?_;rintro e w6 ⟨rfl,hb6⟩
       go_wp2_with fail
       ((with_reducible refine(cd _ _).mono ?_))
       rintro e w' ⟨rfl,rfl⟩
       go_wp2_with fail
       exact⟨⟨j+1,by omega,by go_num,X.trans<|(q5.mono<|by omega).trans<|((Ξ _ _).drew).trans<|hb6.mono (by have:=q5.size;simp;omega)⟩,by simp[intOf];omega⟩
      ·clear HX HK
       go_wp2_with fail
       exact⟨⟨k+1,by omega,by go_num,X⟩,by simp[intOf];omega⟩
    ·clear HL;have f5:=((L.trans<|a.mono O).cell (p:=⟨b,5,M⟩) hb).trans c5;have hbm:=L.trans<|a.mono O
     go_wp2_with fail
     clear f5 a
     go_loopw [8,105] (λv i wr=>∃k:Nat,k<=g.marked.length/\i=Θ Ψ k/\v=Θ Ψ (uL g.marked k)/\Hid (∀i,i<k->jt g g.marked i=0)/\I w w wr) (λ_ i _=>g.marked.length-(intOf i).toNat)
     case atStart=>exact⟨0,by omega,rfl,rfl,V λi hi=>by omega,hbm⟩
     case round=>
      obtain⟨k,J,rfl,rfl,hz,a⟩:=hrel;clear hbm;by_cases z:k<g.marked.length
      ·obtain⟨ba,oa,e,A,f⟩:=HM.out (by omega);cases e
       obtain⟨n,e1⟩:=lw z;have f1:=(f.below a A) k n e1;have f2:=cG a HC1.out hb;have B:g.marked.getD k 0=n:=by simp[List.getD,e1]
       by_cases P:n<0\/(g.old.length:Int)<=n
       ·have s:jt g g.marked k=9:=by unfold jt;simp only[B];rw[if_pos P]
        have N:=V<|uM hz.out e1 s<|by decide
        clear f e1 B s HM;obtain P|P:=P
        ·go_wp2_with fail
         ((with_reducible refine(eU _ _).mono ?_))
         rintro e w' ⟨rfl,rfl⟩;exact⟨rfl,dZ.bad N.out<|by decide,a⟩
        ·by_cases hr2:n<0
         ·go_wp2_with fail
          ((with_reducible refine(eU _ _).mono ?_))
          rintro e w' ⟨rfl,rfl⟩;exact⟨rfl,dZ.bad N.out<|by decide,a⟩
         ·have S:decide ((g.old.length:Int)<=n)=κ:=by simpa using P
          go_wp2_with fail
          ((with_reducible refine(eU _ _).mono ?_))
          rintro e w' ⟨rfl,rfl⟩;exact⟨rfl,dZ.bad N.out<|by decide,a⟩
       ·have hr1:¬n<0:=λh=>P (.inl h);have hr2:decide ((g.old.length:Int)<=n)=Z:=by simp;omega
        by_cases C:n<=uL g.marked k
        ·have s:jt g g.marked k=14:=by unfold jt;simp only[B];rw[if_neg P];exact if_pos C
         have N:=V<|uM hz.out e1 s<|by decide
         have amW:decide (n<=uL g.marked k)=κ:=by simpa using C
         clear f e1 B s C P
         go_wp2_with fail
         ((with_reducible refine(cd _ _).mono ?_))
         rintro e w' ⟨rfl,rfl⟩
         go_wp2_with fail
         ((with_reducible refine(eU _ _).mono ?_))
         rintro e w' ⟨rfl,rfl⟩;exact⟨rfl,dZ.bad N.out<|by decide,a⟩
        ·have s:jt g g.marked k=0:=by unfold jt;simp only[B];rw[if_neg P];exact if_neg C
         have amW:decide (n<=uL g.marked k)=Z:=by simpa using C
         have HN:=V<|BG e1;have hz':Hid (∀i,i<k+1->jt g g.marked i=0):=V λi hi=>by
          obtain h|h:=Nat.lt_or_ge i k
          exact hz.out i h;rw[show i=k by omega];exact s
         clear f e1 B s C P hz
         go_wp2_with fail
         ((with_reducible refine(cd _ _).mono ?_))
         rintro e w' ⟨rfl,rfl⟩
         go_wp2_with fail
         ((with_reducible refine(cd _ _).mono ?_))
         rintro e w' ⟨rfl,rfl⟩
         go_wp2_with fail
         exact⟨⟨k+1,by omega,by go_num,by rw[HN.out],hz',a⟩,by simp[intOf];omega⟩
      ·have hzz:∀i,i<g.marked.length->jt g g.marked i=0:=λi hi=>hz.out i (by omega);have HR2:=V<|zB hzz;clear hzz hz HM
       go_wp2_with fail
       refine(Dt _ b g (H.out.below a) (by have:=K.out.bw;omega)).mono ?_;rintro e w3 ⟨⟨r3,rfl,S⟩,hb3⟩;have hR3:=V S.reads;obtain⟨a3,m3,rfl,Fw,aq8,h33⟩:=S.reads;have HX:=V h33;have t:=a.trans<|hb3.mono a.size;clear h33 S
       go_wp2_with fail
       go_loopw [131] (λi wr=>∃k:Nat,k<=(ju g).length/\i=Θ Ψ k/\Hid (∀i x,i<k->(ju g)[i]?=U x->g.marked.contains x=κ)/\I w3 w3 wr) (λi _=>(ju g).length-(intOf i).toNat)
       case atStart=>exact⟨0,by omega,rfl,V λi x hi=>by omega,Ξ _ _⟩
       case round=>
        obtain⟨k,J,rfl,hz,E⟩:=hrel;have G:=t.trans<|E.mono t.size;by_cases z:k<(ju g).length
        ·obtain⟨ba,oa,e,A,f⟩:=HX.out (by omega);cases e
         obtain⟨n,e1⟩:=lw z;have f1:=(f.below E A) k n e1;have f5:=cG G c5 hb;by_cases hc:g.marked.contains n=κ
         ·have hz':Hid (∀i x,i<k+1->(ju g)[i]?=U x->g.marked.contains x=κ):=V λi x hi hx=>by
           obtain h|h:=Nat.lt_or_ge i k
           exact hz.out i x h hx;rw[show i=k by omega,e1]at hx;cases hx
           exact hc
          have HC:=V hc;clear f e1 hc hz
          go_wp2_with fail
          refine(sj _ _ g.marked n<|H6.out.below G).mono ?_;rw[HC.out];rintro e w' ⟨rfl,rfl⟩
          go_wp2_with fail
          ((with_reducible refine(cd _ _).mono ?_))
          rintro e w' ⟨rfl,rfl⟩
          go_wp2_with fail
          exact⟨⟨k+1,by omega,by go_num,hz',E⟩,by simp[intOf];omega⟩
         ·have hcf:g.marked.contains n=Z:=by simpa using hc
          have N:cN g=11:=by
           rw[HR2.out];have:=jY (l:=(ju g).map λn=>if g.marked.contains n then 0 else 11) (r:=[]) (k:=k) (e:=11) (λi x hi hx=>by rw[Y6]at hx;obtain⟨y,hy,hxy⟩:=Option.map_eq_some_iff.1 hx;rw[hz.out i y hi hy]at hxy;simpa using hxy.symm) (by rw[Y6,e1];simp only[Option.map_some,hcf];rfl) (by decide)
           simpa using this
          have HM2:=V N;have HC:=V hcf;clear f e1 hc hcf hz N
          go_wp2_with fail
          refine(sj _ _ g.marked n<|H6.out.below G).mono ?_;rw[HC.out];rintro e w' ⟨rfl,rfl⟩
          go_wp2_with fail
          ((with_reducible refine(eU _ _).mono ?_))
          rintro e w' ⟨rfl,rfl⟩;exact⟨rfl,dZ.bad HM2.out<|by decide,G⟩
        ·have N:cN g=0:=by
          rw[HR2.out];have:=jZ (l:=(ju g).map λn=>if g.marked.contains n then 0 else 11) (r:=[]) (λx hx=>by obtain⟨y,hy,rfl⟩:=List.mem_map.1 hx;obtain⟨i,hi,hyi⟩:=List.mem_iff_getElem.1 hy;rw[hz.out i y (by omega) (by rw[Δ hi,hyi])];rfl)
          simpa[cU]using this
         have HM2:=V N;clear N hz
         go_wp2
         go_end0;exact⟨dZ.ok HM2.out,G⟩
end
section
variable{w:Y}{cs:List HC}
def sr{P}(w s B ty d i)(size g n l:Nat)(A m b t cs)(q:P.underlying s=U (.slice d))(hi:P.info? d=U i)(hs:i.size=size)(p:w.heap[g]?=U (.cells b t (0,0)))(r:cs.length=n*size)(o:0<n->∃ad,A=U ad/\∀j v,cs[j]?=U v->w (ad.add j)=U v)(f:cs.length<=b.size)(z:∀v∈cs,v.oneCell'=κ):
 ∃w',(Zt #[s,B] ty #[.slice g n l,.slice A n m]).run P w=.ok (goInt n) w'/\w'.heap[g]?=U (.cells (cs++b.toList.drop cs.length).toArray t (0,0))/\w.grownBy w' (U g):=by
 subst hs;obtain _|a:=A
 have x:n=0:=by
  obtain h0|h0:=Nat.eq_zero_or_pos n
  exact h0;obtain⟨ad,h,_⟩:=o h0;cases h
 subst x;have hc:=ξ (by simpa using r);subst hc;refine⟨w,?_,by simpa using p,⟨rfl,rfl,rfl,.refl,λ_ _ _=>rfl⟩⟩;simp[Zt,Z3 q,ZE,ZT,sizeOf,Y0,hi,storeCells]
 ·have c:∀j u,cs[j]?=U u->w (a.add j)=U u:=by grind
  refine⟨w.setRow g (cs++b.toList.drop cs.length).toArray,?_,setRow_heap w g b _ t _ p,⟨rfl,rfl,rfl,by simp[World.setRow],λk _ y=>setRow_other w g k _ λe=>y<|by rw[e]⟩⟩;simp[Zt,Z3 q,ZE,ZT,sizeOf,Y0,hi,<-r,run_loadCells_list (P:=P) w a cs c,(run_storeCells_at P g 0 t cs 0 b w p (by simpa using f) z)]
def iW{P ops rest o a Q}(p:o.guard=M)(d s r u)(C:o.op=.call {callee:=.builtin .copy,args:=#[d,s],argTypes:=#[r,u]})(b i size g n e A f c t cs)(D:P.underlying r=U (.slice b))(hi:P.info? b=U i)(hs:i.size=size)(hd:a.eval d=.slice g n e)(q:a.eval s=.slice A n f)(y:w.heap[g]?=U (.cells c t (0,0)))(E:cs.length=n*size)(m:0<n->∃ad,A=U ad/\∀j v,cs[j]?=U v->w (ad.add j)=U v)(l:cs.length<=c.size)(B:∀v∈cs,v.oneCell'=κ)(h:∀w',w'.heap[g]?=U (.cells (cs++c.toList.drop cs.length).toArray t (0,0)) ->w.grownBy w' (U g) ->ZS P ops Q rest (a.put o.dst<|goInt n) w'):ZS P ops Q (o::rest) a w:=by refine Y8 p λK z=>?_;obtain⟨w',k,x,h3⟩:=sr w r u o.type b i size g n e A f c t cs D hi hs y E m l B;unfold Oper.wp Zq;simp only[C,resolve,invoke,builtin,Z7,Zz,ο,Y4,YU,YR,hd,q,k];exact z _ _<|h w' x h3
def df(w:Y)(B:Nat)(l:List (Int×R))(cs:List HC):Prop:=
 l.length=cs.length/\(∀(i:Nat) k x k' vs,l[i]?=U (k,x) ->cs[i]?=U (k',vs) ->k=k'/\OV w B x vs)/\
  ∀(i j:Nat) p q,i<j->l[i]?=U p->l[j]?=U q->∀g,p.2.ownBlock=U g->q.2.ownBlock≠U g
def N5(w:Y)(B:Nat)(v:R)(cs:List HC):Prop:=∃l,OC w B v l/\df w B l cs
def df.hold{B l}(h:df w B l cs):aY w l cs:=⟨h.1,λi k v a b e1 e2=>⟨(h.2.1 i k v a b e1 e2).1,(h.2.1 i k v a b e1 e2).2.reads⟩⟩
def N5.reads{w B v cs}(h:N5 w B v cs):sa w v cs:=by obtain⟨l,a,b⟩:=h;exact a.reads b.hold
def df.below{w w' B l cs}(h:df w B l cs)(c:I w w w'):df w' B l cs:=⟨h.1,λi k x a b e1 e2=>⟨(h.2.1 i k x a b e1 e2).1,(h.2.1 i k x a b e1 e2).2.below c⟩,h.2.2⟩
def df.less{w B B' l cs}(h:df w B l cs)(c:B'<=B):df w B' l cs:=⟨h.1,λi k x a b e1 e2=>⟨(h.2.1 i k x a b e1 e2).1,(h.2.1 i k x a b e1 e2).2.less c⟩,h.2.2⟩
def df.snoc{B l k x vs}(h:df w B l cs)(m:OV w B x vs)(hd:∀(i:Nat) p,l[i]?=U p->∀g,p.2.ownBlock=U g->x.ownBlock≠U g):df w B (l++[(k,x)]) (cs++[(k,vs)]):=by
 obtain⟨a,e,h3⟩:=h;refine⟨by simp[a],λi c f d v2 e1 e2=>?_,λi j p q b e1 e2=>?_⟩
 grind
 grind
def BH{b o}(h:In w b o cs):∃l,aY w l cs/\∀j u,(l.flatMap dW)[j]?=U u->w (((b,o):Addr).add j)=U u:=by
 refine⟨(ZZ cs.length).map λi=>((cs.getD i (0,[])).1,(w (b,o+i*2+1)).getD undef),⟨by simp,λi k v C z e1 e2=>?_⟩,λj u d=>?_⟩;obtain⟨r,x,f,h3⟩:=h i C z e2;have hi:=(Ω.1 e2).1;simp[hi,Δ hi,((Ω.1 e2).2)]at e1;obtain⟨rfl,rfl⟩:=e1;rw[f];exact⟨rfl,h3⟩;generalize s:((ZZ cs.length).map λi=>((cs.getD i (0,[])).1,(w (b,o+i*2+1)).getD undef))=l at d;have D:=(Ω.1 d).1;have c:∀l:List (Int×R),(l.flatMap dW).length=l.length*2:=by
  intro l
  induction l with
  |nil=>rfl
  |cons a l B=>rw[ψ,υ,B];simp[dW];omega
 have y:l.length=cs.length:=by rw[<-s];simp
 obtain⟨x,m⟩:∃x,l[j/2]?=U x:=⟨_,Δ (by have:=c l;omega)⟩;obtain⟨e1,e2⟩:=jx dW (λv=>Θ Ψ v.1) (λv=>v.2) (λ_=>rfl) l (j/2) x m;have e:j/2<cs.length:=by have:=c l;omega
 obtain⟨p,q,g⟩:=cQ e;obtain⟨r,v,f,h3⟩:=h (j/2) p q g;have n:x=(p,v):=by rw[<-s]at m;have:=(Ω.1 g).2;simp[e,this,f]at m;exact m.symm
 subst n;have A:((b,o):Addr).add j=⟨b,o+j,M⟩:=by unfold Z2;split<;>simp_all
 rw[A];obtain t|t:=Nat.mod_two_eq_zero_or_one j
 rw[show j/2*2=j by omega]at e1 r;rw[e1]at d;cases d
 exact r;rw[show j/2*2+1=j by omega]at e2;rw[show o+j/2*2+1=o+j by omega]at f;rw[e2]at d;cases d
 exact f
end
section
variable{l:List (Int×R)}{g:Nat}{w:Y}{m n B:Nat}
theorem ss(x:R):∀(l:List (Int×R)) (k:Nat) (c:Int) (y:R),l[k]?=U (c,y) ->(l.set k (c,x)).flatMap dW=(l.flatMap dW).set (k*2+1) x
 |[],k,c,y,h=>by simp at h
 |a::l,0,c,y,h=>by simp at h;subst h;simp[dW]
 |a::l,k+1,c,y,h=>by have:=ss x l k c y (by grind);rw[Y',ψ,ψ,this,show(k+1)*2+1=k*2+1+1+1 by omega];simp[dW]
def OC.set{k c x y}(h:OC w B (.slice g n m) l)(b:l[k]?=U (c,y)):OC (w.setCell (g,k*2+1) x) B (.slice g n m) (l.set k (c,x)):=by
 obtain⟨f,⟨h0,_⟩|⟨r,i,a,e,j,p,q,d,hs,o⟩⟩:=h;cases h0
 cases e
 refine⟨by rw[ss x l k c y b];simpa using f,.inr ⟨g,m,a.setIfInBounds (k*2+1) x,by simp,j,?_,by simpa using q,d,by simpa using hs,?_⟩⟩;simp[ZQ,ZH,p];rw[ss x l k c y b,<-o];rw[Zs,YY,YT]
def OC.block(h:OC w B (.slice g n m) l):B<=g/\g<w/\∃a,w.heap[g]?=U (.cells a 76 (0,0))/\a.size=m*2:=by
 obtain⟨e,⟨h0,_⟩|⟨o,b,a,d,f,j,k,c,hs,i⟩⟩:=h
 grind
 grind
def OC.at_{k c y}(h:OC w B (.slice g n m) l)(d:l[k]?=U (c,y)):w (g,k*2)=U (Θ Ψ c)/\w (g,k*2+1)=U y/\w.frozen? (g,k*2+1)=Z:=by
 obtain⟨a,s,f,q,p,h3⟩:=aF h;have o:=(Ω.1 d).1;obtain⟨t,i,_,r,j,hc⟩:=h3 (by omega);obtain⟨rfl,_,rfl⟩:=f;cases i
 obtain⟨e1,e2⟩:=jx dW (λv=>Θ Ψ v.1) (λv=>v.2) (λ_=>rfl) l k _ d;obtain⟨_,_,e,b,_⟩:=h.block;exact⟨hc _ _ e1,hc _ _ e2,by simp[Zo,b]⟩
def OV.wl{B' i:Nat}{v u vs}(h:OV w B v vs)(hc:OC w B' (.slice g n m) l):OV (w.setCell (g,i) u) B v vs:=by
 obtain⟨_,_,e,c,_⟩:=hc.block;refine aS h λj a=>?_;have b:j≠g:=by
  obtain⟨o,⟨rfl,_⟩|⟨k,f,d,rfl,p,q,_⟩⟩:=h;cases a
  cases a
  grind
 exact Z0 _ _ _ _ b
def df.wl{w}{B B' g n m i:Nat}{l l2 u cs}(h:df w B l cs)(hc:OC w B' (.slice g n m) l2):df (w.setCell (g,i) u) B l cs:=⟨h.1,λi k x a b e1 e2=>⟨(h.2.1 i k x a b e1 e2).1,(h.2.1 i k x a b e1 e2).2.wl hc⟩,h.2.2⟩
def V8(n c:Nat)(a:n<=c)(hc:c<=1000000000)(w):
 (Zv 22 (Θ Ψ (n:Int))<|Θ Ψ (c:Int)).run prog w=.ok (.slice w.heap.size n c) (w.alloc<|.cells (ZU #[Θ Ψ 0,ZV M 0 0]<|c*2) 76):=by
 obtain⟨e,hi,b,d,f⟩:=ZY ni;have:=mG 22 76 e _ mF hi b Ψ Ψ n c a (by grind) (by omega) w;rw[d]at this;exact this
def Iy{b:Type}(done l:List b)(x k)(hd:done.length=k)(a:k<l.length):(done++l.drop k).set k x=(done++[x])++l.drop (k+1):=by subst hd;rw[Zh _ _ .refl,Nat.sub_self,Z4 a,Y5];rfl
def iu(l:List (Int×R)):(l.flatMap dW).length=l.length*2:=by
 induction l with
 |nil=>rfl
 |cons a l b=>rw[ψ,υ,b];simp[dW];omega
def BI{z}(a:l.length=n)(b:B<=g)(hw:w.heap[g]?=U (.cells (l.flatMap dW++(ZU z<|n*2).toList.drop (l.flatMap dW).length).toArray 76 (0,0)))(d:n<=1000000):OC w B (.slice g n n) l:=by subst a;refine⟨iu l,.inr ⟨g,l.length,_,rfl,b,hw,.refl,by unfold Z8;omega,?_,?_⟩⟩;have c:=iu l;simp only[ZA,υ,List.length_drop,(by simpa using (jz z<|l.length*2):(ZU z<|l.length*2).toList.length=l.length*2)];omega;show List.take (l.length*2) (l.flatMap dW++_)=_;rw[<-iu,List.take_left]
def zC(w v cs)(hv:sa w v cs)(hl:cs.length<=1000000)(hs:∀c∈cs,c.2.length<=1000000):
 μ prog 147 #[v] w λe w'=>(∃r,e=.returned r/\N5 w' w r cs)/\I w w w':=by
 obtain⟨a,m,rfl,hm,hm2,ha⟩:=hv;obtain⟨l,F,t⟩:∃l,aY w l cs/\(0<cs.length->∃ad,a=U ad/\ad.block<w/\∀j u,(l.flatMap dW)[j]?=U u->w (ad.add j)=U u):=by
  obtain h0|h0:=Nat.eq_zero_or_pos cs.length
  exact⟨[],⟨by simp[h0],λi k v k' C e1 _=>by simp at e1⟩,λh=>absurd h<|by omega⟩;obtain⟨b,o,rfl,hb,hat⟩:=ha h0;obtain⟨l,h1,h2⟩:=BH hat
  exact⟨l,h1,λ_=>⟨_,rfl,hb,h2⟩⟩
 clear ha;have n:∀l:List (Int×R),(l.flatMap dW).length=l.length*2:=by
  intro l
  induction l with
  |nil=>rfl
  |cons a l ih=>rw[ψ,υ,ih];simp[dW];omega
 have s:∀u∈l.flatMap dW,u.oneCell'=κ:=by
  intro u hu;obtain⟨p,hp,h⟩:=Zx.1 hu;simp[dW]at h;obtain rfl|rfl:=h
  rfl;obtain⟨i,hi⟩:=Zg.1 hp;have hic:i<cs.length:=by rw[<-F.1];exact(Ω.1 hi).1
  obtain⟨p',q',hpq⟩:=cQ hic;obtain⟨_,a',m',h,_⟩:=F.2 i p.1 p.2 p' q' hi hpq;rw[h];rfl
 have K:=F.1;obtain⟨i0,hi,hz0,O,hz2⟩:=ZY ni;have hmk:=λW=>V8 cs.length cs.length .refl (by omega) W;have D:=V K;have HH:=V F;have HI:=V hi;have Q:=V O;have HR:=V t;have HO:=V s;have HN:=V n;clear K F hi hz0 O hz2 t s n
 go_enter (fU func147 rfl),ntmps147
 go_wp2_with (with_reducible refine iW rfl (.tmp 9) (.tmp 10) 22 22 rfl 76 i0 2 w cs.length cs.length a m _ 76 (l.flatMap dW) mF HI.out Q.out rfl rfl (ε w _) (by rw[HN.out,D.out]) (λh0=>?h1) (by rw[HN.out,jz,D.out];omega) HO.out ?_)
 case h1=>obtain⟨ad,e,hb,P⟩:=HR.out h0;exact⟨ad,e,λj u hu=>(World.cell?_alloc_lt w _ _ (by rw[show(ad.add j).block=ad.block by unfold Z2;split<;>rfl];exact hb)).trans<|P j u hu⟩
 ·intro w1 y E;rw[<-List.length_flatMap]at y;have S:=(af w _).grown E (by simp) (λk hk=>by cases hk;exact .refl);have J:=BI D.out .refl y hl;clear y E hmk HI Q
  go_wp2
  go_loopw [14] (λi wr=>∃k:Nat,k<=cs.length/\i=Θ Ψ k/\I w w wr/\∃done,done.length=k/\OC wr w (.slice w.heap.size cs.length cs.length) (done++l.drop k)/\df wr w done (cs.take k)) (λi _=>cs.length-(intOf i).toNat)
  case atStart=>exact⟨0,Nat.zero_le _,rfl,S,[],rfl,by simpa using J,rfl,λi k x k' C e1 _=>by simp at e1,λi j p q _ e1 _=>by simp at e1⟩
  case round=>
   obtain⟨k,hk,rfl,f,done,z,T,H⟩:=hrel;clear S J;by_cases A:k<cs.length
   ·have hkl:k<l.length:=by rw[D.out];exact A
    obtain⟨⟨p,x⟩,e1⟩:∃x,l[k]?=U x:=⟨_,Δ hkl⟩;obtain⟨p',C,e2⟩:=cQ A;obtain⟨rfl,hx⟩:=HH.out.2 k p x p' C e1 e2;have N:=hs _<|φ e2;dsimp only at N;have ek:(done++l.drop k)[k]?=U (p,x):=by rw[List.getElem?_append_right (by omega),z,Nat.sub_self,List.getElem?_drop];simpa using e1
    obtain⟨c1,c2,_⟩:=T.at_ ek;have X:=f.size;have hxw:=V<|hx.below f;obtain⟨ax,mx,rfl,_,_,_⟩:=hx;have E2:=V e2;have EK:=V ek;have HK:=V z;clear e1 e2 ek z
    go_wp2_with fail
    refine(J6 _ _ C (hxw.out.below<|af _ _) N).mono ?_;rintro e w2 ⟨⟨r,rfl,P⟩,hb2⟩;have B:=(af _ _).trans<|hb2.mono<|by simp
    have d:=T.below B;have he2:=H.below B;obtain⟨d1,d2,d3⟩:=d.at_ EK.out;have L:=d.set (x:=r) EK.out;rw[Iy done l _ k HK.out (by rw[D.out];exact A)]at L;have G:=V P;obtain⟨ar,mr,rfl,_,_,_⟩:=aF P;clear P c1 c2
    go_wp2
    go_roundw
    case rel=>
     have hrB:OV w2 w (.slice ar C.length mr) C:=G.out.less (by simp;omega);refine⟨k+1,by omega,by go_num,((f.trans<|B.mono X).setCell (p:=⟨w.heap.size,_,M⟩) .refl _),done++[(p,_)],by simp[HK.out],L,?_⟩;rw[bW E2.out];refine(he2.wl d).snoc (hrB.wl d) λi q hi g hg hg'=>?_;have hq:i<(cs.take k).length:=by rw[<-H.1];exact(Ω.1 hi).1
     obtain⟨p3,q3,e3⟩:=cQ hq;obtain⟨_,hov⟩:=H.2.1 i q.1 q.2 p3 q3 hi e3;have:=(hov.lt g hg).2;have:=(G.out.lt g hg').1;simp at this;omega
    case measure=>simp[intOf];omega
   ·go_wp2
    go_ret;refine⟨⟨_,rfl,done,?_,?_⟩,f⟩;rw[Zl (by rw[D.out];omega),YX]at T;exact T;rw[ω (by omega)]at H;exact H
end
section
variable{w:Y}{g:GH}{B:Nat}{row:HV->R}{c:HC}{i:Nat}{l:List (Int×R)}{v:R}
def RC(w:Y)(B:Nat)(v:R)(l:List (Int×R)):Prop:=∃a m,v=.slice a l.length m/\l.length<=m/\m<=Z8/\(a=M->m=0)/\(0<l.length->∃g cur,a=U ⟨g,0,M⟩/\B<=g/\w.heap[g]?=U (.cells cur 76 (0,0))/\cur.toList.take (l.length*2)=l.flatMap dW)
def su(l:List (Int×R)):(l.flatMap dW).length=l.length*2:=by
 induction l with
 |nil=>rfl
 |cons a l b=>rw[ψ,υ,b];simp[dW];omega
def OC.rc(h:OC w B v l):RC w B v l:=by obtain⟨k,⟨rfl,h0⟩|⟨g,b,a,rfl,f,d,j,c,hs,i⟩⟩:=h;obtain rfl:l=[]:=ξ h0;exact⟨M,0,rfl,.refl,by simp,λ_=>rfl,λh=>absurd h<|Nat.lt_irrefl 0⟩;exact⟨_,b,rfl,j,c,(λe=>by cases e),λ_=>⟨g,a,rfl,f,d,i⟩⟩
def RC.below{w'}(h:RC w B v l)(d:∀(g:Nat) cur,w.heap[g]?=U (Obj.cells cur 76 (0,0)) ->w'.heap[g]?=w.heap[g]?):RC w' B v l:=by
 obtain⟨a,m,rfl,b,c,h3,h⟩:=h;refine⟨a,m,rfl,b,c,h3,λh0=>?_⟩
 grind
def RC.low{w'}(h:RC w B v l)(c:I w.heap.size w w'):RC w' B v l:=h.below λg a b=>c.block g (Γ.1 b).1
def RC.cells(h:RC w B v l)(h0:0<l.length):∃g m,v=ZV (U ⟨g,0,M⟩) l.length m/\B<=g/\g<w.heap.size/\l.length<=m/\m<=9223372036854775807/\(∀j u,(l.flatMap dW)[j]?=U u->w.cell? ⟨g,j,M⟩=U u):=by
 obtain⟨a,m,rfl,f,d,h3,h⟩:=h;obtain⟨g,b,rfl,i,e,n⟩:=h h0;refine⟨g,m,rfl,i,(Γ.1 e).1,f,by unfold Z8 at d;exact d,λj u k=>?_⟩;have c:b[j]?=U u:=by grind
 simp[η,e,c]
def RC.reads{cs}(h:RC w B v l)(hc:aY w l cs):sa w v cs:=by
 obtain⟨a,m,e,f,d,h3,h4⟩:=id h;rw[hc.1]at f e;refine⟨a,m,e,f,by unfold Z8 at d;exact d,λh0=>?_⟩;obtain⟨g,r,b,_,p,_,_,j⟩:=h.cells (by rw[hc.1];exact h0);rw[e]at b;obtain rfl:a=U ⟨g,0,M⟩:=by injection b
 refine⟨g,0,rfl,p,λi k n e=>?_⟩;have hi:i<l.length:=by rw[hc.1];exact(Ω.1 e).1
 obtain⟨q,c,b⟩:∃k v,l[i]?=U (k,v):=⟨_,_,Δ hi⟩;obtain⟨rfl,o⟩:=hc.2 i q c k n b e;obtain⟨e1,e2⟩:=jx dW (λv=>Θ Ψ v.1) (λv=>v.2) (λ_=>rfl) l i _ b;rw[Nat.zero_add];exact⟨j _ _ e1,c,j _ _ e2,o⟩
def Apart(x y:R):Prop:=∀g,x.ownBlock=U g->y.ownBlock≠U g
def bd(g:GH)(k:HV):List HV:=if k.1=0 then(if k.2=0 then g.roots else if k.2=1 then g.aA else g.done)else(cellAt g k).2
def IsKey(g:GH)(k:HV):Prop:=(k.1=0/\0<=k.2/\k.2<=2)\/(k.1=3/\0<=k.2/\k.2<g.new.length)\/(k.1=4/\0<=k.2/\k.2<g.old.length)
def kD(w:Y)(B:Nat)(row:HV->R)(g:GH):Prop:=(∀k,IsKey g k->OV w B (row k) (bd g k))/\∀k k',IsKey g k->IsKey g k'->k≠k'->Apart (row k) (row k')
def cellsOf(row:HV->R)(kind:Int)(cs:List HC):List (Int×R):=cs.zipIdx.map λx=>(x.1.1,row (kind,(x.2:Int)))
def dm(w:Y)(B b:Nat)(g:GH):Prop:=∃n o m row,B<=b/\w.heap[b]?=U (χ #[n,o,row (0,0),row (0,1),row (0,2),m] 114 (0,0))/\
 RC w B n (cellsOf row 3 g.new)/\RC w B o (cellsOf row 4 g.old)/\OI w B m g.marked/\kD w B row g
def bH{kind cs}(h:cs[i]?=U c):(cellsOf row kind cs)[i]?=U (c.1,row (kind,(i:Int))):=by simp[cellsOf,h]
def aT(row kind cs):(cellsOf row kind cs).length=cs.length:=by simp[cellsOf]
def J8(h:g.new[i]?=U c):IsKey g (3,(i:Int))/\bd g (3,(i:Int))=c.2:=by have:=(Ω.1 h).1;refine⟨.inr<|.inl ⟨rfl,by omega,by omega⟩,?_⟩;simp[bd,cellAt,h]
def B1(h:g.old[i]?=U c):IsKey g (4,(i:Int))/\bd g (4,(i:Int))=c.2:=by have:=(Ω.1 h).1;refine⟨.inr<|.inr ⟨rfl,by omega,by omega⟩,?_⟩;simp[bd,cellAt,h]
def kD.roots(h:kD w B row g):OV w B (row (0,0)) g.roots/\OV w B (row (0,1)) g.aA/\OV w B (row (0,2)) g.done:=⟨h.1 (0,0)<|.inl ⟨rfl,by decide,by decide⟩,h.1 (0,1)<|.inl ⟨rfl,by decide,by decide⟩,h.1 (0,2)<|.inl ⟨rfl,by decide,by decide⟩⟩
def kD.N6(h:kD w B row g):aY w (cellsOf row 3 g.new) g.new:=
 ⟨aT _ _ _,λi k v d c e1 e2=>by
   rw[bH e2]at e1;cases e1
   obtain⟨b,a⟩:=J8 e2;have:=h.1 _ b;rw[a]at this;exact⟨rfl,this.reads⟩⟩
def kD.Du(h:kD w B row g):aY w (cellsOf row 4 g.old) g.old:=
 ⟨aT _ _ _,λi k v d c e1 e2=>by
   rw[bH e2]at e1;cases e1
   obtain⟨b,a⟩:=B1 e2;have:=h.1 _ b;rw[a]at this;exact⟨rfl,this.reads⟩⟩
def dm.reads{w B b g}(h:dm w B b g):mi w b g:=by
 obtain⟨n,o,m,row,d,hb,a,c,h3,h4⟩:=h;obtain⟨r0,r1,r2⟩:=h4.roots;refine⟨n,o,row (0,0),row (0,1),row (0,2),m,?_,?_,?_,?_,?_,?_,a.reads h4.N6,c.reads h4.Du,r0.reads,r1.reads,r2.reads,h3.reads⟩
 all_goals simp[η,hb]
def dm.below{w w' B b g}(h:dm w B b g)(a:I w.heap.size w w'):dm w' B b g:=by
 obtain⟨n,o,m,row,i,hb,f,e,h3,h4⟩:=h;have d:b<w.heap.size:=by grind
 exact⟨n,o,m,row,i,(a.block b d).trans hb,f.low a,e.low a,h3.below a,λk c=>(h4.1 k c).below a,h4.2⟩
end
def BJ(lo hi:Nat)(v:R):Prop:=∀g,v.ownBlock=U g->lo<=g/\g<hi
def BJ.apart{a b c d x y}(i:BJ a b x)(j:BJ c d y)(h:b<=c):Apart x y:=λg e f=>by have:=i g e;have:=j g f;omega
def Apart.symm{x y}(h:Apart x y):Apart y x:=λg a b=>h g b a
def dp(ln lo:List (Int×R))(r wi d:R)(k:HV):R:=if k.1=0 then(if k.2=0 then r else if k.2=1 then wi else d)else((if k.1=3 then ln else lo).getD k.2.toNat (0,ZV M 0 0)).2
def iY{ln lo r wi d cs w B kind}(f:kind=3\/kind=4)(h:df w B (if kind=3 then ln else lo) cs):cellsOf (dp ln lo r wi d) kind cs=(if kind=3 then ln else lo):=by
 have a:kind≠0:=by omega
 apply List.ext_getElem?;intro i;obtain hi|hi:=Nat.lt_or_ge i cs.length
 obtain⟨p,q,e⟩:=cQ hi;rw[bH e];have b:i<(if kind=3 then ln else lo).length:=by rw[h.1];exact hi
 obtain⟨⟨c,x⟩,e2⟩:∃x,(if kind=3 then ln else lo)[i]?=U x:=⟨_,Δ b⟩;obtain⟨rfl,_⟩:=h.2.1 i c x p q e2 e;simp[dp,a,List.getD,e2];rw[Zf (by rw[aT];exact hi),Zf (by rw[h.1];exact hi)]
def N7{w B b s1 s2 s3 s4 g n o r wi d m ln lo}(X:B<=b)(hb:w.heap[b]?=U (χ #[n,o,r,wi,d,m] 114 (0,0)))(Q:OC w B n ln)(E:df w B ln g.new)(O:OC w B o lo)(D:df w B lo g.old)(P:OV w B r g.roots)(hw:OV w B wi g.aA)(hd:OV w B d g.done)(T:OI w B m g.marked)(r1:∀p∈ln,BJ B s1 p.2)(r2:∀p∈lo,BJ s1 s2 p.2)(r3:BJ s2 s3 r)(r4:BJ s3 s4 wi)(r5:BJ s4 w.heap.size d)(L:s1<=s2)(h23:s2<=s3)(W:s3<=s4):dm w B b g:=by
 have c3:cellsOf (dp ln lo r wi d) 3 g.new=ln:=by simpa using iY (ln:=ln) (lo:=lo) (r:=r) (wi:=wi) (d:=d) (kind:=3) (.inl rfl) (by simpa using E)
 have J:cellsOf (dp ln lo r wi d) 4 g.old=lo:=by simpa using iY (ln:=ln) (lo:=lo) (r:=r) (wi:=wi) (d:=d) (kind:=4) (.inr rfl) (by simpa using D)
 have s:∀i:Nat,i<g.new.length->∃p c,ln[i]?=U p/\g.new[i]?=U c/\dp ln lo r wi d (3,(i:Int))=p.2:=by intro i hi;obtain⟨p,q,e⟩:=cQ hi;have:=bH (row:=dp ln lo r wi d) (kind:=3) e;rw[c3]at this;exact⟨_,_,this,e,rfl⟩
 have l:∀i:Nat,i<g.old.length->∃p c,lo[i]?=U p/\g.old[i]?=U c/\dp ln lo r wi d (4,(i:Int))=p.2:=by intro i hi;obtain⟨p,q,e⟩:=cQ hi;have:=bH (row:=dp ln lo r wi d) (kind:=4) e;rw[J]at this;exact⟨_,_,this,e,rfl⟩
 have f:∀k,IsKey g k->(∃i:Nat,i<g.new.length/\k=(3,(i:Int)))\/(∃i:Nat,i<g.old.length/\k=(4,(i:Int)))\/k=(0,0)\/k=(0,1)\/k=(0,2):=by
  rintro⟨a,c⟩ (⟨x,z,h3⟩|⟨x,z,h3⟩|⟨x,z,h3⟩);dsimp only at x z h3;subst x;have:c=0\/c=1\/c=2:=by omega
  obtain rfl|rfl|rfl:=this<;>simp
  dsimp only at x z h3;subst x;exact .inl ⟨c.toNat,by omega,by simp;omega⟩;dsimp only at x z h3;subst x;exact .inr<|.inl ⟨c.toNat,by omega,by simp;omega⟩
 refine⟨n,o,m,dp ln lo r wi d,X,hb,by rw[c3];exact Q.rc,by rw[J];exact O.rc,T,λk G=>?_,λk N G F t=>?_⟩;obtain⟨i,hi,rfl⟩|⟨i,hi,rfl⟩|rfl|rfl|rfl:=f k G
 ·obtain⟨p,c,e1,e2,e3⟩:=s i hi;rw[e3,(J8 e2).2];exact(E.2.1 i p.1 p.2 c.1 c.2 e1 e2).2
 obtain⟨p,c,e1,e2,e3⟩:=l i hi;rw[e3,(B1 e2).2];exact(D.2.1 i p.1 p.2 c.1 c.2 e1 e2).2;exact P;exact hw;exact hd;have v:∀i:Nat,i<g.new.length->BJ B s1 (dp ln lo r wi d (3,(i:Int))):=λi hi=>by obtain⟨p,c,e1,e2,e3⟩:=s i hi;rw[e3];exact r1 p<|φ e1
 have y:∀i:Nat,i<g.old.length->BJ s1 s2 (dp ln lo r wi d (4,(i:Int))):=λi hi=>by obtain⟨p,c,e1,e2,e3⟩:=l i hi;rw[e3];exact r2 p<|φ e1
 have t0:dp ln lo r wi d (0,0)=r:=rfl;have t1:dp ln lo r wi d (0,1)=wi:=rfl;have t2:dp ln lo r wi d (0,2)=d:=rfl;obtain⟨i,hi,rfl⟩|⟨i,hi,rfl⟩|rfl|rfl|rfl:=f k G<;>obtain⟨j,u,rfl⟩|⟨j,u,rfl⟩|rfl|rfl|rfl:=f N F
 obtain⟨p,c,e1,e2,e3⟩:=s i hi;obtain⟨C,K,A,S,H⟩:=s j u;rw[e3,H];obtain h|h|h:=Nat.lt_trichotomy i j
 exact E.2.2 i j p C h e1 A;subst h;exact absurd rfl t;exact Apart.symm<|E.2.2 j i C p h A e1;exact(v i hi).apart (y j u) .refl;exact(v i hi).apart r3 (by omega);exact(v i hi).apart r4 (by omega);exact(v i hi).apart r5 (by omega);exact((v j u).apart (y i hi) .refl).symm;obtain⟨p,c,e1,e2,e3⟩:=l i hi;obtain⟨C,K,A,S,H⟩:=l j u;rw[e3,H];obtain h|h|h:=Nat.lt_trichotomy i j
 exact D.2.2 i j p C h e1 A;subst h;exact absurd rfl t;exact Apart.symm<|D.2.2 j i C p h A e1;exact(y i hi).apart r3 (by omega);exact(y i hi).apart r4 (by omega);exact(y i hi).apart r5 (by omega);exact((v j u).apart r3<|by omega).symm;exact((y j u).apart r3<|by omega).symm;exact absurd rfl t;exact r3.apart r4 (by omega);exact r3.apart r5 (by omega);exact((v j u).apart r4<|by omega).symm;exact((y j u).apart r4<|by omega).symm;exact(r3.apart r4<|by omega).symm;exact absurd rfl t;exact r4.apart r5 (by omega);exact((v j u).apart r5<|by omega).symm;exact((y j u).apart r5<|by omega).symm;exact(r3.apart r5<|by omega).symm;exact(r4.apart r5<|by omega).symm;exact absurd rfl t
def y7{W w1:Y}(hb:I W W w1):∀b o,b<W.heap.size->w1 ((b:Nat),o)=W.cell? ⟨b,o,M⟩:=λb o h=>hb.cell h
def Iz{g}(h:oy g):∀c∈g.new++g.old,c.2.length<=1000000:=by intro c hc;obtain⟨a,_⟩:=zy<|h.cells c hc;omega
def OV.range{w B v l}(h:OV w B v l):BJ B w v:=λg a=>h.lt g a
def df.range{w B l cs}(h:df w B l cs):∀p∈l,BJ B w p.2:=by
 intro p b;obtain⟨i,hi⟩:=Zg.1 b;have a:i<cs.length:=by rw[<-h.1];exact(Ω.1 hi).1
 obtain⟨k,c,e⟩:=cQ a;exact(h.2.1 i p.1 p.2 k c hi e).2.range
def BJ.mono{a b a' c v}(h:BJ a b v)(e:a'<=a)(f:b<=c):BJ a' c v:=λg d=>by have:=h g d;omega
def Xb(w v g)(hv:GV w v g)(hk:oy g)(hm:cN g=0)(hl:g.marked.length<=1000000):
 μ prog 82 #[v] w λe w'=>(∃b,e=.returned (Y1<|U ⟨b,0,M⟩)/\dm w' w.heap.size b g)/\I w.heap.size w w':=by
 obtain⟨n,o,r,wi,d,m,rfl,h1,h2,h3,h4,h5,h6⟩:=hv;have H1:=V h1;have H2:=V h2;have H3:=V h3;have H4:=V h4;have H5:=V h5;have H6:=V h6;obtain⟨an,mn,rfl,_,_,_⟩:=h1;obtain⟨Q,O,rfl,_,_,_⟩:=h2;obtain⟨ar,W,rfl,_,_,_⟩:=h3;obtain⟨aw,mw,rfl,_,_,_⟩:=h4;obtain⟨ad,md,rfl,_,_,_⟩:=h5;obtain⟨N,mm,rfl,_,_,_⟩:=h6;have K:=V hk;have HM:=V hm;have X:mi ((w.alloc<|χ #[.slice an g.new.length mn,.slice Q g.old.length O,.slice ar g.roots.length W,.slice aw g.aA.length mw,.slice ad g.done.length md,.slice N g.marked.length mm] 26).alloc<|χ #[.slice an g.new.length mn,.slice Q g.old.length O,.slice ar g.roots.length W,.slice aw g.aA.length mw,.slice ad g.done.length md,.slice N g.marked.length mm] 114) (w.heap.size+1) g:=by
  have L:∀o1 o2:Obj,I w.heap.size w ((w.alloc o1).alloc o2):=λo1 o2=>(af w o1).alloc (by simp) o2;refine⟨_,_,_,_,_,_,?_,?_,?_,?_,?_,?_,H1.out.below<|L _ _,H2.out.below<|L _ _,H3.out.below<|L _ _,H4.out.below<|L _ _,H5.out.below<|L _ _,H6.out.below<|L _ _⟩
  all_goals go_simp
 have HC:=V X;clear hk hm X
 go_enter (fU func82 rfl),ntmps82
 go_wp2_with fail
 refine(Ix _ _ g HC.out K.out hl).mono ?_;rintro e t ⟨he,s⟩;obtain rfl:=sm he HM.out;have a:=y7 s;have hs3:=s.size;simp only[Y9]at hs3 a;have y:=(((Ξ _ _).alloc .refl _).alloc (by simp) _).trans<|s.mono (by simp;omega);have f0:t.cell? ⟨w.heap.size,0,M⟩=U (.slice an g.new.length mn):=(a _ _<|by omega).trans (by go_simp);have f1:t (w.heap.size,1)=U (.slice Q g.old.length O):=(a _ _<|by omega).trans (by go_simp);have f2:t (w.heap.size,2)=U (.slice ar g.roots.length W):=(a _ _<|by omega).trans (by go_simp);have f3:t (w.heap.size,3)=U (.slice aw g.aA.length mw):=(a _ _<|by omega).trans (by go_simp);have f4:t (w.heap.size,4)=U (.slice ad g.done.length md):=(a _ _<|by omega).trans (by go_simp);have f5:t (w.heap.size,5)=U (.slice N g.marked.length mm):=(a _ _<|by omega).trans (by go_simp);clear s a he
 go_wp2_with fail
 have hlt:w.heap.size<t:=by omega
 have FN:=V<|Iz K.out;have L1:=V (show g.new.length<=1000000 by have:=K.out.news;omega);have L2:=V (show g.old.length<=1000000 by have:=K.out.bw;omega);have L3:=V (show g.roots.length<=1000000 by have:=K.out.four;omega);have L4:=V (show g.aA.length<=1000000 by have:=K.out.aA.1;omega);have L5:=V (show g.done.length<=1000000 by have:=K.out.done.1;omega)
 go_region_held3 (λw'=>w' w.heap.size=U (.slice an g.new.length mn)/\w' (w.heap.size,1)=U (.slice Q g.old.length O)/\w' (w.heap.size,2)=U (.slice ar g.roots.length W)/\
  w' (w.heap.size,3)=U (.slice aw g.aA.length mw)/\w' (w.heap.size,4)=U (.slice ad g.done.length md)/\w' (w.heap.size,5)=U (.slice N g.marked.length mm))
  (go_keep)
  (first
    |(go_at_call 147;(with_reducible refine(zC _ (.slice an g.new.length mn) g.new (H1.out.below y.drew) L1.out λc hc=>FN.out c<|Ze _ hc).mono ?_);rintro e w4 ⟨⟨r4,rfl,G⟩,J⟩;have z:=y.drew.trans<|J.mono y.size;have S:=y7 J;have Fx:=V G;obtain⟨a4,m4,rfl,_⟩:=G.reads;clear G;have hs4:=J.size;simp only[World.size_drew]at hs4 S;have ht4:w.heap.size<w4:=by omega)
    |(go_at_call 147;(with_reducible refine(zC _ (.slice Q g.old.length O) g.old (H2.out.below z) L2.out λc hc=>FN.out c<|Zi _ hc).mono ?_);rintro e w5 ⟨⟨r5,rfl,x⟩,l⟩;have D:=z.trans<|l.mono z.size;have hc5:=y7 l;have WE:=V x;obtain⟨a5,m5,rfl,_⟩:=x.reads;clear x;have hs5:=l.size;have ht5:w.heap.size<w5:=by omega)
    |(go_at_call 148;(with_reducible refine(J6 _ (.slice ar g.roots.length W) g.roots (H3.out.below D) L3.out).mono ?_);rintro e w6 ⟨⟨r6,rfl,C⟩,j⟩;have B:=D.trans<|j.mono D.size;have hc6:=y7 j;have Jc:=V C;obtain⟨a6,m6,rfl,_⟩:=C.reads;clear C;have hs6:=j.size;have ht6:w.heap.size<w6:=by omega)
    |(go_at_call 148;(with_reducible refine(J6 _ (.slice aw g.aA.length mw) g.aA (H4.out.below B) L4.out).mono ?_);rintro e w7 ⟨⟨r7,rfl,A⟩,q⟩;have H:=B.trans<|q.mono B.size;have hc7:=y7 q;have T:=V A;obtain⟨a7,m7,rfl,_⟩:=A.reads;clear A;have hs7:=q.size;have ht7:w.heap.size<w7:=by omega)
    |(go_at_call 148;(with_reducible refine(J6 _ (.slice ad g.done.length md) g.done (H5.out.below H) L5.out).mono ?_);rintro e w8 ⟨⟨r8,rfl,u⟩,h⟩;have F:=H.trans<|h.mono H.size;have hc8:=y7 h;have P:=V u;obtain⟨a8,m8,rfl,_⟩:=u.reads;clear u;have hs8:=h.size;have V9:w.heap.size<w8:=by omega)
    |(go_at_call 149;(with_reducible refine(wj _ (.slice N g.marked.length mm) g.marked (H6.out.below F) hl).mono ?_);rintro e w9 ⟨⟨r9,rfl,E⟩,i⟩;have Dv:=F.trans (i.mono F.size);have hc9:=y7 i;have pl:=V E;obtain⟨a9,m9,rfl,_⟩:=E.reads;clear E;have hs9:=i.size;have ht9:w.heap.size<w9:=by omega))
 clear f0 f1 f2 f3 f4 f5 S hc5 hc6 hc7 hc8 hc9
 go_wp2
 go_ret;have k:=af w9<|χ #[.slice a4 g.new.length m4,.slice a5 g.old.length m5,.slice a6 g.roots.length m6,.slice a7 g.aA.length m7,.slice a8 g.done.length m8,.slice a9 g.marked.length m9] 114;obtain⟨ln,hn,en⟩:=Fx.out;obtain⟨lo,ho,eo⟩:=WE.out;have z9:=i.trans<|k.mono i.size;have z8:=h.trans<|z9.mono h.size;have z7:=q.trans<|z8.mono q.size;have z6:=j.trans<|z7.mono j.size;have z5:=l.trans<|z6.mono l.size;have f:w.heap.size<=t.drew.heap.size:=by simp;omega
 refine⟨⟨_,rfl,N7 (s1:=w4) (s2:=w5) (s3:=w6) (s4:=w7) (by omega) (ε w9 _) ((hn.below z5).less f) ((en.below z5).less f) ((ho.below z6).less (by omega)) ((eo.below z6).less (by omega))
  ((Jc.out.below z7).less<|by omega) ((T.out.below z8).less<|by omega) ((P.out.below z9).less<|by omega) ((pl.out.below k).less<|by omega)
  (λp hp=>(en.range p hp).mono f .refl) eo.range Jc.out.range T.out.range (P.out.range.mono .refl (by simp;omega)) hs5 hs6 hs7⟩,Dv.trans (k.mono (by omega))⟩
def zD(w)(b a len m k:Nat)(hc:w b=U (.slice a len m))(f:k<len)(d:len<=1000000):
 μ prog 199 #[.pointer b,.agg #[Θ Ψ 3,Θ Ψ k]] w λe w'=>e=.returned (.pointer (a,k*2))/\I w w w':=by
 have hb:=az hc;have h0:(0:Int)<=k:=by omega
 have c:(k:Int)<len:=by omega
 go_enter (fU func199 rfl),ntmps199
 go_wp2
 go_quiet (fail)
 go_wp2
 go_ret;exact⟨rfl,by first|exact bl (af w _) _|exact(af w _)⟩
def ol(w)(b a len m k:Nat)(hc:w (b,1)=U (.slice a len m))(f:k<len)(d:len<=1000000):
 μ prog 199 #[.pointer b,.agg #[Θ Ψ 4,Θ Ψ k]] w λe w'=>e=.returned (.pointer (a,k*2))/\I w w w':=by
 have hb:=az hc;have h0:(0:Int)<=k:=by omega
 have c:(k:Int)<len:=by omega
 go_enter (fU func199 rfl),ntmps199
 go_wp2
 go_quiet (fail)
 go_wp2
 go_ret;exact⟨rfl,by first|exact bl (af w _) _|exact(af w _)⟩
section
variable(x:HV)(w:Y)
def jA(w:Y)(b:Nat)(l:List HV):Prop:=∃es clk,w.heap[b]?=U (.map es clk)/\es.toList.map (λe=>(e.key,e.val))=l.zipIdx.map λx=>(ns x.1,Θ Ψ (x.2:Int))
def zE(y w):(Op.equal 50 (ns x)<|ns y).run prog w=.ok (x==y) w:=by have:=VY x.1 x.2 y.1 y.2 w;exact this
theorem ly(x:HV)(w:Y):∀(es:List MapEntry) (l:List HV) (j i:Nat),es.map (λe=>(e.key,e.val))=(l.zipIdx j).map (λx=>(ns x.1,Θ Ψ (x.2:Int))) ->
 (Zy 50 (ns x) es i).run prog w=.ok (if x∈l then U (i+l.idxOf x,Θ Ψ ((j+l.idxOf x:Nat):Int))else M) w
 |[],l,j,i,h=>by
  obtain _|⟨a,l⟩:=l
  simp[Zy];simp at h
 |e::es,l,j,i,h=>by
  obtain _|⟨a,l⟩:=l
  simp at h;simp at h;obtain⟨⟨c,d⟩,h3⟩:=h;unfold Zy;rw[Z7,c,zE,ο];by_cases b:x=a
  subst b;simp[d];have hb:(x==a)=Z:=by simp[b]
  rw[hb];simp only[Bool.false_eq_true,if_false];rw[(ly x w es l (j+1) (i+1) h3)]
  grind
def IA:prog.underlying 110=U (.map 50 3):=by kernel_rfl
def aeZ:(zeroValue 3).run prog w=.ok (Θ Ψ 0) w:=by kernel_rfl
def ae0:∃a,prog.underlying 50=U (.struct a):=by simp
def Dw(e p q w):(Instr.checkKey e 10000 50<|.agg #[Θ Ψ p,Θ Ψ q]).run prog w=.ok () w:=by cases e<;>kernel_rfl
def run_findKey(es)(l:List HV)(h:es.map (λe=>(e.key,e.val))=l.zipIdx.map (λx=>(ns x.1,Θ Ψ (x.2:Int)))):
 (YW 50 (ns x) es).run prog w=.ok (if x∈l then U (l.idxOf x,Θ Ψ ((l.idxOf x:Nat):Int))else M) w:=by
 obtain⟨c,b⟩:=ae0;unfold YW;rw[Z7,Z3 b,ο];have d:=ly x w es l 0 0 h;obtain _|⟨e,es⟩:=es
 obtain _|⟨a,l⟩:=l
 simp[Zn];simp at h;have:Zn (.struct c) (ns x) (e::es) 0=M:=by
  unfold Zn;have:YV (.struct c) (ns x) e.key=M:=by unfold YV ns;rfl
  rw[this]
 grind
def fP{w b l}(h:jA w b l):
 (YS 110 (.map<|U b) (ns x) κ).run prog w=.ok (.tuple #[Θ Ψ (if x∈l then((l.idxOf x:Nat):Int)else 0),.bool<|decide<|x∈l]) w:=by
 obtain⟨c,a,hb,f⟩:=h;have d:=run_findKey x w c.toList l f;unfold YS;simp only[Z7,Z3 IA,ο];simp only[(by simp[getObj,Sem.run,hb]:(getObj b).run prog w=.ok (.map c a) w),ο,Zz,Z7];rw[show ns x=.agg #[Θ Ψ x.1,Θ Ψ x.2]from rfl]at d⊢;rw[(Dw c.isEmpty x.1 x.2 w)];simp only[ο,d];by_cases e:x∈l
 simp[e];simp[e,aeZ]
end
section
variable{w:Y}{l:List HV}
def sx{b}(x)(h:jA w b l)(i:x∉l):
 ∃w',(Y2 110 (.map<|U b) (ns x)<|Θ Ψ (l.length:Int)).run prog w=.ok () w'/\jA w' b (l++[x])/\w.grownBy w' (U b):=by
 obtain⟨c,a,hb,g⟩:=h;have f:=run_findKey x w c.toList l g;refine⟨{w with heap:=w.heap.setIfInBounds b<|.map (c.push {key:=ns x,val:=Θ Ψ (l.length:Int),born:=a})<|a+1},?_,?_,?_⟩;unfold Y2;simp only[Z7,Z3 IA,ο];simp only[(by simp[getObj,Sem.run,hb]:(getObj b).run prog w=.ok (.map c a) w),ο,Zz,Z7];rw[show ns x=.agg #[Θ Ψ x.1,Θ Ψ x.2]from rfl]at f⊢;rw[(Dw Z x.1 x.2 w)];simp only[ο,f,if_neg i];simp[setObj,Sem.run,hb];refine⟨c.push {key:=ns x,val:=Θ Ψ (l.length:Int),born:=a},a+1,by simp[((Γ.1 hb).1)],?_⟩;rw[Array.toList_push,ι,g,List.zipIdx_append,ι];simp;refine⟨rfl,rfl,rfl,by simp,λk j d=>?_⟩;have:k≠b:=λe=>d (by rw[e]);simp[ZW,ZG this]
theorem JX(x:HV):∀(l:List HV) (k:Nat),k<l.length->(l.set k x).flatMap lU=((l.flatMap lU).set (k*2)<|Θ Ψ x.1).set (k*2+1) (Θ Ψ x.2)
 |[],k,h=>by simp at h
 |a::l,0,h=>by simp[lU]
 |a::l,k+1,h=>by have:=JX x l k (by grind);rw[Y',ψ,this,show(k+1)*2=k*2+1+1 by omega];simp[lU]
def OV.set{B g n m k:Nat}{x}(h:OV w B (.slice g n m) l)(b:k<l.length):
 OV ((w.setCell (g,k*2)<|Θ Ψ x.1).setCell (g,k*2+1)<|Θ Ψ x.2) B (.slice g n m) (l.set k x):=by
 obtain⟨e,⟨h0,_⟩|⟨q,f,a,d,i,o,p,c,hs,j⟩⟩:=h;cases h0
 cases d
 refine⟨by rw[JX x l k b];simpa using e,.inr ⟨g,m,(a.setIfInBounds (k*2)<|Θ Ψ x.1).setIfInBounds (k*2+1)<|Θ Ψ x.2,by simp,i,?_,by simpa using p,c,by simpa using hs,?_⟩⟩;simp[ZQ,ZH,o];rw[JX x l k b,<-j];simp only[Zs,YY,YT]
def OV.at_{B g n m k:Nat}{p q}(h:OV w B (.slice g n m) l)(c:l[k]?=U (p,q)):
 w (g,k*2)=U (Θ Ψ p)/\w (g,k*2+1)=U (Θ Ψ q)/\(∀i,w.frozen? ⟨g,i,M⟩=Z)/\B<=g/\g<w:=by
 obtain⟨a,y,b,u,t,h3⟩:=aF h;have o:=(Ω.1 c).1;obtain⟨s,f,_,d,j,hc⟩:=h3 (by omega);simp at b;obtain⟨rfl,_,rfl⟩:=b;cases f
 obtain⟨e1,e2⟩:=jx lU (λv=>Θ Ψ v.1) (λv=>Θ Ψ v.2) (λ_=>rfl) l k _ c;refine⟨hc _ _ e1,hc _ _ e2,λi=>?_,h.lt g rfl⟩;obtain⟨_,⟨h0,_⟩|⟨s,r,e,b,x,d,_⟩⟩:=h;cases h0
 cases b
 simp[Zo,d]
end
section
variable{x:HV}{w a:Y}{l:List HV}{k:Nat}{f:HV->HV}
def zF{row}(h:a.grownBy w row)(n):a.grownBy (w.drewN n) row:=⟨h.os,h.tape,h.output,h.size,h.block⟩
def zG{row}(h:a.grownBy w row)(o):a.grownBy (w.alloc o) row:=⟨h.os,h.tape,h.output,Nat.le_trans h.size<|by simp,λi hi b=>(ZX w o i<|Nat.lt_of_lt_of_le hi h.size).trans<|h.block i hi b⟩
def sz{g}(h:a.grownBy w (U g)){p}(c:p.block=g\/a.heap.size<=p.block)(u):a.grownBy (w.setCell p u) (U g):=
 ⟨h.os,h.tape,h.output,by simpa[ZQ]using h.size,λi hi b=>(Z0 w p u i (by
   obtain c|c:=c
   grind
   omega)).trans (h.block i hi b)⟩
def jA.of_block{w' b}(h:jA w b l)(hb:w'.heap[b]?=w.heap[b]?):jA w' b l:=by obtain⟨d,a,c,e⟩:=h;exact⟨d,a,hb.trans c,e⟩
def jA.lt{b}(h:jA w b l):b<w.heap.size:=by obtain⟨d,c,a,e⟩:=h;exact(Γ.1 a).1
def IB(h:l[k]?=U x):((l.take k).map f++l.drop k).set k (f x)=(l.take<|k+1).map f++l.drop (k+1):=by
 have a:=(Ω.1 h).1;have b:=(Ω.1 h).2;have:k-((l.take k).map f).length=0:=by simp;omega
 rw[Zh _ _ (by simp;omega),this,Z4 a,List.set_cons_zero,bW h];simp
def IC(h:l[k]?=U x)(a:f x=x):(l.take k).map f++l.drop k=(l.take<|k+1).map f++l.drop (k+1):=by rw[Z4 ((Ω.1 h).1),bW h,((Ω.1 h).2)];simp[a]
def Wa(h:l[k]?=U x):((l.take k).map f++l.drop k)[k]?=U x:=by grind
def uO(w B bs bm v so l order b)(u:OV w B v l)(hs:w.heap[bs]?=U (χ #[so,.map<|U bm] 112 (0,0)))(y:jA w bm order)(X:0<=b)(hf1:b<=1000000)(ho:order.length<=1000000)(hl:l.length<=1000000):
 μ prog 227 #[v,Y1<|U ⟨bs,0,M⟩,Θ Ψ b] w λe w'=>e=.returned (.tuple #[])/\OV w' B v (l.map<|lr order b)/\w.grownBy w' v.ownBlock:=by
 have HV:=V u;have t:v.ownBlock≠U bs:=by
  intro e;obtain⟨_,⟨rfl,_⟩|⟨g,E,J,rfl,hB,D,_⟩⟩:=u;cases e
  cases e
  rw[D]at hs;cases hs
 have x:v.ownBlock≠U bm:=by
  intro e;obtain⟨es,clk,O,_⟩:=y;obtain⟨_,⟨rfl,_⟩|⟨g,E,J,rfl,hB,D,_⟩⟩:=u;cases e
  cases e
  rw[D]at O;cases O
 have A:=(Γ.1 hs).1;have C:=y.lt;obtain⟨a,m,G,hm1,F,P⟩:=aF u;unfold Z8 at F;have HA:=V P;have K:=V t;have H:=V x;have HS:=V hs;have T:=V y;clear P t x hs y u;subst G
 go_enter (fU func227 rfl),ntmps227
 go_wp2
 go_loopw [12] (λi wr=>∃k:Nat,k<=l.length/\i=Θ Ψ k/\OV wr B (.slice a l.length m) ((l.take k).map (lr order b)++l.drop k)/\w.grownBy wr (Zr<|.slice a l.length m)) (λi _=>l.length-(intOf i).toNat)
 case atStart=>exact⟨0,Nat.zero_le _,rfl,by simpa using HV.out,World.grownBy.refl _ _⟩
 case round=>
  obtain⟨k,hk,rfl,c,h⟩:=hrel;by_cases z:k<l.length
  ·obtain⟨g,rfl,_⟩:=HA.out (by omega);obtain⟨p,q,e1⟩:=ep z;have hsz:=h.size;have n:((l.take k).map (lr order b)++l.drop k).length=l.length:=by simp;omega
   have j:=c;rw[<-n]at j;obtain⟨c1,c2,o,W,hgl⟩:=OV.at_ c<|Wa e1;have f1:=o<|k*2;have f2:=o<|k*2+1;have S:wr.cell? ⟨bs,1,M⟩=U (.map<|U bm):=by have:=(h.block bs A<|ZG K.out).trans HS.out;simp[η,this]
   have s:=T.out.of_block<|h.block bm C<|ZG H.out;have f:=λnq=>fP (w:=(wr.alloc<|χ #[Θ Ψ p,Θ Ψ q] 50).drewN nq) (p,q)<|s.of_block<|ZX wr _ bm<|by omega
   have N:bs<wr.heap.size:=by omega
   have Q:=V e1;have HO:=V c;clear j o e1 s n c;unfold ns at f;dsimp only at f;by_cases r:(p,q)∈order
   ·simp only[r,if_true,decide_true]at f;have L:=List.idxOf_lt_length_of_mem r;have d:lr order b (p,q)=(4,b+(order.idxOf (p,q):Nat)):=by simp[lr,r]
    have HR:=V d;clear d r;generalize order.idxOf (p,q)=ix at f L HR
    go_wp2
    go_quiet (fail)
    clear f
    go_wp2
    refine⟨⟨k+1,by omega,by go_num,?_,?_⟩,by simp[intOf];omega⟩;rw[<-IB Q.out,HR.out];exact((HO.out.alloc _).below<|hU _ _ _).set (by simp;omega);show w.grownBy _ (U g);exact sz (p:=⟨g,k*2+1,M⟩) (sz (p:=⟨g,k*2,M⟩) (zF (zG h _) _) (.inl rfl) _) (.inl rfl) _
   ·simp only[r,if_false,decide_false]at f;have d:lr order b (p,q)=(p,q):=by simp[lr,r]
    have HR:=V d;clear d r
    go_wp2
    go_quiet (fail)
    clear f
    go_wp2
    exact⟨⟨k+1,by omega,by go_num,by rw[<-IC Q.out HR.out];exact(HO.out.alloc _).below<|hU _ _ _,zF (zG h _) _⟩,by simp[intOf];omega⟩
  ·go_wp2
   go_end0;refine⟨rfl,?_,h⟩;rw[ω (by omega),Zl<|by omega,YX]at c;exact c
end
section
def bS(w:Y)(B bs bm:Nat)(so:R)(l:List HV):Prop:=B<=bs/\B<=bm/\w.heap[bs]?=U (χ #[so,.map<|U bm] 112 (0,0))/\OV w B so l/\jA w bm l
structure cz(w w':Y)(bs bm:Nat)(so so':R):Prop where
 os:w'.os=w.os
 tape:w'.tape=w.tape
 output:w'.output=w.output
 size:w.heap.size<=w'
 block:∀k,k<w.heap.size->k≠bs->k≠bm->so.ownBlock≠U k->w'.heap[k]?=w.heap[k]?
 own:∀k,so'.ownBlock=U k->so.ownBlock=U k\/w.heap.size<=k
section
variable{w w' w'':Y}{B bs bm:Nat}{so so' ae1:R}{l:List HV}
def cz.bK(h:I w w w'):cz w w' bs bm so so:=⟨h.os,h.tape,h.output,h.size,λk a _ _ _=>h.block k a,λk e=>.inl e⟩
def cz.refl(w):cz w w bs bm so so:=.bK<|Ξ _ _
def cz.trans(h:cz w w' bs bm so so')(k:cz w' w'' bs bm so' ae1):cz w w'' bs bm so ae1:=
 ⟨k.os.trans h.os,k.tape.trans h.tape,k.output.trans h.output,Nat.le_trans h.size k.size,
   λi hi a b h3=>(k.block i (Nat.lt_of_lt_of_le hi h.size) a b (λe=>by
    obtain e|e:=h.own i e
    grind
    omega)).trans (h.block i hi a b h3),
   λi e=>by
    obtain e|e:=k.own i e
    exact h.own i e;exact .inr (Nat.le_trans h.size e)⟩
def cz.below(h:cz w w' bs bm so so')(hs:bS w B bs bm so l)(b:B<=w):I B w w':=⟨h.os,h.tape,h.output,h.size,λk a=>h.block k (by omega) (by have:=hs.1;omega) (by have:=hs.2.1;omega) (λe=>by have:=(hs.2.2.2.1.lt k e).1;omega)⟩
def cz.cell(h:cz w w' bs bm so so'){a:Addr}(c:a.block<w)(b:a.block≠bs)(d:a.block≠bm)(h3:so.ownBlock≠U a.block):w' a=w a:=World.cell?_of_block<|h.block a.block c b d h3
def bS.below(h:bS w B bs bm so l)(a:I w w w'):bS w' B bs bm so l:=⟨h.1,h.2.1,(a.block bs (Γ.1 h.2.2.1).1).trans h.2.2.1,h.2.2.2.1.below a,h.2.2.2.2.of_block<|a.block bm h.2.2.2.2.lt⟩
def bS.Q4(h:bS w B bs bm so l):bs<w/\bm<w:=⟨(Γ.1 h.2.2.1).1,h.2.2.2.2.lt⟩
def wm(k bs bm:Nat)(so:R):Prop:=k≠bs/\k≠bm/\so.ownBlock≠U k
def bS.free(h:bS w B bs bm so l){k a t fr}(b:w.heap[k]?=U (.cells a t fr))(o:t≠112)(f:t≠50):wm k bs bm so:=by
 obtain⟨_,_,hb,d,p,i,n,_⟩:=h;refine⟨λe=>?_,λe=>?_,λe=>?_⟩
 grind
 grind
 obtain⟨_,⟨rfl,_⟩|⟨g,j,c,rfl,q,m,_⟩⟩:=d
 ·cases e
 cases e;rw[m]at b;cases b;exact f rfl
def bS.low(h:bS w B bs bm so l){k}(a:k<B):wm k bs bm so:=⟨λe=>by have:=h.1;omega,λe=>by have:=h.2.1;omega,λe=>by have:=(h.2.2.2.1.lt k e).1;omega⟩
end
def ID(w B bs bm so l p q)(hs:bS w B bs bm so l)(g:(p,q)∈l):
 μ prog 197 #[.pointer bs,.agg #[Θ Ψ p,Θ Ψ q]] w λe w'=>(∃i,e=.returned (Θ Ψ i))/\(∃d,bS w' B bs bm d (meet l (p,q))/\cz w w' bs bm so d):=by
 have c:meet l (p,q)=l:=by unfold meet;rw[if_pos (by simpa using g)]
 rw[c];have m:=V hs;obtain⟨o,j,hb,k,f⟩:=hs;have h:=(Γ.1 hb).1;have hc:w (bs,1)=U (.map<|U bm):=by simp[η,hb]
 have a:=λnq=>fP (w:=(w.alloc<|χ #[Θ Ψ p,Θ Ψ q] 50).drewN nq) (p,q)<|f.of_block<|ZX w _ bm f.lt;unfold ns at a;simp only[g,if_true,decide_true]at a;clear hb k f g c;generalize l.idxOf (p,q)=n at a
 go_enter (fU func197 rfl),ntmps197
 go_wp2
 go_quiet (fail)
 clear a
 go_wp2
 go_ret;have b:I w w ((w.alloc<|χ #[Θ Ψ p,Θ Ψ q] 50).drewN nq):=bl (af w _) _;exact⟨⟨_,rfl⟩,_,m.out.below b,cz.bK b⟩
end
section
variable{w:Y}
def heap_setCell_same{b i:Nat}{a t fr v}(h:w.heap[b]?=U (.cells a t fr)):(w.setCell (b,i) v).heap[b]?=U (.cells (a.setIfInBounds i v) t fr):=by simp[ZQ,ZH,h]
def ae2{a b c:Y}{row}(h:I a a b)(k:b.grownBy c row):a.grownBy c row:=⟨k.os.trans h.os,k.tape.trans h.tape,k.output.trans h.output,Nat.le_trans h.size k.size,λi hi d=>(k.block i (Nat.lt_of_lt_of_le hi h.size) d).trans<|h.block i hi⟩
def bS.ne{B bs bm so l}(h:bS w B bs bm so l):bs≠bm/\so.ownBlock≠U bs/\so.ownBlock≠U bm:=by
 obtain⟨_,_,hb,f,k,i,d,_⟩:=h;refine⟨λe=>?_,λe=>?_,λe=>?_⟩
 grind
 obtain⟨_,⟨rfl,_⟩|⟨g,b,a,rfl,j,c,_⟩⟩:=f
 ·cases e
 cases e;rw[c]at hb;cases hb
 obtain⟨_,⟨rfl,_⟩|⟨g,b,a,rfl,j,c,_⟩⟩:=f
 ·cases e
 cases e;rw[c]at d;cases d
def IE{w2 f w4}{B bs bm b a:Nat}{so l x}(hs:bS w B bs bm so l)(c:I w w w2)(h3:w2.grownBy f (U bm))(s:jA f bm (l++[x]))(h4:f.grownBy w4 so.ownBlock)(r:OV w4 B (.slice b (l.length+1) a) (l++[x]))(d:so.ownBlock=U b\/f.heap.size<=b):
 bS (w4.setCell bs<|.slice b (l.length+1) a) B bs bm (.slice b (l.length+1) a) (l++[x])/\
 cz w (w4.setCell bs<|.slice b (l.length+1) a) bs bm so (.slice b (l.length+1) a):=by
 obtain⟨h,j,n⟩:=hs.ne;obtain⟨u,C⟩:=hs.Q4;have z:=c.size;have z3:=h3.size;have A:=h4.size;have y:b≠bs:=by
  obtain e|e:=d
  rintro rfl;exact j e;omega
 refine⟨⟨hs.1,hs.2.1,?_,?_,?_⟩,⟨?_,?_,?_,?_,?_,?_⟩⟩;have:=heap_setCell_same (i:=0) (v:=.slice b (l.length+1) a)<|(h4.block bs (by omega)<|ZG j).trans<|(h3.block bs (by omega) λe=>h<|θ e).trans<|(c.block bs u).trans hs.2.2.1;simpa using this;refine aS r λg o=>Z0 _ _ _ _ ?_;cases o
 exact y;exact(s.of_block<|h4.block bm (by omega)<|ZG n).of_block<|Z0 _ _ _ _<|ZG h;exact h4.os.trans<|h3.os.trans c.os;exact h4.tape.trans<|h3.tape.trans c.tape;exact h4.output.trans<|h3.output.trans c.output;simp[ZQ];omega;intro k p m t q;refine(Z0 _ _ _ _ m).trans<|(h4.block k (by omega)<|ZG q).trans<|(h3.block k (by omega) λe=>t<|θ e).trans<|c.block k p;intro k e;cases e
 obtain e|e:=d
 exact .inl e;exact .inr (by dsimp only;omega)
def IF(w B bs bm so l p q)(hs:bS w B bs bm so l)(K:(p,q)∉l)(hl:l.length<=1000000):
 μ prog 197 #[.pointer bs,.agg #[p,q]] w λe w'=>(∃i,e=.returned (Θ Ψ i))/\(∃J,bS w' B bs bm J (meet l (p,q))/\cz w w' bs bm so J):=by
 have F:meet l (p,q)=l++[(p,q)]:=by unfold meet;rw[if_neg (by simpa using K)]
 rw[F];have W:=V hs;obtain⟨hB,hBm,hb,ho,hm⟩:=hs;obtain⟨i0,hi,z,D,E⟩:=ZY nh;have s:=(Γ.1 hb).1;have H:w (bs,1)=U (.map<|U bm):=by simp[η,hb]
 have L:=hm.lt;obtain⟨a,m,G,hm1,hm2,_⟩:=aF ho;have u:w bs=U (.slice a l.length m):=by simp[η,hb,G]
 have x:=λnq=>fP (w:=(w.alloc<|χ #[p,q] 50).drewN nq) (p,q)<|hm.of_block<|ZX w _ bm L;unfold ns at x;simp only[K,if_false,decide_false]at x;have HI:=V hi;have X:=V z;have HZ1:=V D;have P:=V E;have HX:=V K;subst G;clear hb ho hm K F hi z D E
 go_enter (fU func197 rfl),ntmps197
 go_wp2
 go_quiet (fail)
 clear x;have c:I w w ((w.alloc<|χ #[p,q] 50).drewN nq):=bl (af w _) _;have n:((w.alloc<|χ #[p,q] 50).drewN nq) w.heap.size=U (Θ Ψ p):=by go_simp
 have k:((w.alloc<|χ #[p,q] 50).drewN nq) (w.heap.size,1)=U (Θ Ψ q):=by go_simp
 have d:w.heap.size<((w.alloc<|χ #[p,q] 50).drewN nq).heap.size:=by simp
 generalize (w.alloc _).drewN nq=y at c n k d⊢;have k0:=(y7 c bs 0 s).trans u;have k1:=(y7 c bs 1 s).trans H
 go_wp2_with fail
 go_still_tail 6,(by kernel_rfl)
 change ZS _ _ _ _ _ (World.drew _)
 clear k0 k1;replace c:=c.drew;replace n:y.drew.cell? w.heap.size=U (Θ Ψ p):=n;replace k:y.drew.cell? (w.heap.size,1)=U (Θ Ψ q):=k;replace d:w.heap.size<y.drew.heap.size:=d;generalize y.drew=y at c n k d⊢;have h:=W.out.below c;obtain⟨b,o,C,f⟩:=sx (p,q) h.2.2.2.2 HX.out;unfold ns at o;dsimp only at o;have O:w.heap.size≠bm:=by omega
 obtain⟨n1,n2,n3⟩:=h.ne;have g0:=(f.cell_far bs h.Q4.1 λe=>n1<|θ e).trans<|(y7 c bs 0 s).trans u;have gf:b.frozen? bs=Z:=(f.frozen_far bs h.Q4.1 λe=>n1<|θ e).trans (by simp[Zo,h.2.2.1]);have g1:b w.heap.size=U (Θ Ψ p):=(f.cell_far w.heap.size d λe=>O<|θ e).trans n;have g2:b (w.heap.size,1)=U (Θ Ψ q):=(f.cell_far (w.heap.size,1) d λe=>O<|θ e).trans k;have A:OV b B (.slice a l.length m) l:=aS h.2.2.2.1 λg hg=>f.block g (h.2.2.2.1.lt g hg).2 λe=>n3<|by rw[hg,θ e]
 have hz3:=f.size;have hBz:B<=w:=by omega
 have r:bs<b:=by omega
 have HO:=V A;have HN:=V n2;have H5:=V (λe=>by have:=(W.out.2.2.2.1.lt _ e.symm).2;omega:U w.heap.size≠Zr (.slice a l.length m));have HB:=V (⟨c,f,C⟩:I w w y/\y.grownBy b (U bm)/\jA b bm (l++[(p,q)]));clear u H c n k h C f n1 n2 n3 A O
 go_wp2_with fail
 clear o
 go_region_law
  ((refine step_append_lies _ (by rfl) _ _ _ (by rfl) B 50 i0 _ 2 16 lx HI.out X.out HZ1.out P.out rfl (by omega) (.slice a l.length m) l.length (l.flatMap lU) (by rfl) (HO.out.below (by first|exact(af b _).drew|exact(af b _)|exact((Ξ _ b).drew.alloc .refl _)|exact((Ξ _ b).drew.alloc .refl _).drew))
     b.heap.size 1 1 [Θ Ψ p,q] (by rfl) (by rfl) (World.news_of_block (cs:=#[p,q]) (t:=50) (fr:=(0,0))<|ε b _) (by simp[Value.oneCell'])
     (by omega) (by unfold Z8;omega) (by omega) (by simp;omega) (b.heap.size+1) (by simp) ?_;intro gg Q w4 v j N hlt;have gf4:w4.frozen? bs=Z:=(j.frozen_far bs (by simp;omega) (ZG HN.out)).trans ((((af b _).drew).frozen (p:=⟨bs,0,M⟩) r).trans gf);have gc4:w4 bs=U (.slice a l.length m):=(j.cell_far bs (by simp;omega) (ZG HN.out)).trans ((((af b _).drew).cell (p:=⟨bs,0,M⟩) r).trans g0)))
 all_goals go_wp2
 all_goals
  go_ret;obtain⟨b2,b3,m3⟩:=HB.out;have T:b.grownBy w4 (Zr<|.slice a l.length m):=ae2 (by first|exact(af b _).drew|exact(af b _)|exact((Ξ _ b).drew.alloc .refl _)|exact((Ξ _ b).drew.alloc .refl _).drew) j;have S:OV w4 B (.slice gg (l.length+1) Q) (l++[(p,q)]):=by unfold OV;rw[List.flatMap_append,υ];exact v
  obtain⟨e1,e2⟩:=IE W.out b2 b3 m3 T S (by obtain e|e:=N;exact .inl e;exact .inr<|by omega);exact⟨⟨_,rfl⟩,_,e1,e2⟩
end
def IG(w B bs bm so l p q)(hs:bS w B bs bm so l)(c:l.length<=1000000):
 μ prog 197 #[.pointer bs,.agg #[Θ Ψ p,Θ Ψ q]] w λe w'=>(∃i,e=.returned (Θ Ψ i))/\(∃a,bS w' B bs bm a (meet l (p,q))/\cz w w' bs bm so a):=by
 by_cases b:(p,q)∈l
 exact ID w B bs bm so l p q hs b;exact IF w B bs bm so l p q hs b c
def IH(l v):(meet l v).length<=l.length+1:=by unfold meet;split<;>simp
def lW(a):∀vs l,(visit a l vs).length<=l.length+vs.length
 |[],l=>by simp[visit]
 |v::vs,l=>by have:=lW a vs (if a v then meet l v else l);have b:=IH l v;simp only[visit,List.foldl_cons]at this⊢;split at this<;>split<;>simp_all<;>omega
def B2(a vs l v):visit a l (vs++[v])=if a v then meet (visit a l vs) v else visit a l vs:=by simp[visit]
def wn(f:Nat)(mv:HV->Bool):Prop:=(f=151/\mv=dy)\/(f=168/\mv=co)
def Q5(v:R)(bs bm:Nat)(so:R):Prop:=∀a n m,v=ZV (U a) n m->0<n->wm a.block bs bm so
def wo(f F)(P:wn f F)(w)(B bs bm A E:Nat)(so v l vs)(hs:bS w B bs bm so l)(hv:eI w v vs)(hf:Q5 v bs bm so)(Q:w A=U (.func (.func f) #[] #[]))(f1:wm A bs bm so)(N:w E=U (.pointer bs))(f2:wm E bs bm so)(hl:l.length+vs.length<=1000000):
 μ prog 196 #[v,.pointer A,.pointer E] w λe w'=>e=.returned (.tuple #[])/\(∃d,bS w' B bs bm d (visit F l vs)/\cz w w' bs bm so d):=by
 have HV:=V hv;have HF:=V hf;have S:=V f1;have O:=V f2;obtain⟨a,m,rfl,hm,hm2,ha⟩:=hv;have X:=az Q;have T:=az N;have H1:=V Q;have H2:=V N;have HA:=V ha;clear Q N ha hf f1 f2
 go_enter (fU func196 rfl),ntmps196
 go_wp2
 go_loopw [8] (λi wr=>∃k:Nat,k<=vs.length/\i=Θ Ψ k/\∃d,bS wr B bs bm d (visit F l<|vs.take k)/\cz w wr bs bm so d) (λi _=>vs.length-(intOf i).toNat)
 case atStart=>exact⟨0,Nat.zero_le _,rfl,so,hs,cz.refl _⟩
 case round=>
  obtain⟨k,hk,rfl,d,j,g⟩:=hrel;by_cases L:k<vs.length
  ·obtain⟨ba,oa,rfl,D,C⟩:=HA.out (by omega);obtain⟨p,q,e1⟩:=ep L;have hz:=g.size;have fr:=HF.out _ _ _ rfl (by omega);obtain⟨d1,d2⟩:=C k p q e1;have c1:=(g.cell (a:=⟨ba,oa+k*2,M⟩) D fr.1 fr.2.1 fr.2.2).trans d1;have c2:=(g.cell (a:=⟨ba,oa+k*2+1,M⟩) D fr.1 fr.2.1 fr.2.2).trans d2;have H:=(g.cell (a:=⟨A,0,M⟩) X S.out.1 S.out.2.1 S.out.2.2).trans H1.out;have z:=(g.cell (a:=⟨E,0,M⟩) T O.out.1 O.out.2.1 O.out.2.2).trans H2.out;have hvl:=lW F (vs.take k) l;have am0:(vs.take k).length<=k:=List.length_take_le _ _;have hb1':A<wr:=by omega
   have o:E<wr:=by omega
   have K:=V e1;have J:=V j;have G:=V g;have FR:=V fr;clear C e1 j g fr d1 d2;have n:(visit F l<|vs.take k).length<=1000000:=by omega
   obtain⟨rfl,rfl⟩|⟨rfl,rfl⟩:=P
   ·by_cases y:dy (p,q)=κ
    ·have x:=V y
     go_wp2_with fail
     refine(wd _ (p,q)).mono ?_;rintro e h ⟨rfl,c⟩;have b:=(af _ _).trans<|c.mono<|by simp
     have n1:h wr.heap.size=U (Θ Ψ p):=(c.cell (p:=⟨wr.heap.size,0,M⟩)<|by simp).trans (by go_simp);have n2:h (wr.heap.size,1)=U (Θ Ψ q):=(c.cell (p:=⟨wr.heap.size,1,M⟩)<|by simp).trans (by go_simp);have g3:=cG b z o;have W:=b.size;clear c1 c2 H z
     go_wp2_with fail
     refine(IG _ B bs bm d _ p q (J.out.below b) n).mono ?_;rintro e w4 ⟨⟨ix,rfl⟩,r,s,u⟩
     go_wp2_with fail
     exact⟨⟨k+1,by omega,by go_num,r,by rw[bW K.out,B2,if_pos x.out];exact s,G.out.trans<|(cz.bK b).trans u⟩,by simp[intOf];omega⟩
    ·have t:dy (p,q)=Z:=by simpa using y
     have x:=V t;clear y
     go_wp2_with fail
     refine(wd _ (p,q)).mono ?_;rintro e h ⟨rfl,c⟩;have b:I wr wr h:=(af _ _).trans<|c.mono<|by simp
     clear c1 c2 H z
     go_wp2_with fail
     exact⟨⟨k+1,by omega,by go_num,d,by rw[bW K.out,B2,if_neg (by rw[x.out];decide)];exact J.out.below b,G.out.trans<|cz.bK b⟩,by simp[intOf];omega⟩
   ·by_cases y:co (p,q)=κ
    ·have x:=V y
     go_wp2_with fail
     refine(sd _ (p,q)).mono ?_;rintro e h ⟨rfl,c⟩;have b:I wr wr h:=(af _ _).trans<|c.mono<|by simp
     have n1:h wr.heap.size=U (Θ Ψ p):=(c.cell (p:=⟨wr.heap.size,0,M⟩)<|by simp).trans (by go_simp);have n2:h (wr.heap.size,1)=U (Θ Ψ q):=(c.cell (p:=⟨wr.heap.size,1,M⟩)<|by simp).trans (by go_simp);have g3:=cG b z o;have W:=b.size;clear c1 c2 H z
     go_wp2_with fail
     refine(IG _ B bs bm d _ p q (J.out.below b) n).mono ?_;rintro e w4 ⟨⟨ix,rfl⟩,r,s,u⟩
     go_wp2_with fail
     exact⟨⟨k+1,by omega,by go_num,r,by rw[bW K.out,B2,if_pos x.out];exact s,G.out.trans<|(cz.bK b).trans u⟩,by simp[intOf];omega⟩
    ·have t:co (p,q)=Z:=by simpa using y
     have x:=V t;clear y
     go_wp2_with fail
     refine(sd _ (p,q)).mono ?_;rintro e h ⟨rfl,c⟩;have b:I wr wr h:=(af _ _).trans<|c.mono<|by simp
     clear c1 c2 H z
     go_wp2_with fail
     exact⟨⟨k+1,by omega,by go_num,d,by rw[bW K.out,B2,if_neg (by rw[x.out];decide)];exact J.out.below b,G.out.trans<|cz.bK b⟩,by simp[intOf];omega⟩
  ·go_wp2
   go_end0;rw[ω (by omega)]at j;exact⟨rfl,d,j,g⟩
end Kn
namespace Kn
open Go Go.RowKit Go.Shelf Md
section
attribute [local go_sem] Oper.semAt_some
def tb(B:Nat)(W W':Y):Prop:=I B W W'/\∀(k:Nat) cur fr,W.heap[k]?=U (.cells cur 23 fr) ->W'.heap[k]?=U (.cells cur 23 fr)
def tb.trans{B X a b}(h:tb B X a)(k:tb B a b):tb B X b:=⟨h.1.trans k.1,λi c fr e=>k.2 i c fr<|h.2 i c fr e⟩
def tb.refl(B X):tb B X X:=⟨Ξ _ _,λ_ _ _ e=>e⟩
def tb.book{B:Nat}{w:Y}(c:B<=w)(W l o o')(b:w.heap.size<=l)(h:W.heap[l]?=U o)(hc:o.isCells=Z)(hw:o.isWalk=Z):tb B W (W.putObj l o'):=⟨belowK_b c W l o o' b h hc hw,λk a fr e=>(World.putObj_heap_other (by rintro rfl;rw[h]at e;cases e;cases hc)).trans e⟩
def tb.alloc{B X a}(h:tb B X a)(c:B<=a)(o):tb B X (a.alloc o):=⟨h.1.alloc c o,λk b fr e=>(ZX a o k (Γ.1<|h.2 k b fr e).1).trans<|h.2 k b fr e⟩
def N8{a w:Y}{row}(h:a.grownBy w row):a.grownBy w.drew row:=⟨h.os,h.tape,h.output,h.size,h.block⟩
def II(w)(b:Nat):μ prog 198 #[.pointer b] w λe w'=>e=.returned (.func (.func 231) #[] #[.pointer w.heap.size])/\w'=w.alloc (χ #[.pointer b] 104):=by
 go_enter (fU func198 rfl),ntmps198
 go_wp2
 go_ret;exact⟨rfl,rfl⟩
def three(g:GH):List (List HV):=[g.roots,g.done,g.aA]
def Dx:∀(b:List (List HV)) k l j,b[k]?=U l->j<l.length->((b.take k).flatten++l.take j).length<b.flatten.length
 |[],k,l,j,h,_=>by simp at h
 |a::b,0,l,j,h,hj=>by grind
 |a::b,k+1,l,j,h,hj=>by
  have:=Dx b k l j (by simpa using h) hj
  grind
def uP(g):(three g).flatten=cJ g:=by simp[three,cJ]
def ET{a:List (List HV)}{k l}(h:a[k]?=U l):(a.take<|k+1).flatten=(a.take k).flatten++l.take l.length:=by rw[ZB,h];simp
def EU(n)(hn:1<=n)(l b bg:Nat)(g)(J Jx:List HV->Y->Prop)(W0 W:Y)(hJ:AbidesFrom W J) (hY:∀a x W1,J a W1->a.length<(cJ g).length->YieldAt Fence.wide (n-1) prog l #[ns x] W1 λe z=>
 (e=.returned (.bool κ)/\J (a++[x]) z/\tb W0 W1 z)\/(e=.returned (.bool Z)/\Jx (a++[x]) z)) (hbg:W bg=U (.pointer b)) (hg:mi W0 b g) (A:I W0 W0 W) (h0:J [] W):
 CallsIn Fence.wide n prog 231 #[.func (.yield l) #[] #[],.pointer bg] W λe z=>(∃v,e=.returned v)/\
  ((∃ys,ys=cJ g/\J ys z)\/(∃a,True/\Jx a z)):=by
 obtain⟨n0,o0,r0,wi,d0,m0,c0,c1,c2,c3,c4,c5,_,_,h3,h4,h5,_⟩:=hg;have H3:=V h3;have H4:=V h4;have H5:=V h5;obtain⟨ar,f,rfl,_,_,_⟩:=h3;obtain⟨aw,o,rfl,_,_,_⟩:=h4;obtain⟨ad,m,rfl,_,_,_⟩:=h5;have hb:=az c0;have f2:=cG A c2 hb;have f3:=cG A c3 hb;have f4:=cG A c4 hb;have ard:=az hbg;have hb':=Nat.lt_of_lt_of_le hb A.size;have HY:=V hY;clear hY c0 c1 c2 c3 c4 c5;refine callsIn_of_wp (fU func231 rfl) rfl trivial ?_ rfl;simp only[ntmps231,ZA,ZM,ZI,Nat.reduceAdd,Nat.reduceSub,Zk,Zj,Y7,Zb,YZ,Y3]
 gi_wp2_with fail
 refine wpIn_wide.2 ?_
 go_region_held3 (λT=>T bg=U (.pointer b)/\T (b,2)=U (.slice ar g.roots.length f)/\T (b,3)=U (.slice aw g.aA.length o)/\T (b,4)=U (.slice ad g.done.length m)) (go_keep) (fail)
 gi_wp2_with fail
 have hz0:=A.size;have F:tb W0 W ((W.alloc<|χ #[.slice ar g.roots.length f,.slice ad g.done.length m,.slice aw g.aA.length o] 23).drew):=by have:=(tb.refl W0 W).alloc hz0<|χ #[.slice ar g.roots.length f,.slice ad g.done.length m,.slice aw g.aA.length o] 23;exact⟨this.1.drew,this.2⟩
 have t:J [] ((W.alloc<|χ #[.slice ar g.roots.length f,.slice ad g.done.length m,.slice aw g.aA.length o] 23).drew):=hJ _ _ _ M h0 (N8<|Zd W _ M) (λr e=>by cases e);have hx:((W.alloc<|χ #[.slice ar g.roots.length f,.slice ad g.done.length m,.slice aw g.aA.length o] 23).drew).heap[W.heap.size]?=U (χ #[.slice ar g.roots.length f,.slice ad g.done.length m,.slice aw g.aA.length o] 23 (0,0)):=ε W _;have E:W.heap.size<((W.alloc<|χ #[.slice ar g.roots.length f,.slice ad g.done.length m,.slice aw g.aA.length o] 23).drew).heap.size:=by simp
 generalize (W.alloc _).drew=W9 at F t hx E⊢;have hL:∀k:Nat,k<3->∃ax mx l,(three g)[k]?=U l/\(∀X:Y,X.heap[W.heap.size]?=U (χ #[.slice ar g.roots.length f,.slice ad g.done.length m,.slice aw g.aA.length o] 23 (0,0)) ->X (W.heap.size,k)=U (.slice ax l.length mx))/\eI W0 (.slice ax l.length mx) l:=by
  intro k hk
  match k,hk with
  |0,_=>exact⟨ar,f,g.roots,rfl,λX e=>by simp[η,e],H3.out⟩
  |1,_=>exact⟨ad,m,g.done,rfl,λX e=>by simp[η,e],H5.out⟩
  |2,_=>exact⟨aw,o,g.aA,rfl,λX e=>by simp[η,e],H4.out⟩
 have HL:=V hL;have HX:=V hx;clear hL hx f2 f3 f4
 gi_loopw [24] (λi wr=>∃k:Nat,k<=3/\i=Θ Ψ k/\J ((three g).take k).flatten wr/\tb W0 W9 wr) (λi _=>3-(intOf i).toNat)
 case atStart=>exact⟨0,by omega,rfl,by simpa using t,tb.refl _ _⟩
 case round=>
  obtain⟨k,hk,rfl,y,u⟩:=hrel;clear t;by_cases D:k<3
  ·obtain⟨ax,mx,P,C,B,Js⟩:=HL.out k D;have hcw:=B wr<|u.2 _ _ _ HX.out;obtain⟨ax',mx',he,hmx,N4,H⟩:=Js;cases he
   have HA:=V H;have G:=V C;have N:=Nat.lt_of_lt_of_le E u.1.size;have w:decide ((k:Int)<3)=κ:=by simp;omega
   clear B H C
   gi_wp2_with fail
   clear w
   gi_loopw [30] (λi wr=>∃j:Nat,j<=P.length/\i=Θ Ψ j/\J (((three g).take k).flatten++P.take j) wr/\tb W0 W9 wr) (λi _=>P.length-(intOf i).toNat)
   case atStart=>exact⟨0,by omega,rfl,by simpa using y,u⟩
   case round=>
    obtain⟨j,hj,rfl,h,s⟩:=hrel;clear y hcw N;by_cases d:j<P.length
    ·obtain⟨ba,oa,e,hba,O⟩:=HA.out (by omega);cases e
     obtain⟨p,q,e1⟩:=ep d;have Q:=A.trans<|F.1.trans s.1;obtain⟨d1,d2⟩:=(O.below Q hba) j p q e1;have c:=Dx _ _ _ _ G.out d;rw[uP]at c;have L:=hJ _ _ (wr.alloc<|χ #[Θ Ψ p,Θ Ψ q] 50) M h (Zd wr _ M) (λr e=>by cases e);obtain⟨fn,tmps,S,body,hy,hR⟩:=HY.out _ (p,q) _ L c;unfold ns at hy;dsimp only at hy;have E1:=V e1;have hsz:=Q.size;clear O e1 c L h
     gi_wp2_with fail
     refine hR.mono ?_;rintro e W3 (⟨rfl,hJ3,w⟩|⟨rfl,K⟩)
     ·gi_wp2_with fail
      go_roundw
      case rel=>exact⟨j+1,by omega,by go_num,by rw[bW E1.out,<-Y5];exact hJ3,(s.alloc hsz _).trans w⟩
      case measure=>simp[intOf];omega
     ·gi_wp2_with fail
      refine Z9 (results_none rfl _ _ _) rfl ?_;exact⟨⟨_,rfl⟩,.inr ⟨_,trivial,K⟩⟩
    ·have hje:j=P.length:=by omega
     subst hje;rw[<-ET G.out]at h;clear d
     gi_wp2_with fail
     exact⟨⟨k+1,by omega,by go_num,h,s⟩,by simp[intOf];omega⟩
  ·have hke:k=3:=by omega
   subst hke;clear D
   gi_wp2_with fail
   go_end0;refine⟨⟨_,rfl⟩,.inl ⟨_,rfl,?_⟩⟩;rw[<-uP];exact y
def wu(n)(k:1<=n)(b c:Nat)(g)(w0 w:Y)(hb:I w0 w0 w)(a:w c=U (.pointer b))(i:mi w0 b g):
 SeqStopsK Fence.wide n prog 231 #[.pointer c] (λx=>#[ns x]) (tb w0) (λe=>e=cJ g) (λ_=>True) (cJ g).length w:=λl J j W d h m f h0=>
 EU n k l b c g J j w0 W h f (cG d a<|az a) i (hb.trans<|d.mono hb.size) h0
end
end Kn
