/- A part of the proof of GcMarks; no conditions. -/
import Init
import Derived.Test.YtbnmpafbfoaggaaGreatDoorM0
import Derived.WalkKit
import Derived.LoopTactic
import Derived.RegionTactic
import Derived.Deep.QuietTactic
import Derived.BigQuiet
import Derived.Outline
import Derived.OwnWalk
import Derived.Laws.StructEq
import Derived.KernelRfl
import Derived.Lib.Hide
import Derived.Below
import Derived.Maps.AppendAt
import Derived.Laws.MakeOwn
import Derived.Laws.Entries
import Derived.WalkSpells
import Derived.WalkMore
import Derived.StillTailTactics
import Derived.Deep.RegionHeld3
import Derived.Laws.CopyOwn
set_option linter.defProp false
set_option linter.unusedVariables false
set_option linter.unusedSimpArgs false
set_option maxRecDepth 100000
set_option maxHeartbeats 16000000
noncomputable section
open Go.Lib renaming hid->V,run_eql_slice_nil->Zy
open List renaming getElem?_eq_some_iff->Ω,getElem?_eq_getElem->Θ,mem_map->Γ,mem_of_getElem?->ω,mem_append_left->ψ,mem_append_right->χ,take_of_length_le->φ,eq_nil_of_length_eq_zero->ο,flatMap_cons->ξ,length_append->μ,mem_cons_of_mem->ι,pairwise_map->ζ,map_congr_left->ε,mem_flatMap->Z9,range->Z8,mem_cons_self->Z4,mem_append->Z1,map_append->Z0,getElem?_map->ZY,mem_range->ZS,mem_iff_getElem?->ZR,map_map->ZL,getElem?_append_left->ZH,getD->ZD,getElem?_cons_zero->ZB,map_cons->Zw,Nodup->Zv,getElem_idxOf->Zu,map_singleton->Zt,append_assoc->Zr,any_eq_true->Zp,length_cons->Zo,mem_filter->Zk,length_nil->Zj,getElem?_append_right->Zf,getElem?_eq_none_iff->Ze,drop_eq_getElem_cons->Zc,getElem?_eq_none->Y7,take_add_one->Y4,size_toArray->Y1,map_toArray->Y0,nil_append->YZ,nodup_nil->YX,map_nil->YT
open Option renaming some->U,none->θ
open Go.RowKit.Below renaming refl->Ψ
open Go.IntKind renaming i64->Ξ
open Go.Value renaming int->Δ,slice->ZJ
open Go.RowKit renaming Below->I
open Bool renaming false->Z,true->Y
open Go renaming World->R,Value->υ,Calls->κ,bodyPost_ret->ZU,maxLen->ZT,heap_alloc_new->ZQ,run_underlying->ZP,info_parts->ZO,madeCells->ZN,wpList->ZF,wp_seq->ZE,results->Zz,wpList_append_own->Zi,execOp->Zd,wpList_plain->Y2,typeInfo->YY
open Go.Result renaming andThen_ok->η
open Go.Region.linearise renaming go->Z2
open Go.Obj renaming cells->ZX
open Go.Addr renaming add->ZW
open Array renaming replicate->ZV,getElem?_setIfInBounds->Zl,getElem?_eq_some_iff->Zg,size_setIfInBounds->Zb,ext_getElem?->Y6
open Go.Builtin renaming firstCells->ZM,append_->ZC,lenOf->Zx,copy_->Zh
open Go.Sem renaming run_bind->ZK,run_pure->Y8
open Go.Act renaming eval->ZI,put->ZG
open Go.Region renaming schedule->ZA,binds->Y',linearise->Y5
open Go.World renaming ownsRow_nil->Zs,cell?->Y9,size_alloc->Y3
open Go.Instr renaming findAsking->Zq,field->Zn,makeSlice->Zm,findNow->Za,findKey->YW,sameNow->YV,lookup->YU
namespace Go.Proofs.YtbnmpafbfoaggaaGreatDoor
open Go.Proofs.Tryz hiding prog
open Go.Proofs.aD
namespace Md
abbrev HV:=Int×Int
abbrev HC:=Int×List HV
structure GH where
 new:List HC
 old:List HC
 roots:List HV
 aA:List HV
 done:List HV
 marked:List Int
 deriving DecidableEq
structure PH where
 cells:List HC
 roots:List HV
 aA:List Int
 done:List Int
 deriving DecidableEq
def co(v:HV):Bool:=v.1==3||v.1==4
def dy(v:HV):Bool:=v.1==3
def cp(bw:Int)(v:HV):HV:=if v.1=3 then(1,v.2+bw)else if v.1=4 then(1,v.2)else v
def Bz(bw:Int)(c:HC):HC:=(c.1,c.2.map<|cp bw)
def plain(g:GH):PH:=
 let o:Int:=g.old.length
 ⟨(g.old++g.new).map<|Bz o,g.roots.map<|cp o,(g.aA.map<|cp o).map (·.2),(g.done.map<|cp o).map (·.2)⟩
def ed(bw:Int)(v:HV):HV:=if v.1=1 then(if v.2<bw then(4,v.2)else(3,v.2-bw))else v
def qO(bw:Int)(c:HC):HC:=(c.1,c.2.map<|ed bw)
def Ij(h:PH)(bw:Nat):GH:=
 let o:Int:=bw
 ⟨(h.cells.drop bw).map<|qO o,(h.cells.take bw).map<|qO o,h.roots.map<|ed o,(h.aA.map λn=>((1,n):HV)).map<|ed o,(h.done.map λn=>((1,n):HV)).map<|ed o,[]⟩
def cU:List Int->Int
 |[]=>0
 |e::l=>if e=0 then cU l else e
def eO(g:GH)(v:HV):Int:=if v.2<0\/(if v.1=3 then(g.new.length:Int)else g.old.length)<=v.2 then 9 else 0
def mh(g:GH)(v:HV):Int:=
 if v.1=0 then(if v.2< -99\/99<v.2 then 13 else 0)
 else if v.1=2 then(if v.2=0 then 0 else 13)
 else if v.1=3\/v.1=4 then eO g v else 4
def zj(g:GH)(c:HC):Int:=
 if c.1<0\/2<c.1 then 4
 else if c.2.length<(if c.1=0 then 0 else if c.1=1 then 1 else 2)then 5
 else if(if c.1=0 then 4 else if c.1=1 then 1 else 2)<c.2.length then 6
 else cU (c.2.map<|mh g)
def jt(g:GH)(l:List Int)(i:Nat):Int:=
 let n:=l.getD i 0
 if n<0\/(g.old.length:Int)<=n then 9 else if n<=(if i=0 then-1 else l.getD (i-1) 0)then 14 else 0
def jW(c:HC):Bool:=c.2.any dy
def ju(g:GH):List Int:=(((Z8 g.old.length).filter λi=>jW<|g.old.getD i (0,[])).map λ(i:Nat)=>(i:Int))
def meet(order:List HV)(v:HV):List HV:=if order.contains v then order else order++[v]
def visit(jw:HV->Bool)(order l:List HV):List HV:=l.foldl (λo v=>if jw v then meet o v else o) order
def cellAt(g:GH)(v:HV):HC:=(if v.1=3 then g.new else g.old).getD v.2.toNat (0,[])
def Dm(g:GH)(jw:HV->Bool):Nat->Nat->List HV->List HV
 |0,_,o=>o
 |f+1,k,o=>match o[k]? with
  |none=>o
  |some v=>Dm g jw f (k+1)<|visit jw o (cellAt g v).2
def cJ(g:GH):List HV:=g.roots++g.done++g.aA
def bV(g:GH)(jw:HV->Bool)(more:List HV):List HV:=Dm g jw (g.new.length+g.old.length+1) 0<|visit jw (visit jw []<|cJ g) more
def lr(order:List HV)(from_:Int)(v:HV):HV:=if order.contains v then(4,from_+(order.idxOf v:Nat))else v
def EN(order:List HV)(from_:Int)(c:HC):HC:=(c.1,c.2.map<|lr order from_)
def move(g:GH)(order:List HV)(stay:Nat):GH:=⟨[],(g.old.take stay++order.map (cellAt g)).map<|EN order stay,g.roots.map<|lr order stay,g.aA.map<|lr order stay,g.done.map<|lr order stay,[]⟩
inductive uH where
 |minor|full|major
 deriving DecidableEq
def ka(g:GH):List HV:=g.marked.flatMap λn=>(g.old.getD n.toNat (0,[])).2
def aeP(s:uH)(g:GH):List HV×Nat:=
 match s with
 |.minor=>(bV g dy<|ka g,g.old.length)
 |_=>(bV g co [],0)
def has(alive:List Int)(v:HV):Bool:=v.1≠1||alive.contains v.2
def keeps(c:HC)(alive:List Int):List HV:=
 if c.1=0 then c.2
 else if c.1=2 then(if has alive (c.2.getD 0 (0,0))then [c.2.getD 1 (0,0)]else [])
 else []
def ml(l:List Int)(n:Int):List Int:=if l.contains n then l else l++[n]
def Dn(l:List HV)(q met:List Int):List Int×List Int:=l.foldl (λx v=>if v.1=1 then(if x.2.contains v.2 then x else(x.1++[v.2],x.2++[v.2]))else x) (q,met)
def VX(h:PH):List HV:=h.roots.filter (·.1==1)++h.done.map λn=>(1,n)
def zk(h:PH):Nat->List Int->List Int->List Int->List Int
 |0,_,_,alive=>alive
 |f+1,q,met,alive=>match q with
  |[]=>alive
  |n::q=>
   let alive:=ml alive n
   let(q,met):=Dn (keeps (h.cells.getD n.toNat (0,[])) alive) q met
   zk h f q met alive
def BA(h:PH)(alive:List Int):List Int:=
 let(q,met):=Dn (VX h) [] []
 zk h (h.cells.length+1) q met alive
def zl(h:PH):Nat->List Int->List Int
 |0,alive=>alive
 |f+1,alive=>
  let next:=BA h alive
  if alive.length<next.length then zl h f next else next
def alive(h:PH):List Int:=zl h (h.cells.length+1) []
def zm(c:HC)(alive:List Int):Bool:=(c.1==1||c.1==2)&&!has alive (c.2.getD 0 (0,0))
def lu(h:PH):PH:=
 let a:=alive h
 let h1:PH:=⟨h.cells.map λc=>if zm c a then(c.1,c.2.map λ_=>(2,0))else c,h.roots,h.aA.filter (a.contains ·),h.done++h.aA.filter (λn=>!a.contains n)⟩
 let b:=alive h1
 {h1 with cells:=h1.cells.zipIdx.map λx=>if b.contains (x.2:Int)then x.1 else(3,[])}
def Ik(h:PH)(n:Int):Int:=if n<0\/(h.cells.length:Int)<=n then 9 else if(h.cells.getD n.toNat (0,[])).1=3 then 10 else 0
def uI(h:PH)(v:HV):Int:=
 if v.1=0 then(if v.2< -99\/99<v.2 then 13 else 0)
 else if v.1=1 then Ik h v.2
 else if v.1=2 then(if v.2=0 then 0 else 13)else 4
def least(k:Int):Int:=if k=0 then 0 else if k=1 then 1 else if k=2 then 2 else 0
def tG(k:Int):Int:=if k=0 then 4 else if k=1 then 1 else if k=2 then 2 else 0
def iF(g:GH):GH:=Ij (lu<|plain g) g.old.length
def collect(s:uH)(g:GH):Option (Nat×GH):=
 let g:=if s=.major then iF g else g
 let(order,stay):=aeP s g
 if 32<stay+order.length then θ else U (order.length,move g order stay)
def jw(g:GH):Option (List HV):=
 let(order,stay):=aeP .minor g
 if 32<stay+order.length then θ
 else U ((Z8 g.new.length).map λ(n:Nat)=>if order.contains ((3,(n:Int)):HV)then((4,(stay:Int)+(order.idxOf ((3,(n:Int)):HV):Nat)):HV)else(2,0))
structure RS where
 g:GH
 minors:Int:=0
 uJ:Int:=0
 fk:Int:=0
 dA:Int:=0
 deriving DecidableEq
structure Cmd where
 op:Int
 to_:Int:=0
 a:Int:=0
 b:Int:=0
 deriving DecidableEq
def counted(r:RS)(s:uH)(n:Nat)(g:GH):RS:=
 match s with
 |.minor=>{r with g,minors:=r.minors+1,dA:=r.dA+n}
 |.full=>{r with g,uJ:=r.uJ+1,dA:=r.dA+n}
 |.major=>{r with g,fk:=r.fk+1,dA:=r.dA+n}
def Q1(r:RS)(s:uH):Option RS:=(collect s r.g).map λx=>counted r s x.1 x.2
def room(r:RS):Except Int RS:=
 if r.g.new.length<8 then .ok r
 else match Q1 r .minor with
  |some r=>.ok r
  |none=>match Q1 r .full with
   |some r=>.ok r
   |none=>.error 8
def rootOf(r:RS)(n:Int):Except Int HV:=if n<0\/(r.g.roots.length:Int)<=n then .error 9 else .ok (r.g.roots.getD n.toNat (0,0))
def el(r:RS)(n:Int)(v:HV):RS:={r with g:={r.g with roots:=r.g.roots.set n.toNat v}}
def made(r:RS)(kind bP:Int)(l:List Int):Except Int (HV×RS):=do
 for n in l do
  let _<-rootOf r n
 let r<-room r
 let eT:=List.replicate bP.toNat ((0,0):HV)++l.map λn=>r.g.roots.getD n.toNat (0,0)
 let new:=r.g.new++[(kind,eT)]
 pure ((3,(new.length:Int) -1),{r with g:={r.g with new}})
def Do(n:Int):List Int->List Int
 |[]=>[n]
 |m::l=>if m<n then m::Do n l else if m=n then m::l else n::m::l
def BB(c:HC)(k:Nat)(v:HV):HC:=(c.1,c.2.set k v)
def put(r:RS)(to_:Int)(v:HV)(place:Int):Except Int RS:=
 let own:=r.g.roots.getD to_.toNat (0,0)
 if !co own||(cellAt r.g own).1≠0 then .error 4
 else
  let c:=cellAt r.g own
  if place<0\/(c.2.length:Int)<=place then .error 9
  else
   let c':=BB c place.toNat v
   let g:=if own.1=3 then {r.g with new:=r.g.new.set own.2.toNat c'}else {r.g with old:=r.g.old.set own.2.toNat c'}
   let g:=if own.1=4/\dy v then {g with marked:=Do own.2 g.marked}else g
   .ok {r with g}
def seen(g:GH)(v:HV):HV:=if co v then(1,10*(cellAt g v).1+(cellAt g v).2.length)else v
end Md
namespace Kn
open Go Go.RowKit Md
section
def Il(w:R)(b o:Nat)(l:List HV):Prop:=∀i k n,l[i]?=U (k,n) ->w (b,o+i*2)=U (Δ Ξ k)/\w (b,o+i*2+1)=U (Δ Ξ n)
def Im(w:R)(b o:Nat)(l:List Int):Prop:=∀i n,l[i]?=U n->w (b,o+i)=U (Δ Ξ n)
def eI(w:R)(v:υ)(l:List HV):Prop:=∃a m,v=.slice a l.length m/\l.length<=m/\m<=9223372036854775807/\(0<l.length->∃b o,a=U ⟨b,o,θ⟩/\b<w/\Il w b o l)
def n9(w:R)(v:υ)(l:List Int):Prop:=∃a m,v=.slice a l.length m/\l.length<=m/\m<=9223372036854775807/\(0<l.length->∃b o,a=U ⟨b,o,θ⟩/\b<w/\Im w b o l)
def In(w:R)(b o:Nat)(l:List HC):Prop:=∀i k vs,l[i]?=U (k,vs) ->w (b,o+i*2)=U (Δ Ξ k)/\∃v,w (b,o+i*2+1)=U v/\eI w v vs
def sa(w:R)(v:υ)(l:List HC):Prop:=∃a m,v=.slice a l.length m/\l.length<=m/\m<=9223372036854775807/\(0<l.length->∃b o,a=U ⟨b,o,θ⟩/\b<w/\In w b o l)
section
variable{w w':R}{v:υ}
def az{b o:Nat}{x}(h:w (b,o)=U x):b<w:=by
 obtain a|a:=Nat.lt_or_ge b w.heap.size
 omega;simp[Y9,Array.getElem?_eq_none a]at h
def Il.below(a:I w w w'){b o:Nat}{l}(hb:b<w)(h:Il w b o l):Il w' b o l:=λi k n e=>by rw[a.cell hb,a.cell hb];exact h i k n e
def Im.below(a:I w w w'){b o:Nat}{l}(hb:b<w)(h:Im w b o l):Im w' b o l:=λi n e=>by rw[a.cell hb];exact h i n e
def eI.below(d:I w w w'){l}(h:eI w v l):eI w' v l:=by obtain⟨a,m,rfl,f,e,h⟩:=h;refine⟨a,m,rfl,f,e,λh0=>?_⟩;obtain⟨b,o,rfl,hb,c⟩:=h h0;exact⟨b,o,rfl,Nat.lt_of_lt_of_le hb d.size,c.below d hb⟩
def n9.below(d:I w w w'){l}(h:n9 w v l):n9 w' v l:=by obtain⟨a,m,rfl,f,e,h⟩:=h;refine⟨a,m,rfl,f,e,λh0=>?_⟩;obtain⟨b,o,rfl,hb,c⟩:=h h0;exact⟨b,o,rfl,Nat.lt_of_lt_of_le hb d.size,c.below d hb⟩
def In.below(a:I w w w'){b o:Nat}{l}(hb:b<w)(h:In w b o l):In w' b o l:=λi k c e=>by rw[a.cell hb,a.cell hb];obtain⟨f,v,d,h3⟩:=h i k c e;exact⟨f,v,d,h3.below a⟩
def sa.below(d:I w w w'){l}(h:sa w v l):sa w' v l:=by obtain⟨a,m,rfl,f,e,h⟩:=h;refine⟨a,m,rfl,f,e,λh0=>?_⟩;obtain⟨b,o,rfl,hb,c⟩:=h h0;exact⟨b,o,rfl,Nat.lt_of_lt_of_le hb d.size,c.below d hb⟩
def hU(w B n):I B w (w.drewN n):=⟨rfl,rfl,rfl,.refl,λ_ _=>rfl⟩
def af(w:R)(o):I w w (w.alloc o):=(Ψ _ _).alloc .refl o
def alE{w w1 o}(e:w.alloc o=w1):w1.heap[w.heap.size]?=U o/\I w.heap.size w w1/\w1.heap.size=w.heap.size+1:=by subst e;exact⟨ZQ w o,af w o,by simp⟩
end
def ep{l:List HV}{k}(h:k<l.length):∃p q,l[k]?=U (p,q):=⟨_,_,Θ h⟩
def cQ{l:List HC}{k}(h:k<l.length):∃p q,l[k]?=U (p,q):=⟨_,_,Θ h⟩
def lw{l:List Int}{k}(h:k<l.length):∃p,l[k]?=U p:=by simp_all
def VY(p q a b w):(Op.equalIn 10000 50 (.agg #[Δ Ξ p,Δ Ξ q])<|.agg #[Δ Ξ a,Δ Ξ b]).run prog w=.ok (p==a&&q==b) w:=by rw[run_equalIn_agg _ 9999 50 _ _ (by kernel_rfl) (by kernel_rfl)];simp[go_sem];by_cases h:p=a<;>by_cases c:q=b<;>simp[h,c,go_sem]
def aeQ(p q a b w):(binOp .neq 50 (.agg #[Δ Ξ p,Δ Ξ q])<|.agg #[Δ Ξ a,Δ Ξ b]).run prog w=.ok (.bool<|!(p==a&&q==b)) w:=by rw[run_neq_struct,VY];rfl
def nc(p q w):(binOp .neq 50 (.agg #[Δ Ξ p,Δ Ξ q])<|.agg #[Δ Ξ p,Δ Ξ q]).run prog w=.ok (.bool Z) w:=by rw[aeQ];simp
end
end Kn
namespace Md
def pR:∀N (l:List Nat),l.Nodup->(∀x∈l,x<N) ->l.length<=N
 |0,l,_,h=>by
  obtain _|⟨a,l⟩:=l
  exact .refl;exact absurd (h a Z4)<|Nat.not_lt_zero _
 |N+1,l,hn,h=>by
  by_cases d:N∈l
  have c:=pR N (l.erase N) (hn.erase N) λx b=>by grind
  grind
  ·have:=pR N l hn λx b=>by grind
   omega
def zH(g:GH)(v:HV):Prop:=(v.1=3/\0<=v.2/\v.2<g.new.length)\/(v.1=4/\0<=v.2/\v.2<g.old.length)
def Wb(g:GH)(v:HV):Nat:=if v.1=3 then v.2.toNat else g.new.length+v.2.toNat
structure c9(g:GH)(mv:HV->Bool)(o:List HV):Prop where
 nodup:o.Nodup
 ok:∀v∈o,zH g v/\mv v=Y
def c9.len{g i o}(h:c9 g i o):o.length<=g.new.length+g.old.length:=by
 have:=pR (g.new.length+g.old.length) (o.map<|Wb g) ?_ ?_;simpa using this;rw[Zv,ζ];refine h.nodup.imp_of_mem λ{a b} c hb d e=>d ?_;obtain⟨c,_⟩:=h.ok a c;obtain⟨hb,_⟩:=h.ok b hb;obtain⟨a1,p⟩:=a;obtain⟨n,q⟩:=b;unfold zH at c hb;unfold Wb at e
 grind
 intro x m;obtain⟨v,j,rfl⟩:=Γ.1 m;obtain⟨f,_⟩:=h.ok v j;unfold zH at f;unfold Wb;obtain⟨e,l,k⟩|⟨e,l,k⟩:=f
 rw[if_pos e];omega;rw[if_neg (by omega)];omega
def c9.nil(g b):c9 g b []:=⟨YX,λv a=>by cases a⟩
def c9.meet{g:GH}{d:HV->Bool}{o:List HV}{v:HV}(h:c9 g d o)(i:zH g v)(f:d v=Y):c9 g d (meet o v):=by
 unfold Md.meet;split
 exact h;rename_i hc;refine⟨?_,λx c=>?_⟩;rw[List.nodup_append];refine⟨h.nodup,by simp,λa j b hb e=>?_⟩
 grind
 obtain c|c:=Z1.1 c
 ·exact h.ok x c
 grind
def c9.visit{g:GH}{a:HV->Bool}:∀{vs:List HV} {o:List HV},c9 g a o->(∀v∈vs,a v=Y->zH g v) ->c9 g a (visit a o vs)
 |[],o,h,_=>h
 |v::vs,o,h,hv=>by
  have:Md.visit a o (v::vs)=Md.visit a (if a v then Md.meet o v else o) vs:=rfl;rw[this];refine c9.visit ?_ λx c=>hv x<|ι _ c;split
  rename_i b;exact h.meet (hv v Z4 b) b;exact h
def zI(g:GH)(v:HV):Prop:=co v=Y->zH g v
def pY{g v}(h:mh g v=0):zI g v:=by
 intro hc;obtain⟨k,n⟩:=v;unfold co at hc;unfold zH;simp at hc;obtain rfl|rfl:=hc
 simp[mh,eO]at h;omega;simp[mh,eO]at h;omega
def uQ(mv:HV->Bool):Prop:=mv=dy\/mv=co
def uQ.cell{mv}(h:uQ mv){v}(a:mv v=Y):co v=Y:=by
 obtain rfl|rfl:=h
 unfold dy at a;unfold co;rw[a];rfl;omega
def jB(g:GH):Prop:=∀c∈g.new++g.old,∀v∈c.2,zI g v
def j9{g v}(h:zH g v):cellAt g v∈g.new++g.old:=by
 unfold cellAt;obtain⟨e,a,b⟩|⟨e,a,b⟩:=h
 grind
 grind
def c9.round{g a o}{k:Nat}{v}(h:c9 g a o)(c:uQ a)(hc:jB g)(d:o[k]?=U v):c9 g a (Md.visit a o (cellAt g v).2):=h.visit λx e b=>hc _ (j9 (h.ok v<|ω d).1) x e<|c.cell b
def c9.Dm{g:GH}{a:HV->Bool}(b:uQ a)(hc:jB g):∀(f k:Nat) {o:List HV},c9 g a o->c9 g a (Dm g a f k o)
 |0,k,o,h=>h
 |f+1,k,o,h=>by
  unfold Md.Dm;split
  exact h;rename_i v c;exact c9.Dm b hc f (k+1)<|h.round b hc c
def c9.bV{g:GH}{a:HV->Bool}{more:List HV}(b:uQ a)(hc:jB g)(hs:∀v∈cJ g,zI g v)(d:∀v∈more,zI g v):c9 g a (bV g a more):=c9.Dm b hc _ _ (((c9.nil g a).visit λv c e=>hs v c<|b.cell e).visit λv c e=>d v c<|b.cell e)
section
variable{o:List HV}{mv:HV->Bool}{more:List HV}{g:GH}
def Xr{v x:HV}:x∈meet o v↔x∈o\/x=v:=by
 unfold meet
 grind
def Xs(o v):∃t,meet o v=o++t:=by
 unfold meet;split
 simp;simp
def Nz(a o v l):visit a o (v::l)=visit a (if a v then meet o v else o) l:=rfl
theorem G2{a:HV->Bool}:∀{l o:List HV} {x:HV},x∈visit a o l↔x∈o\/(x∈l/\a x=Y)
 |[],o,x=>by simp[visit]
 |v::l,o,x=>by
  rw[Nz,G2];split
  rename_i h;rw[Xr]
  grind
  grind
theorem G3(a:HV->Bool):∀(l o:List HV),∃t,visit a o l=o++t
 |[],o=>⟨[],by simp[visit]⟩
 |v::l,o=>by
  rw[Nz];split
  obtain⟨t,h⟩:=Xs o v;obtain⟨b,c⟩:=G3 a l<|meet o v;exact⟨t++b,by rw[c,h,Zr]⟩;exact G3 a l o
theorem Rx(g:GH)(a:HV->Bool):∀(f k:Nat) (o:List HV),∃t,Dm g a f k o=o++t
 |0,k,o=>⟨[],by simp[Dm]⟩
 |f+1,k,o=>by
  unfold Dm;split
  simp;rename_i v d;obtain⟨t,h⟩:=G3 a (cellAt g v).2 o;obtain⟨c,b⟩:=Rx g a f (k+1)<|visit a o (cellAt g v).2;exact⟨t++c,by rw[b,h,Zr]⟩
def Closed(g:GH)(mv:HV->Bool)(N:List HV):Prop:=∀v∈N,∀x∈(cellAt g v).2,mv x=Y->x∈N
def NA(g:GH)(mv:HV->Bool)(k:Nat)(o:List HV):Prop:=∀i v,i<k->o[i]?=U v->∀x∈(cellAt g v).2,mv x=Y->x∈o
def NA.all{k:Nat}(h:NA g mv k o)(b:o.length<=k):Closed g mv o:=λv a=>by obtain⟨i,hi⟩:=ZR.1 a;exact h i v (by grind) hi
theorem NB{g:GH}{a:HV->Bool}(c:uQ a)(hc:jB g):∀(f k:Nat) (o:List HV),c9 g a o->g.new.length+g.old.length<k+f->NA g a k o->Closed g a (Dm g a f k o)
 |0,k,o,ho,hf,h=>h.all (by have:=ho.len;omega)
 |f+1,k,o,ho,hf,h=>by
  unfold Dm;split
  rename_i n;exact h.all<|Ze.1 n;rename_i v d;obtain⟨t,l⟩:=G3 a (cellAt g v).2 o;refine NB c hc f (k+1) _ (ho.round c hc d) (by omega) λi u hi j x m b=>?_;have p:=(Ω.1 d).1;rw[l,ZH<|by omega]at j;rw[G2];by_cases e:i=k
  grind
  exact .inl<|h i u (by omega) j x m b
def Jw{v:HV}(h:v∈cJ g\/v∈more)(b:mv v=Y):v∈bV g mv more:=by
 obtain⟨t,a⟩:=Rx g mv (g.new.length+g.old.length+1) 0<|visit mv (visit mv []<|cJ g) more;unfold bV;rw[a];refine ψ _ ?_;rw[G2,G2]
 grind
def NC(b:uQ mv)(hc:jB g)(hs:∀v∈cJ g,zI g v)(c:∀v∈more,zI g v):Closed g mv (bV g mv more):=NB b hc _ _ _ (((c9.nil g mv).visit λv a d=>hs v a<|b.cell d).visit λv a d=>c v a<|b.cell d) (by omega) λi v hi=>absurd hi<|Nat.not_lt_zero _
def aej{M:HV->Prop}{l:List HV}(c:∀v∈o,M v)(b:∀v∈l,mv v=Y->M v):∀v∈visit mv o l,M v:=λv a=>(G2.1 a).elim (c v) λh=>b v h.1 h.2
theorem afn{g:GH}{b:HV->Bool}{M:HV->Prop}(a:∀v,M v->∀x∈(cellAt g v).2,b x=Y->M x):∀(f k:Nat) (o:List HV),(∀v∈o,M v) ->∀v∈Dm g b f k o,M v
 |0,k,o,h=>h
 |f+1,k,o,h=>by
  unfold Dm;split
  exact h;rename_i v c;exact afn a f (k+1) _<|aej h<|a v<|h v<|ω c
def ae9{M:HV->Prop}(b:∀v,M v->∀x∈(cellAt g v).2,mv x=Y->M x)(hs:∀v∈cJ g,mv v=Y->M v)(a:∀v∈more,mv v=Y->M v):∀v∈bV g mv more,M v:=afn b _ _ _ (aej (aej (λv c=>by cases c) hs) a)
end
section
def iZ(o:List Int)(l:List HV):List Int:=l.foldl (λo v=>if v.1=1 then ml o v.2 else o) o
def cellP(h:PH)(n:Int):HC:=h.cells.getD n.toNat (0,[])
def J9(h:PH):Nat->Nat->List Int->List Int
 |0,_,o=>o
 |f+1,k,o=>match o[k]? with
  |none=>o
  |some n=>J9 h f (k+1)<|iZ o (cellP h n).2
def tt(n:Int):HV:=(1,n)
def G4(h:PH):List HV:=h.roots++h.done.map tt++h.aA.map tt
def fd(h:PH):List Int:=J9 h (h.cells.length+1) 0<|iZ []<|G4 h
def yA(N:List Int)(v:HV):HV:=if v.1=1 then(1,((N.idxOf v.2:Nat):Int))else v
def oZ(N:List Int)(n:Int):Int:=((N.idxOf n:Nat):Int)
def normal(h:PH):PH:=⟨(fd h).map λn=>((cellP h n).1,(cellP h n).2.map<|yA<|fd h),h.roots.map<|yA<|fd h,h.aA.map<|oZ<|fd h,h.done.map<|oZ<|fd h⟩
def oy(o v l):iZ o (v::l)=iZ (if v.1=1 then ml o v.2 else o) l:=rfl
def ND{l n x}:x∈ml l n↔x∈l\/x=n:=by
 unfold ml
 grind
def QB{l n}(h:l.Nodup):(ml l n).Nodup:=by
 unfold ml
 grind
structure Ren(h h':PH)(p:Int->Int)(N:Int->Prop):Prop where
 rs:∀n,N n->0<=n/\n<h.cells.length/\0<=p n/\p n<h'.cells.length
 inj:∀n m,N n->N m->p n=p m->n=m
 cell:∀n,N n->cellP h' (p n)=((cellP h n).1,(cellP h n).2.map λv=>if v.1=1 then(1,p v.2)else v)
 eT:∀n,N n->∀v∈(cellP h n).2,v.1=1->N v.2
 roots:h'.roots=h.roots.map λv=>if v.1=1 then(1,p v.2)else v
 QD:∀v∈h.roots,v.1=1->N v.2
 aA:h'.aA=h.aA.map p
 Ko:∀n∈h.aA,N n
 done:h'.done=h.done.map p
 Pq:∀n∈h.done,N n
section
variable{h h':PH}{p:Int->Int}{N:Int->Prop}
def PP(p:Int->Int)(v:HV):HV:=if v.1=1 then(1,p v.2)else v
def Xt(hi:∀n m,N n->N m->p n=p m->n=m){o n}(b:∀x∈o,N x)(a:N n):ml (o.map p) (p n)=(ml o n).map p:=by
 have e:(o.map p).contains (p n)=o.contains n:=by grind
 unfold ml
 grind
theorem Ka(hi:∀n m,N n->N m->p n=p m->n=m):∀(l:List HV) (o:List Int),(∀x∈o,N x) ->(∀v∈l,v.1=1->N v.2) ->iZ (o.map p) (l.map<|PP p)=(iZ o l).map p
 |[],o,_,_=>rfl
 |v::l,o,ho,hl=>by
  rw[Zw,oy,oy];by_cases a:v.1=1
  have b:=hl v Z4 a;have e:PP p v=(1,p v.2):=by simp[PP,a]
  rw[e,if_pos a,Xt hi ho b];exact Ka hi l _ (λx c=>(ND.1 c).elim (ho x) λe=>e▸b) λw hw=>hl w<|ι _ hw;have e:PP p v=v:=by simp[PP,a]
  rw[e,if_neg a,if_neg a];exact Ka hi l _ ho λw hw=>hl w<|ι _ hw
def G5{l}:∀{o},(∀x∈o,N x) ->(∀v∈l,v.1=1->N v.2) ->∀x∈iZ o l,N x:=by
 induction l with
 |nil=>exactλa _=>a
 |cons v l d=>
  intro o a b;rw[oy];refine d ?_ λw hw=>b w<|ι _ hw;split
  rename_i c
  exactλx f=>(ND.1 f).elim (a x) λe=>e▸b v Z4 c
  omega
theorem qD:∀(l:List HV) {o:List Int},o.Nodup->(iZ o l).Nodup
 |[],o,h=>h
 |v::l,o,h=>by
  rw[oy];refine qD l ?_;split
  exact QB h;exact h
def Q6(h:∀n,N n->0<=p n/\p n<(h'.cells.length:Int))(hi:∀n m,N n->N m->p n=p m->n=m){o:List Int}(f:∀x∈o,N x)(d:o.Nodup):o.length<=h'.cells.length:=by
 have:=pR h'.cells.length (o.map λn=>(p n).toNat) ?_ ?_
 grind
 rw[Zv,ζ];refine d.imp_of_mem λ{a b} g hb c e=>c ?_
 grind
 grind
def Ren.Dm(a:Ren h h' p N):∀f b k o,(∀x∈o,N x) ->o.Nodup->h.cells.length<k+f->h'.cells.length<k+b->J9 h' b k (o.map p)=(J9 h f k o).map p/\(∀x∈J9 h f k o,N x)/\(J9 h f k o).Nodup:=by
 intro f
 induction f with
 |zero=>
  intro b k o d c q l;have j:=Q6 (h':=h) (p:=id) (λn c=>⟨(a.rs n c).1,(a.rs n c).2.1⟩) (λ_ _ _ _ e=>e) d c;refine⟨?_,d,c⟩;cases b with
  |zero=>rfl
  |succ b=>unfold J9;rw[(Ze.2 (by simp;omega))]
 |succ f i=>
  intro b k o d c q l;unfold J9;cases hk:o[k]? with
  |none=>
   have e:(o.map p)[k]?=θ:=by rw[ZY,hk];rfl
   refine⟨?_,d,c⟩;cases b with
   |zero=>rfl
   |succ b=>dsimp only;rw[e]
  |some n=>
   have e:(o.map p)[k]?=U (p n):=by rw[ZY,hk];rfl
   have g:=d n<|ω hk;have j:=Q6 (h':=h') (p:=p) (λn c=>(a.rs n c).2.2) a.inj d c;have m:=(Ω.1 hk).1;cases b with
   |zero=>omega
   |succ b=>dsimp only;rw[e];dsimp only;rw[a.cell n g];have e2:=Ka a.inj (cellP h n).2 o d<|a.eT n g;unfold PP at e2;dsimp only;rw[e2];exact i b (k+1) _ (G5 d<|a.eT n g) (qD _ c) (by omega) (by omega)
def Ren.cJ(a:Ren h h' p N):G4 h'=(G4 h).map (PP p):=by unfold G4;rw[a.roots,a.done,a.aA];simp;rfl
def Ren.Ry(a:Ren h h' p N):∀v∈G4 h,v.1=1->N v.2:=by
 intro v b d;obtain b|b:=Z1.1 b
 obtain b|b:=Z1.1 b
 ·exact a.QD v b d
 obtain⟨n,c,rfl⟩:=Γ.1 b;exact a.Pq n c;obtain⟨n,c,rfl⟩:=Γ.1 b;exact a.Ko n c
def Ren.order(a:Ren h h' p N):fd h'=(fd h).map p/\(∀x∈fd h,N x)/\(fd h).Nodup:=by unfold fd;rw[a.cJ,show []=[].map p from rfl,Ka a.inj _ _ (λx b=>by cases b) a.Ry];exact a.Dm _ _ 0 _ (G5 (λx b=>by cases b) a.Ry) (qD _ YX) (by omega) (by omega)
theorem PQ(hi:∀n m,N n->N m->p n=p m->n=m){n:Int}(b:N n):∀(o:List Int),(∀x∈o,N x) ->(o.map p).idxOf (p n)=o.idxOf n
 |[],_=>rfl
 |x::o,ho=>by
  rw[Zw,List.idxOf_cons,PQ hi b o λy a=>ho y<|ι _ a]
  grind
theorem Ren.normal(a:Ren h h' p N):normal h'=normal h:=by
 obtain⟨e,d,_⟩:=a.order;have er:∀v:HV,(v.1=1->N v.2) ->yA (fd h') (PP p v)=yA (fd h) v:=λv c=>by
  unfold yA PP;by_cases f:v.1=1
  simp only[f,if_true,e,PQ a.inj (c f) _ d];simp only[f,if_false]
 have g:∀n:Int,N n->oZ (fd h') (p n)=oZ (fd h) n:=λn b=>by unfold oZ;rw[e,PQ a.inj b _ d]
 unfold Md.normal;rw[PH.mk.injEq];refine⟨?_,?_,?_,?_⟩;have i:∀n∈fd h,((cellP h'<|p n).1,(cellP h'<|p n).2.map<|yA<|fd h')=((cellP h n).1,(cellP h n).2.map<|yA<|fd h):=λn b=>by rw[a.cell n (d n b)];dsimp only;rw[ZL];exact congrArg (Prod.mk _)<|ε λv c=>er v<|a.eT n (d n b) v c
 simp_all
 ·rw[a.roots,ZL];exact ε λv c=>er v<|a.QD v c
 rw[a.aA,ZL];exact ε λn b=>g n<|a.Ko n b
 ·rw[a.done,ZL];exact ε λn b=>g n<|a.Pq n b
end
end
section
def aaM(v:HV):Prop:=(v.1=0/\-99<=v.2/\v.2<=99)\/(v.1=2/\v.2=0)
def ta(g:GH)(v:HV):Prop:=aaM v\/zH g v
def RJ(g:GH)(c:HC):Prop:=((c.1=0/\c.2.length<=4)\/(c.1=1/\c.2.length=1)\/(c.1=2/\c.2.length=2))/\∀v∈c.2,ta g v
structure Oi(g:GH)(l:List HV):Prop where
 nodup:l.Nodup
 cells:∀v∈l,zH g v
 wW:l.length<=40
structure VG(g:GH):Prop where
 cells:∀c∈g.new++g.old,RJ g c
 news:g.new.length<=8
 bw:g.old.length<=32
 four:g.roots.length=4
 roots:∀v∈g.roots,ta g v
 aA:Oi g g.aA
 done:Oi g g.done
 marks:∀n∈g.marked,0<=n/\n<g.old.length
 order:g.marked.Pairwise (·<·)
 ju:∀(i:Nat) c,g.old[i]?=U c->jW c=Y->(i:Int)∈g.marked
def zH.cell{g v}(h:zH g v):co v=Y:=by unfold co;obtain h|h:=h<;>simp[h.1]
def ta.VQ{g v}(h:ta g v):zI g v:=by
 intro hc;obtain h|h:=h
 unfold co at hc;simp at hc;obtain h|h:=h<;>omega
 exact h
def VG.Kx{g}(h:VG g):jB g:=λc hc v a=>((h.cells c hc).2 v a).VQ
def VG.JZ{g}(h:VG g):∀v∈cJ g,ta g v:=by
 intro v a;obtain a|a:=Z1.1 a
 ·obtain a|a:=Z1.1 a
  ·exact h.roots v a
  ·exact .inr<|h.done.cells v a
 exact .inr<|h.aA.cells v a
def γ{g v}(h:VG g)(a:v∈ka g):∃c∈g.old,v∈c.2:=by
 obtain⟨n,b,a⟩:=Z9.1 a
 grind
def VG.Qt{g}(h:VG g):∀v∈ka g,ta g v:=λv a=>by obtain⟨c,hc,a⟩:=γ h a;exact(h.cells c<|χ _ hc).2 v a
def VG.By{g}(h:VG g):g.marked.length<=32:=by
 have:=pR g.old.length (g.marked.map Int.toNat) ?_ ?_;have:=h.bw
 grind
 rw[Zv,ζ];refine h.order.imp_of_mem λ{a b} c hb d e=>?_;have:=h.marks a c;omega;intro x f;obtain⟨n,i,rfl⟩:=Γ.1 f;have:=h.marks n i;omega
def hE(g:GH):List HV:=bV g dy<|ka g
def ls{g v}(a:v∈cJ g)(b:v.1=3):v∈hE g:=Jw (.inl a) (by simp[dy,b])
section
variable{g:GH}(h:VG g)
include h
def Ky:c9 g dy (hE g):=c9.bV (.inl rfl) h.Kx (λv a=>(h.JZ v a).VQ) λv a=>(h.Qt v a).VQ
def pO{v}(c:v∈hE g):v.1=3/\0<=v.2/\v.2<g.new.length:=by
 obtain⟨a,b⟩:=(Ky h).ok v c;have b:v.1=3:=by simpa[dy]using b
 obtain a|a:=a
 omega;omega
def wb:(hE g).length<=g.new.length:=by
 have:=pR g.new.length ((hE g).map λv=>v.2.toNat) ?_ ?_
 grind
 rw[Zv,ζ];refine(Ky h).nodup.imp_of_mem λ{a b} f hb c e=>c ?_;have:=pO h f;have:=pO h hb;exact Prod.ext (by omega) (by omega);intro x i;obtain⟨v,d,rfl⟩:=Γ.1 i;have:=pO h d;omega
def Pm:Closed g dy (hE g):=NC (.inl rfl) h.Kx (λv a=>(h.JZ v a).VQ) λv a=>(h.Qt v a).VQ
def J0{c}(hc:c∈g.old){v}(b:v∈c.2)(a:v.1=3):v∈hE g:=by
 obtain⟨i,hi⟩:=ZR.1 hc;refine Jw (.inr<|Z9.2 ⟨_,h.ju i c hi<|Zp.2 ⟨v,b,by simp[dy,a]⟩,?_⟩) (by simp[dy,a])
 grind
def GG{v}(a:v∈hE g){x}(c:x∈(cellAt g v).2)(b:x.1=3):x∈hE g:=Pm h v a x c (by simp[dy,b])
end
def kg{N o v}(h:v∉N):lr N o v=v:=by simp[lr,h]
def n'{N o v}(h:v∈N):lr N o v=(4,o+(N.idxOf v:Nat)):=by simp[lr,h]
def afs{a:Type}[BEq a][LawfulBEq a]{N:List a}{v}(h:v∈N):N.idxOf v<N.length:=List.idxOf_lt_length_of_mem h
def aaN{N:List HV}{v u}(a:v∈N)(b:u∈N)(e:N.idxOf v=N.idxOf u):v=u:=by
 rw[<-(Zu<|afs a),<-(Zu<|afs b)]
 congr 1
def Ki{d g:Type}{f:d->g}{l:List d}(i:l.Nodup)(hi:∀a∈l,∀b∈l,f a=f b->a=b):(l.map f).Nodup:=by rw[Zv,ζ];exact i.imp_of_mem λ{a b} h hb c e=>c<|hi a h b hb e
def sX(g:GH):GH:=move g (hE g) g.old.length
def wq{g}:(sX g).old=(g.old++(hE g).map (cellAt g)).map (EN (hE g) g.old.length):=by simp[sX,move]
def np{g}:(sX g).old.length=g.old.length+(hE g).length:=by simp[wq]
section
variable{g:GH}(h:VG g)
include h
def J1{v}(a:ta g v)(c:v.1=3->v∈hE g):ta (sX g) (lr (hE g) g.old.length v):=by
 obtain a|⟨h1,h2,h3⟩|⟨h1,h2,h3⟩:=a
 have:v∉hE g:=λb=>by have:=(pO h b).1;obtain a|a:=a<;>omega
 rw[kg this];exact .inl a
 ·have b:=c h1;rw[n' b];have:=afs b;exact .inr<|.inr ⟨rfl,by omega,by rw[np];omega⟩
 have:v∉hE g:=λb=>by have:=(pO h b).1;omega
 rw[kg this];exact .inr<|.inr ⟨h1,h2,by rw[np];omega⟩
omit h in
def G1{u v}(j:ta g u)(h:u.1=3->u∈hE g)(i:ta g v)(f:v.1=3->v∈hE g)(e:lr (hE g) g.old.length u=lr (hE g) g.old.length v):u=v:=by
 have d:∀x:HV,ta g x->(x∉hE g->x.1=4->x.2<g.old.length):=λx c _ h4=>by obtain(c|c)|c|c:=c<;>omega
 by_cases b:u∈hE g<;>by_cases a:v∈hE g
 rw[n' b,n' a]at e;have e:=congrArg Prod.snd e;dsimp only at e;exact aaN b a (by omega);rw[n' b,kg a]at e
 grind
 rw[n' a,kg b]at e
 grind
 rwa[kg b,kg a]at e
def KD{l:List HV}(d:Oi g l)(hs:∀v∈l,v.1=3->v∈hE g):Oi (sX g) (l.map<|lr (hE g) g.old.length) where
 nodup:=Ki d.nodup λa j b hb e=>G1 (.inr<|d.cells a j) (hs a j) (.inr<|d.cells b hb) (hs b hb) e
 cells:=λv k=>by
  obtain⟨u,f,rfl⟩:=Γ.1 k;obtain c|c:=J1 h (.inr<|d.cells u f)<|hs u f
  exfalso;by_cases i:u∈hE g
  rw[n' i]at c;obtain c|c:=c<;>simp at c
  rw[kg i]at c;obtain hc|hc:=d.cells u f<;>obtain c|c:=c<;>omega
  omega
 wW:=by simpa using d.wW
def Ck(o:g.old.length+(hE g).length<=32):VG (sX g) where
 cells:=by
  intro c hc;have hc:c∈(sX g).old:=by have:(sX g).new=[]:=rfl;rwa[this,YZ]at hc
  rw[wq]at hc;obtain⟨d,hd,rfl⟩:=Γ.1 hc;have f:RJ g d/\∀x∈d.2,x.1=3->x∈hE g:=by
   obtain hd|hd:=Z1.1 hd
   exact⟨h.cells d<|χ _ hd,λx e a=>J0 h hd e a⟩;obtain⟨v,b,rfl⟩:=Γ.1 hd;exact⟨h.cells _<|j9 ((Ky h).ok v b).1,λx e a=>GG h b e a⟩
  refine⟨by simpa[EN]using f.1.1,λv b=>?_⟩;obtain⟨x,e,rfl⟩:=Γ.1 b;exact J1 h (f.1.2 x e)<|f.2 x e
 news:=Nat.zero_le _
 bw:=by rw[np];exact o
 four:=by simp[sX,move,h.four]
 roots:=λv b=>by obtain⟨x,e,rfl⟩:=Γ.1 b;exact J1 h (h.roots x e) λa=>ls (ψ _<|ψ _ e) a
 aA:=KD h h.aA λv b a=>ls (χ _ b) a
 done:=KD h h.done λv b a=>ls (ψ _<|χ _ b) a
 marks:=λn p=>by cases p
 order:=List.Pairwise.nil
 ju:=λi c hi m=>by
  exfalso;rw[wq]at hi;obtain⟨d,hd,rfl⟩:=Γ.1<|ω hi;obtain⟨x,e,a⟩:=Zp.1 m;obtain⟨u,k,rfl⟩:=Γ.1 e;have l:u.1=3->u∈hE g:=by
   obtain hd|hd:=Z1.1 hd
   exact J0 h hd k;obtain⟨v,b,rfl⟩:=Γ.1 hd;exact GG h b k
  by_cases j:u∈hE g
  rw[n' j]at a;simp[dy]at a;rw[kg j]at a;exact j<|l<|by simpa[dy]using a
end
end
section
def J2{g v}(h:zH g v):cellP (plain g) (cp g.old.length v).2=Bz g.old.length (cellAt g v):=by
 unfold cellP plain cellAt cp;obtain⟨a,c,h3⟩|⟨a,c,h3⟩:=h
 grind
 have b:v.2.toNat<g.old.length:=by omega
 simp[a];rw[ZH (by simpa using b)];simp[b]
def G7(g):(plain g).cells.length=g.old.length+g.new.length:=by simp[plain]
def aa0(g:GH)(n:Int):Prop:=∃v,zH g v/\(v.1=3->v∈hE g)/\n=(cp g.old.length v).2
def P2(g:GH)(n:Int):Int:=if n<g.old.length then n else g.old.length+((hE g).idxOf ((3,n-g.old.length):HV):Nat)
section
variable{g:GH}(h:VG g)
include h
def wL{v}(d:zH g v)(c:v.1=3->v∈hE g):P2 g (cp g.old.length v).2=(cp (sX g).old.length<|lr (hE g) g.old.length v).2:=by
 unfold P2 cp;obtain⟨b,e,h3⟩|⟨b,e,h3⟩:=d
 have a:=c b;rw[n' a]
 grind
 have a:v∉hE g:=λa=>by have:=(pO h a).1;omega
 rw[kg a]
 grind
def Ot{v}(a:ta g v)(c:v.1=3->v∈hE g):cp (sX g).old.length (lr (hE g) g.old.length v)=(if(cp g.old.length v).1=1 then(1,P2 g (cp g.old.length v).2)else cp g.old.length v):=by
 obtain a|a:=a
 have h3:v.1≠3/\v.1≠4/\v.1≠1:=by obtain a|a:=a<;>omega
 have b:v∉hE g:=λb=>by have:=(pO h b).1;omega
 rw[kg b];simp[cp,h3];have e1:(cp g.old.length v).1=1:=by unfold cp;obtain a|a:=a<;>simp[a.1]
 rw[if_pos e1,wL h a c];have e2:(cp (sX g).old.length<|lr (hE g) g.old.length v).1=1:=by
  by_cases b:v∈hE g
  rw[n' b];rfl;rw[kg b];obtain a|a:=a
  exact absurd (c a.1) b;simp[cp,a.1]
 exact Prod.ext e2 rfl
omit h in
def OO{u v}(k:zH g u)(j:zH g v)(e:(cp g.old.length u).2=(cp g.old.length v).2):u=v:=by unfold cp at e;obtain⟨a,b⟩:=u;obtain⟨c,d⟩:=v;obtain⟨f,i,h3⟩|⟨f,i,h3⟩:=k<;>obtain⟨h4,h5,h⟩|⟨h4,h5,h⟩:=j<;>dsimp only at f i h3 h4 h5 h<;>subst f<;>subst h4<;>simp at e⊢<;>omega
omit h in
def Qu{v}(a:ta g v)(b:v.1=3->v∈hE g)(c:(cp g.old.length v).1=1):aa0 g (cp g.old.length v).2:=by
 obtain a|a:=a
 have h3:v.1≠3/\v.1≠4/\v.1≠1:=by obtain a|a:=a<;>omega
 simp[cp,h3]at c;exact⟨v,a,b,rfl⟩
def yY{v}(i:zH g v)(f:v.1=3->v∈hE g):zH (sX g) (lr (hE g) g.old.length v)/\cellAt (sX g) (lr (hE g) g.old.length v)=EN (hE g) g.old.length (cellAt g v):=by
 obtain⟨c,e,h3⟩|⟨c,e,h3⟩:=i
 have a:=f c;have hi:=afs a;rw[n' a];refine⟨.inr ⟨rfl,by omega,by rw[np];dsimp only;omega⟩,?_⟩;show(sX g).old.getD _ _=_;rw[wq];simp only[(by omega:((g.old.length:Int)+((hE g).idxOf v:Nat)).toNat=g.old.length+(hE g).idxOf v)];rw[ZD,ZY,Zf<|by omega,Nat.add_sub_cancel_left,ZY,Θ hi,Zu hi];rfl;have a:v∉hE g:=λa=>by have:=(pO h a).1;omega
 rw[kg a];refine⟨.inr ⟨c,e,by rw[np];omega⟩,?_⟩;have d:v.2.toNat<g.old.length:=by omega
 have b:¬v.1=3:=by omega
 unfold cellAt;rw[if_neg b,if_neg b,wq,Z0,ZD,ZH<|by simpa using d];simp[d]
def cell_kept{v}(a:zH g v)(e:v.1=3->v∈hE g){x}(b:x∈(cellAt g v).2):ta g x/\(x.1=3->x∈hE g):=by
 refine⟨(h.cells _<|j9 a).2 x b,λc=>?_⟩;obtain a|a:=a
 exact GG h (e a.1) b c;have d:v.2.toNat<g.old.length:=by omega
 unfold cellAt at b;rw[if_neg (by omega),ZD,Θ d]at b;exact J0 h (List.getElem_mem d) b c
omit h in
def OT(l:List HV)(N o a p)(e:∀v∈l,(cp a<|lr N o v).2=p (cp o v).2):((l.map<|lr N o).map<|cp a).map (·.2)=((l.map<|cp o).map (·.2)).map p:=by simp_all
def VZ:Ren (plain g) (plain<|sX g) (P2 g) (aa0 g) where
 rs:=by
  rintro n ⟨v,a,c,rfl⟩;have l:=(yY h a c).1;rw[wL h a c,G7,G7];have f:∀(g:GH) (v:HV),zH g v->0<=(cp g.old.length v).2/\(cp g.old.length v).2<((g.old.length+g.new.length:Nat):Int):=λg v a=>by unfold cp;obtain⟨j,k,h3⟩|⟨j,k,h3⟩:=a<;>simp[j]<;>omega
  exact⟨(f g v a).1,(f g v a).2,(f _ _ l).1,(f _ _ l).2⟩
 inj:=by rintro n m ⟨v,a,c,rfl⟩ ⟨u,d,i,rfl⟩ e;rw[wL h a c,wL h d i]at e;have:=OO (yY h a c).1 (yY h d i).1 e;rw[G1 (.inr a) c (.inr d) i this]
 cell:=by rintro n ⟨v,a,c,rfl⟩;obtain⟨l,hc⟩:=yY h a c;rw[wL h a c,J2 l,J2 a,hc];unfold Bz EN;simp only[ZL];refine congrArg (Prod.mk _)<|ε λx o=>?_;obtain⟨j,k⟩:=cell_kept h a c o;exact Ot h j k
 eT:=by rintro n ⟨v,a,c,rfl⟩ x o b;rw[J2 a]at o;obtain⟨y,q,rfl⟩:=Γ.1 o;obtain⟨j,k⟩:=cell_kept h a c q;exact Qu j k b
 roots:=by show((g.roots.map _).map _)=(g.roots.map _).map _;simp only[ZL];exact ε λv a=>Ot h (h.roots v a) λb=>ls (ψ _<|ψ _ a) b
 QD:=by intro v a b;obtain⟨u,d,rfl⟩:=Γ.1 a;exact Qu (h.roots u d) (λb=>ls (ψ _<|ψ _ d) b) b
 aA:=OT _ _ _ _ _ λv a=>(wL h (h.aA.cells v a) λb=>ls (χ _ a) b).symm
 Ko:=by intro n p;obtain⟨v,a,rfl⟩:=Γ.1 p;obtain⟨u,d,rfl⟩:=Γ.1 a;exact⟨u,h.aA.cells u d,λb=>ls (χ _ d) b,rfl⟩
 done:=OT _ _ _ _ _ λv a=>(wL h (h.done.cells v a) λb=>ls (ψ _<|χ _ a) b).symm
 Pq:=by intro n p;obtain⟨v,a,rfl⟩:=Γ.1 p;obtain⟨u,d,rfl⟩:=Γ.1 a;exact⟨u,h.done.cells u d,λb=>ls (ψ _<|χ _ d) b,rfl⟩
def aan:normal (plain<|sX g)=normal (plain g):=(VZ h).normal
end
end
section
variable{g:GH}
def aq(g:GH)(l:List Int):GH:={g with marked:=l}
def VG.with(h:VG g){l:List Int}(a:∀n∈l,0<=n/\n<g.old.length)(b:l.Pairwise (·<·))(h3:∀(i:Nat) c,g.old[i]?=U c->jW c=Y->(i:Int)∈l):VG (aq g l):=⟨h.cells,h.news,h.bw,h.four,h.roots,⟨h.aA.nodup,h.aA.cells,h.aA.wW⟩,⟨h.done.nodup,h.done.cells,h.done.wW⟩,a,b,h3⟩
def afO(n p):(((Z8 n).filter p).map λ(i:Nat)=>(i:Int)).Pairwise (·<·):=by rw[ζ];exact(List.pairwise_lt_range.filter p).imp λh=>by omega
def Qv(h:VG g):VG (aq g<|ju g):=by refine h.with (λn a=>?_) (afO _ _) λi c hi hc=>?_;obtain⟨i,hi,rfl⟩:=Γ.1 a;have:=ZS.1 (Zk.1 hi).1;omega;have:=(Ω.1 hi).1;exact Γ.2 ⟨i,Zk.2 ⟨ZS.2 this,by simp[ZD,hi,hc]⟩,rfl⟩
def adr(g:GH):List Int:=(Z8 g.old.length).map λ(i:Nat)=>(i:Int)
def aaX(h:VG g):VG (aq g<|adr g):=by
 refine h.with (λn a=>?_) ?_ λi c hi hc=>?_;obtain⟨i,hi,rfl⟩:=Γ.1 a;have:=ZS.1 hi;omega;unfold adr;rw[ζ];exact List.pairwise_lt_range.imp λh=>by omega
 exact Γ.2 ⟨i,ZS.2 (Ω.1 hi).1,rfl⟩
theorem afR:∀{l m:List HV},l.Nodup->(∀x∈l,x∈m) ->l.length<=m.length
 |[],m,b,hs=>Nat.zero_le _
 |a::l,m,b,hs=>by have b:=List.nodup_cons.1 b;have c:=hs a Z4;have:=afR (m:=m.erase a) b.2 λx d=>(List.mem_erase_of_ne (by rintro rfl;exact b.1 d)).2<|hs x<|ι _ d;rw[List.length_erase_of_mem c]at this;have:=List.length_pos_of_mem c;simp;omega
def aee{l m}(d:VG (aq g l))(c:VG (aq g m))(hs:∀n∈l,n∈m):(sX<|aq g l).old.length<=(sX<|aq g m).old.length:=by
 rw[np,np];have:(hE<|aq g l).length<=(hE<|aq g m).length:=by refine afR (Ky d).nodup λv a=>?_;have hc:=Pm c;refine ae9 (g:=aq g l) (M:=(·∈hE (aq g m))) (λv a x e b=>hc v a x e b) (λv a b=>Jw (.inl a) b) (λv a b=>Jw (.inr ?_) b) v a;obtain⟨n,f,a⟩:=Z9.1 a;exact Z9.2 ⟨n,hs n f,a⟩
 show g.old.length+_<=g.old.length+_;omega
def afT(h:VG g):∀n∈ju g,n∈g.marked:=λn c=>by obtain⟨i,hi,rfl⟩:=Γ.1 c;obtain⟨a,b⟩:=Zk.1 hi;have:=ZS.1 a;exact h.ju i _ (Θ this) (by simpa[ZD,Θ this]using b)
def afP(h:VG g):∀n∈g.marked,n∈adr g:=λn a=>by have:=h.marks n a;exact Γ.2 ⟨n.toNat,ZS.2<|by omega,by omega⟩
def afo(g):(ju g).length<=g.old.length:=by unfold ju;rw[List.length_map];exact Nat.le_trans (List.length_filter_le _ _) (by simp)
def afU(h:VG g):(sX<|aq g<|ju g).old.length<=(sX g).old.length/\(sX g).old.length<=(sX<|aq g<|adr g).old.length/\
 normal (plain<|sX<|aq g<|ju g)=normal (plain<|sX g)/\normal (plain<|sX g)=normal (plain<|sX<|aq g<|adr g):=by
 have e:∀{l},VG (aq g l) ->normal (plain<|sX<|aq g l)=normal (plain g):=λa=>aan a;exact⟨aee (m:=g.marked) (Qv h) h<|afT h,aee (l:=g.marked) h (aaX h)<|afP h,(e<|Qv h).trans (aan h).symm,(aan h).trans (e<|aaX h).symm⟩
end
end Md
section
open Go Go.RowKit
def cG{B w w' p v}(h:I B w w')(c:w.cell? p=v)(a:p.block<B):w'.cell? p=v:=(h.cell a).trans c
end
namespace Kn
open Go Go.RowKit Md
def nd(w j h l)(g:eI w j l)(f:eI w h l):
 κ prog 27 #[j,h] w λe w'=>e=.returned (.bool Y)/\∃n,w'=w.drewN n:=by
 obtain⟨a,m,rfl,t,s,c⟩:=g;obtain⟨x,B,rfl,_,_,hb⟩:=f
 go_enter (fU func27 rfl),ntmps27
 go_wp2
 go_loopw [5] (λi wr=>∃k:Nat,k<=l.length/\i=Δ Ξ k/\∃n,wr=w.drewN n) (λi _=>l.length-(intOf i).toNat)
 case atStart=>exact⟨0,Nat.zero_le _,rfl,0,rfl⟩
 case round=>
  obtain⟨k,u,rfl,n,rfl⟩:=hrel
  go_wp2
  ·have d:k<l.length:=by assumption
   obtain⟨A,v,rfl,_,c⟩:=c (by omega);obtain⟨z,y,rfl,_,hb⟩:=hb (by omega);obtain⟨p,q,e1⟩:=ep d;obtain⟨c1,c2⟩:=c k p q e1;obtain⟨c3,r⟩:=hb k p q e1;have b:=nc p q;clear c hb
   go_quiet (fail)
   clear b c1 c2 c3 r
   go_wp2
   exact⟨⟨k+1,by omega,by go_num,_,rfl⟩,by simp[intOf];omega⟩
  ·have o:¬k<l.length:=by assumption
   go_ret;exact⟨rfl,_,rfl⟩
def v8(w h g l)(f:n9 w h l)(d:n9 w g l):
 κ prog 51 #[h,g] w λe w'=>e=.returned (.bool Y)/\∃n,w'=w.drewN n:=by
 obtain⟨a,m,rfl,r,o,b⟩:=f;obtain⟨u,z,rfl,_,_,hb⟩:=d
 go_enter (fU func51 rfl),ntmps51
 go_wp2
 go_loopw [5] (λi wr=>∃k:Nat,k<=l.length/\i=Δ Ξ k/\∃n,wr=w.drewN n) (λi _=>l.length-(intOf i).toNat)
 case atStart=>exact⟨0,Nat.zero_le _,rfl,0,rfl⟩
 case round=>
  obtain⟨k,s,rfl,n,rfl⟩:=hrel
  go_wp2
  ·have c:k<l.length:=by assumption
   obtain⟨y,t,rfl,_,b⟩:=b (by omega);obtain⟨x,v,rfl,_,hb⟩:=hb (by omega);obtain⟨p,e1⟩:=lw c;have c1:=b k p e1;have c3:=hb k p e1;have q:(p !=p)=Z:=by simp
   clear b hb
   go_quiet (fail)
   clear c1 c3
   go_wp2
   exact⟨⟨k+1,by omega,by go_num,_,rfl⟩,by simp[intOf];omega⟩
  ·have j:¬k<l.length:=by assumption
   go_ret;exact⟨rfl,_,rfl⟩
section
variable{w:R}
def uK{P f args a n v}(h:κ P f args (w.drewN<|a+n) λe w'=>e=.returned v/\∃m,w'=(w.drewN<|a+n).drewN m):
 κ P f args (w.drewN<|a+n) λe b=>e=.returned v/\∃m,b=w.drewN (a+m):=
 h.mono λ_ _ ⟨c,m,d⟩=>⟨c,n+m,by rw[d,World.drewN_drewN,Nat.add_assoc]⟩
def eI.drewN{v l}(h:eI w v l)(n):eI (w.drewN n) v l:=by trivial
def Dp(w o h l)(f:sa w o l)(d:sa w h l):
 κ prog 87 #[o,h] w λe w'=>e=.returned (.bool Y)/\∃n,w'=w.drewN n:=by
 obtain⟨a,m,rfl,E,s,b⟩:=f;obtain⟨z,D,rfl,_,_,hb⟩:=d
 go_enter (fU func87 rfl),ntmps87
 go_wp2
 go_loopw [5] (λi wr=>∃k:Nat,k<=l.length/\i=Δ Ξ k/\∃n,wr=w.drewN n) (λi _=>l.length-(intOf i).toNat)
 case atStart=>exact⟨0,Nat.zero_le _,rfl,0,rfl⟩
 case round=>
  obtain⟨k,y,rfl,n,rfl⟩:=hrel
  go_wp2
  ·have c:k<l.length:=by assumption
   obtain⟨B,F,rfl,_,b⟩:=b (by omega);obtain⟨x,A,rfl,_,hb⟩:=hb (by omega);obtain⟨p,q,e1⟩:=cQ c;obtain⟨c1,v1,c2,j⟩:=b k p q e1;obtain⟨c3,v2,v,g⟩:=hb k p q e1;have C:(p !=p)=Z:=by simp
   have t:=V j;have u:=V g;clear b hb j g
   go_quiet ((go_at_call 27;exact uK<|nd _ _ _ q (t.out.drewN _)<|u.out.drewN _))
   clear c1 c2 c3 v
   go_wp2
   exact⟨⟨k+1,by omega,by go_num,_,rfl⟩,by simp[intOf];omega⟩
  ·have r:¬k<l.length:=by assumption
   go_ret;exact⟨rfl,_,rfl⟩
def bl{B a}(h:I B a w)(n):I B a (w.drewN n):=⟨h.os,h.tape,h.output,h.size,h.block⟩
def GV(w:R)(v:υ)(g:GH):Prop:=∃n o r wi d m,v=.agg #[n,o,r,wi,d,m]/\sa w n g.new/\sa w o g.old/\eI w r g.roots/\eI w wi g.aA/\eI w d g.done/\n9 w m g.marked
def tH(w:R)(v:υ)(h:PH):Prop:=∃c r wi d,v=.agg #[c,r,wi,d]/\sa w c h.cells/\eI w r h.roots/\n9 w wi h.aA/\n9 w d h.done
def GV.below{w w' v g}(a:I w.heap.size w w')(h:GV w v g):GV w' v g:=by obtain⟨n,o,r,b,d,m,rfl,f,e,h3,h4,h5,c⟩:=h;exact⟨n,o,r,b,d,m,rfl,f.below a,e.below a,h3.below a,h4.below a,h5.below a,c.below a⟩
def tH.below{w w' v g}(a:I w.heap.size w w')(h:tH w v g):tH w' v g:=by obtain⟨c,r,b,d,rfl,f,e,h3,h4⟩:=h;exact⟨c,r,b,d,rfl,f.below a,e.below a,h3.below a,h4.below a⟩
def NU(w t l g)(f:GV w t g)(b:GV w l g):
 κ prog 26 #[t,l] w λe w'=>e=.returned (.bool Y)/\I w.heap.size w w':=by
 obtain⟨n,o,r,N,d,m,rfl,p,j,h3,h4,h5,u⟩:=f;obtain⟨O,o',P,K,d',m',rfl,i,v,k,y,q,s⟩:=b;have x:∀h c:Obj,I w.heap.size w ((w.alloc h).alloc c):=λh c=>(af w h).alloc (by simp) c;have a:=V x;clear x;have J:=V p;have L:=V j;have B:=V h3;have C:=V h4;have H5:=V h5;have z:=V u;have D:=V i;have A:=V v;have F:=V k;have H:=V y;have G:=V q;have E:=V s;clear p j h3 h4 h5 u i v k y q s
 go_enter (fU func26 rfl),ntmps26
 go_wp2_with fail
 refine(Dp _ _ _ g.new (J.out.below<|a.out _ _)<|D.out.below<|a.out _ _).mono ?_;rintro e w' ⟨rfl,n1,rfl⟩
 go_wp2_with fail
 refine(Dp _ _ _ g.old (L.out.below<|bl (a.out _ _) _)<|A.out.below<|bl (a.out _ _) _).mono ?_;rintro e w' ⟨rfl,W,rfl⟩
 go_wp2_with fail
 refine(nd _ _ _ g.roots (B.out.below<|bl (a.out _ _) _)<|F.out.below<|bl (a.out _ _) _).mono ?_;rintro e w' ⟨rfl,S,rfl⟩
 go_wp2_with fail
 refine(nd _ _ _ g.aA (C.out.below<|bl (a.out _ _) _)<|H.out.below<|bl (a.out _ _) _).mono ?_;rintro e w' ⟨rfl,T,rfl⟩
 go_wp2_with fail
 refine(nd _ _ _ g.done (H5.out.below<|bl (a.out _ _) _)<|G.out.below<|bl (a.out _ _) _).mono ?_;rintro e w' ⟨rfl,Q,rfl⟩
 go_wp2_with fail
 refine(v8 _ _ _ g.marked (z.out.below<|bl (a.out _ _) _)<|E.out.below<|bl (a.out _ _) _).mono ?_;rintro e w' ⟨rfl,X,rfl⟩
 go_wp2
 go_ret;exact⟨rfl,bl (a.out _ _) _⟩
end
section
variable(w:R)(n:Int)
def eB(v:HV):υ:=.agg #[Δ Ξ v.1,Δ Ξ v.2]
def gK(e:Int):List PanicEntry:=[{v:=.iface 177<|.agg #[Δ Ξ e],recovered:=Z}]
def aeR:κ prog 56 #[Δ Ξ n] w λe w'=>e=.returned (eB (0,n))/\I w.heap.size w w':=by
 go_enter (fU func56 rfl),ntmps56
 go_wp2
 exact ZU (v:=eB (0,n)) (by simp[Zz,results56,go_sem,eB]) rfl ⟨rfl,((Ψ _ _).alloc .refl _)⟩
def NV:κ prog 61 #[Δ Ξ n] w λe w'=>e=.returned (eB (3,n))/\I w.heap.size w w':=by
 go_enter (fU func61 rfl),ntmps61
 go_wp2
 exact ZU (v:=eB (3,n)) (by simp[Zz,results61,go_sem,eB]) rfl ⟨rfl,((Ψ _ _).alloc .refl _)⟩
def aeS:κ prog 59 #[Δ Ξ n] w λe w'=>e=.returned (eB (4,n))/\I w.heap.size w w':=by
 go_enter (fU func59 rfl),ntmps59
 go_wp2
 exact ZU (v:=eB (4,n)) (by simp[Zz,results59,go_sem,eB]) rfl ⟨rfl,((Ψ _ _).alloc .refl _)⟩
def V0:κ prog 58 #[] w λe w'=>e=.returned (eB (2,0))/\I w.heap.size w w':=by
 go_enter (fU func58 rfl),ntmps58
 go_wp2
 exact ZU (v:=eB (2,0)) (by simp[Zz,results58,go_sem,eB]) rfl ⟨rfl,((Ψ _ _).alloc .refl _)⟩
def aeT(v a n m)(b:v=.slice a n m):κ prog 55 #[v] w λe w'=>e=.returned (.agg #[Δ Ξ 0,v])/\I w.heap.size w w':=by
 subst b
 go_enter (fU func55 rfl),ntmps55
 go_wp2
 exact ZU (by simp[Zz,results55,go_sem]) rfl ⟨rfl,((Ψ _ _).alloc .refl _)⟩
def cd(e):κ prog 84 #[.bool Z,Δ Ξ e] w λr w'=>r=.returned (.tuple #[])/\w'=w:=by
 go_enter (fU func84 rfl),ntmps84
 go_wp2
 go_end0;exact⟨rfl,rfl⟩
def eU(e):κ prog 84 #[.bool Y,Δ Ξ e] w λr w'=>r=.panicked (gK e)/\w'=w:=by
 go_enter (fU func84 rfl),ntmps84
 go_wp2
 exact⟨rfl,rfl,rfl⟩
end
section
variable(w:R)(v:HV)
def wd:κ prog 151 #[eB v] w λe w'=>e=.returned (.bool<|dy v)/\I w w w':=by
 unfold eB dy
 go_enter (fU func151 rfl),ntmps151
 go_wp2
 go_ret;exact⟨rfl,((Ψ _ _).alloc .refl _)⟩
def sd:κ prog 168 #[eB v] w λe w'=>e=.returned (.bool<|co v)/\I w w w':=by
 obtain⟨k,n⟩:=v;unfold eB co;by_cases h:k=3
 ·have h3:(k==3)=Y:=by simp[h]
  simp only[h3,Bool.true_or]
  go_enter (fU func168 rfl),ntmps168
  go_wp2
  go_ret;exact⟨rfl,((Ψ _ _).alloc .refl _)⟩
 ·have h3:(k==3)=Z:=by simp[h]
  simp only[h3,Bool.false_or]
  go_enter (fU func168 rfl),ntmps168
  go_wp2
  go_ret;exact⟨rfl,((Ψ _ _).alloc .refl _)⟩
def mi(w:R)(b:Nat)(g:GH):Prop:=∃n o r wi d m,w b=U n/\w (b,1)=U o/\w (b,2)=U r/\w (b,3)=U wi/\w (b,4)=U d/\w (b,5)=U m/\
 sa w n g.new/\sa w o g.old/\eI w r g.roots/\eI w wi g.aA/\eI w d g.done/\n9 w m g.marked
def mi.below{w w':R}{b g}(a:I w w w')(h:mi w b g):mi w' b g:=by
 obtain⟨n,o,r,c,d,m,c0,c1,c2,c3,k,j,i,f,h3,h4,h5,e⟩:=h;refine⟨n,o,r,c,d,m,?_,?_,?_,?_,?_,?_,i.below a,f.below a,h3.below a,h4.below a,h5.below a,e.below a⟩
 all_goals rw[a.cell (az c0)];assumption
def dZ(c:Int)(e:Ending):Prop:=if c=0 then e=.returned (.tuple #[])else e=.panicked (gK c)
def dZ.ok{c}(h:c=0):dZ c (.returned<|.tuple #[]):=by unfold dZ;rw[if_pos h]
def dZ.bad{c d}(h:c=d)(hd:d≠0):dZ c (.panicked<|gK d):=by unfold dZ;subst h;rw[if_neg hd]
def we(b g v)(h:mi w b g):κ prog 169 #[.pointer b,eB v] w λe w'=>dZ (eO g v) e/\I w w w':=by
 obtain⟨n,o,r,f,d,m,c0,c1,_,_,_,_,⟨a1,m1,rfl,_,_,_⟩,⟨i,m2,rfl,_,_,_⟩,_⟩:=h;obtain⟨k,n⟩:=v;have hb:=az c0;unfold eB;by_cases h3:k=3
 ·subst h3;by_cases h0:n<0
  ·go_enter (fU func169 rfl),ntmps169
   go_wp2_with fail
   refine(eU _ _).mono ?_;rintro e w' ⟨rfl,rfl⟩;exact⟨rfl,dZ.bad (by simp[eO,h0])<|by decide,((Ψ _ _).alloc .refl _)⟩
  ·by_cases a:(g.new.length:Int)<=n
   ·go_enter (fU func169 rfl),ntmps169
    go_wp2_with fail
    refine(eU _ _).mono ?_;rintro e w' ⟨rfl,rfl⟩;exact⟨rfl,dZ.bad (by simp[eO,a])<|by decide,((Ψ _ _).alloc .refl _)⟩
   ·go_enter (fU func169 rfl),ntmps169
    go_wp2_with fail
    refine(cd _ _).mono ?_;rintro e w' ⟨rfl,rfl⟩
    go_wp2
    go_end0;exact⟨dZ.ok (by simp[eO];omega),((Ψ _ _).alloc .refl _)⟩
 ·have c:(k==3)=Z:=by simp[h3]
  by_cases h0:n<0
  ·go_enter (fU func169 rfl),ntmps169
   go_wp2_with fail
   refine(eU _ _).mono ?_;rintro e w' ⟨rfl,rfl⟩;exact⟨rfl,dZ.bad (by simp[eO,h0])<|by decide,((Ψ _ _).alloc .refl _)⟩
  ·by_cases a:(g.old.length:Int)<=n
   ·go_enter (fU func169 rfl),ntmps169
    go_wp2_with fail
    refine(eU _ _).mono ?_;rintro e w' ⟨rfl,rfl⟩;exact⟨rfl,dZ.bad (by simp[eO,a,h3])<|by decide,((Ψ _ _).alloc .refl _)⟩
   ·go_enter (fU func169 rfl),ntmps169
    go_wp2_with fail
    refine(cd _ _).mono ?_;rintro e w' ⟨rfl,rfl⟩
    go_wp2
    go_end0;exact⟨dZ.ok (by simp[eO,h3];omega),((Ψ _ _).alloc .refl _)⟩
def Io(b g v)(h:mi w b g)(a:mh g v=0):κ prog 167 #[.pointer b,eB v] w λe w'=>e=.returned (.tuple #[])/\I w w w':=by
 obtain⟨k,n⟩:=v;have H:=V h;clear h;by_cases h0:k=0
 ·subst h0;have c:-99<=n/\n<=99:=by simp[mh]at a;omega
  obtain⟨c,d⟩:=c;clear a;unfold eB
  go_enter (fU func167 rfl),ntmps167
  go_wp2_with fail
  refine(cd _ _).mono ?_;rintro e w' ⟨rfl,rfl⟩
  go_wp2
  go_end0;exact⟨rfl,((Ψ _ _).alloc .refl _)⟩
 ·by_cases d:k=2
  ·subst d;have c:n=0:=by simp[mh]at a;exact a
   subst c;clear a;unfold eB
   go_enter (fU func167 rfl),ntmps167
   go_wp2_with fail
   refine(cd _ _).mono ?_;rintro e w' ⟨rfl,rfl⟩
   go_wp2
   go_end0;exact⟨rfl,((Ψ _ _).alloc .refl _)⟩
  ·by_cases h3:k=3
   ·subst h3;have c:eO g (3,n)=0:=by simpa[mh]using a
    have f:=V c;clear a c;unfold eB
    go_enter (fU func167 rfl),ntmps167
    go_wp2_with fail
    refine(we _ b g (3,n)<|H.out.below<|af _ _).mono ?_;rintro e w' ⟨a,hw⟩;unfold dZ at a;rw[if_pos f.out]at a;subst a
    go_wp2
    go_end0;exact⟨rfl,(af _ _).trans<|hw.mono<|by simp⟩
   ·have h4:k=4:=by
     obtain h|h:=Decidable.em<|k=4
     exact h;simp[mh,h0,d,h3,h]at a
    subst h4;have c:eO g (4,n)=0:=by simpa[mh]using a
    have f:=V c;clear a c h0 d h3;unfold eB
    go_enter (fU func167 rfl),ntmps167
    go_wp2_with fail
    refine(we _ b g (4,n)<|H.out.below<|af _ _).mono ?_;rintro e w' ⟨a,hw⟩;unfold dZ at a;rw[if_pos f.out]at a;subst a
    go_wp2
    go_end0;exact⟨rfl,(af _ _).trans<|hw.mono<|by simp⟩
end
section
def lU(v:HV):List υ:=[Δ Ξ v.1,Δ Ξ v.2]
def eP(n:Int):List υ:=[Δ Ξ n]
def dW(c:Int×υ):List υ:=[Δ Ξ c.1,c.2]
def OV(w:R)(B:Nat)(v:υ)(l:List HV):Prop:=w.ownsRow B 50 2 v l.length<|l.flatMap lU
def OI(w:R)(B:Nat)(v:υ)(l:List Int):Prop:=w.ownsRow B 3 1 v l.length<|l.flatMap eP
def OC(w:R)(B:Nat)(v:υ)(l:List (Int×υ)):Prop:=w.ownsRow B 76 2 v l.length<|l.flatMap dW
def nh:(prog.info? 50).map (λi=>(i.zero,i.size,i.bytes))=U (U<|.agg #[Δ Ξ 0,Δ Ξ 0],2,16):=by kernel_rfl
def Dq:(prog.info? 3).map (λi=>(i.zero,i.size,i.bytes))=U (U<|Δ Ξ 0,1,8):=by kernel_rfl
def ni:(prog.info? 76).map (λi=>(i.zero,i.size,i.bytes))=U (U<|.agg #[Δ Ξ 0,ZJ θ 0 0],2,32):=by kernel_rfl
def lx:prog.underlying 23=U (.slice 50):=by kernel_rfl
def se:prog.underlying 24=U (.slice 3):=by kernel_rfl
def mF:prog.underlying 22=U (.slice 76):=by kernel_rfl
theorem jx{c:Type}(f:c->List υ)(x y:c->υ)(d:∀a,f a=[x a,y a]):∀(l:List c) (i:Nat) (a:c),l[i]?=U a->(l.flatMap f)[i*2]?=U (x a)/\(l.flatMap f)[i*2+1]?=U (y a)
 |[],i,a,h=>by simp at h
 |b::l,0,a,h=>by grind
 |b::l,i+1,a,h=>by
  have:=jx f x y d l i a (by simpa using h)
  grind
theorem zn{c:Type}(f:c->List υ)(x:c->υ)(d:∀a,f a=[x a]):∀(l:List c) (i:Nat) (a:c),l[i]?=U a->(l.flatMap f)[i]?=U (x a)
 |[],i,a,h=>by simp at h
 |b::l,0,a,h=>by grind
 |b::l,i+1,a,h=>by
  have:=zn f x d l i a (by simpa using h)
  grind
def af8(l:List HV):∀u∈l.flatMap lU,u.oneCell'=Y:=by intro u b;obtain⟨a,_,h⟩:=Z9.1 b;simp[lU]at h;obtain rfl|rfl:=h<;>rfl
def amT(l:List Int):∀u∈l.flatMap eP,u.oneCell'=Y:=by intro u b;obtain⟨a,_,h⟩:=Z9.1 b;simp[eP]at h;subst h;rfl
section
variable{w w':R}{B:Nat}{v:υ}
def aF{e size n xs}(h:w.ownsRow B e size v n xs):∃a m,v=.slice a n m/\n<=m/\m<=ZT/\(0<n->∃g,a=U ⟨g,0,θ⟩/\B<=g/\g<w/\v.ownBlock=U g/\∀j u,xs[j]?=U u->w.cell? ⟨g,j,θ⟩=U u):=by
 have hc:=λ(g:Nat) (c:v.ownBlock=U g)=>h.cells c;have b:=h.lt;obtain⟨p,⟨rfl,rfl⟩|⟨g,i,d,rfl,l,c,o,f,hs,q⟩⟩:=h
 grind
 refine⟨_,_,rfl,o,f,λh0=>⟨g,rfl,l,(b g rfl).2,rfl,λj u k=>?_⟩⟩;have:=hc g rfl j u k;rwa[show((g:Nat):Addr).add j=⟨g,j,θ⟩ by unfold ZW;split<;>simp_all]at this
def OV.reads{l}(h:OV w B v l):eI w v l:=by
 obtain⟨a,m,rfl,c,b,h3⟩:=aF h;refine⟨a,m,rfl,c,by unfold ZT at b;exact b,λh0=>?_⟩;obtain⟨g,rfl,_,d,_,hc⟩:=h3 h0;refine⟨g,0,rfl,d,λi k n e=>?_⟩;obtain⟨e1,e2⟩:=jx lU (λv=>Δ Ξ v.1) (λv=>Δ Ξ v.2) (λ_=>rfl) l i (k,n) e
 grind
def OI.reads{l}(h:OI w B v l):n9 w v l:=by obtain⟨a,m,rfl,c,b,h3⟩:=aF h;refine⟨a,m,rfl,c,by unfold ZT at b;exact b,λh0=>?_⟩;obtain⟨g,rfl,_,d,_,hc⟩:=h3 h0;refine⟨g,0,rfl,d,λi n e=>?_⟩;rw[Nat.zero_add];exact hc _ _<|zn eP (λn=>Δ Ξ n) (λ_=>rfl) l i n e
def aY(w:R)(l:List (Int×υ))(cs:List HC):Prop:=l.length=cs.length/\∀(i:Nat) k v k' vs,l[i]?=U (k,v) ->cs[i]?=U (k',vs) ->k=k'/\eI w v vs
def OC.reads{l cs}(h:OC w B v l)(hc:aY w l cs):sa w v cs:=by
 obtain⟨a,m,rfl,c,b,h3⟩:=aF h;rw[hc.1]at c h3⊢;refine⟨a,m,rfl,c,by unfold ZT at b;exact b,λh0=>?_⟩;obtain⟨g,rfl,_,n,_,q⟩:=h3 h0;refine⟨g,0,rfl,n,λi k f e=>?_⟩;have hi:i<l.length:=by rw[hc.1];exact(Ω.1 e).1
 obtain⟨o,j,d⟩:∃k v,l[i]?=U (k,v):=⟨_,_,Θ hi⟩;obtain⟨rfl,p⟩:=hc.2 i o j k f d e;obtain⟨e1,e2⟩:=jx dW (λv=>Δ Ξ v.1) (λv=>v.2) (λ_=>rfl) l i _ d
 grind
def OV.nil(w B):OV w B (ZJ θ 0 0) []:=Zs _ _ _ _
def OI.nil(w B):OI w B (ZJ θ 0 0) []:=Zs _ _ _ _
def OC.nil(w B):OC w B (ZJ θ 0 0) []:=Zs _ _ _ _
end
def aS{w w':R}{B e size n v xs}(h:w.ownsRow B e size v n xs)(d:∀g,v.ownBlock=U g->w'.heap[g]?=w.heap[g]?):w'.ownsRow B e size v n xs:=by obtain⟨c,⟨rfl,rfl⟩|⟨g,b,a,rfl,i,j,f⟩⟩:=h;exact⟨c,.inl ⟨rfl,rfl⟩⟩;exact⟨c,.inr ⟨g,b,a,rfl,i,(d g rfl).trans j,f⟩⟩
def jy{w w':R}{B e size n v xs}(h:w.ownsRow B e size v n xs)(b:I w w w'):w'.ownsRow B e size v n xs:=aS h λg a=>b.block g (h.lt g a).2
def eV{w:R}{B B' e size n v xs}(h:w.ownsRow B e size v n xs)(i:B'<=B):w.ownsRow B' e size v n xs:=by obtain⟨d,⟨rfl,rfl⟩|⟨g,c,a,rfl,b,f⟩⟩:=h;exact⟨d,.inl ⟨rfl,rfl⟩⟩;exact⟨d,.inr ⟨g,c,a,rfl,Nat.le_trans i b,f⟩⟩
section
variable{w w':R}{B B':Nat}{v:υ}
def OV.below{l}(h:OV w B v l)(a:I w w w'):OV w' B v l:=jy h a
def OI.below{l}(h:OI w B v l)(a:I w w w'):OI w' B v l:=jy h a
def OC.below{l}(h:OC w B v l)(a:I w w w'):OC w' B v l:=jy h a
def OV.alloc{l}(h:OV w B v l)(o):OV (w.alloc o) B v l:=h.below<|af w o
def OI.alloc{l}(h:OI w B v l)(o):OI (w.alloc o) B v l:=h.below<|af w o
def OC.alloc{l}(h:OC w B v l)(o):OC (w.alloc o) B v l:=h.below<|af w o
def OV.less{l}(h:OV w B v l)(a:B'<=B):OV w B' v l:=eV h a
def OI.less{l}(h:OI w B v l)(a:B'<=B):OI w B' v l:=eV h a
def OC.less{l}(h:OC w B v l)(a:B'<=B):OC w B' v l:=eV h a
end
def cM{w w':R}{B e size n v xs}(h:w.ownsRow B e size v n xs)(a:w.grownBy w' v.ownBlock)(c:B<=w):I B w w':=(Ψ B w).grown a c λk b=>(h.lt k b).1
section
variable{ops:Array Oper}{rest:List Oper}{o:Oper}{a:Act}{w:R}{Q:Exit->Act->R->Prop}
def fO(g:o.guard=θ)(s x)(r:o.op=.call {callee:=.builtin .append,args:=#[s,x],argTypes:=#[23,23]})(B v l)(hs:a.eval s=v)(b:OV w B v l)(ad c u)(y:a.eval x=ZJ (U ad) 1 c)(n:w (ad.add 0)=U (Δ Ξ u.1)/\w (ad.add 1)=U (Δ Ξ u.2))(A:l.length<=1000000000)(p:B<=w)(h:∀e w',OV w' B e (l++[u]) ->I B w w'->w.grownBy w' v.ownBlock->ZF prog ops Q rest (a.put o.dst e) w'):ZF prog ops Q (o::rest) a w:=by
 obtain⟨q,hi,i,k,f⟩:=ZO nh;refine Zi _ g s x 23 r B 50 q _ 2 16 lx hi i k f rfl (by simp) v l.length _ hs b ad 1 c (lU u) y rfl (λj z d=>?_) (λz hz=>?_) (by unfold ZT;omega) (by omega) p λe w' t m _=>?_
 match j,d with
 |0,d=>cases d;exact n.1
 |1,d=>cases d;exact n.2
 |j+2,d=>simp[lU]at d
 simp[lU]at hz;obtain rfl|rfl:=hz<;>rfl
 refine h e w' ?_ (cM b m p) m;unfold OV;simpa using t
def od(g:o.guard=θ)(s x)(q:o.op=.call {callee:=.builtin .append,args:=#[s,x],argTypes:=#[24,24]})(B v l)(hs:a.eval s=v)(b:OI w B v l)(ad c u)(y:a.eval x=ZJ (U ad) 1 c)(t:w (ad.add 0)=U (Δ Ξ u))(A:l.length<=1000000000)(n:B<=w)(h:∀e w',OI w' B e (l++[u]) ->I B w w'->w.grownBy w' v.ownBlock->ZF prog ops Q rest (a.put o.dst e) w'):ZF prog ops Q (o::rest) a w:=by
 obtain⟨p,hi,i,k,f⟩:=ZO Dq;refine Zi _ g s x 24 q B 3 p _ 1 8 se hi i k f rfl (by simp) v l.length _ hs b ad 1 c (eP u) y rfl (λj z d=>?_) (λz hz=>?_) (by unfold ZT;omega) (by omega) n λe w' r m _=>?_
 match j,d with
 |0,d=>cases d;exact t
 |j+1,d=>simp[eP]at d
 simp[eP]at hz;subst hz;rfl;refine h e w' ?_ (cM b m n) m;unfold OI;simpa using r
def wh(g:o.guard=θ)(s x)(r:o.op=.call {callee:=.builtin .append,args:=#[s,x],argTypes:=#[22,22]})(B v l)(hs:a.eval s=v)(b:OC w B v l)(ad c u)(C:u.2.oneCell'=Y)(y:a.eval x=ZJ (U ad) 1 c)(n:w (ad.add 0)=U (Δ Ξ u.1)/\w (ad.add 1)=U u.2)(A:l.length<=1000000000)(p:B<=w)(h:∀e w',OC w' B e (l++[u]) ->I B w w'->w.grownBy w' v.ownBlock->ZF prog ops Q rest (a.put o.dst e) w'):ZF prog ops Q (o::rest) a w:=by
 obtain⟨q,hi,i,k,f⟩:=ZO ni;refine Zi _ g s x 22 r B 76 q _ 2 32 mF hi i k f rfl (by decide) v l.length _ hs b ad 1 c (dW u) y rfl (λj z d=>?_) (λz hz=>?_) (by unfold ZT;omega) (by omega) p λe w' t m _=>?_
 match j,d with
 |0,d=>cases d;exact n.1
 |1,d=>cases d;exact n.2
 |j+2,d=>simp[dW]at d
 simp[dW]at hz;obtain rfl|rfl:=hz
 rfl;omega;refine h e w' ?_ (cM b m p) m;unfold OC;simpa using t
end
end
section
variable(w:R)(v:υ)
def bW{a:Type}{l:List a}{k x}(h:l[k]?=U x):l.take (k+1)=l.take k++[x]:=by rw[Y4,h];rfl
def lV(l)(u:eI w v l)(C:l.length<=1000000):
 κ prog 174 #[v] w λe w'=>(∃r,e=.returned r/\OI w' w r (l.map (·.2)))/\I w w w':=by
 obtain⟨a,m,rfl,D,o,g⟩:=u
 go_enter (fU func174 rfl),ntmps174
 go_wp2
 go_loopw [3,8] (λv i wr=>∃k:Nat,k<=l.length/\i=Δ Ξ k/\OI wr w v ((l.take k).map (·.2))/\I w w wr) (λ_ i _=>l.length-(intOf i).toNat)
 case atStart=>exact⟨0,Nat.zero_le _,rfl,OI.nil _ _,Ψ _ _⟩
 case round=>
  obtain⟨k,A,rfl,b,c⟩:=hrel;by_cases h:k<l.length
  ·obtain⟨B,E,rfl,j,g⟩:=g (by omega);obtain⟨p,q,e1⟩:=ep h;obtain⟨c1,c2⟩:=(g.below c j) k p q e1;have t:=c.size;have f:((l.take k).map (·.2)).length<=1000000000:=by simp;omega
   have x:=V e1;clear g e1
   go_wp2_with (at_builtin;refine od rfl _ _ rfl w _ _ rfl ((b.alloc _).alloc _) (wr.heap.size+1:Nat) _ q rfl (by simp[go_sem,ZW]) f (by simp;omega) ?_;intro z y d n s)
   go_wp2
   go_roundw
   case rel=>exact⟨k+1,by omega,by go_num,by rw[bW x.out,Z0];exact d,c.trans<|(((Ψ _ _).alloc (by omega) _).alloc (by simp;omega) _).trans n⟩
   case measure=>simp[intOf];omega
  ·go_wp2
   go_ret;refine⟨⟨_,rfl,?_⟩,c⟩;rw[φ (by omega)]at b;exact b
def Ip(l)(u:n9 w v l)(C:l.length<=1000000):
 κ prog 132 #[v] w λe w'=>(∃r,e=.returned r/\OV w' w r (l.map λn=>((1,n):HV)))/\I w w w':=by
 obtain⟨a,m,rfl,D,p,g⟩:=u
 go_enter (fU func132 rfl),ntmps132
 go_wp2
 go_loopw [3,8] (λv i wr=>∃k:Nat,k<=l.length/\i=Δ Ξ k/\OV wr w v ((l.take k).map λn=>((1,n):HV))/\I w w wr) (λ_ i _=>l.length-(intOf i).toNat)
 case atStart=>exact⟨0,Nat.zero_le _,rfl,OV.nil _ _,Ψ _ _⟩
 case round=>
  obtain⟨k,A,rfl,b,c⟩:=hrel;by_cases h:k<l.length
  ·obtain⟨B,E,rfl,j,g⟩:=g (by omega);obtain⟨q,e1⟩:=lw h;have c1:=(g.below c j) k q e1;have t:=c.size;have f:((l.take k).map λn=>((1,n):HV)).length<=1000000000:=by simp;omega
   have x:=V e1;clear g e1
   go_wp2_with (at_builtin;refine fO rfl _ _ rfl w _ _ rfl (b.alloc _) wr.heap.size _ (1,q) rfl (by simp[go_sem,ZW]) f (by simp;omega) ?_;intro z y d o s)
   go_wp2
   go_roundw
   case rel=>exact⟨k+1,by omega,by go_num,by rw[bW x.out,Z0];exact d,c.trans<|((Ψ _ _).alloc (by omega) _).trans o⟩
   case measure=>simp[intOf];omega
  ·go_wp2
   go_ret;refine⟨⟨_,rfl,?_⟩,c⟩;rw[φ (by omega)]at b;exact b
def Sm(n:Int):Prop:=-1000000<=n/\n<=1000000
def Iq(v o)(f:-1000000<=v.2)(d:v.2<=1000000)(h3:0<=o)(h4:o<=1000000):
 κ prog 277 #[eB v,Δ Ξ o] w λe w'=>e=.returned (eB<|ed o v)/\I w w w':=by
 obtain⟨k,n⟩:=v;dsimp only at f d;by_cases a:k=1
 ·by_cases b:n<o
  ·have hs:ed o (k,n)=(4,n):=by simp[ed,a,b]
   rw[hs];clear hs;subst a;unfold eB
   go_enter (fU func277 rfl),ntmps277
   go_wp2
   exact ZU (v:=eB (4,n)) (by simp[Zz,results277,go_sem,eB]) rfl ⟨rfl,((Ψ _ _).alloc .refl _).alloc (by simp) _⟩
  ·have hs:ed o (k,n)=(3,n-o):=by simp[ed,a,b]
   rw[hs];clear hs;subst a;unfold eB
   go_enter (fU func277 rfl),ntmps277
   go_wp2
   exact ZU (v:=eB (3,n-o)) (by simp[Zz,results277,go_sem,eB]) rfl ⟨rfl,((Ψ _ _).alloc .refl _).alloc (by simp) _⟩
 ·have hs:ed o (k,n)=(k,n):=by simp[ed,a]
  rw[hs];clear hs;have c:(k !=1)=Y:=by simp[a]
  unfold eB
  go_enter (fU func277 rfl),ntmps277
  go_wp2
  exact ZU (v:=eB (k,n)) (by simp[Zz,results277,go_sem,eB]) rfl ⟨rfl,((Ψ _ _).alloc .refl _).alloc (by simp) _⟩
def afS(l o)(D:eI w v l)(L:l.length<=1000000)(C:∀x∈l,Sm x.2)(y:0<=o/\o<=1000000):
 κ prog 262 #[v,Δ Ξ o] w λe w'=>(∃r,e=.returned r/\OV w' w r (l.map<|ed o))/\I w w w':=by
 obtain⟨a,m,rfl,N,z,j⟩:=D
 go_enter (fU func262 rfl),ntmps262
 go_wp2
 go_loopw [5,10] (λv i wr=>∃k:Nat,k<=l.length/\i=Δ Ξ k/\OV wr w v ((l.take k).map<|ed o)/\I w w wr) (λ_ i _=>l.length-(intOf i).toNat)
 case atStart=>exact⟨0,Nat.zero_le _,rfl,OV.nil _ _,Ψ _ _⟩
 case round=>
  obtain⟨k,J,rfl,b,c⟩:=hrel;by_cases n:k<l.length
  ·obtain⟨K,O,rfl,s,j⟩:=j (by omega);obtain⟨p,q,e1⟩:=ep n;obtain⟨c1,c2⟩:=(j.below c s) k p q e1;have B:=c.size;have g:((l.take k).map<|ed o).length<=1000000000:=by simp;omega
   have u:=C (p,q)<|ω e1;have E:=V e1;clear j e1
   go_wp2_with fail
   refine(Iq _ (p,q) o u.1 u.2 y.1 y.2).mono ?_;rintro e F ⟨rfl,f⟩;have h:=f.size;simp only[Y3]at h;unfold eB
   go_wp2_with (at_builtin;refine fO rfl _ _ rfl w _ _ rfl (((b.alloc<|ZX #[Δ Ξ p,Δ Ξ q] 50).below f).alloc _) F.heap.size _ (ed o (p,q)) rfl (by simp[go_sem,ZW]) g (by simp;omega) ?_;intro H G d t A)
   go_wp2
   go_roundw
   case rel=>exact⟨k+1,by omega,by go_num,by rw[bW E.out,Z0];exact d,c.trans<|((((Ψ _ _).alloc (by omega) _).trans<|f.mono (by simp;omega)).alloc (by omega) _).trans t⟩
   case measure=>simp[intOf];omega
  ·go_wp2
   go_ret;refine⟨⟨_,rfl,?_⟩,c⟩;rw[φ (by omega)]at b;exact b
end
section
variable(n c:Nat)(w:R)
def mG{P}(t e i z)(g:P.underlying t=U (.slice e))(hi:P.info? e=U i)(hz:i.zero=U z)(d b)(n c:Nat)(f:n<=c)(a:i.bytes*c<=281474976710656)(h:c<=9223372036854775807)(w):
 (Zm t (.int d (n:Int))<|.int b (c:Int)).run P w=.ok (.slice w.heap.size n c) (w.alloc<|.cells (ZN z.cells<|c*i.size) e):=by
 have hb:i.bytes*(c:Int)<=281474976710656:=by grind
 have j:=run_make w t e i z g hi hz d b n c (by omega) (by omega) hb (by omega)
 grind
def BC(a:n<=c)(hc:c<=1000000000)(w):
 (Zm 23 (Δ Ξ (n:Int))<|Δ Ξ (c:Int)).run prog w=.ok (.slice w.heap.size n c) (w.alloc<|.cells (ZN #[Δ Ξ 0,Δ Ξ 0]<|c*2) 50):=by
 obtain⟨e,hi,b,d,f⟩:=ZO nh;have:=mG 23 50 e _ lx hi b Ξ Ξ n c a (by grind) (by omega) w;rw[d]at this;exact this
def jz(z n):(ZN z n).size=n:=by simp[ZN]
def QA(B c:Nat)(a:B<=w)(hc:c<=1000000000):OV (w.alloc<|.cells (ZN #[Δ Ξ 0,Δ Ξ 0]<|c*2) 50) B (.slice w.heap.size 0 c) []:=by refine⟨rfl,.inr ⟨w.heap.size,c,_,rfl,a,ZQ w _,Nat.zero_le _,by unfold ZT;omega,jz _ _,by simp⟩⟩
def gz(v l o)(P:eI w v l)(X:l.length<=1000000)(O:∀x∈l,Sm x.2)(K:0<=o/\o<=1000000):
 κ prog 173 #[v,Δ Ξ o] w λe w'=>(∃r,e=.returned r/\OV w' w r (l.map<|cp o))/\I w w w':=by
 obtain⟨a,m,rfl,hm,H,y⟩:=P;obtain⟨L,Q⟩:=K;have t:=λW=>BC 0 l.length (Nat.zero_le _) (by omega) W;simp only[Int.natCast_zero,Int.ofNat_zero]at t
 go_enter (fU func173 rfl),ntmps173
 go_wp2
 clear t;have j:=QA w w l.length .refl (by omega);have n:=af w<|.cells (ZN #[Δ Ξ 0,Δ Ξ 0]<|l.length*2) 50;generalize w.alloc _=w0 at j n⊢
 go_loopw [5,13] (λv i wr=>∃k:Nat,k<=l.length/\i=Δ Ξ k/\OV wr w v ((l.take k).map<|cp o)/\I w w wr) (λ_ i _=>l.length-(intOf i).toNat)
 case atStart=>exact⟨0,Nat.zero_le _,rfl,j,n⟩
 case round=>
  obtain⟨k,S,rfl,c,d⟩:=hrel;clear j n;by_cases A:k<l.length
  ·obtain⟨T,oa,rfl,B,y⟩:=y (by omega);obtain⟨p,q,e1⟩:=ep A;obtain⟨c1,c2⟩:=(y.below d B) k p q e1;have J:=d.size;have f:((l.take k).map<|cp o).length<=1000000000:=by simp;omega
   obtain⟨z,D⟩:=O (p,q)<|ω e1;dsimp only at z D;have C:=V e1;clear y e1;by_cases h3:p=3
   ·subst h3;have h:cp o (3,q)=(1,q+o):=by simp[cp]
    have u:=V h;clear h
    go_wp2_with (at_builtin;refine fO rfl _ _ rfl w _ _ rfl ((c.alloc<|ZX #[Δ Ξ 1,Δ Ξ<|q+o] 50).alloc _) (wr.heap.size+1:Nat) _ (1,q+o) rfl (by simp[go_sem,ZW]) f (by simp;omega) ?_;intro F E b g s)
    go_wp2
    go_roundw
    case rel=>exact⟨k+1,by omega,by go_num,by rw[bW C.out,Z0,Zt,u.out];exact b,d.trans<|(((Ψ _ _).alloc (by omega) _).alloc (by simp;omega) _).trans g⟩
    case measure=>simp[intOf];omega
   ·by_cases h4:p=4
    ·subst h4;have h:cp o (4,q)=(1,q):=by simp[cp]
     have u:=V h;clear h
     go_wp2_with (at_builtin;refine fO rfl _ _ rfl w _ _ rfl ((c.alloc<|ZX #[Δ Ξ 1,Δ Ξ q] 50).alloc _) (wr.heap.size+1:Nat) _ (1,q) rfl (by simp[go_sem,ZW]) f (by simp;omega) ?_;intro F E b g s)
     go_wp2
     go_roundw
     case rel=>exact⟨k+1,by omega,by go_num,by rw[bW C.out,Z0,Zt,u.out];exact b,d.trans<|(((Ψ _ _).alloc (by omega) _).alloc (by simp;omega) _).trans g⟩
     case measure=>simp[intOf];omega
    ·have h:cp o (p,q)=(p,q):=by simp[cp,h3,h4]
     have u:=V h;have N:(p==3)=Z:=by simp[h3]
     have G:(p==4)=Z:=by simp[h4]
     clear h h3 h4
     go_wp2_with (at_builtin;refine fO rfl _ _ rfl w _ _ rfl ((c.alloc<|ZX #[Δ Ξ p,Δ Ξ q] 50).alloc _) (wr.heap.size+1:Nat) _ (p,q) rfl (by simp[go_sem,ZW]) f (by simp;omega) ?_;intro F E b g s)
     go_wp2
     go_roundw
     case rel=>exact⟨k+1,by omega,by go_num,by rw[bW C.out,Z0,Zt,u.out];exact b,d.trans<|(((Ψ _ _).alloc (by omega) _).alloc (by simp;omega) _).trans g⟩
     case measure=>simp[intOf];omega
  ·go_wp2
   go_ret;refine⟨⟨_,rfl,?_⟩,d⟩;rw[φ (by omega)]at c;exact c
end
section
def oe{P}(w base t ty e i size)(d:P.underlying t=U (.slice e))(hi:P.info? e=U i)(v n xs)(a:w.ownsRow base e size v n xs)(c):(ZC #[t,t] ty #[v,ZJ θ 0 c]).run P w=.ok v w:=by
 obtain⟨rfl,rfl⟩|⟨g,h,f,rfl,_,_,b,_⟩:=a.2
 simp[ZC,ZP d,sizeOf,YY,hi,Zx,ZM];simp[ZC,ZP d,sizeOf,YY,hi,Zx,ZM,b,storeCells]
def zq{P}(w:R)(base t ty e i z size bytes)(r:P.underlying t=U (.slice e))(hi:P.info? e=U i)(hz:i.zero=U z)(f:i.size=size)(p:i.bytes=bytes)(q:z.cells.size=size)(o:0<size)(v n xs)(a:w.ownsRow base e size v n xs)(A m c news)(s:news.length=m*size)(D:0<m->∃ad,A=U ad/\∀j u,news[j]?=U u->w (ad.add j)=U u)(y:∀u∈news,u.oneCell'=Y)(l:n+m<=ZT)(d:(n+m)*bytes<=140737488355328)(g:base<=w):
 ∃k w',(ZC #[t,t] ty #[v,.slice A m c]).run P w=.ok k w'/\w'.ownsRow base e size k (n+m) (xs++news)/\w.grownBy w' v.ownBlock:=by
 obtain _|ad:=A
 have C:m=0:=by grind
 subst C;have B:=ο (by simpa using s);subst B;exact⟨v,w,oe w base t ty e i size r hi v n xs a c,by simpa using a,World.grownBy.refl w _⟩
 ·have b:∀j u,news[j]?=U u->w (ad.add j)=U u:=by grind
  obtain⟨k,w',h,x,h3,_⟩:=run_append_own (P:=P) w base t ty e i z size bytes r hi hz f p q o v n xs a ad m c news s b y l d g;exact⟨k,w',h,x,h3⟩
def sg{P}{w:R}{o:Oper}{a K Q}(s x t)(B:o.op=.call {callee:=.builtin .append,args:=#[s,x],argTypes:=#[t,t]})(base e i z size bytes)(G:P.underlying t=U (.slice e))(hi:P.info? e=U i)(hz:i.zero=U z)(f:i.size=size)(q:i.bytes=bytes)(p:z.cells.size=size)(y:0<size)(v n xs)(hs:a.eval s=v)(g:w.ownsRow base e size v n xs)(A m c news)(H:a.eval x=.slice A m c)(D:news.length=m*size)(E:0<m->∃ad,A=U ad/\∀j u,news[j]?=U u->w (ad.add j)=U u)(F:∀u∈news,u.oneCell'=Y)(r:n+m<=ZT)(b:(n+m)*bytes<=140737488355328)(d:base<=w)(h:∀l w',w'.ownsRow base e size l (n+m) (xs++news) ->w.grownBy w' v.ownBlock->K (a.put o.dst l) w'):o.wp P a w K Q:=by obtain⟨l,w',k,C,h3⟩:=zq w base t o.type e i z size bytes G hi hz f q p y v n xs g A m c news D E F r b d;unfold Oper.wp Zd;simp only[B,resolve,invoke,builtin,ZK,Y8,η,Y0,Zw,YT,hs,H,k];exact h l w' C h3
def zt{w b o l}(h:Il w b o l):∀j u,(l.flatMap lU)[j]?=U u->w (((b,o):Addr).add j)=U u:=by
 intro j u c;have f:=(Ω.1 c).1;have d:(l.flatMap lU).length=l.length*2:=by
  clear c f h
  induction l with
  |nil=>rfl
  |cons a l g=>rw[ξ,μ,g];simp[lU];omega
 obtain⟨x,e⟩:∃x,l[j/2]?=U x:=⟨_,Θ<|by omega⟩;obtain⟨e1,e2⟩:=jx lU (λv=>Δ Ξ v.1) (λv=>Δ Ξ v.2) (λ_=>rfl) l (j/2) x e;obtain⟨m,k⟩:=h (j/2) x.1 x.2 e;have i:((b,o):Addr).add j=⟨b,o+j,θ⟩:=by unfold ZW;split<;>simp_all
 grind
def aeU{w b o l}(h:Im w b o l):∀j u,(l.flatMap eP)[j]?=U u->w (((b,o):Addr).add j)=U u:=by
 intro j u c;have f:=(Ω.1 c).1;have d:(l.flatMap eP).length=l.length:=by
  clear c f h
  induction l with
  |nil=>rfl
  |cons a l i=>rw[ξ,μ,i];simp[eP];omega
 obtain⟨x,e⟩:∃x,l[j]?=U x:=⟨_,Θ<|by omega⟩;have g:((b,o):Addr).add j=⟨b,o+j,θ⟩:=by unfold ZW;split<;>simp_all
 rw[g,h j x e];rw[(zn eP (λn=>Δ Ξ n) (λ_=>rfl) l j x e)]at c;exact c
def fx(l:List HV):(l.flatMap lU).length=l.length*2:=by
 induction l with
 |nil=>rfl
 |cons a l b=>rw[ξ,μ,b];simp[lU];omega
def EO(l:List Int):(l.flatMap eP).length=l.length*1:=by
 induction l with
 |nil=>rfl
 |cons a l b=>rw[ξ,μ,b];simp[eP];omega
section
variable{ops:Array Oper}{rest:List Oper}{o:Oper}{a:Act}{w:R}{Q:Exit->Act->R->Prop}{K:Act->R->Prop}
def EP(s x)(q:o.op=.call {callee:=.builtin .append,args:=#[s,x],argTypes:=#[23,23]})(B v l)(hs:a.eval s=v)(d:OV w B v l)(v2 l2)(u:a.eval x=v2)(t:eI w v2 l2)(y:l.length<=1000000000)(p:l2.length<=1000000000)(m:B<=w)(h:∀e w',OV w' B e (l++l2) ->I B w w'->w.grownBy w' v.ownBlock->K (a.put o.dst e) w'):o.wp prog a w K Q:=by
 obtain⟨n,hi,g,i,f⟩:=ZO nh;obtain⟨A,c,rfl,_,_,r⟩:=t;refine sg s x 23 q B 50 n _ 2 16 lx hi g i f rfl (by decide) v l.length _ hs d A l2.length c (l2.flatMap lU) u (fx _) (λh0=>?_) (af8 _) (by unfold ZT;omega) (by omega) m λe w' z k=>?_;obtain⟨b,o,rfl,_,j⟩:=r h0;exact⟨_,rfl,zt j⟩;refine h e w' ?_ (cM d k m) k;unfold OV
 grind
def tI(d:o.guard=θ)(s x)(f:o.op=.call {callee:=.builtin .append,args:=#[s,x],argTypes:=#[23,23]})(B v l)(hs:a.eval s=v)(b:OV w B v l)(v2 l2)(n:a.eval x=v2)(k:eI w v2 l2)(g:l.length<=1000000000)(e:l2.length<=1000000000)(m:B<=w)(h:∀c w',OV w' B c (l++l2) ->I B w w'->w.grownBy w' v.ownBlock->ZF prog ops Q rest (a.put o.dst c) w'):ZF prog ops Q (o::rest) a w:=Y2 d λ_ j=>EP s x f B v l hs b v2 l2 n k g e m λc w' i h3 h4=>j _ _<|h c w' i h3 h4
def EQ(s x)(q:o.op=.call {callee:=.builtin .append,args:=#[s,x],argTypes:=#[24,24]})(B v l)(hs:a.eval s=v)(d:OI w B v l)(v2 l2)(u:a.eval x=v2)(t:n9 w v2 l2)(y:l.length<=1000000000)(p:l2.length<=1000000000)(m:B<=w)(h:∀e w',OI w' B e (l++l2) ->I B w w'->w.grownBy w' v.ownBlock->K (a.put o.dst e) w'):o.wp prog a w K Q:=by
 obtain⟨n,hi,g,i,f⟩:=ZO Dq;obtain⟨A,c,rfl,_,_,r⟩:=t;refine sg s x 24 q B 3 n _ 1 8 se hi g i f rfl (by decide) v l.length _ hs d A l2.length c (l2.flatMap eP) u (EO _) (λh0=>?_) (amT _) (by unfold ZT;omega) (by omega) m λe w' z k=>?_;obtain⟨b,o,rfl,_,j⟩:=r h0;exact⟨_,rfl,aeU j⟩;refine h e w' ?_ (cM d k m) k;unfold OI
 grind
def tJ(d:o.guard=θ)(s x)(f:o.op=.call {callee:=.builtin .append,args:=#[s,x],argTypes:=#[24,24]})(B v l)(hs:a.eval s=v)(b:OI w B v l)(v2 l2)(n:a.eval x=v2)(k:n9 w v2 l2)(g:l.length<=1000000000)(e:l2.length<=1000000000)(m:B<=w)(h:∀c w',OI w' B c (l++l2) ->I B w w'->w.grownBy w' v.ownBlock->ZF prog ops Q rest (a.put o.dst c) w'):ZF prog ops Q (o::rest) a w:=Y2 d λ_ j=>EQ s x f B v l hs b v2 l2 n k g e m λc w' i h3 h4=>j _ _<|h c w' i h3 h4
end
def zu(w:R)(B:Nat)(a:B<=w):OV (w.alloc<|ZX #[] 50) B (.slice w.heap.size 0 0) []:=⟨rfl,.inr ⟨w.heap.size,0,_,rfl,a,ZQ w _,.refl,by unfold ZT;omega,rfl,by simp⟩⟩
def zx(w:R)(B:Nat)(a:B<=w):OI (w.alloc<|ZX #[] 3) B (.slice w.heap.size 0 0) []:=⟨rfl,.inr ⟨w.heap.size,0,_,rfl,a,ZQ w _,.refl,by unfold ZT;omega,rfl,by simp⟩⟩
def Ir(n m a w):(binOp .eql 23 (.slice a n m)<|ZJ θ 0 0).run prog w=.ok (.bool a.isNone) w:=Zy w 23 50 a n m 0 0 lx
def Q2(n m a w):(binOp .eql 24 (.slice a n m)<|ZJ θ 0 0).run prog w=.ok (.bool a.isNone) w:=Zy w 24 3 a n m 0 0 se
def J6(w v l)(g:eI w v l)(s:l.length<=1000000):
 κ prog 148 #[v] w λe w'=>(∃r,e=.returned r/\OV w' w r l)/\I w w w':=by
 have H:=V g;obtain⟨a,m,rfl,n,k,d⟩:=g;obtain _|a:=a
 ·have h0:l=[]:=by
   obtain h0|h0:=Nat.eq_zero_or_pos l.length
   exact ο h0;obtain⟨b,o,h,_⟩:=d h0;cases h
  subst h0;clear d;have i:=Ir 0 m θ
  go_enter (fU func148 rfl),ntmps148
  go_wp2
  go_ret;exact⟨⟨_,rfl,OV.nil _ _⟩,Ψ _ _⟩
 ·clear d;have i:=Ir l.length m<|U a
  go_enter (fU func148 rfl),ntmps148
  go_wp2_with (at_builtin;refine tI rfl _ _ rfl w _ [] rfl (zu w _ .refl) _ l rfl (H.out.below<|af _ _) (by simp) (by omega) (by simp) ?_;intro q p c f j)
  go_wp2
  go_ret;exact⟨⟨_,rfl,by simpa using c⟩,(af _ _).trans f⟩
def wj(w v l)(g:n9 w v l)(s:l.length<=1000000):
 κ prog 149 #[v] w λe w'=>(∃r,e=.returned r/\OI w' w r l)/\I w w w':=by
 have H:=V g;obtain⟨a,m,rfl,n,k,d⟩:=g;obtain _|a:=a
 ·have h0:l=[]:=by
   obtain h0|h0:=Nat.eq_zero_or_pos l.length
   exact ο h0;obtain⟨b,o,h,_⟩:=d h0;cases h
  subst h0;clear d;have i:=Q2 0 m θ
  go_enter (fU func149 rfl),ntmps149
  go_wp2
  go_ret;exact⟨⟨_,rfl,OI.nil _ _⟩,Ψ _ _⟩
 ·clear d;have i:=Q2 l.length m<|U a
  go_enter (fU func149 rfl),ntmps149
  go_wp2_with (at_builtin;refine tJ rfl _ _ rfl w _ [] rfl (zx w _ .refl) _ l rfl (H.out.below<|af _ _) (by simp) (by omega) (by simp) ?_;intro q p c f j)
  go_wp2
  go_ret;exact⟨⟨_,rfl,by simpa using c⟩,(af _ _).trans f⟩
end
section
variable(w:R)(v:υ){α:Type}
def Q3(p q a b w):(binOp .eql 50 (.agg #[Δ Ξ p,Δ Ξ q])<|.agg #[Δ Ξ a,Δ Ξ b]).run prog w=.ok (.bool<|p==a&&q==b) w:=by rw[run_eql_struct,VY];rfl
def tK{α:Type}[DecidableEq α](l:List α)(v:α):Int:=if v∈l then(l.idxOf v:Nat)else-1
def si[DecidableEq α]{l}{v:α}{k:Nat}(h:l[k]?=U v)(b:v∉l.take k):tK l v=k:=by unfold tK;have a:=(Ω.1 h).1;rw[((List.take_append_drop k l).symm),List.idxOf_append,if_neg b,Zc a,(Ω.1 h).2];simp;omega
def oh{l:List α}{v x k}(b:v∉l.take k)(h:l[k]?=U x)(a:v≠x):v∉l.take (k+1):=by rw[Y4,h];simp[b,a]
def NW(l x)(r:eI w v l):
 κ prog 217 #[v,eB x] w λe w'=>e=.returned (Δ Ξ<|tK l x)/\I w.heap.size w w':=by
 obtain⟨p0,b⟩:=x;obtain⟨a,m,rfl,z,u,f⟩:=r;unfold eB;dsimp only
 go_enter (fU func217 rfl),ntmps217
 go_wp2
 go_loopw [8] (λi wr=>∃k:Nat,k<=l.length/\i=Δ Ξ k/\Hid ((p0,b)∉l.take k)/\∃n,wr=(w.alloc<|ZX #[Δ Ξ p0,Δ Ξ b] 50).drewN n) (λi _=>l.length-(intOf i).toNat)
 case atStart=>exact⟨0,Nat.zero_le _,rfl,V<|by simp,0,rfl⟩
 case round=>
  obtain⟨k,A,rfl,j,n,rfl⟩:=hrel;by_cases h:k<l.length
  ·obtain⟨C,B,rfl,g,f⟩:=f (by omega);obtain⟨p,q,e1⟩:=ep h;obtain⟨c1,c2⟩:=(f.below (af w<|ZX #[Δ Ξ p0,Δ Ξ b] 50) g) k p q e1;have o:=V e1;clear f e1;by_cases d:(p0,b)=(p,q)
   ·cases d
    have c:∀w:R,(binOp .eql 50 (.agg #[Δ Ξ p0,Δ Ξ b])<|.agg #[Δ Ξ p0,Δ Ξ b]).run prog w=.ok (.bool Y) w:=λw=>by rw[Q3];simp
    go_wp2
    go_quiet (fail)
    clear c c1 c2
    go_wp2
    go_ret;exact⟨by rw[si o.out j.out];rfl,by first|exact bl (af w _) _|exact bl (bl (af w _) _) _⟩
   ·have c:∀w:R,(binOp .eql 50 (.agg #[Δ Ξ p0,Δ Ξ b])<|.agg #[Δ Ξ p,Δ Ξ q]).run prog w=.ok (.bool Z) w:=λw=>by
     rw[Q3];have:(p0==p&&b==q)=Z:=by simp only[Prod.mk.injEq]at d;simp;intro t s;exact d ⟨t,s⟩
     rw[this]
    have y:=V d;clear d
    go_wp2
    go_quiet (fail)
    clear c c1 c2
    go_wp2
    exact⟨⟨k+1,by omega,by go_num,V<|oh j.out o.out y.out,_,rfl⟩,by simp[intOf];omega⟩
  ·go_wp2
   go_ret;have:=j.out;rw[φ (by omega)]at this;exact⟨by unfold tK;rw[if_neg this];rfl,bl (af w _) _⟩
def NX(l x)(n:n9 w v l):
 κ prog 218 #[v,Δ Ξ x] w λe w'=>e=.returned (Δ Ξ<|tK l x)/\w'=w:=by
 obtain⟨a,m,rfl,r,o,b⟩:=n
 go_enter (fU func218 rfl),ntmps218
 go_wp2
 go_loopw [8] (λi wr=>∃k:Nat,k<=l.length/\i=Δ Ξ k/\Hid (x∉l.take k)/\wr=w) (λi _=>l.length-(intOf i).toNat)
 case atStart=>exact⟨0,Nat.zero_le _,rfl,V<|by simp,rfl⟩
 case round=>
  obtain⟨k,s,rfl,g,rfl⟩:=hrel;by_cases d:k<l.length
  ·obtain⟨u,t,rfl,j,b⟩:=b (by omega);obtain⟨p,e1⟩:=lw d;have c1:=b k p e1;have h:=V e1;clear b e1;by_cases c:x=p
   ·subst c;have f:(x==x)=Y:=by simp
    go_wp2
    go_ret;exact⟨by rw[si h.out g.out];rfl,rfl⟩
   ·have f:(x==p)=Z:=by simp[c]
    have q:=V c;clear c
    go_wp2
    exact⟨⟨k+1,by omega,by go_num,V<|oh g.out h.out q.out,by trivial⟩,by simp[intOf];omega⟩
  ·go_wp2
   go_ret;have:=g.out;rw[φ (by omega)]at this;exact⟨by unfold tK;rw[if_neg this];rfl,rfl⟩
def Dr[DecidableEq α](l)(v:α):(0<=tK l v)=(v∈l):=by unfold tK;split<;>simp[*]
def BD(l x)(d:eI w v l):
 κ prog 170 #[v,eB x] w λe w'=>e=.returned (.bool<|l.contains x)/\I w.heap.size w w':=by
 have H:=V d;obtain⟨a,m,rfl,_,_,_⟩:=d;obtain⟨p0,c⟩:=x;have b:decide (0<=tK l (p0,c))=l.contains (p0,c):=by simp[Dr]
 have f:=V b;clear b;unfold eB;dsimp only
 go_enter (fU func170 rfl),ntmps170
 go_wp2_with fail
 refine(NW _ _ l (p0,c)<|H.out.below<|af _ _).mono ?_;rintro e w' ⟨rfl,hb⟩
 go_wp2
 go_ret;exact⟨by rw[f.out];rfl,(af _ _).trans<|hb.mono<|by simp⟩
def sj(l x)(c:n9 w v l):
 κ prog 171 #[v,Δ Ξ x] w λe w'=>e=.returned (.bool<|l.contains x)/\w'=w:=by
 have H:=V c;obtain⟨a,m,rfl,_,_,_⟩:=c;have b:decide (0<=tK l x)=l.contains x:=by simp[Dr]
 have d:=V b;clear b
 go_enter (fU func171 rfl),ntmps171
 go_wp2_with fail
 refine(NX _ _ l x H.out).mono ?_;rintro e w' ⟨rfl,rfl⟩
 go_wp2
 go_ret;exact⟨by rw[d.out];rfl,rfl⟩
end
section
variable{vs:List HV}
def yg(cs:List HC)(k:Nat):List Int:=((Z8 k).filter λi=>jW<|cs.getD i (0,[])).map λ(i:Nat)=>(i:Int)
def V2(cs k):(yg cs k).length<=k:=by
 unfold yg
 grind
def NY{cs k c}(h:cs[k]?=U c):yg cs (k+1)=if jW c then yg cs k++[(k:Int)]else yg cs k:=by
 unfold yg;rw[List.range_succ]
 grind
def Is(g):ju g=yg g.old g.old.length:=rfl
def ER{p}{j:Nat}{n}(h:vs[j]?=U (3,n)):jW (p,vs)=Y:=by exact Zp.2 ⟨_,ω h,rfl⟩
def It{p}(h:∀x∈vs,dy x=Z):jW (p,vs)=Z:=by
 unfold jW
 grind
def BE{j x}(h:∀y∈vs.take j,dy y=Z)(e:vs[j]?=U x)(a:dy x=Z):∀y∈vs.take (j+1),dy y=Z:=by
 rw[bW e]
 grind
def Dt(w b g)(h:mi w b g)(hl:g.old.length<=1000000):
 κ prog 107 #[.pointer b] w λe w'=>(∃r,e=.returned r/\OI w' w r (ju g))/\I w w w':=by
 obtain⟨n,o,r,wi,d,m,c0,c1,_,_,_,_,_,⟨a,m2,rfl,hm,hm2,Q⟩,_⟩:=h;have hb:=az c1;rw[Is];generalize hcs:g.old=cs at *;clear hcs
 go_enter (fU func107 rfl),ntmps107
 go_wp2
 go_step3
 go_wp2
 go_step3
 go_wp2
 go_loopw [3,14] (λv i wr=>∃k:Nat,k<=cs.length/\i=Δ Ξ k/\OI wr w v (yg cs k)/\I w w wr) (λ_ i _=>cs.length-(intOf i).toNat)
 case atStart=>exact⟨0,Nat.zero_le _,rfl,OI.nil _ _,Ψ _ _⟩
 case round=>
  obtain⟨k,hk,rfl,c,q⟩:=hrel;by_cases T:k<cs.length
  ·obtain⟨ba,oa,rfl,W,Q⟩:=Q (by omega);obtain⟨p,s,e1⟩:=cQ T;obtain⟨d1,x,d2,hx⟩:=(Q.below q W) k p s e1;obtain⟨ax,mx,rfl,hmx,N4,P⟩:=hx;have hsz:=q.size;have G:(yg cs k).length<=1000000000:=by have:=V2 cs k;omega
   have E1:=V<|NY e1;have HX:=V P;have HO:=V c;clear Q e1 P c
   go_wp2
   have f:=af wr<|ZX #[Δ Ξ p,.slice ax s.length mx] 76;generalize O:wr.alloc (ZX #[Δ Ξ p,.slice ax s.length mx] 76)=w0 at f⊢;have A:=q.trans<|f.mono hsz;have N:=V<|HO.out.below f;have HW0:=V O;clear HO O
   go_loopw [3,22] (λv i F=>∃j:Nat,j<=s.length/\i=Δ Ξ j/\Hid (∀y∈s.take j,dy y=Z)/\I w0 w0 F/\OI F w v (yg cs k)) (λ_ i _=>s.length-(intOf i).toNat)
   case atStart=>exact⟨0,Nat.zero_le _,rfl,V<|by simp,Ψ _ _,N.out⟩
   case round=>
    obtain⟨j,hj,rfl,D,l,C⟩:=hrel;clear N;have amU:=l.size;have u:=A.size;by_cases K:j<s.length
    ·obtain⟨bb,ob,rfl,H,E⟩:=HX.out (by omega);have t:=(E.below f H).below l<|Nat.lt_of_lt_of_le H f.size;obtain⟨S,nq,e2⟩:=ep K;obtain⟨f1,f2⟩:=t j S nq e2;have E2:=V e2;clear E t e2 HX;by_cases h3:S=3
     ·subst h3;have J:=ER (p:=p) E2.out;have z:=E1.out;rw[if_pos J]at z;have X:=V z;clear z J
      go_wp2_with (at_builtin;refine od rfl _ _ rfl w _ _ rfl ((C.alloc _).alloc _) (wr.heap.size+1:Nat) _ k rfl (by simp[go_sem,ZW]) G (by simp;omega) ?_;intro v' w1 B hb1 hg1)
      go_wp2
      exact⟨⟨k+1,by omega,by go_num,by rw[X.out];exact B,A.trans<|(l.mono u).trans<|(((Ψ _ _).alloc (by omega) _).alloc (by simp;omega) _).trans hb1⟩,by simp[intOf];omega⟩
     ·have h3':(S==3)=Z:=by simp[h3]
      have L:dy (S,nq)=Z:=by simp[dy,h3]
      have HN:=V L;clear h3 L
      go_wp2
      exact⟨⟨j+1,by omega,by go_num,V<|BE D.out E2.out HN.out,l.trans<|(Ψ _ _).alloc (by omega) _,C.alloc _⟩,by simp[intOf];omega⟩
    ·have J:jW (p,s)=Z:=It (by have:=D.out;rwa[φ (by omega)]at this);have z:=E1.out;rw[if_neg (by rw[J];decide)]at z;have X:=V z;clear z J
     go_wp2
     exact⟨⟨k+1,by omega,by go_num,by rw[X.out];exact C,A.trans<|l.mono u⟩,by simp[intOf];omega⟩
  ·go_wp2
   rw[Exit.noGoto_ret];go_ret;refine⟨⟨_,rfl,?_⟩,q⟩;rw[show cs.length=k by omega];exact c
end
end Kn
namespace Kn
open Go Go.RowKit Md Vc
section
variable{w:R}{Q:Exit->Act->R->Prop}{a:Act}
def ES(m t):ZA m aE t=[0,1]\/ZA m aE t=[1,0]:=by
 have h:ZA m aE t=Y5 .any aE t:=by unfold ZA;rw[if_pos (by rw[show Region.departs aE=Z by decide+kernel];simp)]
 rw[h];unfold Y5;rw[show aE.size=1+1 from rfl];unfold Z2;rw[show(1+1)=aE.size from rfl];simp only[(by decide+kernel:((Z8 aE.size).filter λi=>!(ZV aE.size Z).getD i Y&&((aE[i]?).map (·.after.all λe=>!Y' .any e||(ZV aE.size Z).getD e.on Z)).getD Z)=[0,1])];obtain h0|h0:=Nat.mod_two_eq_zero_or_one t
 left;simp only[Zo,Zj,Nat.zero_add,Nat.reduceAdd,h0,ZB];unfold Z2;simp only[(by decide+kernel:((Z8 aE.size).filter λi=>!((ZV aE.size Z).setIfInBounds 0 Y).getD i Y&&((aE[i]?).map (·.after.all λe=>!Y' .any e||((ZV aE.size Z).setIfInBounds 0 Y).getD e.on Z)).getD Z)=[1])];simp[Nat.mod_one,Z2];right;simp only[Zo,Zj,Nat.zero_add,Nat.reduceAdd,h0,List.getElem?_cons_succ,ZB];unfold Z2;simp only[(by decide+kernel:((Z8 aE.size).filter λi=>!((ZV aE.size Z).setIfInBounds 1 Y).getD i Y&&((aE[i]?).map (·.after.all λe=>!Y' .any e||((ZV aE.size Z).setIfInBounds 1 Y).getD e.on Z)).getD Z)=[0])];simp[Nat.mod_one,Z2]
def kJ(x y:υ)(a:Act):Act:={a with tmps:=(a.tmps.setIfInBounds 41 x).setIfInBounds 42 y}
def yC(x y c d a):kJ c d (kJ x y a)=kJ c d a:=by
 unfold kJ
 congr 1
 refine Y6 λi=>?_;simp only[Zl,Zb];by_cases b:42=i
 simp[b];by_cases e:41=i<;>simp[b,e]
def agB{id}(h:∀y,Q .normal {a with tmps:=a.tmps.setIfInBounds 42<|.bool y} w.drew):(Code.region id aE Y).wp prog Q a w:=by
 refine wp_region_draw λd=>?_;have b:∀(a:Act) (w:R) (y:Bool) (i:Nat) (o:Oper) (rest:List Nat),aE[i]?=U o->o={dst:=U 42,op:=.assign<|.const<|.bool y,type:=0,pos:= "",after:=#[],guard:=θ} ->wpOps prog aE Q rest {a with tmps:=a.tmps.setIfInBounds 42<|.bool y} w->wpOps prog aE Q (i::rest) a w:=by intro a w y i o rest c e h;subst e;unfold wpOps;rw[c];left;simpa[Oper.wp,Zd,Oper.upon,ZI,ZG]using h
 obtain e|e:=ES (prog.follows .mixedOrders) d<;>rw[e]
 refine b _ _ Y 0 _ _ rfl rfl<|b _ _ Z 1 _ _ rfl rfl ?_;have:=h Z;simpa[wpOps]using this;refine b _ _ Z 1 _ _ rfl rfl<|b _ _ Y 0 _ _ rfl rfl ?_;have:=h Y;simpa[wpOps]using this
def iV{k t:Nat}(b:a.tmps.size=43)(h:∀x y w',I w.heap.size w w'->Q .normal (kJ x y a) w'):(tE k t).wp prog Q a w:=by
 unfold tE;refine ZE<|agB λy=>?_;show(Code.cond (tm 42) _ _).wp _ _ _ _;have c:({a with tmps:=a.tmps.setIfInBounds 42<|.bool y}:Act).eval (tm 42)=.bool y:=by simp[ZI,tm,b]
 obtain _|_:=y
 refine wp_cond_false c<|wp_skip ?_;have:=h (a.tmps.getD 41 undef) (.bool Z) w.drew (Ψ _ _).drew;have e:kJ (a.tmps.getD 41 undef) (.bool Z) a={a with tmps:=a.tmps.setIfInBounds 42<|.bool Z}:=by
  unfold kJ
  congr 1
  refine Y6 λi=>?_;simp only[Zl,Zb];by_cases f:42=i
  simp[f];by_cases d:41=i
  ·subst d;simp[Array.getD,b]
  simp[f,d]
 rw[e]at this;exact this;refine wp_cond_true c ?_;unfold rg;refine wp_region ?_;have:=h (.pointer<|U ⟨w.heap.size,0,θ⟩) (.bool Y) (w.drew.alloc<|ZX #[] t)<|(Ψ _ _).drew.alloc .refl _;show wpOps _ _ _ [0] _ _;unfold wpOps;simp only[List.getElem?_toArray,ZB,Region.wanted,if_true];left;simpa[Oper.wp,Zd,Oper.upon,ZI,ZG,wpOps,kJ,go_sem,Array.setIfInBounds_comm]using this
def NZ(b:a.tmps.size=43)(h:∀x y w',I w.heap.size w w'->Q .normal (kJ x y a) w'):aao.wp prog Q a w:=by
 have hs:∀x y (a:Act),a.tmps.size=43->(kJ x y a).tmps.size=43:=by intro x y a h;simp[kJ,h]
 unfold aao;simp only[sq];refine ZE<|iV b λE q m c=>?_;refine ZE<|iV (hs _ _ _ b) λz G F j=>?_;refine ZE<|iV (hs _ _ _<|hs _ _ _ b) λo s n b3=>?_;simp only[yC];refine ZE<|iV (hs _ _ _ b) λx4 A w4 b4=>?_;simp only[yC];refine ZE<|iV (hs _ _ _ b) λB u w5 b5=>?_;simp only[yC];refine ZE<|iV (hs _ _ _ b) λD v p b6=>?_;simp only[yC];refine ZE<|iV (hs _ _ _ b) λr l w7 i=>?_;simp only[yC];refine iV (hs _ _ _ b) λC t w8 k=>?_;simp only[yC];have c2:=c.trans<|j.mono c.size;have c3:=c2.trans<|b3.mono c2.size;have g:=c3.trans<|b4.mono c3.size;have e:=g.trans<|b5.mono g.size;have f:=e.trans<|b6.mono e.size;have d:=f.trans<|i.mono f.size;exact h _ _ _<|d.trans<|k.mono d.size
def Iu{P dst op v}(b:(Zd a.eval {dst,op,type:=0,pos:= "",after:=#[],guard:=θ}).run P w=.ok (.value v) w)(h:Q .normal (a.put dst v) w):(rg dst op).wp P Q a w:=by refine wp_region ?_;unfold wpOps;simp;left;unfold Oper.wp;rw[b];simpa[Oper.upon,wpOps]using h
def aes(j:a.tmps.size=43)(h0:a.tmps.getD 17 undef=Δ Ξ 0)(h:∀a' w',a'.tmps.size=43->a'.defers=a.defers->I w.heap.size w w'->Q (.exit 2) a' w'):
 (Code.loop<|.seq (rg (U 15)<|cmp .lss (tm 17)<|ci 2199023255552)<|.seq (.cond (tm 15) .skip<|.exit 2)<|.seq aao<|.seq (rg (U 16)<|.binOp .add 3 (tm 17) (ci 1) 3)<|rg (U 17)<|.move<|tm 16).wp prog Q a w:=by
 refine wp_loop (λa' w'=>a'.tmps.size=43/\a'.defers=a.defers/\I w.heap.size w w'/\∃k:Nat,k<=2199023255552/\a'.tmps.getD 17 undef=Δ Ξ k) (λa' _=>2199023255552-(intOf<|a'.tmps.getD 17 undef).toNat) ?_ ?_;exact⟨j,rfl,Ψ _ _,0,by omega,h0⟩
 ·rintro a' w' ⟨c,l,h3,k,n,h4⟩;have g:a'.eval (tm 17)=Δ Ξ k:=by simpa[ZI,tm]using h4
  refine ZE<|Iu (v:=.bool<|decide<|(k:Int)<2199023255552) (by simp[Zd,cmp,g,ci];simp[ZI,go_sem]) ?_;show(Code.seq _ _).wp _ _ _ _;have b:(a'.put (U 15)<|.bool<|decide<|(k:Int)<2199023255552).eval (tm 15)=.bool (decide<|(k:Int)<2199023255552):=by simp[ZI,tm,ZG,c]
  by_cases m:k<2199023255552
  ·have hd:decide ((k:Int)<2199023255552)=Y:=by simp;omega
   rw[hd]at b⊢;refine ZE<|wp_cond_true b<|wp_skip ?_;show(Code.seq _ _).wp _ _ _ _;refine ZE<|NZ (by simp[ZG,c]) λx y o i=>?_;show(Code.seq _ _).wp _ _ _ _;have f:(kJ x y<|a'.put (U 15)<|.bool Y).tmps.getD 17 undef=Δ Ξ k:=by have e:=h4;simp[c]at e;simp[kJ,ZG,c];exact e
   have d:(kJ x y<|a'.put (U 15)<|.bool Y).eval (tm 17)=Δ Ξ k:=by simpa[ZI,tm]using f
   refine ZE (Iu (v:=Δ Ξ ((k:Int)+1)) (by simp[Zd,d,ci];simp[ZI,go_sem];rw[IntKind.wrap_i64];omega) ?_)
   show(rg _ _).wp _ _ _ _;refine Iu (v:=Δ Ξ<|(k:Int)+1) (by simp[Zd,tm,ZI,ZG,kJ,c]) ?_;refine⟨⟨by simp[ZG,kJ,c],l,h3.trans<|i.mono h3.size,k+1,by omega,by simp[ZG,kJ,c]⟩,?_⟩;show 2199023255552-_<2199023255552-_;rw[h4];simp[ZG,kJ,c,intOf];omega
  have hd:decide ((k:Int)<2199023255552)=Z:=by simp;omega
  rw[hd]at b⊢;refine ZE<|wp_cond_false b ?_;exact wp_exit<|h _ _ (by simp[ZG,c]) l h3
end
section
variable(p:Int)(w:R)
def func166:prog.funcs[166]?=U Vm:=by kernel_rfl
def ntmps166:Vm.ntmps=43:=rfl
def results166:Vm.results=#[]:=by kernel_rfl
def aeV(n m a w):(binOp .eql 22 (.slice a n m)<|ZJ θ 0 0).run prog w=.ok (.bool a.isNone) w:=Zy w 22 76 a n m 0 0 mF
theorem xl:∀{l:List Int},cU l=0->∀x∈l,x=0
 |[],_,x,a=>by cases a
 |e::l,h,x,a=>by
  unfold cU at h;split at h
  rename_i h0;obtain rfl|a:=List.mem_cons.1 a
  omega;exact xl h x a;omega
def N0{g k n}(h:mh g (k,n)=0):(k=0/\-99<=n/\n<=99)\/(k=2/\n=0)\/(k=3/\0<=n/\n<g.new.length)\/(k=4/\0<=n/\n<g.old.length):=by
 unfold mh at h;dsimp only at h;by_cases h0:k=0
 simp[h0]at h;omega;by_cases a:k=2
 ·simp[a]at h;omega
 by_cases h3:k=3
 ·subst h3;simp[eO]at h;omega
 by_cases h4:k=4
 ·subst h4;simp[eO]at h;omega
 simp[h0,a,h3,h4]at h
def zy{g p vs}(h:zj g (p,vs)=0):((p=0/\vs.length<=4)\/(p=1/\vs.length=1)\/(p=2/\vs.length=2))/\∀v∈vs,mh g v=0:=by
 unfold zj at h;dsimp only at h;by_cases b:p<0\/2<p
 omega;rw[if_neg b]at h;by_cases a:vs.length<(if p=0 then 0 else if p=1 then 1 else 2)
 rw[if_pos a]at h;exact absurd h (by decide);rw[if_neg a]at h;by_cases h3:(if p=0 then 4 else if p=1 then 1 else 2)<vs.length
 rw[if_pos h3]at h;exact absurd h (by decide);rw[if_neg h3]at h;refine⟨?_,λv c=>xl h _<|List.mem_map_of_mem c⟩
 grind
def V4(x w):(Zn 76 (.agg #[Δ Ξ p,x]) 0).run prog w=.ok (Δ Ξ p) w:=by kernel_rfl
def V5(x w):(Zn 76 (.agg #[Δ Ξ p,x]) 1).run prog w=.ok x w:=by kernel_rfl
def V6(q w):(Zn 50 (.agg #[Δ Ξ p,Δ Ξ q]) 0).run prog w=.ok (Δ Ξ p) w:=by kernel_rfl
def V7(q w):(Zn 50 (.agg #[Δ Ξ p,Δ Ξ q]) 1).run prog w=.ok (Δ Ξ q) w:=by kernel_rfl
def Iv(b g v cs tG)(X:mi w b g)(hv:sa w v cs)(hm:cs.length<=tG)(S:tG<=1000000)(hc:∀c∈cs,zj g c=0):
 κ prog 166 #[.pointer (U ⟨b,0,θ⟩),v,Δ Ξ tG] w λe w'=>e=.returned (.tuple #[])/\I w.heap.size w w':=by
 obtain⟨n,o,r,wi,d,m,c0,c1,_,_,_,_,⟨a1,m1,rfl,_,_,_⟩,⟨a2,m2,rfl,_,_,_⟩,_⟩:=X;obtain⟨a,m,rfl,hm0,hm2,H⟩:=hv;have hb:=az c0;have E:=V H;have HC:=V hc;have hz:(a.isNone&&decide (cs.length≠0))=Z:=by
  obtain _|a:=a
  obtain h0|h0:=Nat.eq_zero_or_pos cs.length
  ·simp[h0]
  obtain⟨_,_,h,_⟩:=H h0;cases h
  simp
 clear H hc;have hq:=aeV;have hq2:=Ir;have hf0:=V4;have hf1:=V5;have hf2:=V6;have T:=V7;refine calls_of_wp func166 rfl ?_;simp only[ntmps166,Y1,Zo,Zj,Nat.reduceAdd,Nat.reduceSub,Array.replicate_succ,Array.replicate_zero,List.push_toArray,List.append_toArray,YZ,List.cons_append];unfold Hs;simp only[sq,Hr,rg,EC,tm,ci,Hq,rf,yS,cmp,cellC,adR];have C:¬(tG<cs.length):=by omega
 have Q:¬((1000000:Int)<cs.length):=by omega
 obtain _|ad:=a
 ·have O:cs.length=0:=by simpa using hz
  have G:=ο O;subst G;clear hz O
  go_wp2
  go_loopw [17] (λi wr=>i=Δ Ξ 0/\wr=w) (λi _=>0)
  case atStart=>exact⟨rfl,rfl⟩
  case round=>
   obtain⟨rfl,rfl⟩:=hrel
   go_wp2_with fail
   refine aes rfl rfl λa' w' h1 B h3=>?_;refine‹∀(a:Act) (w:R),Code.wp prog Code.ret _ a w->_› _ _ (wp_ret ?_);exact⟨B,.tuple #[],by simp[Zz,results166],rfl,h3⟩
 ·clear hz
  go_wp2
  go_loopw [17] (λi wr=>∃k:Nat,k<=cs.length/\i=Δ Ξ k/\wr=w) (λi _=>cs.length-(intOf i).toNat)
  case atStart=>exact⟨0,Nat.zero_le _,rfl,rfl⟩
  case round=>
   obtain⟨k,hk,rfl,rfl⟩:=hrel;by_cases A:k<cs.length
   ·obtain⟨ba,oa,e,hba,f⟩:=E.out (by omega);cases e
    obtain⟨p,l,e1⟩:=cQ A;obtain⟨c2,x,c3,hx⟩:=f k p l e1;obtain⟨N,z⟩:=zy<|HC.out _<|ω e1;obtain⟨u,mx,rfl,hmx,L,s⟩:=hx;have J:=V s;have HV:=V z;have hz:(u.isNone&&decide (l.length≠0))=Z:=by
     obtain _|a:=u
     obtain h0|h0:=Nat.eq_zero_or_pos l.length
     ·simp[h0]
     obtain⟨_,_,h,_⟩:=s h0;cases h
     simp
    clear f e1 s z;have W:l.length<=4:=by omega
    have F:((p==0)=Y/\((4:Int)<l.length->False))\/((p==0)=Z/\(p==1)=Y/\((l.length:Int) !=1)=Z)\/((p==0)=Z/\(p==1)=Z/\(p==2)=Y/\((l.length:Int) !=2)=Z):=by
     obtain⟨rfl,h⟩|⟨rfl,h⟩|⟨rfl,h⟩:=N
     exact .inl ⟨rfl,λh'=>by omega⟩;exact .inr<|.inl ⟨rfl,rfl,by simp[h]⟩;exact .inr<|.inr ⟨rfl,rfl,rfl,by simp[h]⟩
    clear N E HC;have q:u=θ->((l.length:Int) !=0)=Z:=by rintro rfl;simp at hz;simp[hz]
    clear hz;obtain _|u:=u
    all_goals
     first
     |(have hz3:=q rfl;clear q)
     |clear q
     obtain⟨K,P⟩|⟨K,P,k3⟩|⟨K,P,k3,k4⟩:=F
     all_goals
      go_wp2
      go_loopw [30] (λi D=>∃j:Nat,j<=l.length/\i=Δ Ξ j/\D=wr) (λi _=>l.length-(intOf i).toNat)
      case atStart=>exact⟨0,Nat.zero_le _,rfl,rfl⟩
      case round=>
       obtain⟨j,hj,rfl,rfl⟩:=hrel;by_cases y:j<l.length
       ·obtain⟨bb,ob,e,hbb,f⟩:=J.out (by omega)
        first
        |(cases e;done)
        |(cases e
          obtain⟨kq,nq,e1⟩:=ep y;obtain⟨d1,d2⟩:=f j kq nq e1;have t:=N0<|HV.out _<|ω e1;clear f e1 J HV;obtain⟨rfl,v1,v2⟩|⟨rfl,rfl⟩|⟨rfl,v1,v2⟩|⟨rfl,v1,v2⟩:=t
          all_goals
           go_wp2
           exact⟨⟨j+1,by omega,by go_num,by trivial⟩,by simp[intOf];omega⟩)
       ·clear J HV
        go_wp2
        exact⟨⟨k+1,by omega,by go_num,by trivial⟩,by simp[intOf];omega⟩
   ·clear E HC
    go_wp2_with fail
    refine aes rfl rfl λa' w' h1 B h3=>?_;refine‹∀(a:Act) (w:R),Code.wp prog Code.ret _ a w->_› _ _ (wp_ret ?_);exact⟨B,.tuple #[],by simp[Zz,results166],rfl,h3⟩
end
end Kn
namespace Kn
open Go Go.RowKit Md
section
variable(w:R)(p:Int)(b:Nat)(q:Int)
def BF(g:GH)(l:List HV):Prop:=l.length<=40/\∀i v,l[i]?=U v->co v=Y/\eO g v=0/\(l.take i).contains v=Z
def eI.take{w a m l j}(h:eI w (.slice a l.length m) l)(q:j<=l.length):eI w (.slice a j m) (l.take j):=by
 obtain⟨p,s,d,r,g,h3⟩:=h;cases d
 have f:(l.take j).length=j:=by simp;omega
 refine⟨a,m,by rw[f],by omega,g,λh0=>?_⟩;obtain⟨b,o,rfl,hb,c⟩:=h3 (by omega);refine⟨b,o,rfl,hb,λi k n e=>c i k n ?_⟩
 grind
def sm{e c}(h:dZ c e)(hc:c=0):e=.returned (.tuple #[]):=by unfold dZ at h;rwa[if_pos hc]at h
def jX(h:co (p,q)=Y):κ prog 168 #[.agg #[Δ Ξ p,Δ Ξ q]] w λe w'=>e=.returned (.bool Y)/\I w w w':=by have:=sd w (p,q);rw[h]at this;exact this
def Iw(g p q)(h:mi w b g)(a:eO g (p,q)=0):κ prog 169 #[.pointer b,.agg #[Δ Ξ p,Δ Ξ q]] w λe w'=>e=.returned (.tuple #[])/\I w w w':=(we w b g (p,q) h).mono λe w' h=>⟨sm h.1 a,h.2⟩
def zA(v l p q)(a:eI w v l)(h:l.contains (p,q)=Z):
 κ prog 170 #[v,.agg #[Δ Ξ p,Δ Ξ q]] w λe w'=>e=.returned (.bool Z)/\I w w w':=by
 have:=BD w v l (p,q) a;rw[h]at this;exact this
theorem jY:∀{l r:List Int} {k:Nat} {e:Int},(∀i x,i<k->l[i]?=U x->x=0) ->l[k]?=U e->e≠0->cU (l++r)=e
 |[],r,k,e,h,he,hn=>by simp at he
 |a::l,r,0,e,h,he,hn=>by simp at he;subst he;simp[cU,hn]
 |a::l,r,k+1,e,h,he,hn=>by have h0:=h 0 a (by omega) rfl;subst h0;exact jY (l:=l) (r:=r) (k:=k) (e:=e) (λi x hi b=>h (i+1) x (Nat.succ_lt_succ hi)<|by grind) (by grind) hn
theorem jZ:∀{l r:List Int},(∀x∈l,x=0) ->cU (l++r)=cU r
 |[],r,h=>rfl
 |a::l,r,h=>by have h0:=h a Z4;subst h0;simp;exact jZ λx b=>h x<|ι _ b
def cN(g:GH):Int:=cU ((Z8 g.marked.length).map (jt g g.marked)++(ju g).map λn=>if g.marked.contains n then 0 else 11)
def uL(l:List Int)(k:Nat):Int:=if k=0 then-1 else l.getD (k-1) 0
def BG{l k n}(h:l[k]?=U n):uL l (k+1)=n:=by simp[uL,h]
def uM{g k n e}(hz:∀i,i<k->jt g g.marked i=0)(h:g.marked[k]?=U n)(b:jt g g.marked k=e)(a:e≠0):cN g=e:=by
 refine jY (k:=k) (λi x hi c=>?_) ?_ a
 grind
 grind
def zB{g}(hz:∀i,i<g.marked.length->jt g g.marked i=0):cN g=cU ((ju g).map λn=>if g.marked.contains n then 0 else 11):=by
 refine jZ λx a=>?_
 grind
structure eC(g:GH):Prop where
 cells:∀c∈g.new++g.old,zj g c=0
 news:g.new.length<=8
 bw:g.old.length<=32
 four:g.roots.length=4
 roots:∀v∈g.roots,mh g v=0
 aA:BF g g.aA
 done:BF g g.done
def uN(g v cs tG)(d:mi w b g)(a:sa w v cs)(h:(cs.length:Int)<=tG)(f:tG<=1000000)(hc:∀c∈cs,zj g c=0):
 κ prog 166 #[.pointer b,v,Δ Ξ tG] w λe w'=>e=.returned (.tuple #[])/\I w w w':=by
 obtain⟨n,rfl⟩:=Int.eq_ofNat_of_zero_le (by omega:0<=tG);exact Iv w b g v cs n d a (by omega) (by omega) hc
def Ix(g)(h:mi w b g)(J:eC g)(hm:g.marked.length<=1000000):
 κ prog 110 #[.pointer b] w λe w'=>dZ (cN g) e/\I w w w':=by
 have H:=V h;have K:=V J;obtain⟨n,o,r,wi,d,m,c0,c1,c2,c3,c4,c5,h1,h2,h3,h4,h5,h6⟩:=h;have hb:=az c0;have HC1:=V c1;have H1:=V h1;have H2:=V h2;have H3:=V h3;have H4:=V h4;have H5:=V h5;have H6:=V h6;obtain⟨ar,mr,rfl,hmr,aeW,har⟩:=h3;obtain⟨aw,mw,rfl,hmw,aeX,haw⟩:=h4;obtain⟨ad,md,rfl,hmd,aeY,had⟩:=h5;obtain⟨am,mm,rfl,hmm,aq4,ham⟩:=h6;obtain⟨an,mn,rfl,hmn,aq5,han⟩:=h1;obtain⟨ao,mo,rfl,hmo,aq7,hao⟩:=h2;have HR:=V har;have HM:=V ham;have four:=V J.four;have hr4:decide ((g.roots.length:Int)<4)=Z:=by have:=J.four;simp;omega
 have Xq:decide ((4:Int)<g.roots.length)=Z:=by have:=J.four;simp;omega
 clear J har haw had ham han hao
 go_enter (fU func110 rfl),ntmps110
 go_wp2_with fail
 refine(uN _ b g _ g.new 8 H.out H1.out (by have:=K.out.news;omega) (by omega) λc hc=>K.out.cells c<|ψ _ hc).mono ?_;rintro e w1 ⟨rfl,D⟩;have d1:=cG D c1 hb
 go_wp2_with fail
 refine(uN _ b g _ g.old 32 (H.out.below D) (H2.out.below D) (by have:=K.out.bw;omega) (by omega) λc hc=>K.out.cells c<|χ _ hc).mono ?_;rintro e w2 ⟨rfl,hb2'⟩;have hb2:=D.trans<|hb2'.mono D.size;have e2:=cG hb2 c2 hb;clear D hb2' d1 c1 c0
 go_wp2_with fail
 ((with_reducible refine(cd _ _).mono ?_))
 rintro e w' ⟨rfl,rfl⟩
 go_wp2_with fail
 ((with_reducible refine(cd _ _).mono ?_))
 rintro e w' ⟨rfl,rfl⟩
 go_wp2_with fail
 clear e2 hr4 Xq
 go_loopw [49] (λi wr=>∃k:Nat,k<=g.roots.length/\i=Δ Ξ k/\I w w wr) (λi _=>g.roots.length-(intOf i).toNat)
 case atStart=>exact⟨0,Nat.zero_le _,rfl,hb2⟩
 case round=>
  obtain⟨k,J,rfl,a⟩:=hrel;clear hb2;by_cases z:k<g.roots.length
  ·obtain⟨ba,oa,e,A,f⟩:=HR.out (by omega);cases e
   obtain⟨p,q,e1⟩:=ep z;obtain⟨f1,f2⟩:=(f.below a A) k p q e1;have hv0:=V<|K.out.roots _<|ω e1;have u:=a.size;clear f e1
   go_wp2_with fail
   refine(Io _ b g (p,q) (H.out.below<|a.alloc u _) hv0.out).mono ?_;rintro e w3 ⟨rfl,hb3⟩
   go_wp2_with fail
   exact⟨⟨k+1,by omega,by go_num,(a.alloc u _).trans<|hb3.mono (by simp;omega)⟩,by simp[intOf];omega⟩
  ·clear HR;have e3:=cG a c3 hb;have e4:=cG a c4 hb;have u:=a.size
   go_wp2_with fail
   go_region_held3 (λw'=>w' (b,3)=U (.slice aw g.aA.length mw)/\w' (b,4)=U (.slice ad g.done.length md)) (go_keep) (fail)
   go_wp2_with fail
   have L:I w w ((wr.alloc<|ZX #[.slice aw g.aA.length mw,.slice ad g.done.length md] 23).drew):=(a.alloc u _).drew;have Q:((wr.alloc<|ZX #[.slice aw g.aA.length mw,.slice ad g.done.length md] 23).drew) wr.heap.size=U (.slice aw g.aA.length mw):=by go_simp
   have W:((wr.alloc<|ZX #[.slice aw g.aA.length mw,.slice ad g.done.length md] 23).drew) (wr.heap.size,1)=U (.slice ad g.done.length md):=by go_simp
   have hbx:wr.heap.size<((wr.alloc<|ZX #[.slice aw g.aA.length mw,.slice ad g.done.length md] 23).drew).heap.size:=by simp
   generalize (wr.alloc _).drew=w9 at L Q W hbx⊢;generalize wr.heap.size=bx at Q W hbx u⊢;have hL:∀k:Nat,k<2->∃ax mx l,w9 (bx,k)=U (.slice ax l.length mx)/\eI w (.slice ax l.length mx) l/\BF g l:=by
    intro k J
    match k,J with
    |0,_=>exact⟨aw,mw,g.aA,Q,H4.out,K.out.aA⟩
    |1,_=>exact⟨ad,md,g.done,W,H5.out,K.out.done⟩
   have HL:=V hL;clear hL Q W e3 e4 a
   go_loopw [69] (λi wr=>∃k:Nat,k<=2/\i=Δ Ξ k/\I w9 w9 wr) (λi _=>2-(intOf i).toNat)
   case atStart=>exact⟨0,by omega,rfl,Ψ _ _⟩
   case round=>
    obtain⟨k,J,rfl,a⟩:=hrel;have O:=L.size;by_cases z:k<2
    ·obtain⟨ax,mx,l,hc,JF,ir⟩:=HL.out k z;have hcw:=cG a hc hbx;have HV:=V JF;obtain⟨ax',mx',he,hmx,N4,hax⟩:=JF;cases he
     have HX:=V hax;have HK:=V ir.2;have h40:decide ((40:Int)<l.length)=Z:=by have:=ir.1;simp;omega
     have u:=a.size;clear hc hax ir
     go_wp2_with fail
     ((with_reducible refine(cd _ _).mono ?_))
     rintro e w' ⟨rfl,rfl⟩
     go_wp2_with fail
     clear h40 hcw
     go_loopw [79] (λi wr=>∃j:Nat,j<=l.length/\i=Δ Ξ j/\I w9 w9 wr) (λi _=>l.length-(intOf i).toNat)
     case atStart=>exact⟨0,by omega,rfl,a⟩
     case round=>
      obtain⟨j,hj,rfl,X⟩:=hrel;clear a u;have amU:=X.size;by_cases hlt2:j<l.length
      ·obtain⟨ba,oa,e,A,f⟩:=HX.out (by omega);cases e
       obtain⟨p,q,e1⟩:=ep hlt2;have F:=L.trans<|X.mono O;obtain⟨f1,f2⟩:=(f.below F A) j p q e1;obtain⟨k1,k2,k3⟩:=HK.out j (p,q) e1;have K1:=V k1;have K2:=V k2;have K3:=V k3;clear f e1 k1 k2 k3
       go_wp2_with fail
       refine(jX _ p q K1.out).mono ?_;rintro e w4 ⟨rfl,t⟩;have n1:w4 wr.heap.size=U (Δ Ξ p):=(t.cell (p:=⟨wr.heap.size,0,θ⟩)<|by simp).trans (by go_simp);have n2:w4 (wr.heap.size,1)=U (Δ Ξ q):=(t.cell (p:=⟨wr.heap.size,1,θ⟩)<|by simp).trans (by go_simp);have hn4:wr.heap.size<w4:=by have:=t.size;simp at this;omega
       have q4:I wr wr w4:=(af _ _).trans<|t.mono<|by simp
       go_wp2_with fail
       ((with_reducible refine(cd _ _).mono ?_))
       rintro e w' ⟨rfl,rfl⟩
       go_wp2_with fail
       refine(Iw _ b g p q (H.out.below<|F.trans<|q4.mono<|by omega) K2.out).mono ?_;rintro e w5 ⟨rfl,T⟩;have q1:=cG T n1 hn4;have q2:=cG T n2 hn4;have q5:I wr wr w5:=q4.trans<|T.mono<|by omega
       have VT:=V<|(HV.out.take<|Nat.le_of_lt hlt2).below<|F.trans<|q5.mono<|by omega
       clear n1 n2 t T q4;have hjm:(j:Int)<=mx:=by omega
       go_wp2_with fail
       go_still_tail 4,(by kernel_rfl)
       change ZF _ _ _ _ _ w5.drew
       go_wp2_with fail
       refine(zA _ _ (l.take j) p q (VT.out.below<|(Ψ _ _).drew) K3.out).mono ?_;rintro e w6 ⟨rfl,hb6⟩
       go_wp2_with fail
       ((with_reducible refine(cd _ _).mono ?_))
       rintro e w' ⟨rfl,rfl⟩
       go_wp2_with fail
       exact⟨⟨j+1,by omega,by go_num,X.trans<|(q5.mono<|by omega).trans<|((Ψ _ _).drew).trans<|hb6.mono (by have:=q5.size;simp;omega)⟩,by simp[intOf];omega⟩
      ·clear HX HK
       go_wp2_with fail
       exact⟨⟨k+1,by omega,by go_num,X⟩,by simp[intOf];omega⟩
    ·clear HL;have f5:=((L.trans<|a.mono O).cell (p:=⟨b,5,θ⟩) hb).trans c5;have hbm:=L.trans<|a.mono O
     go_wp2_with fail
     clear f5 a
     go_loopw [8,105] (λv i wr=>∃k:Nat,k<=g.marked.length/\i=Δ Ξ k/\v=Δ Ξ (uL g.marked k)/\Hid (∀i,i<k->jt g g.marked i=0)/\I w w wr) (λ_ i _=>g.marked.length-(intOf i).toNat)
     case atStart=>exact⟨0,by omega,rfl,rfl,V λi hi=>by omega,hbm⟩
     case round=>
      obtain⟨k,J,rfl,rfl,hz,a⟩:=hrel;clear hbm;by_cases z:k<g.marked.length
      ·obtain⟨ba,oa,e,A,f⟩:=HM.out (by omega);cases e
       obtain⟨n,e1⟩:=lw z;have f1:=(f.below a A) k n e1;have f2:=cG a HC1.out hb;have B:g.marked.getD k 0=n:=by simp[ZD,e1]
       by_cases P:n<0\/(g.old.length:Int)<=n
       ·have s:jt g g.marked k=9:=by unfold jt;simp only[B];rw[if_pos P]
        have N:=V<|uM hz.out e1 s<|by decide
        clear f e1 B s HM;obtain P|P:=P
        ·go_wp2_with fail
         ((with_reducible refine(eU _ _).mono ?_))
         rintro e w' ⟨rfl,rfl⟩;exact⟨rfl,dZ.bad N.out<|by decide,a⟩
        ·by_cases hr2:n<0
         ·go_wp2_with fail
          ((with_reducible refine(eU _ _).mono ?_))
          rintro e w' ⟨rfl,rfl⟩;exact⟨rfl,dZ.bad N.out<|by decide,a⟩
         ·have S:decide ((g.old.length:Int)<=n)=Y:=by simpa using P
          go_wp2_with fail
          ((with_reducible refine(eU _ _).mono ?_))
          rintro e w' ⟨rfl,rfl⟩;exact⟨rfl,dZ.bad N.out<|by decide,a⟩
       ·have hr1:¬n<0:=λh=>P (.inl h);have hr2:decide ((g.old.length:Int)<=n)=Z:=by simp;omega
        by_cases C:n<=uL g.marked k
        ·have s:jt g g.marked k=14:=by unfold jt;simp only[B];rw[if_neg P];exact if_pos C
         have N:=V<|uM hz.out e1 s<|by decide
         have amW:decide (n<=uL g.marked k)=Y:=by simpa using C
         clear f e1 B s C P
         go_wp2_with fail
         ((with_reducible refine(cd _ _).mono ?_))
         rintro e w' ⟨rfl,rfl⟩
         go_wp2_with fail
         ((with_reducible refine(eU _ _).mono ?_))
         rintro e w' ⟨rfl,rfl⟩;exact⟨rfl,dZ.bad N.out<|by decide,a⟩
        ·have s:jt g g.marked k=0:=by unfold jt;simp only[B];rw[if_neg P];exact if_neg C
         have amW:decide (n<=uL g.marked k)=Z:=by simpa using C
         have HN:=V<|BG e1;have hz':Hid (∀i,i<k+1->jt g g.marked i=0):=V λi hi=>by
          obtain h|h:=Nat.lt_or_ge i k
          exact hz.out i h;rw[show i=k by omega];exact s
         clear f e1 B s C P hz
         go_wp2_with fail
         ((with_reducible refine(cd _ _).mono ?_))
         rintro e w' ⟨rfl,rfl⟩
         go_wp2_with fail
         ((with_reducible refine(cd _ _).mono ?_))
         rintro e w' ⟨rfl,rfl⟩
         go_wp2_with fail
         exact⟨⟨k+1,by omega,by go_num,by rw[HN.out],hz',a⟩,by simp[intOf];omega⟩
      ·have hzz:∀i,i<g.marked.length->jt g g.marked i=0:=λi hi=>hz.out i (by omega);have HR2:=V<|zB hzz;clear hzz hz HM
       go_wp2_with fail
       refine(Dt _ b g (H.out.below a) (by have:=K.out.bw;omega)).mono ?_;rintro e w3 ⟨⟨r3,rfl,S⟩,hb3⟩;have hR3:=V S.reads;obtain⟨a3,m3,rfl,Fw,aq8,h33⟩:=S.reads;have HX:=V h33;have t:=a.trans<|hb3.mono a.size;clear h33 S
       go_wp2_with fail
       go_loopw [131] (λi wr=>∃k:Nat,k<=(ju g).length/\i=Δ Ξ k/\Hid (∀i x,i<k->(ju g)[i]?=U x->g.marked.contains x=Y)/\I w3 w3 wr) (λi _=>(ju g).length-(intOf i).toNat)
       case atStart=>exact⟨0,by omega,rfl,V λi x hi=>by omega,Ψ _ _⟩
       case round=>
        obtain⟨k,J,rfl,hz,E⟩:=hrel;have G:=t.trans<|E.mono t.size;by_cases z:k<(ju g).length
        ·obtain⟨ba,oa,e,A,f⟩:=HX.out (by omega);cases e
         obtain⟨n,e1⟩:=lw z;have f1:=(f.below E A) k n e1;have f5:=cG G c5 hb;by_cases hc:g.marked.contains n=Y
         ·have hz':Hid (∀i x,i<k+1->(ju g)[i]?=U x->g.marked.contains x=Y):=V λi x hi hx=>by
           obtain h|h:=Nat.lt_or_ge i k
           exact hz.out i x h hx;rw[show i=k by omega,e1]at hx;cases hx
           exact hc
          have HC:=V hc;clear f e1 hc hz
          go_wp2_with fail
          refine(sj _ _ g.marked n<|H6.out.below G).mono ?_;rw[HC.out];rintro e w' ⟨rfl,rfl⟩
          go_wp2_with fail
          ((with_reducible refine(cd _ _).mono ?_))
          rintro e w' ⟨rfl,rfl⟩
          go_wp2_with fail
          exact⟨⟨k+1,by omega,by go_num,hz',E⟩,by simp[intOf];omega⟩
         ·have hcf:g.marked.contains n=Z:=by simpa using hc
          have N:cN g=11:=by
           rw[HR2.out];have:=jY (l:=(ju g).map λn=>if g.marked.contains n then 0 else 11) (r:=[]) (k:=k) (e:=11) (λi x hi hx=>by rw[ZY]at hx;obtain⟨y,hy,hxy⟩:=Option.map_eq_some_iff.1 hx;rw[hz.out i y hi hy]at hxy;simpa using hxy.symm) (by rw[ZY,e1];simp only[Option.map_some,hcf];rfl) (by decide)
           simpa using this
          have HM2:=V N;have HC:=V hcf;clear f e1 hc hcf hz N
          go_wp2_with fail
          refine(sj _ _ g.marked n<|H6.out.below G).mono ?_;rw[HC.out];rintro e w' ⟨rfl,rfl⟩
          go_wp2_with fail
          ((with_reducible refine(eU _ _).mono ?_))
          rintro e w' ⟨rfl,rfl⟩;exact⟨rfl,dZ.bad HM2.out<|by decide,G⟩
        ·have N:cN g=0:=by
          rw[HR2.out];have:=jZ (l:=(ju g).map λn=>if g.marked.contains n then 0 else 11) (r:=[]) (λx hx=>by obtain⟨y,hy,rfl⟩:=Γ.1 hx;obtain⟨i,hi,hyi⟩:=List.mem_iff_getElem.1 hy;rw[hz.out i y (by omega) (by rw[Θ hi,hyi])];rfl)
          simpa[cU]using this
         have HM2:=V N;clear N hz
         go_wp2
         go_end0;exact⟨dZ.ok HM2.out,G⟩
end
section
variable{w:R}{cs:List HC}
def sr{P}(w s B ty d i)(size g n l:Nat)(A m b t cs)(q:P.underlying s=U (.slice d))(hi:P.info? d=U i)(hs:i.size=size)(p:w.heap[g]?=U (.cells b t (0,0)))(r:cs.length=n*size)(o:0<n->∃ad,A=U ad/\∀j v,cs[j]?=U v->w (ad.add j)=U v)(f:cs.length<=b.size)(z:∀v∈cs,v.oneCell'=Y):
 ∃w',(Zh #[s,B] ty #[.slice g n l,.slice A n m]).run P w=.ok (goInt n) w'/\w'.heap[g]?=U (.cells (cs++b.toList.drop cs.length).toArray t (0,0))/\w.grownBy w' (U g):=by
 subst hs;obtain _|a:=A
 have x:n=0:=by
  obtain h0|h0:=Nat.eq_zero_or_pos n
  exact h0;obtain⟨ad,h,_⟩:=o h0;cases h
 subst x;have hc:=ο (by simpa using r);subst hc;refine⟨w,?_,by simpa using p,⟨rfl,rfl,rfl,.refl,λ_ _ _=>rfl⟩⟩;simp[Zh,ZP q,Zx,ZM,sizeOf,YY,hi,storeCells]
 ·have c:∀j u,cs[j]?=U u->w (a.add j)=U u:=by grind
  refine⟨w.setRow g (cs++b.toList.drop cs.length).toArray,?_,setRow_heap w g b _ t _ p,⟨rfl,rfl,rfl,by simp[World.setRow],λk _ y=>setRow_other w g k _ λe=>y<|by rw[e]⟩⟩;simp[Zh,ZP q,Zx,ZM,sizeOf,YY,hi,<-r,run_loadCells_list (P:=P) w a cs c,(run_storeCells_at P g 0 t cs 0 b w p (by simpa using f) z)]
def iW{P ops rest o a Q}(p:o.guard=θ)(d s r u)(C:o.op=.call {callee:=.builtin .copy,args:=#[d,s],argTypes:=#[r,u]})(b i size g n e A f c t cs)(D:P.underlying r=U (.slice b))(hi:P.info? b=U i)(hs:i.size=size)(hd:a.eval d=.slice g n e)(q:a.eval s=.slice A n f)(y:w.heap[g]?=U (.cells c t (0,0)))(E:cs.length=n*size)(m:0<n->∃ad,A=U ad/\∀j v,cs[j]?=U v->w (ad.add j)=U v)(l:cs.length<=c.size)(B:∀v∈cs,v.oneCell'=Y)(h:∀w',w'.heap[g]?=U (.cells (cs++c.toList.drop cs.length).toArray t (0,0)) ->w.grownBy w' (U g) ->ZF P ops Q rest (a.put o.dst<|goInt n) w'):ZF P ops Q (o::rest) a w:=by refine Y2 p λK z=>?_;obtain⟨w',k,x,h3⟩:=sr w r u o.type b i size g n e A f c t cs D hi hs y E m l B;unfold Oper.wp Zd;simp only[C,resolve,invoke,builtin,ZK,Y8,η,Y0,Zw,YT,hd,q,k];exact z _ _<|h w' x h3
def df(w:R)(B:Nat)(l:List (Int×υ))(cs:List HC):Prop:=
 l.length=cs.length/\(∀(i:Nat) k x k' vs,l[i]?=U (k,x) ->cs[i]?=U (k',vs) ->k=k'/\OV w B x vs)/\
  ∀(i j:Nat) p q,i<j->l[i]?=U p->l[j]?=U q->∀g,p.2.ownBlock=U g->q.2.ownBlock≠U g
def N5(w:R)(B:Nat)(v:υ)(cs:List HC):Prop:=∃l,OC w B v l/\df w B l cs
def df.hold{B l}(h:df w B l cs):aY w l cs:=⟨h.1,λi k v a b e1 e2=>⟨(h.2.1 i k v a b e1 e2).1,(h.2.1 i k v a b e1 e2).2.reads⟩⟩
def N5.reads{w B v cs}(h:N5 w B v cs):sa w v cs:=by obtain⟨l,a,b⟩:=h;exact a.reads b.hold
def df.below{w w' B l cs}(h:df w B l cs)(c:I w w w'):df w' B l cs:=⟨h.1,λi k x a b e1 e2=>⟨(h.2.1 i k x a b e1 e2).1,(h.2.1 i k x a b e1 e2).2.below c⟩,h.2.2⟩
def df.less{w B B' l cs}(h:df w B l cs)(c:B'<=B):df w B' l cs:=⟨h.1,λi k x a b e1 e2=>⟨(h.2.1 i k x a b e1 e2).1,(h.2.1 i k x a b e1 e2).2.less c⟩,h.2.2⟩
def df.snoc{B l k x vs}(h:df w B l cs)(m:OV w B x vs)(hd:∀(i:Nat) p,l[i]?=U p->∀g,p.2.ownBlock=U g->x.ownBlock≠U g):df w B (l++[(k,x)]) (cs++[(k,vs)]):=by
 obtain⟨a,e,h3⟩:=h;refine⟨by simp[a],λi c f d v2 e1 e2=>?_,λi j p q b e1 e2=>?_⟩
 grind
 grind
def BH{b o}(h:In w b o cs):∃l,aY w l cs/\∀j u,(l.flatMap dW)[j]?=U u->w (((b,o):Addr).add j)=U u:=by
 refine⟨(Z8 cs.length).map λi=>((cs.getD i (0,[])).1,(w (b,o+i*2+1)).getD undef),⟨by simp,λi k v C z e1 e2=>?_⟩,λj u d=>?_⟩;obtain⟨r,x,f,h3⟩:=h i C z e2;have hi:=(Ω.1 e2).1;simp[hi,Θ hi,((Ω.1 e2).2)]at e1;obtain⟨rfl,rfl⟩:=e1;rw[f];exact⟨rfl,h3⟩;generalize s:((Z8 cs.length).map λi=>((cs.getD i (0,[])).1,(w (b,o+i*2+1)).getD undef))=l at d;have D:=(Ω.1 d).1;have c:∀l:List (Int×υ),(l.flatMap dW).length=l.length*2:=by
  intro l
  induction l with
  |nil=>rfl
  |cons a l B=>rw[ξ,μ,B];simp[dW];omega
 have y:l.length=cs.length:=by rw[<-s];simp
 obtain⟨x,m⟩:∃x,l[j/2]?=U x:=⟨_,Θ (by have:=c l;omega)⟩;obtain⟨e1,e2⟩:=jx dW (λv=>Δ Ξ v.1) (λv=>v.2) (λ_=>rfl) l (j/2) x m;have e:j/2<cs.length:=by have:=c l;omega
 obtain⟨p,q,g⟩:=cQ e;obtain⟨r,v,f,h3⟩:=h (j/2) p q g;have n:x=(p,v):=by rw[<-s]at m;have:=(Ω.1 g).2;simp[e,this,f]at m;exact m.symm
 subst n;have A:((b,o):Addr).add j=⟨b,o+j,θ⟩:=by unfold ZW;split<;>simp_all
 rw[A];obtain t|t:=Nat.mod_two_eq_zero_or_one j
 rw[show j/2*2=j by omega]at e1 r;rw[e1]at d;cases d
 exact r;rw[show j/2*2+1=j by omega]at e2;rw[show o+j/2*2+1=o+j by omega]at f;rw[e2]at d;cases d
 exact f
end
section
variable{l:List (Int×υ)}{g:Nat}{w:R}{m n B:Nat}
theorem ss(x:υ):∀(l:List (Int×υ)) (k:Nat) (c:Int) (y:υ),l[k]?=U (c,y) ->(l.set k (c,x)).flatMap dW=(l.flatMap dW).set (k*2+1) x
 |[],k,c,y,h=>by simp at h
 |a::l,0,c,y,h=>by simp at h;subst h;simp[dW]
 |a::l,k+1,c,y,h=>by have:=ss x l k c y (by grind);rw[List.set_cons_succ,ξ,ξ,this,show(k+1)*2+1=k*2+1+1+1 by omega];simp[dW]
def OC.set{k c x y}(h:OC w B (.slice g n m) l)(b:l[k]?=U (c,y)):OC (w.setCell (g,k*2+1) x) B (.slice g n m) (l.set k (c,x)):=by
 obtain⟨f,⟨h0,_⟩|⟨r,i,a,e,j,p,q,d,hs,o⟩⟩:=h;cases h0
 cases e
 refine⟨by rw[ss x l k c y b];simpa using f,.inr ⟨g,m,a.setIfInBounds (k*2+1) x,by simp,j,?_,by simpa using q,d,by simpa using hs,?_⟩⟩;simp[World.setCell,Array.getElem?_modify,p];rw[ss x l k c y b,<-o];rw[Array.toList_setIfInBounds,List.length_set,List.take_set]
def OC.block(h:OC w B (.slice g n m) l):B<=g/\g<w/\∃a,w.heap[g]?=U (.cells a 76 (0,0))/\a.size=m*2:=by
 obtain⟨e,⟨h0,_⟩|⟨o,b,a,d,f,j,k,c,hs,i⟩⟩:=h
 grind
 grind
def OC.at_{k c y}(h:OC w B (.slice g n m) l)(d:l[k]?=U (c,y)):w (g,k*2)=U (Δ Ξ c)/\w (g,k*2+1)=U y/\w.frozen? (g,k*2+1)=Z:=by
 obtain⟨a,s,f,q,p,h3⟩:=aF h;have o:=(Ω.1 d).1;obtain⟨t,i,_,r,j,hc⟩:=h3 (by omega);obtain⟨rfl,_,rfl⟩:=f;cases i
 obtain⟨e1,e2⟩:=jx dW (λv=>Δ Ξ v.1) (λv=>v.2) (λ_=>rfl) l k _ d;obtain⟨_,_,e,b,_⟩:=h.block;exact⟨hc _ _ e1,hc _ _ e2,by simp[World.frozen?,b]⟩
def OV.wl{B' i:Nat}{v u vs}(h:OV w B v vs)(hc:OC w B' (.slice g n m) l):OV (w.setCell (g,i) u) B v vs:=by
 obtain⟨_,_,e,c,_⟩:=hc.block;refine aS h λj a=>?_;have b:j≠g:=by
  obtain⟨o,⟨rfl,_⟩|⟨k,f,d,rfl,p,q,_⟩⟩:=h;cases a
  cases a
  grind
 exact Below.heap_setCell _ _ _ _ b
def df.wl{w}{B B' g n m i:Nat}{l l2 u cs}(h:df w B l cs)(hc:OC w B' (.slice g n m) l2):df (w.setCell (g,i) u) B l cs:=⟨h.1,λi k x a b e1 e2=>⟨(h.2.1 i k x a b e1 e2).1,(h.2.1 i k x a b e1 e2).2.wl hc⟩,h.2.2⟩
def V8(n c:Nat)(a:n<=c)(hc:c<=1000000000)(w):
 (Zm 22 (Δ Ξ (n:Int))<|Δ Ξ (c:Int)).run prog w=.ok (.slice w.heap.size n c) (w.alloc<|.cells (ZN #[Δ Ξ 0,ZJ θ 0 0]<|c*2) 76):=by
 obtain⟨e,hi,b,d,f⟩:=ZO ni;have:=mG 22 76 e _ mF hi b Ξ Ξ n c a (by grind) (by omega) w;rw[d]at this;exact this
def Iy{b:Type}(done l:List b)(x k)(hd:done.length=k)(a:k<l.length):(done++l.drop k).set k x=(done++[x])++l.drop (k+1):=by subst hd;rw[List.set_append_right _ _ .refl,Nat.sub_self,Zc a,Zr];rfl
def iu(l:List (Int×υ)):(l.flatMap dW).length=l.length*2:=by
 induction l with
 |nil=>rfl
 |cons a l b=>rw[ξ,μ,b];simp[dW];omega
def BI{z}(a:l.length=n)(b:B<=g)(hw:w.heap[g]?=U (.cells (l.flatMap dW++(ZN z<|n*2).toList.drop (l.flatMap dW).length).toArray 76 (0,0)))(d:n<=1000000):OC w B (.slice g n n) l:=by subst a;refine⟨iu l,.inr ⟨g,l.length,_,rfl,b,hw,.refl,by unfold ZT;omega,?_,?_⟩⟩;have c:=iu l;simp only[Y1,μ,List.length_drop,(by simpa using (jz z<|l.length*2):(ZN z<|l.length*2).toList.length=l.length*2)];omega;show List.take (l.length*2) (l.flatMap dW++_)=_;rw[<-iu,List.take_left]
def zC(w v cs)(hv:sa w v cs)(hl:cs.length<=1000000)(hs:∀c∈cs,c.2.length<=1000000):
 κ prog 147 #[v] w λe w'=>(∃r,e=.returned r/\N5 w' w r cs)/\I w w w':=by
 obtain⟨a,m,rfl,hm,hm2,ha⟩:=hv;obtain⟨l,F,t⟩:∃l,aY w l cs/\(0<cs.length->∃ad,a=U ad/\ad.block<w/\∀j u,(l.flatMap dW)[j]?=U u->w (ad.add j)=U u):=by
  obtain h0|h0:=Nat.eq_zero_or_pos cs.length
  exact⟨[],⟨by simp[h0],λi k v k' C e1 _=>by simp at e1⟩,λh=>absurd h<|by omega⟩;obtain⟨b,o,rfl,hb,hat⟩:=ha h0;obtain⟨l,h1,h2⟩:=BH hat
  exact⟨l,h1,λ_=>⟨_,rfl,hb,h2⟩⟩
 clear ha;have n:∀l:List (Int×υ),(l.flatMap dW).length=l.length*2:=by
  intro l
  induction l with
  |nil=>rfl
  |cons a l ih=>rw[ξ,μ,ih];simp[dW];omega
 have s:∀u∈l.flatMap dW,u.oneCell'=Y:=by
  intro u hu;obtain⟨p,hp,h⟩:=Z9.1 hu;simp[dW]at h;obtain rfl|rfl:=h
  rfl;obtain⟨i,hi⟩:=ZR.1 hp;have hic:i<cs.length:=by rw[<-F.1];exact(Ω.1 hi).1
  obtain⟨p',q',hpq⟩:=cQ hic;obtain⟨_,a',m',h,_⟩:=F.2 i p.1 p.2 p' q' hi hpq;rw[h];rfl
 have K:=F.1;obtain⟨i0,hi,hz0,O,hz2⟩:=ZO ni;have hmk:=λW=>V8 cs.length cs.length .refl (by omega) W;have D:=V K;have HH:=V F;have HI:=V hi;have Q:=V O;have HR:=V t;have HO:=V s;have HN:=V n;clear K F hi hz0 O hz2 t s n
 go_enter (fU func147 rfl),ntmps147
 go_wp2_with (with_reducible refine iW rfl (.tmp 9) (.tmp 10) 22 22 rfl 76 i0 2 w cs.length cs.length a m _ 76 (l.flatMap dW) mF HI.out Q.out rfl rfl (ZQ w _) (by rw[HN.out,D.out]) (λh0=>?h1) (by rw[HN.out,jz,D.out];omega) HO.out ?_)
 case h1=>obtain⟨ad,e,hb,P⟩:=HR.out h0;exact⟨ad,e,λj u hu=>(World.cell?_alloc_lt w _ _ (by rw[show(ad.add j).block=ad.block by unfold ZW;split<;>rfl];exact hb)).trans<|P j u hu⟩
 ·intro w1 y E;rw[<-List.length_flatMap]at y;have S:=(af w _).grown E (by simp) (λk hk=>by cases hk;exact .refl);have J:=BI D.out .refl y hl;clear y E hmk HI Q
  go_wp2
  go_loopw [14] (λi wr=>∃k:Nat,k<=cs.length/\i=Δ Ξ k/\I w w wr/\∃done,done.length=k/\OC wr w (.slice w.heap.size cs.length cs.length) (done++l.drop k)/\df wr w done (cs.take k)) (λi _=>cs.length-(intOf i).toNat)
  case atStart=>exact⟨0,Nat.zero_le _,rfl,S,[],rfl,by simpa using J,rfl,λi k x k' C e1 _=>by simp at e1,λi j p q _ e1 _=>by simp at e1⟩
  case round=>
   obtain⟨k,hk,rfl,f,done,z,T,H⟩:=hrel;clear S J;by_cases A:k<cs.length
   ·have hkl:k<l.length:=by rw[D.out];exact A
    obtain⟨⟨p,x⟩,e1⟩:∃x,l[k]?=U x:=⟨_,Θ hkl⟩;obtain⟨p',C,e2⟩:=cQ A;obtain⟨rfl,hx⟩:=HH.out.2 k p x p' C e1 e2;have N:=hs _<|ω e2;dsimp only at N;have ek:(done++l.drop k)[k]?=U (p,x):=by rw[Zf (by omega),z,Nat.sub_self,List.getElem?_drop];simpa using e1
    obtain⟨c1,c2,_⟩:=T.at_ ek;have X:=f.size;have hxw:=V<|hx.below f;obtain⟨ax,mx,rfl,_,_,_⟩:=hx;have E2:=V e2;have EK:=V ek;have HK:=V z;clear e1 e2 ek z
    go_wp2_with fail
    refine(J6 _ _ C (hxw.out.below<|af _ _) N).mono ?_;rintro e w2 ⟨⟨r,rfl,P⟩,hb2⟩;have B:=(af _ _).trans<|hb2.mono<|by simp
    have d:=T.below B;have he2:=H.below B;obtain⟨d1,d2,d3⟩:=d.at_ EK.out;have L:=d.set (x:=r) EK.out;rw[Iy done l _ k HK.out (by rw[D.out];exact A)]at L;have G:=V P;obtain⟨ar,mr,rfl,_,_,_⟩:=aF P;clear P c1 c2
    go_wp2
    go_roundw
    case rel=>
     have hrB:OV w2 w (.slice ar C.length mr) C:=G.out.less (by simp;omega);refine⟨k+1,by omega,by go_num,((f.trans<|B.mono X).setCell (p:=⟨w.heap.size,_,θ⟩) .refl _),done++[(p,_)],by simp[HK.out],L,?_⟩;rw[bW E2.out];refine(he2.wl d).snoc (hrB.wl d) λi q hi g hg hg'=>?_;have hq:i<(cs.take k).length:=by rw[<-H.1];exact(Ω.1 hi).1
     obtain⟨p3,q3,e3⟩:=cQ hq;obtain⟨_,hov⟩:=H.2.1 i q.1 q.2 p3 q3 hi e3;have:=(hov.lt g hg).2;have:=(G.out.lt g hg').1;simp at this;omega
    case measure=>simp[intOf];omega
   ·go_wp2
    go_ret;refine⟨⟨_,rfl,done,?_,?_⟩,f⟩;rw[List.drop_eq_nil_of_le (by rw[D.out];omega),List.append_nil]at T;exact T;rw[φ (by omega)]at H;exact H
end
section
variable{w:R}{g:GH}{B:Nat}{row:HV->υ}{c:HC}{i:Nat}{l:List (Int×υ)}{v:υ}
def RC(w:R)(B:Nat)(v:υ)(l:List (Int×υ)):Prop:=∃a m,v=.slice a l.length m/\l.length<=m/\m<=ZT/\(a=θ->m=0)/\(0<l.length->∃g cur,a=U ⟨g,0,θ⟩/\B<=g/\w.heap[g]?=U (.cells cur 76 (0,0))/\cur.toList.take (l.length*2)=l.flatMap dW)
def su(l:List (Int×υ)):(l.flatMap dW).length=l.length*2:=by
 induction l with
 |nil=>rfl
 |cons a l b=>rw[ξ,μ,b];simp[dW];omega
def OC.rc(h:OC w B v l):RC w B v l:=by obtain⟨k,⟨rfl,h0⟩|⟨g,b,a,rfl,f,d,j,c,hs,i⟩⟩:=h;obtain rfl:l=[]:=ο h0;exact⟨θ,0,rfl,.refl,by simp,λ_=>rfl,λh=>absurd h<|Nat.lt_irrefl 0⟩;exact⟨_,b,rfl,j,c,(λe=>by cases e),λ_=>⟨g,a,rfl,f,d,i⟩⟩
def RC.below{w'}(h:RC w B v l)(d:∀(g:Nat) cur,w.heap[g]?=U (Obj.cells cur 76 (0,0)) ->w'.heap[g]?=w.heap[g]?):RC w' B v l:=by
 obtain⟨a,m,rfl,b,c,h3,h⟩:=h;refine⟨a,m,rfl,b,c,h3,λh0=>?_⟩
 grind
def RC.low{w'}(h:RC w B v l)(c:I w.heap.size w w'):RC w' B v l:=h.below λg a b=>c.block g (Zg.1 b).1
def RC.cells(h:RC w B v l)(h0:0<l.length):∃g m,v=ZJ (U ⟨g,0,θ⟩) l.length m/\B<=g/\g<w.heap.size/\l.length<=m/\m<=9223372036854775807/\(∀j u,(l.flatMap dW)[j]?=U u->w.cell? ⟨g,j,θ⟩=U u):=by
 obtain⟨a,m,rfl,f,d,h3,h⟩:=h;obtain⟨g,b,rfl,i,e,n⟩:=h h0;refine⟨g,m,rfl,i,(Zg.1 e).1,f,by unfold ZT at d;exact d,λj u k=>?_⟩;have c:b[j]?=U u:=by grind
 simp[Y9,e,c]
def RC.reads{cs}(h:RC w B v l)(hc:aY w l cs):sa w v cs:=by
 obtain⟨a,m,e,f,d,h3,h4⟩:=id h;rw[hc.1]at f e;refine⟨a,m,e,f,by unfold ZT at d;exact d,λh0=>?_⟩;obtain⟨g,r,b,_,p,_,_,j⟩:=h.cells (by rw[hc.1];exact h0);rw[e]at b;obtain rfl:a=U ⟨g,0,θ⟩:=by injection b
 refine⟨g,0,rfl,p,λi k n e=>?_⟩;have hi:i<l.length:=by rw[hc.1];exact(Ω.1 e).1
 obtain⟨q,c,b⟩:∃k v,l[i]?=U (k,v):=⟨_,_,Θ hi⟩;obtain⟨rfl,o⟩:=hc.2 i q c k n b e;obtain⟨e1,e2⟩:=jx dW (λv=>Δ Ξ v.1) (λv=>v.2) (λ_=>rfl) l i _ b;rw[Nat.zero_add];exact⟨j _ _ e1,c,j _ _ e2,o⟩
def Apart(x y:υ):Prop:=∀g,x.ownBlock=U g->y.ownBlock≠U g
def bd(g:GH)(k:HV):List HV:=if k.1=0 then(if k.2=0 then g.roots else if k.2=1 then g.aA else g.done)else(cellAt g k).2
def IsKey(g:GH)(k:HV):Prop:=(k.1=0/\0<=k.2/\k.2<=2)\/(k.1=3/\0<=k.2/\k.2<g.new.length)\/(k.1=4/\0<=k.2/\k.2<g.old.length)
def kD(w:R)(B:Nat)(row:HV->υ)(g:GH):Prop:=(∀k,IsKey g k->OV w B (row k) (bd g k))/\∀k k',IsKey g k->IsKey g k'->k≠k'->Apart (row k) (row k')
def cellsOf(row:HV->υ)(kind:Int)(cs:List HC):List (Int×υ):=cs.zipIdx.map λx=>(x.1.1,row (kind,(x.2:Int)))
def dm(w:R)(B b:Nat)(g:GH):Prop:=∃n o m row,B<=b/\w.heap[b]?=U (ZX #[n,o,row (0,0),row (0,1),row (0,2),m] 114 (0,0))/\
 RC w B n (cellsOf row 3 g.new)/\RC w B o (cellsOf row 4 g.old)/\OI w B m g.marked/\kD w B row g
def bH{kind cs}(h:cs[i]?=U c):(cellsOf row kind cs)[i]?=U (c.1,row (kind,(i:Int))):=by simp[cellsOf,h]
def aT(row kind cs):(cellsOf row kind cs).length=cs.length:=by simp[cellsOf]
def J8(h:g.new[i]?=U c):IsKey g (3,(i:Int))/\bd g (3,(i:Int))=c.2:=by have:=(Ω.1 h).1;refine⟨.inr<|.inl ⟨rfl,by omega,by omega⟩,?_⟩;simp[bd,cellAt,h]
def B1(h:g.old[i]?=U c):IsKey g (4,(i:Int))/\bd g (4,(i:Int))=c.2:=by have:=(Ω.1 h).1;refine⟨.inr<|.inr ⟨rfl,by omega,by omega⟩,?_⟩;simp[bd,cellAt,h]
def kD.roots(h:kD w B row g):OV w B (row (0,0)) g.roots/\OV w B (row (0,1)) g.aA/\OV w B (row (0,2)) g.done:=⟨h.1 (0,0)<|.inl ⟨rfl,by decide,by decide⟩,h.1 (0,1)<|.inl ⟨rfl,by decide,by decide⟩,h.1 (0,2)<|.inl ⟨rfl,by decide,by decide⟩⟩
def kD.N6(h:kD w B row g):aY w (cellsOf row 3 g.new) g.new:=
 ⟨aT _ _ _,λi k v d c e1 e2=>by
   rw[bH e2]at e1;cases e1
   obtain⟨b,a⟩:=J8 e2;have:=h.1 _ b;rw[a]at this;exact⟨rfl,this.reads⟩⟩
def kD.Du(h:kD w B row g):aY w (cellsOf row 4 g.old) g.old:=
 ⟨aT _ _ _,λi k v d c e1 e2=>by
   rw[bH e2]at e1;cases e1
   obtain⟨b,a⟩:=B1 e2;have:=h.1 _ b;rw[a]at this;exact⟨rfl,this.reads⟩⟩
def dm.reads{w B b g}(h:dm w B b g):mi w b g:=by
 obtain⟨n,o,m,row,d,hb,a,c,h3,h4⟩:=h;obtain⟨r0,r1,r2⟩:=h4.roots;refine⟨n,o,row (0,0),row (0,1),row (0,2),m,?_,?_,?_,?_,?_,?_,a.reads h4.N6,c.reads h4.Du,r0.reads,r1.reads,r2.reads,h3.reads⟩
 all_goals simp[Y9,hb]
def dm.below{w w' B b g}(h:dm w B b g)(a:I w.heap.size w w'):dm w' B b g:=by
 obtain⟨n,o,m,row,i,hb,f,e,h3,h4⟩:=h;have d:b<w.heap.size:=by grind
 exact⟨n,o,m,row,i,(a.block b d).trans hb,f.low a,e.low a,h3.below a,λk c=>(h4.1 k c).below a,h4.2⟩
end
def BJ(lo hi:Nat)(v:υ):Prop:=∀g,v.ownBlock=U g->lo<=g/\g<hi
def BJ.apart{a b c d x y}(i:BJ a b x)(j:BJ c d y)(h:b<=c):Apart x y:=λg e f=>by have:=i g e;have:=j g f;omega
def Apart.symm{x y}(h:Apart x y):Apart y x:=λg a b=>h g b a
def dp(ln lo:List (Int×υ))(r wi d:υ)(k:HV):υ:=if k.1=0 then(if k.2=0 then r else if k.2=1 then wi else d)else((if k.1=3 then ln else lo).getD k.2.toNat (0,ZJ θ 0 0)).2
def iY{ln lo r wi d cs w B kind}(f:kind=3\/kind=4)(h:df w B (if kind=3 then ln else lo) cs):cellsOf (dp ln lo r wi d) kind cs=(if kind=3 then ln else lo):=by
 have a:kind≠0:=by omega
 apply List.ext_getElem?;intro i;obtain hi|hi:=Nat.lt_or_ge i cs.length
 obtain⟨p,q,e⟩:=cQ hi;rw[bH e];have b:i<(if kind=3 then ln else lo).length:=by rw[h.1];exact hi
 obtain⟨⟨c,x⟩,e2⟩:∃x,(if kind=3 then ln else lo)[i]?=U x:=⟨_,Θ b⟩;obtain⟨rfl,_⟩:=h.2.1 i c x p q e2 e;simp[dp,a,ZD,e2];rw[Y7 (by rw[aT];exact hi),Y7 (by rw[h.1];exact hi)]
def N7{w B b s1 s2 s3 s4 g n o r wi d m ln lo}(X:B<=b)(hb:w.heap[b]?=U (ZX #[n,o,r,wi,d,m] 114 (0,0)))(Q:OC w B n ln)(E:df w B ln g.new)(O:OC w B o lo)(D:df w B lo g.old)(P:OV w B r g.roots)(hw:OV w B wi g.aA)(hd:OV w B d g.done)(T:OI w B m g.marked)(r1:∀p∈ln,BJ B s1 p.2)(r2:∀p∈lo,BJ s1 s2 p.2)(r3:BJ s2 s3 r)(r4:BJ s3 s4 wi)(r5:BJ s4 w.heap.size d)(L:s1<=s2)(h23:s2<=s3)(W:s3<=s4):dm w B b g:=by
 have c3:cellsOf (dp ln lo r wi d) 3 g.new=ln:=by simpa using iY (ln:=ln) (lo:=lo) (r:=r) (wi:=wi) (d:=d) (kind:=3) (.inl rfl) (by simpa using E)
 have J:cellsOf (dp ln lo r wi d) 4 g.old=lo:=by simpa using iY (ln:=ln) (lo:=lo) (r:=r) (wi:=wi) (d:=d) (kind:=4) (.inr rfl) (by simpa using D)
 have s:∀i:Nat,i<g.new.length->∃p c,ln[i]?=U p/\g.new[i]?=U c/\dp ln lo r wi d (3,(i:Int))=p.2:=by intro i hi;obtain⟨p,q,e⟩:=cQ hi;have:=bH (row:=dp ln lo r wi d) (kind:=3) e;rw[c3]at this;exact⟨_,_,this,e,rfl⟩
 have l:∀i:Nat,i<g.old.length->∃p c,lo[i]?=U p/\g.old[i]?=U c/\dp ln lo r wi d (4,(i:Int))=p.2:=by intro i hi;obtain⟨p,q,e⟩:=cQ hi;have:=bH (row:=dp ln lo r wi d) (kind:=4) e;rw[J]at this;exact⟨_,_,this,e,rfl⟩
 have f:∀k,IsKey g k->(∃i:Nat,i<g.new.length/\k=(3,(i:Int)))\/(∃i:Nat,i<g.old.length/\k=(4,(i:Int)))\/k=(0,0)\/k=(0,1)\/k=(0,2):=by
  rintro⟨a,c⟩ (⟨x,z,h3⟩|⟨x,z,h3⟩|⟨x,z,h3⟩);dsimp only at x z h3;subst x;have:c=0\/c=1\/c=2:=by omega
  obtain rfl|rfl|rfl:=this<;>simp
  dsimp only at x z h3;subst x;exact .inl ⟨c.toNat,by omega,by simp;omega⟩;dsimp only at x z h3;subst x;exact .inr<|.inl ⟨c.toNat,by omega,by simp;omega⟩
 refine⟨n,o,m,dp ln lo r wi d,X,hb,by rw[c3];exact Q.rc,by rw[J];exact O.rc,T,λk G=>?_,λk N G F t=>?_⟩;obtain⟨i,hi,rfl⟩|⟨i,hi,rfl⟩|rfl|rfl|rfl:=f k G
 ·obtain⟨p,c,e1,e2,e3⟩:=s i hi;rw[e3,(J8 e2).2];exact(E.2.1 i p.1 p.2 c.1 c.2 e1 e2).2
 obtain⟨p,c,e1,e2,e3⟩:=l i hi;rw[e3,(B1 e2).2];exact(D.2.1 i p.1 p.2 c.1 c.2 e1 e2).2;exact P;exact hw;exact hd;have v:∀i:Nat,i<g.new.length->BJ B s1 (dp ln lo r wi d (3,(i:Int))):=λi hi=>by obtain⟨p,c,e1,e2,e3⟩:=s i hi;rw[e3];exact r1 p<|ω e1
 have y:∀i:Nat,i<g.old.length->BJ s1 s2 (dp ln lo r wi d (4,(i:Int))):=λi hi=>by obtain⟨p,c,e1,e2,e3⟩:=l i hi;rw[e3];exact r2 p<|ω e1
 have t0:dp ln lo r wi d (0,0)=r:=rfl;have t1:dp ln lo r wi d (0,1)=wi:=rfl;have t2:dp ln lo r wi d (0,2)=d:=rfl;obtain⟨i,hi,rfl⟩|⟨i,hi,rfl⟩|rfl|rfl|rfl:=f k G<;>obtain⟨j,u,rfl⟩|⟨j,u,rfl⟩|rfl|rfl|rfl:=f N F
 obtain⟨p,c,e1,e2,e3⟩:=s i hi;obtain⟨C,K,A,S,H⟩:=s j u;rw[e3,H];obtain h|h|h:=Nat.lt_trichotomy i j
 exact E.2.2 i j p C h e1 A;subst h;exact absurd rfl t;exact Apart.symm<|E.2.2 j i C p h A e1;exact(v i hi).apart (y j u) .refl;exact(v i hi).apart r3 (by omega);exact(v i hi).apart r4 (by omega);exact(v i hi).apart r5 (by omega);exact((v j u).apart (y i hi) .refl).symm;obtain⟨p,c,e1,e2,e3⟩:=l i hi;obtain⟨C,K,A,S,H⟩:=l j u;rw[e3,H];obtain h|h|h:=Nat.lt_trichotomy i j
 exact D.2.2 i j p C h e1 A;subst h;exact absurd rfl t;exact Apart.symm<|D.2.2 j i C p h A e1;exact(y i hi).apart r3 (by omega);exact(y i hi).apart r4 (by omega);exact(y i hi).apart r5 (by omega);exact((v j u).apart r3<|by omega).symm;exact((y j u).apart r3<|by omega).symm;exact absurd rfl t;exact r3.apart r4 (by omega);exact r3.apart r5 (by omega);exact((v j u).apart r4<|by omega).symm;exact((y j u).apart r4<|by omega).symm;exact(r3.apart r4<|by omega).symm;exact absurd rfl t;exact r4.apart r5 (by omega);exact((v j u).apart r5<|by omega).symm;exact((y j u).apart r5<|by omega).symm;exact(r3.apart r5<|by omega).symm;exact(r4.apart r5<|by omega).symm;exact absurd rfl t
def Qz{W w1:R}(hb:I W W w1):∀b o,b<W.heap.size->w1 ((b:Nat),o)=W.cell? ⟨b,o,θ⟩:=λb o h=>hb.cell h
def Iz{g}(h:eC g):∀c∈g.new++g.old,c.2.length<=1000000:=by intro c hc;obtain⟨a,_⟩:=zy<|h.cells c hc;omega
def OV.range{w B v l}(h:OV w B v l):BJ B w v:=λg a=>h.lt g a
def df.range{w B l cs}(h:df w B l cs):∀p∈l,BJ B w p.2:=by
 intro p b;obtain⟨i,hi⟩:=ZR.1 b;have a:i<cs.length:=by rw[<-h.1];exact(Ω.1 hi).1
 obtain⟨k,c,e⟩:=cQ a;exact(h.2.1 i p.1 p.2 k c hi e).2.range
def BJ.mono{a b a' c v}(h:BJ a b v)(e:a'<=a)(f:b<=c):BJ a' c v:=λg d=>by have:=h g d;omega
def sw(w v g)(hv:GV w v g)(hk:eC g)(hm:cN g=0)(hl:g.marked.length<=1000000):
 κ prog 82 #[v] w λe w'=>(∃b,e=.returned (.pointer<|U ⟨b,0,θ⟩)/\dm w' w.heap.size b g)/\I w.heap.size w w':=by
 obtain⟨n,o,r,wi,d,m,rfl,h1,h2,h3,h4,h5,h6⟩:=hv;have H1:=V h1;have H2:=V h2;have H3:=V h3;have H4:=V h4;have H5:=V h5;have H6:=V h6;obtain⟨an,mn,rfl,_,_,_⟩:=h1;obtain⟨Q,O,rfl,_,_,_⟩:=h2;obtain⟨ar,W,rfl,_,_,_⟩:=h3;obtain⟨aw,mw,rfl,_,_,_⟩:=h4;obtain⟨ad,md,rfl,_,_,_⟩:=h5;obtain⟨N,mm,rfl,_,_,_⟩:=h6;have K:=V hk;have HM:=V hm;have X:mi ((w.alloc<|ZX #[.slice an g.new.length mn,.slice Q g.old.length O,.slice ar g.roots.length W,.slice aw g.aA.length mw,.slice ad g.done.length md,.slice N g.marked.length mm] 26).alloc<|ZX #[.slice an g.new.length mn,.slice Q g.old.length O,.slice ar g.roots.length W,.slice aw g.aA.length mw,.slice ad g.done.length md,.slice N g.marked.length mm] 114) (w.heap.size+1) g:=by
  have L:∀o1 o2:Obj,I w.heap.size w ((w.alloc o1).alloc o2):=λo1 o2=>(af w o1).alloc (by simp) o2;refine⟨_,_,_,_,_,_,?_,?_,?_,?_,?_,?_,H1.out.below<|L _ _,H2.out.below<|L _ _,H3.out.below<|L _ _,H4.out.below<|L _ _,H5.out.below<|L _ _,H6.out.below<|L _ _⟩
  all_goals go_simp
 have HC:=V X;clear hk hm X
 go_enter (fU func82 rfl),ntmps82
 go_wp2_with fail
 refine(Ix _ _ g HC.out K.out hl).mono ?_;rintro e t ⟨he,s⟩;obtain rfl:=sm he HM.out;have a:=Qz s;have hs3:=s.size;simp only[Y3]at hs3 a;have y:=(((Ψ _ _).alloc .refl _).alloc (by simp) _).trans<|s.mono (by simp;omega);have f0:t.cell? ⟨w.heap.size,0,θ⟩=U (.slice an g.new.length mn):=(a _ _<|by omega).trans (by go_simp);have f1:t (w.heap.size,1)=U (.slice Q g.old.length O):=(a _ _<|by omega).trans (by go_simp);have f2:t (w.heap.size,2)=U (.slice ar g.roots.length W):=(a _ _<|by omega).trans (by go_simp);have f3:t (w.heap.size,3)=U (.slice aw g.aA.length mw):=(a _ _<|by omega).trans (by go_simp);have f4:t (w.heap.size,4)=U (.slice ad g.done.length md):=(a _ _<|by omega).trans (by go_simp);have f5:t (w.heap.size,5)=U (.slice N g.marked.length mm):=(a _ _<|by omega).trans (by go_simp);clear s a he
 go_wp2_with fail
 have hlt:w.heap.size<t:=by omega
 have FN:=V<|Iz K.out;have L1:=V (show g.new.length<=1000000 by have:=K.out.news;omega);have L2:=V (show g.old.length<=1000000 by have:=K.out.bw;omega);have L3:=V (show g.roots.length<=1000000 by have:=K.out.four;omega);have L4:=V (show g.aA.length<=1000000 by have:=K.out.aA.1;omega);have L5:=V (show g.done.length<=1000000 by have:=K.out.done.1;omega)
 go_region_held3 (λw'=>w' w.heap.size=U (.slice an g.new.length mn)/\w' (w.heap.size,1)=U (.slice Q g.old.length O)/\w' (w.heap.size,2)=U (.slice ar g.roots.length W)/\
  w' (w.heap.size,3)=U (.slice aw g.aA.length mw)/\w' (w.heap.size,4)=U (.slice ad g.done.length md)/\w' (w.heap.size,5)=U (.slice N g.marked.length mm))
  (go_keep)
  (first
    |(go_at_call 147;(with_reducible refine(zC _ (.slice an g.new.length mn) g.new (H1.out.below y.drew) L1.out λc hc=>FN.out c<|ψ _ hc).mono ?_);rintro e w4 ⟨⟨r4,rfl,G⟩,J⟩;have z:=y.drew.trans<|J.mono y.size;have S:=Qz J;have Fx:=V G;obtain⟨a4,m4,rfl,_⟩:=G.reads;clear G;have hs4:=J.size;simp only[World.size_drew]at hs4 S;have ht4:w.heap.size<w4:=by omega)
    |(go_at_call 147;(with_reducible refine(zC _ (.slice Q g.old.length O) g.old (H2.out.below z) L2.out λc hc=>FN.out c<|χ _ hc).mono ?_);rintro e w5 ⟨⟨r5,rfl,x⟩,l⟩;have D:=z.trans<|l.mono z.size;have hc5:=Qz l;have WN:=V x;obtain⟨a5,m5,rfl,_⟩:=x.reads;clear x;have hs5:=l.size;have ht5:w.heap.size<w5:=by omega)
    |(go_at_call 148;(with_reducible refine(J6 _ (.slice ar g.roots.length W) g.roots (H3.out.below D) L3.out).mono ?_);rintro e w6 ⟨⟨r6,rfl,C⟩,j⟩;have B:=D.trans<|j.mono D.size;have hc6:=Qz j;have Jc:=V C;obtain⟨a6,m6,rfl,_⟩:=C.reads;clear C;have hs6:=j.size;have ht6:w.heap.size<w6:=by omega)
    |(go_at_call 148;(with_reducible refine(J6 _ (.slice aw g.aA.length mw) g.aA (H4.out.below B) L4.out).mono ?_);rintro e w7 ⟨⟨r7,rfl,A⟩,q⟩;have H:=B.trans<|q.mono B.size;have hc7:=Qz q;have T:=V A;obtain⟨a7,m7,rfl,_⟩:=A.reads;clear A;have hs7:=q.size;have ht7:w.heap.size<w7:=by omega)
    |(go_at_call 148;(with_reducible refine(J6 _ (.slice ad g.done.length md) g.done (H5.out.below H) L5.out).mono ?_);rintro e w8 ⟨⟨r8,rfl,u⟩,h⟩;have F:=H.trans<|h.mono H.size;have hc8:=Qz h;have P:=V u;obtain⟨a8,m8,rfl,_⟩:=u.reads;clear u;have hs8:=h.size;have V9:w.heap.size<w8:=by omega)
    |(go_at_call 149;(with_reducible refine(wj _ (.slice N g.marked.length mm) g.marked (H6.out.below F) hl).mono ?_);rintro e w9 ⟨⟨r9,rfl,E⟩,i⟩;have Dv:=F.trans (i.mono F.size);have hc9:=Qz i;have tT:=V E;obtain⟨a9,m9,rfl,_⟩:=E.reads;clear E;have hs9:=i.size;have ht9:w.heap.size<w9:=by omega))
 clear f0 f1 f2 f3 f4 f5 S hc5 hc6 hc7 hc8 hc9
 go_wp2
 go_ret;have k:=af w9<|ZX #[.slice a4 g.new.length m4,.slice a5 g.old.length m5,.slice a6 g.roots.length m6,.slice a7 g.aA.length m7,.slice a8 g.done.length m8,.slice a9 g.marked.length m9] 114;obtain⟨ln,hn,en⟩:=Fx.out;obtain⟨lo,ho,eo⟩:=WN.out;have z9:=i.trans<|k.mono i.size;have z8:=h.trans<|z9.mono h.size;have z7:=q.trans<|z8.mono q.size;have z6:=j.trans<|z7.mono j.size;have z5:=l.trans<|z6.mono l.size;have f:w.heap.size<=t.drew.heap.size:=by simp;omega
 refine⟨⟨_,rfl,N7 (s1:=w4) (s2:=w5) (s3:=w6) (s4:=w7) (by omega) (ZQ w9 _) ((hn.below z5).less f) ((en.below z5).less f) ((ho.below z6).less (by omega)) ((eo.below z6).less (by omega))
  ((Jc.out.below z7).less<|by omega) ((T.out.below z8).less<|by omega) ((P.out.below z9).less<|by omega) ((tT.out.below k).less<|by omega)
  (λp hp=>(en.range p hp).mono f .refl) eo.range Jc.out.range T.out.range (P.out.range.mono .refl (by simp;omega)) hs5 hs6 hs7⟩,Dv.trans (k.mono (by omega))⟩
def zD(w)(b a len m k:Nat)(hc:w b=U (.slice a len m))(f:k<len)(d:len<=1000000):
 κ prog 199 #[.pointer b,.agg #[Δ Ξ 3,Δ Ξ k]] w λe w'=>e=.returned (.pointer (a,k*2))/\I w w w':=by
 have hb:=az hc;have h0:(0:Int)<=k:=by omega
 have c:(k:Int)<len:=by omega
 go_enter (fU func199 rfl),ntmps199
 go_wp2
 go_quiet (fail)
 go_wp2
 go_ret;exact⟨rfl,by first|exact bl (af w _) _|exact(af w _)⟩
def ol(w)(b a len m k:Nat)(hc:w (b,1)=U (.slice a len m))(f:k<len)(d:len<=1000000):
 κ prog 199 #[.pointer b,.agg #[Δ Ξ 4,Δ Ξ k]] w λe w'=>e=.returned (.pointer (a,k*2))/\I w w w':=by
 have hb:=az hc;have h0:(0:Int)<=k:=by omega
 have c:(k:Int)<len:=by omega
 go_enter (fU func199 rfl),ntmps199
 go_wp2
 go_quiet (fail)
 go_wp2
 go_ret;exact⟨rfl,by first|exact bl (af w _) _|exact(af w _)⟩
section
variable(x:HV)(w:R)
def jA(w:R)(b:Nat)(l:List HV):Prop:=∃es clk,w.heap[b]?=U (.map es clk)/\es.toList.map (λe=>(e.key,e.val))=l.zipIdx.map λx=>(eB x.1,Δ Ξ (x.2:Int))
def zE(y w):(Op.equal 50 (eB x)<|eB y).run prog w=.ok (x==y) w:=by have:=VY x.1 x.2 y.1 y.2 w;exact this
theorem ly(x:HV)(w:R):∀(es:List MapEntry) (l:List HV) (j i:Nat),es.map (λe=>(e.key,e.val))=(l.zipIdx j).map (λx=>(eB x.1,Δ Ξ (x.2:Int))) ->
 (Zq 50 (eB x) es i).run prog w=.ok (if x∈l then U (i+l.idxOf x,Δ Ξ ((j+l.idxOf x:Nat):Int))else θ) w
 |[],l,j,i,h=>by
  obtain _|⟨a,l⟩:=l
  simp[Zq];simp at h
 |e::es,l,j,i,h=>by
  obtain _|⟨a,l⟩:=l
  simp at h;simp at h;obtain⟨⟨c,d⟩,h3⟩:=h;unfold Zq;rw[ZK,c,zE,η];by_cases b:x=a
  subst b;simp[d];have hb:(x==a)=Z:=by simp[b]
  rw[hb];simp only[Bool.false_eq_true,if_false];rw[(ly x w es l (j+1) (i+1) h3)]
  grind
def IA:prog.underlying 110=U (.map 50 3):=by kernel_rfl
def aeZ:(zeroValue 3).run prog w=.ok (Δ Ξ 0) w:=by kernel_rfl
def ae0:∃a,prog.underlying 50=U (.struct a):=by simp
def Dw(e p q w):(Instr.checkKey e 10000 50<|.agg #[Δ Ξ p,Δ Ξ q]).run prog w=.ok () w:=by cases e<;>kernel_rfl
def run_findKey(es)(l:List HV)(h:es.map (λe=>(e.key,e.val))=l.zipIdx.map (λx=>(eB x.1,Δ Ξ (x.2:Int)))):
 (YW 50 (eB x) es).run prog w=.ok (if x∈l then U (l.idxOf x,Δ Ξ ((l.idxOf x:Nat):Int))else θ) w:=by
 obtain⟨c,b⟩:=ae0;unfold YW;rw[ZK,ZP b,η];have d:=ly x w es l 0 0 h;obtain _|⟨e,es⟩:=es
 obtain _|⟨a,l⟩:=l
 simp[Za];simp at h;have:Za (.struct c) (eB x) (e::es) 0=θ:=by
  unfold Za;have:YV (.struct c) (eB x) e.key=θ:=by unfold YV eB;rfl
  rw[this]
 grind
def fP{w b l}(h:jA w b l):
 (YU 110 (.map<|U b) (eB x) Y).run prog w=.ok (.tuple #[Δ Ξ (if x∈l then((l.idxOf x:Nat):Int)else 0),.bool<|decide<|x∈l]) w:=by
 obtain⟨c,a,hb,f⟩:=h;have d:=run_findKey x w c.toList l f;unfold YU;simp only[ZK,ZP IA,η];simp only[(by simp[getObj,Sem.run,hb]:(getObj b).run prog w=.ok (.map c a) w),η,Y8,ZK];rw[show eB x=.agg #[Δ Ξ x.1,Δ Ξ x.2]from rfl]at d⊢;rw[(Dw c.isEmpty x.1 x.2 w)];simp only[η,d];by_cases e:x∈l
 simp[e];simp[e,aeZ]
end
end Kn
