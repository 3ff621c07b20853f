/- A part of the proof of GcMarks; no conditions. -/
import Derived.Test.YtbnmpafbfoaggaaGreatDoorM0
import Derived.Test.YtbnmpafbfoaggaaGreatDoorM4
import Derived.Test.YtbnmpafbfoaggaaGreatDoorM1
import Derived.Deep.RegionWith
import Derived.ScopeJumps
import Derived.WalkMore
import Derived.LaidEql
import Derived.Stop.Asserts
import Derived.RowKitTokens
import Derived.Defers
import Derived.Recover
import Derived.Laws.Pointers
import Derived.Test.YtbnmpafbfoaggaaGreatDoorM3
import Derived.Deep.CutBlock
set_option linter.defProp false
set_option linter.unusedVariables false
set_option linter.unusedSimpArgs false
set_option maxRecDepth 100000
set_option maxHeartbeats 16000000
noncomputable section
open Go.Lib renaming hid->V
open Go.Value renaming int->Ω,slice->ZS,pointer->ZF
open Go.IntKind renaming i64->Ψ
open Option renaming some->U,none->I
open Go.Obj renaming cells->Ξ
open Go.World renaming cell?->Θ,frozen?->Zs
open Go.RowKit.Below renaming refl->R
open List renaming mem_of_getElem?->Δ,take_of_length_le->ω,getElem?_eq_some_iff->υ,mem_append_right->ο,map_singleton->ξ,countP_append->μ,map_append->κ,mem_append_left->θ,setIfInBounds_toArray->Z9,pairwise_iff_getElem->Z4,take_succ_cons->ZY,drop_succ_cons->ZX,set_cons_zero->ZV,set_cons_succ->ZU,getElem?_append_left->ZR,getElem?_eq_getElem->ZQ,mem_append->ZO,take_zero->ZM,drop_zero->ZL,length_append->ZI,getD->ZH,getElem?_append_right->ZE,mem_map->ZB,mem_iff_getElem?->Zy,countP_le_length->Zx,mem_singleton->Zw,nodup_append->Zv,any_append->Zt
open Go.RowKit renaming Below->Y
open Array renaming getElem?_eq_some_iff->Γ
open Nat renaming zero_le->ψ,lt_of_lt_of_le->χ,reduceAdd->ZJ,le_of_eq->Zz
open Go renaming heap_alloc_new->φ,Calls->Z,World->ι,bodyPost_ret->ε,results->Z1,block_lt_of_cell->Z0,Value->ZT,callsD_of_wpS->ZP,wpS_region->ZG,bodyPostS->ZD,Addr->ZC,recoverD->ZA,wpOpsS->Zr
open Bool renaming false->η,true->ZN
open Go.Value.slice renaming injEq->ζ
open Go.Addr renaming add->Z8
open Int renaming eq_ofNat_of_zero_le->Z2
open And renaming intro->ZW
open Go.Exit renaming thenS->ZK,noGoto_ret->Zu
namespace Go.Proofs.YtbnmpafbfoaggaaGreatDoor
open Go.Proofs.Tryz hiding prog
open Go.Proofs.aD
namespace Kn
open Go Go.RowKit Md
section
def pw(br b:Nat)(r:Md.RS):Array ZT:=#[.pointer b,r.minors,r.uJ,r.fk,r.dA,.func (.func 153) #[.pointer br] #[]]
def bD(w:ι)(B br b:Nat)(r:Md.RS)(J:Nat->Prop):Prop:=B<=br/\w.heap[br]?=U (.cells (pw br b r) 131 (0,0))/\cR w B b r.g J/\∀j,J j->j≠br
def tc(J:Nat->Prop)(w w':ι):Prop:=∀j,J j->j<w->w'.heap[j]?=w.heap[j]?
def RP(w v g)(q:GV w v g)(t:eC g)(x:g.marked.length<=1000000)(hz:cN g=0){J:Nat->Prop}(p:∀j,J j->j<w):
 Z prog 93 #[v] w λe w'=>(∃l b,e=.returned (.pointer (l:Nat))/\bD w' w l b ⟨g,0,0,0,0⟩ J)/\Y w w w':=by
 have s:∀(fn:Fn) (first cap:Array ZT) (w:ι),(Instr.makeFunc fn first cap).run prog w=.ok (.func fn first cap) w:=λ_ _ _ _=>rfl;have HV:=V q;obtain⟨n,o,r,i,d,m,rfl,A,z,h3,h4,h5,B⟩:=q
 go_enter (fU func93 rfl),ntmps93
 go_wp2_with fail
 have c:=af w<|Ξ #[n,o,r,i,d,m] 26;refine(sw _ (.agg #[n,o,r,i,d,m]) g (HV.out.below c) t hz x).mono ?_;rintro e h ⟨⟨b,rfl,k⟩,f⟩;have u:=V<|k.less c.size;have a:=c.trans<|f.mono c.size;clear k f
 go_wp2_with fail
 go_ret;exact⟨⟨h.heap.size,b,rfl,a.size,φ h _,(cR.wC u.out p).below<|af h _,λj y e=>by have:=p j y;have:=a.size;omega⟩,a.alloc a.size _⟩
section
variable{w w':ι}{B br b:Nat}{r:Md.RS}{J:Nat->Prop}
def bD.below(h:bD w B br b r J)(a:Y w w w'):bD w' B br b r J:=⟨h.1,(a.block br (Γ.1 h.2.1).1).trans h.2.1,h.2.2.1.below a,h.2.2.2⟩
def bD.ptr(h:bD w B br b r J):w br=U (.pointer b)/\w (br,5)=U (.func (.func 153) #[.pointer br] #[])/\br<w:=by have:=h.2.1;refine⟨by simp[Θ,this,pw],by simp[Θ,this,pw],(Γ.1 this).1⟩
end
def sQ(w B k b r){J}(n:Nat)(p q)(j:bD w B k b r J)(l:r.g.roots[n]?=U (p,q))(K:r.g.roots.length<=1000000):
 Z prog 200 #[.pointer k,n] w λe w'=>e=.returned (.agg #[p,q])/\Y w w w':=by
 obtain⟨c0,_,z⟩:=j.ptr;obtain⟨N,o,H,G,d,m,_,_,c2,_,_,_,_,_,h3,_⟩:=j.2.2.1.own.reads;have hb:=az c2;have A:=(υ.1 l).1;obtain⟨a,L,rfl,y,x,s⟩:=h3;obtain⟨h,i,rfl,f,c⟩:=s (by omega);obtain⟨u,D⟩:=c n p q l;have C:(w.alloc<|Ξ #[Ω Ψ 0,Ω Ψ 0] 50) (h,i+n*2)=U (Ω Ψ p):=by rw[(af w _).cell (p:=⟨h,i+n*2,I⟩) f];exact u
 have E:(w.alloc<|Ξ #[Ω Ψ 0,Ω Ψ 0] 50) (h,i+n*2+1)=U (Ω Ψ q):=by rw[(af w _).cell (p:=⟨h,i+n*2+1,I⟩) f];exact D
 have F:((n:Int)<0)=False:=by simp
 have t:¬((r.g.roots.length:Int)<=(n:Int)):=by omega
 have e1:decide ((r.g.roots.length:Int)<=(n:Int))=η:=by simp;omega
 clear c s j
 go_enter (fU func200 rfl),ntmps200
 go_wp2_with fail
 ((with_reducible refine(cd _ _).mono ?_))
 rintro e w' ⟨rfl,rfl⟩
 go_wp2_with fail
 refine ε (v:=.agg #[p,q]) (by simp[Z1,results200,go_sem]) rfl ⟨rfl,?_⟩;exact(R _ _).alloc .refl _
def OV.block{w B gk v l}(h:OV w B v l)(a:v.ownBlock=U gk):∃b,w.heap[gk]?=U (.cells b 50 (0,0)):=by
 obtain⟨e1,_⟩|⟨f,d,e,e1,_,c,_⟩:=h.2
 rw[e1]at a;cases a;rw[e1]at a;cases a;exact⟨_,c⟩
def cR.upd{w w' J B b gk g g' n o m row}(G:B<=b)(hb:w.heap[b]?=U (Ξ #[n,o,row (0,0),row (0,1),row (0,2),m] 114 (0,0)))(E:RC w B n (cellsOf row 3 g.new))(C:RC w B o (cellsOf row 4 g.old))(h3:OI w B m g.marked)(h4:kD w B row g)(h5:∀j,J j->j≠b/\∀k,IsKey g k->(row k).ownBlock≠U j){k}(u:IsKey g k)(p:(row k).ownBlock=U gk)(d:∀j,j≠gk->w'.heap[j]?=w.heap[j]?)(q:OV w' B (row k) (bd g' k))(a:∀k',IsKey g' k'->IsKey g k')(l:∀k',k'≠k->IsKey g k'->bd g' k'=bd g k')(y:cellsOf row 3 g'.new=cellsOf row 3 g.new)(x:cellsOf row 4 g'.old=cellsOf row 4 g.old)(F:g'.marked=g.marked):cR w' B b g' J:=by
 obtain⟨r,f⟩:=(h4.1 k u).block p;have v:∀{j:Nat} {c:Array ZT} {t:TypeId} {fr:Nat×Nat},w.heap[j]?=U (.cells c t fr) ->t≠50->w'.heap[j]?=w.heap[j]?:=λ{j c t fr} s D=>d j λe=>by
  subst e;rw[f]at s;cases s
  exact D rfl
 refine⟨n,o,m,row,G,(v hb<|by decide).trans hb,?_,?_,?_,⟨?_,?_⟩,λj s=>⟨(h5 j s).1,λk u=>(h5 j s).2 k<|a k u⟩⟩;rw[y];exact E.below λg r h=>v h (by decide);rw[x];exact C.below λg r h=>v h (by decide);rw[F];exact aS h3 λg h=>d g λe=>by subst e;exact cF h3 f (by decide) h
 intro k' i;by_cases e:k'=k
 subst e;exact q;rw[l k' e (a k' i)];exact aS (h4.1 k'<|a k' i) λg h=>d g λe2=>by subst e2;exact h4.2 k' k (a k' i) u e g h p
 exactλz A e1 e2=>h4.2 z A (a z e1)<|a A e2
def cR.el{w B b g n J}(h:cR w B b g J)(A:n<g.roots.length)(x):
 ∃gr m p q,w (b,2)=U (.slice (gr:Nat) g.roots.length m)/\w ((gr:Nat),n*2)=U (Ω Ψ p)/\w ((gr:Nat),n*2+1)=U (Ω Ψ q)/\(∀i,w.frozen? ⟨gr,i,I⟩=η)/\B<=gr/\g.roots.length<=m/\m<=maxLen/\(∃v,w.heap[gr]?=U (.cells v 50 (0,0)))/\(∀j,J j->j≠gr)/\
  cR ((w.setCell ((gr:Nat),n*2)<|Ω Ψ x.1).setCell ((gr:Nat),n*2+1)<|Ω Ψ x.2) B b {g with roots:=g.roots.set n x} J:=by
 obtain⟨O,o,m,row,N,hb,E,C,h3,h4,h5⟩:=h;have h0:=h4.roots.1;obtain⟨a,F,l,t,u,G⟩:=aF h0;obtain⟨gr,rfl,_,_,d,_⟩:=G (by omega);have f:IsKey g (0,0):=.inl ⟨rfl,by decide,by decide⟩;rw[l]at h0 d;obtain⟨p,q,s⟩:=ep A;obtain⟨D,H,L,K,_⟩:=h0.at_ s;refine⟨gr,F,p,q,by simp[Θ,hb,l],D,H,L,K,t,u,h0.block d,λj y e=>(h5 j y).2 _ f (by rw[l,e];exact d),?_⟩;refine cR.upd (gk:=gr) (k:=(0,0)) N hb E C h3 h4 h5 f (by rw[l];exact d) (λj y=>cr y) ?_ ?_ ?_ rfl rfl rfl;rw[l];exact h0.set A;rintro⟨a,c⟩ h;simpa[IsKey]using h;rintro⟨a,c⟩ r _;simp only[bd,cellAt];by_cases z:a=0
 have:c≠0:=λe=>r (by rw[z,e]);simp[z,this];simp[z]
def bD.el{w B c b r J}{n gr:Nat}{x a}(h:bD w B c b r J)(f:w.heap[gr]?=U (.cells a 50 (0,0)))(d:cR ((w.setCell (gr,n*2)<|Ω Ψ x.1).setCell (gr,n*2+1)<|Ω Ψ x.2) B b {r.g with roots:=r.g.roots.set n x} J):
 bD ((w.setCell (gr,n*2)<|Ω Ψ x.1).setCell (gr,n*2+1)<|Ω Ψ x.2) B c b (Md.el r n x) J:=by
 refine⟨h.1,?_,by simpa[Md.el]using d,h.2.2.2⟩;rw[cr (λe=>by have:=h.2.1;rw[e,f]at this;cases this)];exact h.2.1
def afB(w B l b r){J}(n)(p q:Int)(F:bD w B l b r J)(N:n<r.g.roots.length)(E:B<=w):
 Z prog 201 #[ZF (U ⟨l,0,I⟩),n,.agg #[p,q]] w λe w'=>e=.returned (.tuple #[])/\bD w' B l b (Md.el r n (p,q)) J/\Y B w w'/\tc J w w':=by
 have h:=af w<|Ξ #[p,q] 50;have d:=F.below h;obtain⟨c0,_,X⟩:=d.ptr;obtain⟨gr,m,p0,q0,c2,Q,f2,G,s,T,W,⟨cur,a⟩,o,L⟩:=d.2.2.1.el (x:=(p,q)) N;have K:(w.alloc<|Ξ #[p,q] 50).cell? ⟨w.heap.size,0,I⟩=U (Ω Ψ p):=by go_simp
 have O:(w.alloc<|Ξ #[p,q] 50).cell? ⟨w.heap.size,1,I⟩=U (Ω Ψ q):=by go_simp
 have HO:=V<|ZW d<|ZW a L;have g0:=G<|n*2;have g1:=G<|n*2+1;have t:=h.mono E;have P:=V o;have k:=V h;clear o;have C:¬gr=l:=λe=>by have:=d.2.1;rw[<-e,a]at this;cases this
 have A:¬gr=b:=λe=>by obtain⟨_,_,c,hc⟩:=d.2.2.1.own.obj;rw[<-e,a]at hc;cases hc
 have v:¬gr=w.heap.size:=by
  obtain⟨gr0,m0,_,_,y,S,_⟩:=F.2.2.1.el (x:=(p,q)) N;have e:=(h.cell (p:=⟨b,2,I⟩)<|az y).trans y;rw[c2]at e;injection e with e
  injection e with e _ _
  injection e with e
  injection e with e _ _
  have:=az S;omega
 clear d a L G F
 go_enter (fU func201 rfl),ntmps201
 go_wp2_with fail
 generalize w.alloc _=H at c0 c2 Q f2 g0 g1 K O HO t k⊢;obtain⟨bv,f⟩:∃x,x=w.heap.size:=⟨_,rfl⟩;rw[<-f]at K O v k⊢;replace f:=V f
 go_region_held3 (λx=>x.cell? ⟨l,0,I⟩=U (ZF<|U ⟨b,0,I⟩)/\x.cell? ⟨b,2,I⟩=U (ZS (U ⟨gr,0,I⟩) r.g.roots.length m)/\x.cell? ⟨bv,0,I⟩=U (Ω Ψ p)/\x.cell? ⟨bv,1,I⟩=U (Ω Ψ q)) ((refine⟨?_,?_,?_,?_⟩<;>(repeat (first|with_reducible assumption|with_reducible refine dO ?_|with_reducible refine da C ?_|with_reducible refine da A ?_|with_reducible refine da v ?_)))) (fail)
 go_wp2_with fail
 have i:bD ((H.setCell ⟨gr,n*2,I⟩<|Ω Ψ p).setCell ⟨gr,n*2+1,I⟩<|Ω Ψ q) B l b (Md.el r n (p,q)) J:=bD.el (x:=(p,q)) HO.out.1 HO.out.2.1 HO.out.2.2;have u:=bD.below i<|(R _ _).drew;have z:=((t.setCell (p:=⟨gr,n*2,I⟩) s<|Ω Ψ p).setCell (p:=⟨gr,n*2+1,I⟩) s<|Ω Ψ q).drew;have D:tc J w (((H.setCell ⟨gr,n*2,I⟩<|Ω Ψ p).setCell ⟨gr,n*2+1,I⟩<|Ω Ψ q).drew):=λj hj hl=>(cr<|P.out j hj).trans<|k.out.block j (by rw[f.out];exact hl);go_end0;exact⟨rfl,u,z,D⟩
end
section
variable{b B br:Nat}(w:ι){J:Nat->Prop}
def bD.all{w r}(h:bD w B br b r J):w br=U (.pointer b)/\w (br,1)=U (Ω Ψ r.minors)/\w (br,2)=U (Ω Ψ r.uJ)/\w (br,3)=U (Ω Ψ r.fk)/\w (br,4)=U (Ω Ψ r.dA)/\(∀i,w.frozen? ⟨br,i,I⟩=η)/\B<=br:=by
 have a:=h.2.1;refine⟨?_,?_,?_,?_,?_,λi=>by simp[Zs,a],h.1⟩
 all_goals simp[Θ,a,pw]
def cR.off{w w' g c t fr}(h:cR w B b g J)(hc:w.heap[br]?=U (.cells c t fr))(d:t≠114/\t≠76/\t≠50/\t≠3)(l:∀k,k≠br->w'.heap[k]?=w.heap[k]?):cR w' B b g J:=by
 obtain⟨n,o,m,row,x,hb,v,u,h3,h4,h5⟩:=h;have r:∀{j:Nat} {s:Array ZT} {p:TypeId} {a:Nat×Nat},w.heap[j]?=U (.cells s p a) ->t≠p->w'.heap[j]?=w.heap[j]?:=λ{j s p a} y z=>l j λe=>by grind
 exact⟨n,o,m,row,x,(r hb d.1).trans hb,v.below λg f q=>r q d.2.1,u.below λg f q=>r q d.2.1,hZ h3 hc d.2.2.2 l,⟨λk i=>hZ (h4.1 k i) hc d.2.2.1 l,h4.2⟩,h5⟩
def PI{w r r' i}{x y:Int}(h:bD w B br b r J)(c:r'.g=r.g)(hc:((pw br b r).setIfInBounds i x).setIfInBounds 4 y=pw br b r'):bD ((w.setCell (br,i) x).setCell (br,4) y) B br b r' J:=by refine⟨h.1,?_,?_,h.2.2.2⟩;rw[aB (aB h.2.1 i _) 4 _,hc];rw[c];exact h.2.2.1.off h.2.1 (by simp) λk a=>cr a
def Af:Z prog 306 #[.agg #[]] w λe w'=>e=.returned (Ω Ψ 0)/\Y w w w':=by
 go_enter (fU func306 rfl),ntmps306
 go_wp2
 go_ret;exact⟨rfl,(R _ _).alloc .refl _⟩
def wM(B a b n r g')(D:im r.g)(z:bD w B a b r J)(H:B<=w.heap.size)(f:Md.collect .minor r.g=U (n,g'))(hm:0<=r.minors/\r.minors<=1000)(P:0<=r.dA/\r.dA<=100000)(hn:n<=1000):
 Z prog 208 #[ZF (U ⟨a,0,I⟩),.iface 102<|.agg #[]] w λe w'=>e=.returned (.bool ZN)/\bD w' B a b (Md.counted r .minor n g') J/\Y B w w'/\tc J w w':=by
 have HR:=V z;obtain⟨c0,c1,c2,c3,Q,k,q⟩:=z.all;have K:=IY;have W:=V D;have HC:=V f;have S:IntKind.i64.wrap (r.minors+1)=r.minors+1:=wrap_small _ (by omega) (by omega);have L:IntKind.i64.wrap (r.dA+(n:Int))=r.dA+(n:Int):=wrap_small _ (by omega) (by omega);clear c1 c2 c3 Q k z D f
 go_enter (fU func208 rfl),ntmps208
 go_wp2_with fail
 refine(lz _ B b r.g HR.out.2.2.1 W.out H).mono ?_;rintro e A t;unfold cq at t;rw[HC.out]at t;obtain⟨rfl,s,l,o,d⟩:=t;have y:=V d;clear d;have i:bD A B a b {r with g:=g'} J:=⟨HR.out.1,(o _ _ HR.out.2.1).trans HR.out.2.1,s,HR.out.2.2.2⟩;obtain⟨d0,O,d2,d3,F,k,_⟩:=i.all;have N:=k 1;have f2:=k 2;have f3:=k 3;have T:=k 4;have v:=V i;have c:=az F;have x:=Nat.le_trans H l.size;clear s o i k c0
 go_wp2_with fail
 go_region_with (first|(go_at_call 306;(with_reducible refine(Af _).mono ?_);rintro e u ⟨rfl,C⟩;have z3:Y A.heap.size A u:=(R _ _).drew.trans C;have X:=(z3.cell (p:=⟨a,1,I⟩) c).trans O;have k2:=(z3.frozen (p:=⟨a,1,I⟩) c).trans N;have k3:=cG z3 F c;have k4:=(z3.frozen (p:=⟨a,4,I⟩) c).trans T))
 go_wp2_with fail
 have h:bD ((u.setCell (a,1)<|Ω Ψ<|r.minors+1).setCell (a,4)<|Ω Ψ<|r.dA+(n:Int)) B a b (Md.counted r .minor n g') J:=PI (v.out.below z3) rfl rfl;have m:=((l.trans<|z3.mono x).setCell (p:=⟨a,1,I⟩) q<|Ω Ψ<|r.minors+1).setCell (p:=⟨a,4,I⟩) q<|Ω Ψ<|r.dA+(n:Int);have d:tc J w ((u.setCell (a,1)<|Ω Ψ<|r.minors+1).setCell (a,4)<|Ω Ψ<|r.dA+(n:Int)):=λj G E=>(cr<|HR.out.2.2.2 j G).trans<|(z3.block j<|χ E l.size).trans<|y.out j G E;go_ret;exact⟨rfl,by first|exact h|exact h.below (R _ _).drew,by first|exact m|exact m.drew,d⟩
def Ag:Z prog 310 #[.agg #[]] w λe w'=>e=.returned (Ω Ψ 2)/\Y w w w':=by
 go_enter (fU func310 rfl),ntmps310
 go_wp2
 go_ret;exact⟨rfl,(R _ _).alloc .refl _⟩
def wN(B d b n r g')(W:∀j,J j->j<w.heap.size)(N a)(C:Jn r.g N a)(F:im (Md.iF r.g))(A:bD w B d b r J)(L:B<=w.heap.size)(h:Md.collect .major r.g=U (n,g'))(hm:0<=r.fk/\r.fk<=1000)(S:0<=r.dA/\r.dA<=100000)(hn:n<=1000):
 Z prog 208 #[ZF (U ⟨d,0,I⟩),.iface 120<|.agg #[]] w λe w'=>e=.returned (.bool ZN)/\bD w' B d b (Md.counted r .major n g') J/\Y B w w'/\tc J w w':=by
 have HR:=V A;obtain⟨c0,c1,c2,c3,T,l,s⟩:=A.all;have P:=I0;have HP:=V F;have HC:=V h;have X:IntKind.i64.wrap (r.fk+1)=r.fk+1:=wrap_small _ (by omega) (by omega);have Q:IntKind.i64.wrap (r.dA+(n:Int))=r.dA+(n:Int):=wrap_small _ (by omega) (by omega);clear c1 c2 c3 T l A F h
 go_enter (fU func208 rfl),ntmps208
 go_wp2_with fail
 refine(sP _ B b r.g W HR.out.2.2.1 N a C HP.out L).mono ?_;rintro e D u;unfold cq at u;rw[HC.out]at u;obtain⟨rfl,t,m,q,f⟩:=u;have z:=V f;clear f;have k:bD D B d b {r with g:=g'} J:=⟨HR.out.1,(q _ _ HR.out.2.1).trans HR.out.2.1,t,HR.out.2.2.2⟩;obtain⟨d0,d1,d2,O,H,l,_⟩:=k.all;have f1:=l 1;have f2:=l 2;have f3:=l 3;have f4:=l 4;have x:=V k;have c:=az H;have y:=Nat.le_trans L m.size;clear t q k l c0
 go_wp2_with fail
 go_region_with (first|(go_at_call 310;(with_reducible refine(Ag _).mono ?_);rintro e v ⟨rfl,E⟩;have z3:Y D.heap.size D v:=(R _ _).drew.trans E;have k1:=cG z3 O c;have k2:=(z3.frozen (p:=⟨d,3,I⟩) c).trans f3;have k3:=cG z3 H c;have k4:=(z3.frozen (p:=⟨d,4,I⟩) c).trans f4))
 go_wp2_with fail
 have i:bD ((v.setCell (d,3)<|Ω Ψ<|r.fk+1).setCell (d,4)<|Ω Ψ<|r.dA+(n:Int)) B d b (Md.counted r .major n g') J:=PI (x.out.below z3) rfl rfl;have o:=((m.trans<|z3.mono y).setCell (p:=⟨d,3,I⟩) s<|Ω Ψ<|r.fk+1).setCell (p:=⟨d,4,I⟩) s<|Ω Ψ<|r.dA+(n:Int);have f:tc J w ((v.setCell (d,3)<|Ω Ψ<|r.fk+1).setCell (d,4)<|Ω Ψ<|r.dA+(n:Int)):=λj K G=>(cr<|HR.out.2.2.2 j K).trans<|(z3.block j<|χ G m.size).trans<|z.out j K G;go_ret;exact⟨rfl,by first|exact i|exact i.below (R _ _).drew,by first|exact o|exact o.drew,f⟩
end
def Roomy(r r':Md.RS):Prop:=(r.g.new.length<8/\r'=r)\/(8<=r.g.new.length/\r.g.new.length<=1000/\im r.g/\∃n g',Md.collect .minor r.g=U (n,g')/\r'=Md.counted r .minor n g'/\(0<=r.minors/\r.minors<=1000)/\(0<=r.dA/\r.dA<=100000)/\n<=1000)
def bD.anJ{w B d b r J}(h:bD w B d b r J):∃a m,w.cell? ⟨b,0,I⟩=U (.slice a r.g.new.length m):=by obtain⟨n,o,m,row,i,hb,⟨e,f,c,_⟩,_⟩:=h.2.2.1;rw[aT]at c;refine⟨e,f,?_⟩;rw[<-c];simp[Θ,hb]
def WD(w B f b r r'){J}(d:bD w B f b r J)(s:B<=w.heap.size)(l:Roomy r r'):
 Z prog 232 #[ZF (U ⟨f,0,I⟩)] w λe w'=>e=.returned (.tuple #[])/\bD w' B f b r' J/\Y B w w'/\tc J w w':=by
 have HR:=V d;obtain⟨c0,_,_⟩:=d.ptr;obtain⟨a,m,c1⟩:=d.anJ;obtain⟨q,rfl⟩|⟨q,t,k,n,u,h3,rfl,h4,h5,o⟩:=l
 ·have p:(r'.g.new.length:Int)<8:=by omega
  clear d
  go_enter (fU func232 rfl),ntmps232
  go_wp2
  go_step3
  go_wp2
  go_step3
  go_wp2_with fail
  rw[Zu];refine ε (results_none rfl _ _ _) rfl ?_;exact⟨rfl,HR.out,R _ _,λ_ _ _=>rfl⟩
 ·have p:¬(r.g.new.length:Int)<8:=by omega
  clear d;have HC:=V<|ZW k h3;clear k h3
  go_enter (fU func232 rfl),ntmps232
  go_wp2
  go_step3
  go_wp2
  go_step3
  go_wp2_with fail
  refine(wM _ B f b n r u HC.out.1 HR.out s HC.out.2 h4 h5 o).mono ?_;rintro e v ⟨rfl,c,j,h⟩;have i:=V c;clear c
  go_wp2_with fail
  rw[Zu];refine ε (results_none rfl _ _ _) rfl ?_;exact⟨rfl,i.out,j,h⟩
end Kn
namespace Kn
open Go Go.RowKit Go.Extern.Stop Go.Stop Go.Extern Md
def WH(w:ι):(Instr.typeAssert .nilIface 20 174 ZN).run prog w=.ok (.tuple #[.nilIface,.bool η]) w:=by kernel_rfl
def eE(w:ι):Z prog 81 #[.nilIface] w λev w'=>ev=.returned (Ω Ψ 0)/\Y w w w':=by
 have h:=WH
 go_enter (fU func81 rfl),ntmps81
 go_wp2
 go_ret;exact⟨rfl,R _ _⟩
end Kn
namespace Kn
open Go Go.RowKit Md
section
variable{b:Nat}{t:TypeId}(w:ι)
def Idle(f:FuncId):Prop:=∀p x w,w p=U x->w.frozen? p=η->CallsD prog f #[ZF (U p)] .returning w λe u' w'=>e=.returned (.tuple #[])/\u'=.returning/\∃w1,Y w w w1/\w'=w1.setCell p (Ω Ψ 0)
def Ju(b a:Obj):((w.alloc b).alloc a).heap[w.heap.size+1]?=U a/\Y w w ((w.alloc b).alloc a)/\((w.alloc b).alloc a).heap.size=w.heap.size+1+1:=by refine⟨?_,(af w _).alloc (by simp) _,by simp⟩;have:=φ (w.alloc b) a;simpa using this
def al3(c a b:Obj):(((w.alloc c).alloc a).alloc b).heap[w.heap.size+1]?=U a/\(((w.alloc c).alloc a).alloc b).heap[w.heap.size+1+1]?=U b/\Y w w (((w.alloc c).alloc a).alloc b)/\(((w.alloc c).alloc a).alloc b).heap.size=w.heap.size+1+1+1:=by refine⟨?_,?_,((af w _).alloc (by simp) _).alloc (by simp;omega) _,by simp⟩;rw[Below.heap_alloc _ _ _ (by simp)];exact(Ju w c a).1;have:=φ ((w.alloc c).alloc a) b;simpa using this
def d7{w:ι}{x:ZT}{fr:Nat×Nat}(h:w.heap[b]?=U (Ξ #[x] t fr)):w b=U x:=by simp[Θ,h]
def cD{w:ι}{i:Nat}{c:Array ZT}(h:w.heap[b]?=U (.cells c t (0,0))):w.frozen? (b,i)=η:=by simp[Zs,h]
def behind{w w2 w9:ι}{x y:ZT}(hb:Y w w w2)(d:w2.heap[b]?=U (Ξ #[x] t (0,0)))(f:w.heap.size<=b)(a:Y w2 w2 w9):
 (w9.setCell b y).heap[b]?=U (Ξ #[y] t (0,0))/\Y w w (w9.setCell b y)/\∀k,k≠b->k<w2->(w9.setCell b y).heap[k]?=w2.heap[k]?:=by
 refine⟨?_,(hb.trans<|a.mono hb.size).setCell f _,λk e c=>?_⟩;rw[aB ((a.block b<|(Γ.1 d).1).trans d)];rfl;rw[aa e,a.block k c]
def WI:Idle 80:=λp x w c f=>by
 have b:=Z0 c;refine ZP (fU func80 rfl) rfl λa cs g=>?_;apply ZG;simp[Zr,go_sem,ZA,g,ntmps80,ZK];refine(eE w).mono ?_;rintro e d ⟨rfl,hb⟩;have i:=(hb.cell b).trans c;have h:=(hb.frozen b).trans f;cases a
 simp_all [go_sem,ZD,Z1,results80]
 exact⟨d,hb,rfl⟩
def OL:Idle 103:=λp x w c f=>by
 have b:=Z0 c;refine ZP (fU func103 rfl) rfl λa cs g=>?_;apply ZG;simp[Zr,go_sem,ZA,g,ntmps103,ZK];refine(eE w).mono ?_;rintro e d ⟨rfl,hb⟩;have i:=(hb.cell b).trans c;have h:=(hb.frozen b).trans f;cases a
 simp_all [go_sem,ZD,Z1,results103]
 exact⟨d,hb,rfl⟩
def ON:Idle 105:=λp x w c f=>by
 have b:=Z0 c;refine ZP (fU func105 rfl) rfl λa cs g=>?_;apply ZG;simp[Zr,go_sem,ZA,g,ntmps105,ZK];refine(eE w).mono ?_;rintro e d ⟨rfl,hb⟩;have i:=(hb.cell b).trans c;have h:=(hb.frozen b).trans f;cases a
 simp_all [go_sem,ZD,Z1,results105]
 exact⟨d,hb,rfl⟩
def agb:Idle 106:=λp x w c f=>by
 have b:=Z0 c;refine ZP (fU func106 rfl) rfl λa cs g=>?_;apply ZG;simp[Zr,go_sem,ZA,g,ntmps106,ZK];refine(eE w).mono ?_;rintro e d ⟨rfl,hb⟩;have i:=(hb.cell b).trans c;have h:=(hb.frozen b).trans f;cases a
 simp_all [go_sem,ZD,Z1,results106]
 exact⟨d,hb,rfl⟩
def OR:Idle 143:=λp x w c f=>by
 have b:=Z0 c;refine ZP (fU func143 rfl) rfl λa cs g=>?_;apply ZG;simp[Zr,go_sem,ZA,g,ntmps143,ZK];refine(eE w).mono ?_;rintro e d ⟨rfl,hb⟩;have i:=(hb.cell b).trans c;have h:=(hb.frozen b).trans f;cases a
 simp_all [go_sem,ZD,Z1,results143]
 exact⟨d,hb,rfl⟩
def af0(v:ZT)(g:GH)(F:GV w v g)(t:eC g)(W:g.marked.length<=1000000)(hz:cN g=0):
 Z prog 47 #[v] w λe w'=>(∃r,e=.returned (.tuple #[r,Ω Ψ 0])/\n9 w' r (ju g))/\Y w w w':=by
 have L:∀(fn:Fn) (first cap:Array ZT) (w:ι),(Instr.makeFunc fn first cap).run prog w=.ok (.func fn first cap) w:=λ_ _ _ _=>rfl;have HV:=V F;have E:=V t;obtain⟨n,o,r,H,d,m,rfl,O,J,h3,h4,h5,X⟩:=F;clear t O J h3 h4 h5 X
 go_enter_defers (fU func47 rfl),ntmps47
 go_wp2_with fail
 obtain⟨T,c,Q⟩:=Ju w (Ξ #[n,o,r,H,d,m] 26)<|Ξ #[Ω Ψ 0] 34;refine(sw _ _ g (HV.out.below c) E.out hz W).mono ?_;rintro e w2 ⟨⟨b,rfl,q⟩,l⟩;have G:=(l.block (w.heap.size+1)<|by omega).trans T;have j:=c.trans<|l.mono c.size;have z:=V q;have C:=V G;clear l c q G
 go_wp2_with fail
 refine(Dt _ b g z.out.reads (by have:=E.out.bw;omega)).mono ?_;rintro e K ⟨⟨r3,rfl,s⟩,a⟩;have u:=(a.block (w.heap.size+1) (Γ.1 C.out).1).trans C.out;have h:=j.trans<|a.mono j.size;have HR:=V s;have N:=V h;have A:=V u;have c3:=d7 u;have f3:=cD (i:=0) u;clear j a s h u
 go_wp2_with fail
 have D:(K.setCell (w.heap.size+1:Nat)<|Ω Ψ 0).heap[w.heap.size+1]?=U (Ξ #[Ω Ψ 0] 34 (0,0)):=by rw[aB A.out];rfl
 refine leaves_cons (f:=106) (args:=#[.pointer (w.heap.size+1:Nat)]) (by simp) (by simp[go_sem]) ?_;refine(agb (w.heap.size+1:Nat) (Ω Ψ 0) _ (d7 D)<|cD D).mono ?_;rintro e u' S ⟨rfl,rfl,w9,x,rfl⟩;obtain⟨q1,q2,P⟩:=behind (y:=Ω Ψ 0) (N.out.setCell (p:=⟨w.heap.size+1,0,I⟩) (by simp)<|Ω Ψ 0) D (by omega) x;simp[Leaves,settle,Z1,results47,go_sem,(d7 q1)];refine⟨OI.reads (B:=w2)<|aS HR.out λk t=>?_,q2⟩;obtain⟨k1,k2⟩:=HR.out.lt k t;have:=(Γ.1 C.out).1;rw[P k (by omega) (by simpa using k2),aa<|by omega]
end
section
variable{b:Nat}{t:TypeId}{w:ι}
def dm.px{B g}(h:dm w B b g):∃a0 p c a1 v m1 d y m2 l i f s j x q e u,w.heap[b]?=U (Ξ #[.slice a0 p c,.slice a1 v m1,.slice d y m2,.slice l i f,.slice s j x,.slice q e u] 114 (0,0))/\∀w',dm w' B b g->w'.heap[b]?=w.heap[b]?->GV w' (.agg #[.slice a0 p c,.slice a1 v m1,.slice d y m2,.slice l i f,.slice s j x,.slice q e u]) g:=by obtain⟨n,o,m,row,hB,hb,E,A,h3,h4⟩:=h;obtain⟨r0,r1,r2⟩:=h4.roots;obtain⟨an,X,J,_⟩:=id E;obtain⟨T,P,G,_⟩:=id A;obtain⟨O,mm,F,_⟩:=aF h3;obtain⟨a0,c,z,_⟩:=aF r0;obtain⟨a1,m1,e1,_⟩:=aF r1;obtain⟨d,m2,e2,_⟩:=aF r2;have a:=hb;rw[J,G,F,z,e1,e2]at a;refine⟨_,_,_,_,_,_,_,_,_,_,_,_,_,_,_,_,_,_,a,λw' h k=>?_⟩;obtain⟨v0,v1,v2,Q,W,S,c0,c1,c2,c3,r,t,C,D,K,N,L,H⟩:=h.reads;rw[a]at k;simp[Θ,k]at c0 c1 c2 c3 r t;subst c0 c1 c2 c3 r t;exact⟨_,_,_,_,_,_,rfl,C,D,K,N,L,H⟩
def io(w:ι)(b:Nat)(v0 v1 v2 v3 v4 v5:ZT):ι:=(((((w.setCell b v0).setCell (b,1) v1).setCell (b,2) v2).setCell (b,3) v3).setCell (b,4) v4).setCell (b,5) v5
def kn{d e g f x4 h v0 v1 v2 v3 v4 v5}(hb:w.heap[b]?=U (Ξ #[d,e,g,f,x4,h] t (0,0))):
 (io w b v0 v1 v2 v3 v4 v5).heap[b]?=U (Ξ #[v0,v1,v2,v3,v4,v5] t (0,0))/\(∀k,k≠b->(io w b v0 v1 v2 v3 v4 v5).heap[k]?=w.heap[k]?)/\(io w b v0 v1 v2 v3 v4 v5).heap.size=w/\∀H,H<=b->Y H w (io w b v0 v1 v2 v3 v4 v5):=by
 refine⟨heap_setCell_same (i:=5) (v:=v5)<|heap_setCell_same (i:=4) (v:=v4)<|heap_setCell_same (i:=3) (v:=v3)<|heap_setCell_same (i:=2) (v:=v2)<|heap_setCell_same (i:=1) (v:=v1)<|heap_setCell_same (i:=0) (v:=v0) hb,λk a=>?_,by simp[io],λH c=>?_⟩;unfold io;rw[aa a,aa a,aa a,aa a,aa a,aa a];exact((((((R H w).setCell (p:=⟨b,0,I⟩) c _).setCell (p:=⟨b,1,I⟩) c _).setCell (p:=⟨b,2,I⟩) c _).setCell (p:=⟨b,3,I⟩) c _).setCell (p:=⟨b,4,I⟩) c _).setCell (p:=⟨b,5,I⟩) c _
def jF{x}(h:w.heap[b]?=U (Ξ #[x] t (0,0))):(w.setCell b x).heap[b]?=U (Ξ #[x] t (0,0))/\(∀k:Nat,(w.setCell b x).heap[k]?=w.heap[k]?)/\Y w w (w.setCell b x):=by
 have h0:(w.setCell b x).heap[b]?=U (Ξ #[x] t (0,0)):=by rw[aB h];rfl
 have a:∀k:Nat,(w.setCell b x).heap[k]?=w.heap[k]?:=λk=>by
  by_cases c:k=b
  grind
  exact aa c
 exact⟨h0,a,⟨rfl,rfl,rfl,by simp,λk _=>a k⟩⟩
def fz{w9 x}(h:w.heap[b]?=U (Ξ #[x] t (0,0)))(a:Y w w w9):(w9.setCell b x).heap[b]?=U (Ξ #[x] t (0,0))/\Y w w (w9.setCell b x):=by obtain⟨h0,_,c⟩:=jF<|(a.block b<|(Γ.1 h).1).trans h;exact⟨h0,a.trans<|c.mono a.size⟩
def afG{w4 H B a eb g s D y u x4 z v0 v1 v2 v3 v4 v5}(m:dm w4 B b g)(C:∀w',dm w' B b g->w'.heap[b]?=w4.heap[b]?->GV w' (.agg #[v0,v1,v2,v3,v4,v5]) g)(d:w4.heap[a]?=U (Ξ #[s,D,y,u,x4,z] 26 (0,0)))(p:w4.heap[eb]?=U (Ξ #[Ω Ψ 0] 34 (0,0)))(w:H<=a)(F:H<=eb):
 ((io w4 a v0 v1 v2 v3 v4 v5).setCell eb<|Ω Ψ 0).heap[eb]?=U (Ξ #[Ω Ψ 0] 34 (0,0))/\
 ∀w9,Y ((io w4 a v0 v1 v2 v3 v4 v5).setCell eb<|Ω Ψ 0).heap.size ((io w4 a v0 v1 v2 v3 v4 v5).setCell eb<|Ω Ψ 0) w9->(w9.setCell eb<|Ω Ψ 0).heap[a]?=U (Ξ #[v0,v1,v2,v3,v4,v5] 26 (0,0))/\(w9.setCell eb<|Ω Ψ 0).heap[eb]?=U (Ξ #[Ω Ψ 0] 34 (0,0))/\GV (w9.setCell eb<|Ω Ψ 0) (.agg #[v0,v1,v2,v3,v4,v5]) g/\(H<=w4->Y H w4 (w9.setCell eb<|Ω Ψ 0)):=by
 obtain⟨x,l,E,t⟩:=kn (v0:=v0) (v1:=v1) (v2:=v2) (v3:=v3) (v4:=v4) (v5:=v5) d;have j:eb≠a:=λe=>by rw[e,d]at p;cases p
 generalize io w4 a v0 v1 v2 v3 v4 v5=w5 at *;obtain⟨q1,q,f⟩:=jF<|(l eb j).trans p;refine⟨q1,λw9 A=>?_⟩;generalize w5.setCell eb (Ω Ψ 0)=r at *;obtain⟨r1,r2⟩:=fz q1 A;have o:a<r:=by have:=f.size;have:=(Γ.1 d).1;omega
 have i:b<r:=by have:=f.size;have:=m.obj.2.1;omega
 obtain⟨_,_,cb,c⟩:=m.obj;have n:b≠a:=λe=>by rw[e,d]at c;cases c
 exact⟨(r2.block a o).trans<|(q a).trans x,r1,C _ ((((cR.wC (J:=λ_=>False) m λ_ h=>h.elim).off d (by decide) λk v=>(q k).trans<|l k v).own).below r2)<|(r2.block b i).trans<|(q b).trans<|l b n,λG=>(t H w).trans<|((f.mono<|by omega).trans<|r2.mono (by have:=f.size;omega))⟩
def qh(w v g g')(k n:Nat)(s)(hv:GV w v g)(hk:eC g)(hm:g.marked.length<=1000000)(hz:cN g=0)(q:Md.collect s g=U (n,g'))(hc:∀w B b,cR w B b g (λ_=>False) ->B<=w->Z prog 144 #[.pointer b,.iface k<|.agg #[]] w (cq (λ_=>False) B b g s w)):
 Z prog 78 #[v,.iface k<|.agg #[]] w λe w'=>(∃r,e=.returned (.tuple #[r,Ω Ψ 0])/\GV w' r g')/\Y w w w':=by
 have hmf:∀(fn:Fn) (first cap:Array ZT) (w:ι),(Instr.makeFunc fn first cap).run prog w=.ok (.func fn first cap) w:=λ_ _ _ _=>rfl;have HV:=V hv;have HK:=V hk;have HC:=V hc;have HCO:=V q;obtain⟨vn,o,r,wi,d,m,rfl,h1,h2,h3,h4,h5,h6⟩:=hv;clear hk h1 h2 h3 h4 h5 h6 hc q
 go_enter_defers (fU func78 rfl),ntmps78
 go_wp2_with fail
 obtain⟨c,u,a,hz3⟩:=al3 w (Ξ #[vn,o,r,wi,d,m] 26) (Ξ #[(),(),(),(),(),()] 26)<|Ξ #[Ω Ψ 0] 34;refine(sw _ _ g (HV.out.below a) HK.out hz hm).mono ?_;rintro e w2 ⟨⟨b,rfl,A⟩,j⟩;have x:=a.trans<|j.mono a.size;have HG2:=V<|A.less (B':=w.heap.size+1+1+1)<|by omega
 have HB2:=V<|j.mono (B':=w.heap.size+1+1+1)<|by omega
 have oX:=j.size;have HY:=V<|ZW ((j.block (w.heap.size+1)<|by omega).trans c)<|(j.block (w.heap.size+1+1)<|by omega).trans u;clear j a A c u
 go_wp2_with fail
 refine(HC.out _ (w.heap.size+1+1+1) b (cR.wC HG2.out λ_ h=>h.elim)<|by omega).mono ?_;rintro e w3 t;unfold cq at t;rw[HCO.out]at t;obtain⟨rfl,y,a,_,_⟩:=t;have C:=V y.own;have p:=x.trans<|a.mono (B':=w.heap.size)<|by omega
 have c:=(a.block (w.heap.size+1)<|by omega).trans HY.out.1;have u:=(a.block (w.heap.size+1+1)<|by omega).trans HY.out.2;clear x HB2 y HY a
 go_wp2_with fail
 ((with_reducible refine(cd _ _).mono ?_))
 rintro e w4 ⟨rfl,rfl⟩;obtain⟨a0,N,Q,a1,W,m1,T,K,m2,L,G,F,P,J,X,O,E,S,hb,D⟩:=C.out.px;have c0:w4 b=U (.slice a0 N Q):=by simp[Θ,hb]
 have c1:w4 (b,1)=U (.slice a1 W m1):=by simp[Θ,hb]
 have c2:w4 (b,2)=U (.slice T K m2):=by simp[Θ,hb]
 have c3:w4 (b,3)=U (.slice L G F):=by simp[Θ,hb]
 have c4:w4 (b,4)=U (.slice P J X):=by simp[Θ,hb]
 have c5:w4 (b,5)=U (.slice O E S):=by simp[Θ,hb]
 have z:=V<|ZW hb<|ZW D<|ZW p<|ZW c u;have d0:w4 (w.heap.size+1:Nat)=U ():=by simp[Θ,c]
 have d1:w4 (w.heap.size+1,1)=U ():=by simp[Θ,c]
 have d2:w4 (w.heap.size+1,2)=U ():=by simp[Θ,c]
 have d3:w4 (w.heap.size+1,3)=U ():=by simp[Θ,c]
 have d4:w4 (w.heap.size+1,4)=U ():=by simp[Θ,c]
 have d5:w4 (w.heap.size+1,5)=U ():=by simp[Θ,c]
 have de:=d7 u;have f0:=cD (i:=0) c;have f1:=cD (i:=1) c;have f2:=cD (i:=2) c;have f3:=cD (i:=3) c;have f4:=cD (i:=4) c;have f5:=cD (i:=5) c;have fe:=cD (i:=0) u;clear hb D p c u oX hz3
 go_wp2_with fail
 rw[show((((((w4.setCell (w.heap.size+1:Nat)<|.slice a0 N Q).setCell (w.heap.size+1,1)<|.slice a1 W m1).setCell (w.heap.size+1,2)<|.slice T K m2).setCell (w.heap.size+1,3)<|.slice L G F).setCell (w.heap.size+1,4)<|.slice P J X).setCell (w.heap.size+1,5)<|.slice O E S)=io w4 (w.heap.size+1) (.slice a0 N Q) (.slice a1 W m1) (.slice T K m2) (.slice L G F) (.slice P J X) (.slice O E S)from rfl];obtain⟨k1,k2⟩:=afG (H:=w) C.out z.out.2.1 z.out.2.2.2.1 z.out.2.2.2.2 (by omega) (by omega);refine leaves_cons (f:=143) (args:=#[.pointer (w.heap.size+1+1:Nat)]) (by simp) (by simp[go_sem]) ?_;refine(OR (w.heap.size+1+1:Nat) (Ω Ψ 0) _ (d7 k1)<|cD k1).mono ?_;rintro e u' w'' ⟨rfl,rfl,w9,BP,rfl⟩;obtain⟨q1,q2,q3,q4⟩:=k2 w9 BP;generalize w9.setCell (w.heap.size+1+1:Nat) (Ω Ψ 0)=l at *;have z0:l (w.heap.size+1:Nat)=U (.slice a0 N Q):=by simp[Θ,q1]
 have z1:l (w.heap.size+1,1)=U (.slice a1 W m1):=by simp[Θ,q1]
 have z2:l (w.heap.size+1,2)=U (.slice T K m2):=by simp[Θ,q1]
 have z3:l (w.heap.size+1,3)=U (.slice L G F):=by simp[Θ,q1]
 have z4:l (w.heap.size+1,4)=U (.slice P J X):=by simp[Θ,q1]
 have z5:l (w.heap.size+1,5)=U (.slice O E S):=by simp[Θ,q1]
 simp[Leaves,settle,Z1,results78,go_sem,z0,z1,z2,z3,z4,z5,(d7 q2)];exact⟨q3,z.out.2.2.1.trans<|q4 z.out.2.2.1.size⟩
end
section
structure JI(w w':ι)(b:Nat):Prop where
 ints:∀o k,w.cell? ⟨b,o,I⟩≠U (Ω Ψ k)
 same:∀k,k≠b->w'.heap[k]?=w.heap[k]?
 size:w.heap.size<=w'
section
variable{w w':ι}{b:Nat}{v:ZT}
def JI.ne(h:JI w w' b){a o:Nat}{k}(hc:w (a,o)=U (Ω Ψ k)):a≠b:=λe=>h.ints o k<|e▸hc
def JI.cell(h:JI w w' b){a o}(c:a≠b):w'.cell? ⟨a,o,I⟩=w.cell? ⟨a,o,I⟩:=by simp only[Θ,h.same a c]
def eI.off{l}(h:eI w v l)(f:JI w w' b):eI w' v l:=by obtain⟨a,m,rfl,r,j,h⟩:=h;refine⟨a,m,rfl,r,j,λh0=>?_⟩;obtain⟨c,o,rfl,hb,d⟩:=h h0;obtain⟨p,q,e⟩:=ep h0;have g:=f.ne (d 0 p q e).1;refine⟨c,o,rfl,χ hb f.size,λi k n e=>?_⟩;rw[f.cell g,f.cell g];exact d i k n e
def n9.off{l}(h:n9 w v l)(f:JI w w' b):n9 w' v l:=by obtain⟨a,m,rfl,j,g,h⟩:=h;refine⟨a,m,rfl,j,g,λh0=>?_⟩;obtain⟨c,o,rfl,hb,d⟩:=h h0;obtain⟨p,e⟩:=lw h0;have k:=f.ne<|d 0 p e;refine⟨c,o,rfl,χ hb f.size,λi n e=>?_⟩;rw[f.cell k];exact d i n e
def sa.off{l}(h:sa w v l)(d:JI w w' b):sa w' v l:=by obtain⟨a,m,rfl,t,s,h⟩:=h;refine⟨a,m,rfl,t,s,λh0=>?_⟩;obtain⟨c,o,rfl,hb,f⟩:=h h0;obtain⟨p,q,e⟩:=cQ h0;have g:=d.ne (f 0 p q e).1;refine⟨c,o,rfl,χ hb d.size,λi k r e=>?_⟩;obtain⟨n,x,j,u⟩:=f i k r e;rw[d.cell g,d.cell g];exact⟨n,x,j,u.off d⟩
def GV.off{g}(h:GV w v g)(a:JI w w' b):GV w' v g:=by obtain⟨n,o,r,i,d,m,rfl,f,e,h3,h4,h5,c⟩:=h;exact⟨_,_,_,_,_,_,rfl,f.off a,e.off a,h3.off a,h4.off a,h5.off a,c.off a⟩
end
def aaO{w b t v0 v1 v2 v3 v4 v5}(h:w.heap[b]?=U (Ξ #[(),(),(),(),(),()] t (0,0))):JI w (io w b v0 v1 v2 v3 v4 v5) b:=by
 obtain⟨_,a,c,_⟩:=kn (v1:=v1) (v2:=v2) (v3:=v3) (v4:=v4) (v5:=v5) h;refine⟨λo k e=>?_,a,Zz c.symm⟩;simp only[Θ,h]at e
 match o,e with
 |0,e=>cases e
 |1,e=>cases e
 |2,e=>cases e
 |3,e=>cases e
 |4,e=>cases e
 |5,e=>cases e
 |n+6,e=>simp at e
def JJ{w:ι}{b t}(h:w.heap[b]?=U (Ξ #[(),(),(),(),(),()] t (0,0))):(∀i,i<6->w (b,i)=U ())/\∀i,w.frozen? ⟨b,i,I⟩=η:=by
 refine⟨λi hi=>?_,λi=>cD h⟩
 match i,hi with
 |0,_=>simp[Θ,h]
 |1,_=>simp[Θ,h]
 |2,_=>simp[Θ,h]
 |3,_=>simp[Θ,h]
 |4,_=>simp[Θ,h]
 |5,_=>simp[Θ,h]
def sS{w:ι}{b:Nat}{t v0 v1 v2 v3 v4 v5}(h:w.heap[b]?=U (Ξ #[v0,v1,v2,v3,v4,v5] t (0,0))):w b=U v0/\w (b,1)=U v1/\w (b,2)=U v2/\w (b,3)=U v3/\w (b,4)=U v4/\w (b,5)=U v5:=by refine⟨?_,?_,?_,?_,?_,?_⟩<;>simp[Θ,h]
def OY(w v g g' n)(N:GV w v g)(H:eC g)(hm:g.marked.length<=1000000)(hz:cN g=0)(J:im g)(c:Md.collect .minor g=U (n,g')):
 Z prog 22 #[v] w λe w'=>(∃r,e=.returned (.tuple #[r,Ω Ψ 0])/\GV w' r g')/\Y w.heap.size w w':=by
 have HV:=V N;have HK:=V H;have HP:=V J;have HC:=V c;obtain⟨vn,o,r,O,d,m,rfl,E,A,h3,h4,h5,h6⟩:=N;clear H E A h3 h4 h5 h6 J c
 go_enter (fU func22 rfl),ntmps22
 go_wp2_with fail
 obtain⟨L,a,F⟩:=Ju w (Ξ #[vn,o,r,O,d,m] 26)<|Ξ #[(),(),(),(),(),()] 26;refine(qh _ _ g g' 102 n .minor (HV.out.below a) HK.out hm hz HC.out λw B b E A=>lz w B b g E HP.out A).mono ?_;rintro e C ⟨⟨r3,rfl,y⟩,i⟩;have Q:=V y;have D:=(i.block (w.heap.size+1)<|by omega).trans L;have W:=V<|a.trans<|i.mono a.size;obtain⟨a0,a1,a2,a3,a4,a5,rfl,⟨l,l0,rfl,_⟩,⟨j,u,rfl,_⟩,⟨s,t,rfl,_⟩,⟨b3,p,rfl,_⟩,⟨b4,q,rfl,_⟩,⟨b5,k,rfl,_⟩⟩:=y;obtain⟨d,f⟩:=JJ D;have d0:=d 0 (by omega);have d1:=d 1 (by omega);have d2:=d 2 (by omega);have d3:=d 3 (by omega);have d4:=d 4 (by omega);have d5:=d 5 (by omega);have f0:=f 0;have f1:=f 1;have f2:=f 2;have f3:=f 3;have f4:=f 4;have f5:=f 5;have K:=V D;clear d f D L a i F
 go_wp2_with fail
 rw[show((((((C.setCell ⟨w.heap.size+1,0,I⟩<|.slice l g'.new.length l0).setCell ⟨w.heap.size+1,1,I⟩<|.slice j g'.old.length u).setCell ⟨w.heap.size+1,2,I⟩<|.slice s g'.roots.length t).setCell ⟨w.heap.size+1,3,I⟩<|.slice b3 g'.aA.length p).setCell (w.heap.size+1,4)<|.slice b4 g'.done.length q).setCell (w.heap.size+1,5)<|.slice b5 g'.marked.length k)=io C (w.heap.size+1) (.slice l g'.new.length l0) (.slice j g'.old.length u) (.slice s g'.roots.length t) (.slice b3 g'.aA.length p) (.slice b4 g'.done.length q) (.slice b5 g'.marked.length k)from rfl];have z:=aaO (v0:=(.slice l g'.new.length l0)) (v1:=(.slice j g'.old.length u)) (v2:=(.slice s g'.roots.length t)) (v3:=(.slice b3 g'.aA.length p)) (v4:=(.slice b4 g'.done.length q)) (v5:=(.slice b5 g'.marked.length k)) K.out;obtain⟨G,_,_,k4⟩:=kn (v0:=(.slice l g'.new.length l0)) (v1:=(.slice j g'.old.length u)) (v2:=(.slice s g'.roots.length t)) (v3:=(.slice b3 g'.aA.length p)) (v4:=(.slice b4 g'.done.length q)) (v5:=(.slice b5 g'.marked.length k)) K.out;have h:=Q.out.off z;have x:=W.out.trans<|k4 w<|by omega
 generalize io C (w.heap.size+1) (.slice l g'.new.length l0) (.slice j g'.old.length u) (.slice s g'.roots.length t) (.slice b3 g'.aA.length p) (.slice b4 g'.done.length q) (.slice b5 g'.marked.length k)=w4 at G h x⊢;obtain⟨z0,X,T,z3,S,P⟩:=sS G;refine ε (v:=.tuple #[.agg #[.slice l g'.new.length l0,.slice j g'.old.length u,.slice s g'.roots.length t,.slice b3 g'.aA.length p,.slice b4 g'.done.length q,.slice b5 g'.marked.length k],Ω Ψ 0]) (by simp[Z1,results22,go_sem,z0,X,T,z3,S,P]) rfl ⟨⟨_,rfl,h⟩,x⟩
def WO(w v g g' n)(N:GV w v g)(H:eC g)(hm:g.marked.length<=1000000)(hz:cN g=0)(J:im g)(c:Md.collect .full g=U (n,g')):
 Z prog 28 #[v] w λe w'=>(∃r,e=.returned (.tuple #[r,Ω Ψ 0])/\GV w' r g')/\Y w.heap.size w w':=by
 have HV:=V N;have HK:=V H;have HP:=V J;have HC:=V c;obtain⟨vn,o,r,O,d,m,rfl,E,A,h3,h4,h5,h6⟩:=N;clear H E A h3 h4 h5 h6 J c
 go_enter (fU func28 rfl),ntmps28
 go_wp2_with fail
 obtain⟨L,a,F⟩:=Ju w (Ξ #[vn,o,r,O,d,m] 26)<|Ξ #[(),(),(),(),(),()] 26;refine(qh _ _ g g' 119 n .full (HV.out.below a) HK.out hm hz HC.out λw B b E A=>tO w B b g E HP.out A).mono ?_;rintro e C ⟨⟨r3,rfl,y⟩,i⟩;have Q:=V y;have D:=(i.block (w.heap.size+1)<|by omega).trans L;have W:=V<|a.trans<|i.mono a.size;obtain⟨a0,a1,a2,a3,a4,a5,rfl,⟨l,l0,rfl,_⟩,⟨j,u,rfl,_⟩,⟨s,t,rfl,_⟩,⟨b3,p,rfl,_⟩,⟨b4,q,rfl,_⟩,⟨b5,k,rfl,_⟩⟩:=y;obtain⟨d,f⟩:=JJ D;have d0:=d 0 (by omega);have d1:=d 1 (by omega);have d2:=d 2 (by omega);have d3:=d 3 (by omega);have d4:=d 4 (by omega);have d5:=d 5 (by omega);have f0:=f 0;have f1:=f 1;have f2:=f 2;have f3:=f 3;have f4:=f 4;have f5:=f 5;have K:=V D;clear d f D L a i F
 go_wp2_with fail
 rw[show((((((C.setCell ⟨w.heap.size+1,0,I⟩<|.slice l g'.new.length l0).setCell ⟨w.heap.size+1,1,I⟩<|.slice j g'.old.length u).setCell ⟨w.heap.size+1,2,I⟩<|.slice s g'.roots.length t).setCell ⟨w.heap.size+1,3,I⟩<|.slice b3 g'.aA.length p).setCell (w.heap.size+1,4)<|.slice b4 g'.done.length q).setCell (w.heap.size+1,5)<|.slice b5 g'.marked.length k)=io C (w.heap.size+1) (.slice l g'.new.length l0) (.slice j g'.old.length u) (.slice s g'.roots.length t) (.slice b3 g'.aA.length p) (.slice b4 g'.done.length q) (.slice b5 g'.marked.length k)from rfl];have z:=aaO (v0:=(.slice l g'.new.length l0)) (v1:=(.slice j g'.old.length u)) (v2:=(.slice s g'.roots.length t)) (v3:=(.slice b3 g'.aA.length p)) (v4:=(.slice b4 g'.done.length q)) (v5:=(.slice b5 g'.marked.length k)) K.out;obtain⟨G,_,_,k4⟩:=kn (v0:=(.slice l g'.new.length l0)) (v1:=(.slice j g'.old.length u)) (v2:=(.slice s g'.roots.length t)) (v3:=(.slice b3 g'.aA.length p)) (v4:=(.slice b4 g'.done.length q)) (v5:=(.slice b5 g'.marked.length k)) K.out;have h:=Q.out.off z;have x:=W.out.trans<|k4 w<|by omega
 generalize io C (w.heap.size+1) (.slice l g'.new.length l0) (.slice j g'.old.length u) (.slice s g'.roots.length t) (.slice b3 g'.aA.length p) (.slice b4 g'.done.length q) (.slice b5 g'.marked.length k)=w4 at G h x⊢;obtain⟨z0,X,T,z3,S,P⟩:=sS G;refine ε (v:=.tuple #[.agg #[.slice l g'.new.length l0,.slice j g'.old.length u,.slice s g'.roots.length t,.slice b3 g'.aA.length p,.slice b4 g'.done.length q,.slice b5 g'.marked.length k],Ω Ψ 0]) (by simp[Z1,results28,go_sem,z0,X,T,z3,S,P]) rfl ⟨⟨_,rfl,h⟩,x⟩
end
section
variable(w:ι)(v:ZT)
def Dl(l)(a:eI w v l)(f:l.length<=1000000):
 Z prog 77 #[v] w λe w'=>(∃r,e=.returned r/\OV w' w r l)/\Y w w w':=by
 have hb:=af w<|Ξ #[] 50
 go_enter (fU func77 rfl),ntmps77
 go_wp2_with (at_builtin;refine tI rfl _ _ rfl w _ [] rfl (zu w _ .refl) _ l rfl (a.below hb) (by simp) (by omega) (by simp) ?_;intro d w' c b _)
 go_ret;exact⟨⟨_,rfl,c⟩,hb.trans<|b.mono .refl⟩
def Rn(l)(a:n9 w v l)(f:l.length<=1000000):
 Z prog 72 #[v] w λe w'=>(∃r,e=.returned r/\OI w' w r l)/\Y w w w':=by
 have hb:=af w<|Ξ #[] 3
 go_enter (fU func72 rfl),ntmps72
 go_wp2_with (at_builtin;refine tJ rfl _ _ rfl w _ [] rfl (zx w _ .refl) _ l rfl (a.below hb) (by simp) (by omega) (by simp) ?_;intro d w' c b _)
 go_ret;exact⟨⟨_,rfl,c⟩,hb.trans<|b.mono .refl⟩
def SP.adG(B:Nat)(p:Int)(vs:List HV):Rg.SP:=⟨λv w=>∃g x,v=.slice (g:Nat) 1 1/\w.heap[g]?=U (Ξ #[Ω Ψ p,x] 76 (0,0))/\OV w B x vs,λ_ _ _ hb ⟨g,x,h1,h2,h3⟩=>⟨g,x,h1,(hb.block g (Γ.1 h2).1).trans h2,h3.below hb⟩⟩
def KG(cs)(hv:sa w v cs)(hl:cs.length<=1000000)(hs:∀c∈cs,c.2.length<=1000000):
 Z prog 76 #[v] w λe w'=>(∃r,e=.returned r/\OX w' w r cs)/\Y w w w':=by
 have HV:=V hv;obtain⟨a,mc,rfl,hmc,T,_⟩:=hv
 go_enter (fU func76 rfl),ntmps76
 go_wp2_with fail
 go_loopw [3,4] (λx i wr=>∃k:Nat,k<=cs.length/\i=Ω Ψ k/\OX wr w x (cs.take k)/\Y w w wr) (λ_ i _=>cs.length-(intOf i).toNat)
 case atStart=>exact⟨0,ψ _,rfl,OX.nil _ _,.refl _ _⟩
 case round=>
  obtain⟨k,hk,rfl,N,hb⟩:=hrel;by_cases F:k<cs.length
  ·obtain⟨a',mc',he,_,_,l⟩:=HV.out.below hb;cases he
   obtain⟨n,o,rfl,s,l⟩:=l (by omega);obtain⟨p,h,e1⟩:=cQ F;obtain⟨c0,x,c1,H⟩:=l k p h e1;have G:=hs _<|Δ e1
   go_wp2_with fail
   refine Rg.pT [.eq u3,.eq<|.slice (n,o) cs.length mc,.eq<|Ω Ψ k,.eq<|.pointer (n,o+k*2),.eq<|.pointer (n,o+k*2),.eq p,.eq<|.slice (n,o) cs.length mc,.eq<|Ω Ψ k,.eq<|.pointer (n,o+k*2),.eq<|.pointer (n,o+k*2+1),.eq x,SP.ov w h,SP.cell w p h,SP.adG w p h] (by kernel_rfl) (by kernel_rfl) (by rfl) ?_ ?_
   ·refine⟨?_,?_,?_,?_,?_,?_,?_,?_,?_,?_,?_,?_,?_,?_,trivial⟩
    all_goals intro X w2 j d b
    all_goals first|(have f0:=cG j c0 s;have f1:=cG j c1 s;have k0:=d 0 rfl;have k1:=d 3 rfl;have k2:=d 4 rfl;simp at k0 k1 k2;(try have q0:=Rg.lT (b 1 _ rfl rfl) rfl);(try have q1:=Rg.lT (b 2 _ rfl rfl) rfl);(try have q2:=Rg.lT (b 3 _ rfl rfl) rfl);(try have q3:=Rg.lT (b 4 _ rfl rfl) rfl);(try have q4:=Rg.lT (b 6 _ rfl rfl) rfl);(try have q5:=Rg.lT (b 7 _ rfl rfl) rfl);(try have q6:=Rg.lT (b 8 _ rfl rfl) rfl);(try have q7:=Rg.lT (b 9 _ rfl rfl) rfl);clear d b;go_simp;exact⟨_,rfl,.refl _ _,rfl⟩)|skip
    ·have d0:=Rg.lT (b 10 _ rfl rfl) rfl;clear d b;go_simp;refine(Dl _ x h (H.below<|(R _ wr).drew.trans j) G).mono ?_;rintro e w3 ⟨⟨r,rfl,ho⟩,m⟩;exact⟨_,rfl,m,ho.less (by have:=hb.size;have:=j.size;simp at this;omega)⟩
    ·have d0:=Rg.lT (b 5 _ rfl rfl) rfl;have q:OV w2 w ((X.tmps[22]?).getD undef) h:=b 11 _ rfl rfl;obtain⟨D,B,d2,_⟩:=aF q;rw[d2]at q;clear d b;go_simp;exact⟨_,rfl,.refl _ _,_,rfl,q⟩
    ·obtain⟨y,d0,q⟩:∃y,(X.tmps[23]?).getD undef=.agg #[Ω Ψ p,y]/\OV w2 w y h:=b 12 _ rfl rfl;clear d b;obtain⟨D,B,rfl,_⟩:=aF q;go_simp;exact⟨_,rfl,af _ _,_,_,rfl,φ _ _,q.alloc _⟩
   ·rintro O w3 m ⟨C,s1,s2,s3,s4,s5,s6,s7,s8,s9,L,Q,P,⟨g,y,z,hg,W⟩,_⟩;obtain⟨D,B,rfl,_⟩:=aF W;have C:O 0=u3:=C;simp[go_sem,z,C];clear C s1 s2 s3 s4 s5 s6 s7 s8 s9 L Q P z;have E:=(R wr wr).drew.trans m;obtain⟨S,t,A⟩:=N.keep<|kE.below E;obtain⟨h1,h2,_,_⟩:=hH hg
    go_wp2_with (at_builtin;refine wh rfl _ _ rfl w _ _ rfl t g _ (p,.slice D h.length B) rfl rfl ⟨h1,h2⟩ (by have:=A.1;simp at this;omega) (by have:=hb.size;have:=E.size;omega) ?_;intro v' w6 f u J;obtain⟨a6,m6,rfl,_⟩:=aF f)
    have K:(S++[(p,ZS D h.length B)]).length=S.length+1:=by simp
    rw[K]at f;have hz:=hb.size;have hz2:=E.size;exact⟨⟨k+1,by omega,by go_num,by rw[bW e1];exact⟨_,f,(A.snoc W).types t J⟩,hb.trans<|(E.mono<|by omega).trans u⟩,by simp[intOf];omega⟩
  ·go_wp2_with fail
   go_ret;rw[ω (by omega)]at N;exact⟨⟨_,rfl,N⟩,hb⟩
def SP.ox(B:Nat)(cs:List HC):Rg.SP:=⟨λv w=>OX w B v cs,λ_ _ _ hb h=>h.keep<|kE.below hb⟩
def Pd(w:ι)(B:Nat)(r:ZT)(g:GH):Prop:=∃n o ro wi d m,r=.agg #[n,o,ro,wi,d,m]/\OX w B n g.new/\OX w B o g.old/\OV w B ro g.roots/\OV w B wi g.aA/\OV w B d g.done/\OI w B m g.marked
def Pd.reads{w B r g}(h:Pd w B r g):GV w r g:=by obtain⟨n,o,f,e,d,m,rfl,c,b,h3,h4,h5,a⟩:=h;exact⟨_,_,_,_,_,_,rfl,c.reads,b.reads,h3.reads,h4.reads,h5.reads,a.reads⟩
def aaa(g)(hv:GV w v g)(hn:g.new.length<=1000000)(o:g.old.length<=1000000)(hs:∀c∈g.new++g.old,c.2.length<=1000000)(hr:g.roots.length<=1000000)(X:g.aA.length<=1000000)(hd:g.done.length<=1000000)(hm:g.marked.length<=1000000):
 Z prog 21 #[v] w λe w'=>(∃r,e=.returned r/\Pd w' w r g)/\Y w w w':=by
 obtain⟨a0,a1,W,Q,T,S,rfl,h0,h1,h2,h3,h4,h5⟩:=hv;obtain⟨z0,z1,l,hs0⟩:=KM w (Ξ #[a0,a1,W,Q,T,S] 26)<|Ξ #[ZS I 0 0,ZS I 0 0,ZS I 0 0,ZS I 0 0,ZS I 0 0,ZS I 0 0] 26
 go_enter (fU func21 rfl),ntmps21
 go_wp2_with fail
 generalize (w.alloc _).alloc _=m at z0 z1 l hs0⊢;obtain⟨c0,c1,c2,c3,c4,c5⟩:(m w.heap.size=U a0)/\(m (w.heap.size,1)=U a1)/\(m (w.heap.size,2)=U W)/\(m (w.heap.size,3)=U Q)/\(m (w.heap.size,4)=U T)/\(m (w.heap.size,5)=U S):=by simp[Θ,z0]
 replace h0:=h0.below l;replace h1:=h1.below l;replace h2:=h2.below l;replace h3:=h3.below l;replace h4:=h4.below l;replace h5:=h5.below l;have n:w.heap.size<m:=by omega
 refine Rg.pT [.eq (.pointer w.heap.size),.eq a0,SP.ox (w.heap.size+2) g.new,.eq<|.pointer (w.heap.size,1),.eq a1,SP.ox (w.heap.size+2) g.old,.eq<|.pointer (w.heap.size,2),.eq W,SP.ov (w.heap.size+2) g.roots,.eq<|.pointer (w.heap.size,3),.eq Q,SP.ov (w.heap.size+2) g.aA,.eq<|.pointer (w.heap.size,4),.eq T,SP.ov (w.heap.size+2) g.done,.eq<|.pointer (w.heap.size,5),.eq S,SP.oi (w.heap.size+2) g.marked] (by kernel_rfl) (by kernel_rfl) (by rfl) ?_ ?_
 ·refine⟨?_,?_,?_,?_,?_,?_,?_,?_,?_,?_,?_,?_,?_,?_,?_,?_,?_,?_,trivial⟩
  all_goals intro x w2 i b a
  all_goals first|(have f0:=cG i c0 n;have f1:=cG i c1 n;have f2:=cG i c2 n;have f3:=cG i c3 n;have f4:=cG i c4 n;have f5:=cG i c5 n;have k0:=b 1 rfl;simp at k0;(try have q0:=Rg.lT (a 0 _ rfl rfl) rfl);(try have q1:=Rg.lT (a 3 _ rfl rfl) rfl);(try have q2:=Rg.lT (a 6 _ rfl rfl) rfl);(try have q3:=Rg.lT (a 9 _ rfl rfl) rfl);(try have q4:=Rg.lT (a 12 _ rfl rfl) rfl);(try have q5:=Rg.lT (a 15 _ rfl rfl) rfl);clear b a;go_simp;exact⟨_,rfl,.refl _ _,rfl⟩)|skip
  ·have u:=Rg.lT (a 1 _ rfl rfl) rfl;have k:=(R _ m).drew.trans i;clear b a;go_simp;refine(KG _ a0 g.new (h0.below k) hn λc hc=>hs c<|θ _ hc).mono ?_;rintro e p ⟨⟨r,rfl,o⟩,h⟩;exact⟨_,rfl,h,o.less (by have:=k.size;omega)⟩
  ·have u:=Rg.lT (a 4 _ rfl rfl) rfl;have k:=(R _ m).drew.trans i;clear b a;go_simp;refine(KG _ a1 g.old (h1.below k) o λc hc=>hs c<|ο _ hc).mono ?_;rintro e p ⟨⟨r,rfl,o⟩,h⟩;exact⟨_,rfl,h,o.less (by have:=k.size;omega)⟩
  ·have u:=Rg.lT (a 7 _ rfl rfl) rfl;have k:=(R _ m).drew.trans i;clear b a;go_simp;refine(Dl _ W g.roots (h2.below k) hr).mono ?_;rintro e p ⟨⟨r,rfl,o⟩,h⟩;exact⟨_,rfl,h,o.less (by have:=k.size;omega)⟩
  ·have u:=Rg.lT (a 10 _ rfl rfl) rfl;have k:=(R _ m).drew.trans i;clear b a;go_simp;refine(Dl _ Q g.aA (h3.below k) X).mono ?_;rintro e p ⟨⟨r,rfl,o⟩,h⟩;exact⟨_,rfl,h,o.less (by have:=k.size;omega)⟩
  ·have u:=Rg.lT (a 13 _ rfl rfl) rfl;have k:=(R _ m).drew.trans i;clear b a;go_simp;refine(Dl _ T g.done (h4.below k) hd).mono ?_;rintro e p ⟨⟨r,rfl,o⟩,h⟩;exact⟨_,rfl,h,o.less (by have:=k.size;omega)⟩
  ·have u:=Rg.lT (a 16 _ rfl rfl) rfl;have k:=(R _ m).drew.trans i;clear b a;go_simp;refine(Rn _ S g.marked (h5.below k) hm).mono ?_;rintro e p ⟨⟨r,rfl,o⟩,h⟩;exact⟨_,rfl,h,o.less (by have:=k.size;omega)⟩
 ·rintro t p h ⟨_,_,F,_,_,s1,_,_,D,_,_,K,_,_,z,_,_,P,_⟩;have F:=F;have s1:=s1;have D:=D;have K:=K;have z:=z;have P:=P;simp[go_sem];generalize t 2=v0 at F⊢;generalize t 5=v1 at s1⊢;generalize t 8=v2 at D⊢;generalize t 11=v3 at K⊢;generalize t 14=v4 at z⊢;generalize t 17=v5 at P⊢;have k:=(R _ m).drew.trans h;have hG:∀w':ι,Y w w w'->kE (w.heap.size+2) p w'->Pd w' w (.agg #[v0,v1,v2,v3,v4,v5]) g:=λw' _ s=>⟨_,_,_,_,_,_,rfl,(F.keep s).less<|by omega,(s1.keep s).less<|by omega,eV (dI D s)<|by omega,eV (dI K s)<|by omega,eV (dI z s)<|by omega,eV (dI P s)<|by omega⟩;obtain⟨l0,k0,_⟩:=id F;obtain⟨L,k1,_⟩:=id s1;obtain⟨y,G,rfl,_⟩:=aF k0;obtain⟨O,m1,rfl,_⟩:=aF k1;obtain⟨x,m2,rfl,_⟩:=aF D;obtain⟨B,A,rfl,_⟩:=aF K;obtain⟨x4,N,rfl,_⟩:=aF z;obtain⟨J,H,rfl,_⟩:=aF P;have y1:=(k.block (w.heap.size+1)<|by omega).trans z1;obtain⟨d,f⟩:=JJ y1;have d0:=d 0 (by omega);have u:=d 1 (by omega);have d2:=d 2 (by omega);have d3:=d 3 (by omega);have d4:=d 4 (by omega);have d5:=d 5 (by omega);have f0:=f 0;have f1:=f 1;have f2:=f 2;have f3:=f 3;have f4:=f 4;have f5:=f 5;clear d f
  go_wp2_with fail
  obtain⟨q1,q2,q3,q4⟩:=kn (v0:=.slice y l0.length G) (v1:=.slice O L.length m1) (v2:=.slice x g.roots.length m2) (v3:=.slice B g.aA.length A) (v4:=.slice x4 g.done.length N) (v5:=.slice J g.marked.length H) y1;have C:=q4 w (by omega);have q:=hG _ ((l.trans<|k.mono<|by omega).trans C) λj hj _=>q2 j (by omega);have E:=(l.trans<|k.mono<|by omega).trans C;rw[show((((((p.setCell (w.heap.size+1:Nat)<|.slice y l0.length G).setCell (w.heap.size+1,1)<|.slice O L.length m1).setCell (w.heap.size+1,2)<|.slice x g.roots.length m2).setCell (w.heap.size+1,3)<|.slice B g.aA.length A).setCell (w.heap.size+1,4)<|.slice x4 g.done.length N).setCell (w.heap.size+1,5)<|.slice J g.marked.length H)=io p (w.heap.size+1) (.slice y l0.length G) (.slice O L.length m1) (.slice x g.roots.length m2) (.slice B g.aA.length A) (.slice x4 g.done.length N) (.slice J g.marked.length H)from rfl];generalize io p (w.heap.size+1) (.slice y l0.length G) (.slice O L.length m1) (.slice x g.roots.length m2) (.slice B g.aA.length A) (.slice x4 g.done.length N) (.slice J g.marked.length H)=w4 at q1 q E⊢;obtain⟨e0,e1,e2,e3,e4,e5⟩:=sS q1;exact ε (v:=.agg #[.slice y l0.length G,.slice O L.length m1,.slice x g.roots.length m2,.slice B g.aA.length A,.slice x4 g.done.length N,.slice J g.marked.length H]) (by simp[Z1,results21,go_sem,e0,e1,e2,e3,e4,e5]) rfl ⟨⟨_,rfl,q⟩,E⟩
end
section
variable(w:ι)
def Pe(v h)(A:tH w v h)(H:h.cells.length<=45)(C:h.roots.length<=45)(h3:h.aA.length<=45)(h4:h.done.length<=45)(h5:∀c∈h.cells,c.2.length<=8):
 Z prog 65 #[v] w λe w'=>e=.returned (.bool η)/\Y w w w':=by
 obtain⟨c,r,B,d,rfl,p0,⟨ar,j,rfl,_⟩,⟨aw,g,rfl,_⟩,⟨ad,b,rfl,_⟩⟩:=A;have HC:=V p0;obtain⟨f,mc,rfl,_,n,_⟩:=p0;have hb:=af w<|Ξ #[.slice f h.cells.length mc,.slice ar h.roots.length j,.slice aw h.aA.length g,.slice ad h.done.length b] 56;have q:=φ w<|Ξ #[.slice f h.cells.length mc,.slice ar h.roots.length j,.slice aw h.aA.length g,.slice ad h.done.length b] 56
 go_enter (fU func65 rfl),ntmps65
 go_upto_region 1 with(fail)
 go_cut [19]from 4 to 19 λv u=>v=.bool η/\u=w.alloc (Ξ #[.slice f h.cells.length mc,.slice ar h.roots.length j,.slice aw h.aA.length g,.slice ad h.done.length b] 56)
 case first=>
  go_wp2_with fail
  all_goals go_meet
  all_goals exact⟨by first|rfl|(simp;omega),rfl⟩
 case rest=>
  obtain⟨rfl,rfl⟩:=hcut
  go_wp2_with fail
  obtain⟨⟨c0,_⟩,_⟩:=dT q;clear q
  go_loopw [3] (λi wr=>∃k:Nat,k<=h.cells.length/\i=Ω Ψ k/\wr=w.alloc (Ξ #[.slice f h.cells.length mc,.slice ar h.roots.length j,.slice aw h.aA.length g,.slice ad h.done.length b] 56)) (λi _=>h.cells.length-(intOf i).toNat)
  case atStart=>exact⟨0,ψ _,rfl,rfl⟩
  case round=>
   obtain⟨k,E,rfl,rfl⟩:=hrel;by_cases l:k<h.cells.length
   ·obtain⟨F,s,z,_,_,a⟩:=HC.out.below hb;cases z
    obtain⟨D,o,rfl,y,a⟩:=a (by omega);obtain⟨p,t,e1⟩:=cQ l;obtain⟨d0,x,G,K,J,rfl,_⟩:=a k p t e1;have m:=h5 _<|Δ e1;dsimp only at m;clear a
    go_wp2_with fail
    exact⟨⟨k+1,by omega,by go_num,trivial⟩,by simp[intOf];omega⟩
   ·go_wp2_with fail
    go_ret;exact⟨rfl,hb⟩
def Pn(a0 a1 b d a c t):∀w1,w1=w.alloc (Ξ #[a0,a1,b,d,a,c] t) ->(w1 w.heap.size=U a0/\w1 (w.heap.size,1)=U a1/\w1 (w.heap.size,2)=U b/\w1 (w.heap.size,3)=U d/\w1 (w.heap.size,4)=U a/\w1 (w.heap.size,5)=U c)/\w1.heap.size=w.heap.size+1/\Y w w w1:=by rintro w1 rfl;exact⟨sS<|φ w<|Ξ #[a0,a1,b,d,a,c] t,by simp,af _ _⟩
def aab(v g)(A:GV w v g)(b:VG g):
 Z prog 17 #[v] w λe w'=>e=.returned (.bool η)/\Y w w w':=by
 obtain⟨a0,a1,O,J,L,K,rfl,h0,l,k,h3,h4,h5⟩:=A;have m:∀c∈g.new++g.old,c.2.length<=8:=λc hc=>by have:=(b.cells c hc).1;omega
 have N:=b.By;have p:=V h0;have t:=V l;have z:=V k;have r:=V h3;obtain⟨s,u,rfl,_⟩:=h0;obtain⟨o,m1,rfl,_⟩:=l;obtain⟨x,m2,rfl,_⟩:=k;obtain⟨b3,q,rfl,_⟩:=h3;obtain⟨b4,B,rfl,_⟩:=h4;obtain⟨b5,y,rfl,_⟩:=h5;have P:=b.news;have H:=b.bw;have F:=Zz b.four;have G:=b.aA.wW;have D:=b.done.wW
 go_enter (fU func17 rfl),ntmps17
 go_wp2_with fail
 obtain⟨⟨c0,c1,c2,c3,f,n⟩,hs,hb⟩:=Pn w (.slice s g.new.length u) (.slice o g.old.length m1) (.slice x g.roots.length m2) (.slice b3 g.aA.length q) (.slice b4 g.done.length B) (.slice b5 g.marked.length y) 26 _ rfl;generalize w.alloc _=i at c0 c1 c2 c3 f n hs hb⊢;refine(Pe _ _ ⟨g.new,g.aA,[],[]⟩ ⟨_,_,_,_,rfl,p.out.below hb,r.out.below hb,qP<|by omega,qP<|by omega⟩ (by show g.new.length<=45;omega) (by show g.aA.length<=45;omega) (ψ _) (ψ _) λc hc=>m c<|θ _ hc).mono ?_;rintro e C ⟨rfl,a⟩;have h:=hb.trans<|a.mono hb.size;have c1:=cG a c1 (by omega:w.heap.size<i.heap.size);have c2:=cG a c2 (by omega:w.heap.size<i.heap.size);have f:=cG a f (by omega:w.heap.size<i.heap.size);clear c0 c3 n
 go_wp2_with fail
 refine(Pe _ _ ⟨g.old,g.roots,[],[]⟩ ⟨_,_,_,_,rfl,t.out.below h,z.out.below h,qP<|by omega,qP<|by omega⟩ (by show g.old.length<=45;omega) (by show g.roots.length<=45;omega) (ψ _) (ψ _) λc hc=>m c<|ο _ hc).mono ?_;rintro e E ⟨rfl,d⟩;have j:=h.trans<|d.mono h.size;have f:=cG d f (show w.heap.size<C.heap.size by have:=a.size;omega)
 go_wp2_with fail
 go_ret;exact⟨by simp;omega,j⟩
end
section
variable(w:ι)(v u:ZT)(g:GH)
def aaP(n lo hi)(a:lo<=n)(b:n<=hi):Z prog 115 #[Ω Ψ n,Ω Ψ lo,Ω Ψ hi] w λe w'=>e=.returned (.bool ZN)/\w'=w:=by
 go_enter (fU func115 rfl),ntmps115
 go_wp2_with fail
 go_ret;exact⟨rfl,rfl⟩
def Pf(x)(f:GV w v g)(m:ta g x)(t:g.new.length<=1000000)(p:g.old.length<=1000000):
 Z prog 172 #[v,.agg #[Ω Ψ x.1,Ω Ψ x.2]] w λe w'=>e=.returned (Ω Ψ 0)/\Y w w w':=by
 obtain⟨a0,a1,q,r,o,s,rfl,⟨c,d,rfl,_⟩,⟨b,m1,rfl,_⟩,⟨j,m2,rfl,_⟩,⟨b3,h,rfl,_⟩,⟨b4,i,rfl,_⟩,⟨b5,l,rfl,_⟩⟩:=f;obtain⟨k,n⟩:=x;have hb:Y w w ((w.alloc<|Ξ #[.slice c g.new.length d,.slice b g.old.length m1,.slice j g.roots.length m2,.slice b3 g.aA.length h,.slice b4 g.done.length i,.slice b5 g.marked.length l] 26).alloc<|Ξ #[Ω Ψ k,Ω Ψ n] 50):=(af w _).alloc (by simp) _;obtain(⟨h1,h2,h3⟩|⟨h1,h2⟩)|⟨h1,h2,h3⟩|⟨h1,h2,h3⟩:=m<;>dsimp only at h1 h2<;>subst h1
 ·dsimp only at h3
  go_enter (fU func172 rfl),ntmps172
  go_wp2_with fail
  refine(aaP _ n (-99) 99 h2 h3).mono ?_;rintro e a ⟨rfl,rfl⟩
  go_wp2_with fail
  go_ret;exact⟨rfl,hb⟩
 ·subst h2
  go_enter (fU func172 rfl),ntmps172
  go_wp2_with fail
  go_ret;exact⟨rfl,hb⟩
 ·dsimp only at h3
  go_enter (fU func172 rfl),ntmps172
  go_wp2_with fail
  refine(aaP _ n 0 (g.new.length-1) h2<|by omega).mono ?_;rintro e a ⟨rfl,rfl⟩
  go_wp2_with fail
  go_ret;exact⟨rfl,hb⟩
 ·dsimp only at h3
  go_enter (fU func172 rfl),ntmps172
  go_wp2_with fail
  refine(aaP _ n 0 (g.old.length-1) h2<|by omega).mono ?_;rintro e a ⟨rfl,rfl⟩
  go_wp2_with fail
  go_ret;exact⟨rfl,hb⟩
def KH(l)(H:GV w v g)(t:eI w u l)(O:∀x∈l,ta g x)(P:g.new.length<=1000000)(L:g.old.length<=1000000)(hl:l.length<=1000000):
 Z prog 113 #[v,u] w λe w'=>e=.returned (Ω Ψ 0)/\Y w w w':=by
 have HV:=V H;have N:=V t;obtain⟨a0,a1,G,D,F,E,rfl,_⟩:=H;obtain⟨b,m,rfl,hm,J,_⟩:=t
 go_enter (fU func113 rfl),ntmps113
 go_wp2_with fail
 obtain⟨⟨c0,c1,c2,c3,s,r⟩,hs,hb⟩:=Pn w a0 a1 G D F E 26 _ rfl;generalize w.alloc _=n at c0 c1 c2 c3 s r hs hb⊢
 go_loopw [5] (λi wr=>∃k:Nat,k<=l.length/\i=Ω Ψ k/\Y n n wr) (λi _=>l.length-(intOf i).toNat)
 case atStart=>exact⟨0,ψ _,rfl,.refl _ _⟩
 case round=>
  obtain⟨k,hk,rfl,f⟩:=hrel;have y:=hb.trans<|f.mono hb.size;by_cases z:k<l.length
  ·obtain⟨W,m',Q,_,_,j⟩:=N.out.below y;cases Q
   obtain⟨B,o,rfl,K,j⟩:=j (by omega);obtain⟨p,q,e1⟩:=ep z;obtain⟨d0,C⟩:=j k p q e1;clear j
   go_wp2_with fail
   have c0:=cG f c0 (by omega:w.heap.size<n.heap.size);have c1:=cG f c1 (by omega:w.heap.size<n.heap.size);have c2:=cG f c2 (by omega:w.heap.size<n.heap.size);have c3:=cG f c3 (by omega:w.heap.size<n.heap.size);have s:=cG f s (by omega:w.heap.size<n.heap.size);have r:=cG f r (by omega:w.heap.size<n.heap.size);have hd:=(R wr wr).drew;refine Rg.aaH 5 0 (λu=>(u w.heap.size=U a0/\u ⟨w.heap.size,1,I⟩=U a1/\u.cell? ⟨w.heap.size,2,I⟩=U G/\u.cell? ⟨w.heap.size,3,I⟩=U D/\u.cell? ⟨w.heap.size,4,I⟩=U F/\u.cell? ⟨w.heap.size,5,I⟩=U E)/\u.cell? ⟨B,o+k*2,I⟩=U (Ω Ψ p)/\u.cell? ⟨B,o+k*2+1,I⟩=U (Ω Ψ q)) (by kernel_rfl) (by kernel_rfl) (λc a d v w h=>by cases d<;>exact h) ⟨⟨c0,c1,c2,c3,s,r⟩,d0,C⟩ ?_;simp only[ZJ,ZY,ZM,ZX,ZL]
   iterate 5
    (refine Rg.fp.step (v:=?_) (by rfl) (λu t=>?_) ?_
     rotate_left
     (obtain⟨⟨t0,t1,t2,S,X,t5⟩,t6,t7⟩:=t
      go_simp
      try rfl))
   refine Rg.fp.nil<|Rg.pA.zero ?_;simp only[Act.put,Z9,ZV,ZU];clear c0 c1 c2 c3 s r d0 C
   go_wp2_with fail
   refine(Pf _ _ g (p,q) (HV.out.below<|y.trans<|hd.mono y.size) (O _<|Δ e1) P L).mono ?_;rintro e T ⟨rfl,A⟩
   go_wp2_with fail
   exact⟨⟨k+1,by omega,by go_num,f.trans<|(hd.trans A).mono f.size⟩,by simp[intOf];omega⟩
  ·go_wp2_with fail
   go_ret;exact⟨rfl,y⟩
def PJ(n m)(h:n=m):Z prog 112 #[Ω Ψ n,Ω Ψ m] w λe w'=>e=.returned (Ω Ψ 0)/\w'=w:=by
 subst h
 go_enter (fU func112 rfl),ntmps112
 go_wp2_with fail
 go_ret;exact⟨rfl,rfl⟩
def WK(x)(h:zH g x):Z prog 161 #[.agg #[Ω Ψ x.1,Ω Ψ x.2]] w λe w'=>e=.returned (.bool ZN)/\Y w w w':=by
 obtain⟨k,n⟩:=x;obtain⟨h,_⟩|⟨h,_⟩:=h<;>dsimp only at h<;>subst h
 all_goals
  go_enter (fU func161 rfl),ntmps161
  go_wp2_with fail
  go_ret;exact⟨rfl,af _ _⟩
def Kj(cs tG)(J:GV w v g)(y:sa w u cs)(hx:∀c∈cs,RJ g c)(hn:g.new.length<=1000000)(W:g.old.length<=1000000)(hl:cs.length<=tG)(hm:tG<=1000000):
 Z prog 111 #[v,u,Ω Ψ tG] w λe w'=>e=.returned (Ω Ψ 0)/\Y w w w':=by
 have HV:=V J;have HU:=V y;obtain⟨a0,a1,H,D,F,E,rfl,_⟩:=J;obtain⟨b,m,rfl,Q,S,_⟩:=y;have G:decide (tG<cs.length)=η:=by simp;omega
 go_enter (fU func111 rfl),ntmps111
 go_wp2_with fail
 obtain⟨⟨c0,c1,c2,c3,A,t⟩,hs,hb⟩:=Pn w a0 a1 H D F E 26 _ rfl;generalize w.alloc _=l at c0 c1 c2 c3 A t hs hb⊢
 go_loopw [7] (λi wr=>∃k:Nat,k<=cs.length/\i=Ω Ψ k/\Y l l wr) (λi _=>cs.length-(intOf i).toNat)
 case atStart=>exact⟨0,ψ _,rfl,.refl _ _⟩
 case round=>
  obtain⟨k,hk,rfl,f⟩:=hrel;have z:=hb.trans<|f.mono hb.size;by_cases B:k<cs.length
  ·obtain⟨b',m',he,_,_,j⟩:=HU.out.below z;cases he
   obtain⟨K,o,rfl,T,j⟩:=j (by omega);obtain⟨p,q,e1⟩:=cQ B;obtain⟨d0,x,N,r⟩:=j k p q e1;obtain⟨n,s⟩:=hx _<|Δ e1;dsimp only at n s;have HX:=V r;obtain⟨X,P,rfl,_⟩:=r;clear j;have c0:=cG f c0 (by omega:w.heap.size<l.heap.size);have c1:=cG f c1 (by omega:w.heap.size<l.heap.size);have c2:=cG f c2 (by omega:w.heap.size<l.heap.size);have c3:=cG f c3 (by omega:w.heap.size<l.heap.size);have A:=cG f A (by omega:w.heap.size<l.heap.size);have t:=cG f t (by omega:w.heap.size<l.heap.size);have hd:=(R wr wr).drew;have L:q.length<=4:=by omega
   go_upto_block 2 with fail
   go_cut [8]from 15 to 60 λv O=>v=Ω Ψ q.length/\O=wr
   case first=>
    obtain⟨rfl,h0⟩|⟨rfl,h0⟩|⟨rfl,h0⟩:=n
    all_goals
     go_wp2_with fail
     all_goals go_meet
     all_goals exact⟨by first|rfl|(rw[h0];rfl)|simp_all,rfl⟩
   case rest=>
    obtain⟨rfl,rfl⟩:=hcut;clear n
    go_wp2_with fail
    refine(PJ _ _ _ rfl).mono ?_;rintro e w2 ⟨rfl,rfl⟩
    go_wp2_with fail
    refine Rg.aaH 6 0 (λu=>(u w.heap.size=U a0/\u ⟨w.heap.size,1,I⟩=U a1/\u.cell? ⟨w.heap.size,2,I⟩=U H/\u.cell? ⟨w.heap.size,3,I⟩=U D/\u.cell? ⟨w.heap.size,4,I⟩=U F/\u.cell? ⟨w.heap.size,5,I⟩=U E)/\u.cell? ⟨K,o+k*2+1,I⟩=U (.slice X q.length P)) (by kernel_rfl) (by kernel_rfl) (λc a d v w h=>by cases d<;>exact h) ⟨⟨c0,c1,c2,c3,A,t⟩,N⟩ ?_;simp only[ZJ,ZY,ZM,ZX,ZL]
    iterate 6
     (refine Rg.fp.step (v:=?_) (by rfl) (λu y=>?_) ?_
      rotate_left
      (obtain⟨⟨t0,t1,t2,t3,t4,t5⟩,t6⟩:=y
       go_simp
       try rfl))
    refine Rg.fp.nil<|Rg.pA.zero ?_;simp only[Act.put,Z9,ZV,ZU]
    go_wp2_with fail
    refine(KH _ _ _ g q (HV.out.below<|z.trans<|hd.mono z.size) (HX.out.below hd) s hn W<|by omega).mono ?_;rintro e w3 ⟨rfl,C⟩
    go_wp2_with fail
    go_roundw
    case rel=>exact⟨k+1,by omega,by go_num,f.trans<|(hd.trans C).mono f.size⟩
    case measure=>simp[intOf];omega
  ·go_wp2_with fail
   go_ret;exact⟨rfl,z⟩
def KI(l)(hv:GV w v g)(F:eI w u l)(S:Oi g l)(hn:g.new.length<=1000000)(ho:g.old.length<=1000000):
 Z prog 114 #[v,u] w λe w'=>e=.returned (Ω Ψ 0)/\Y w w w':=by
 have HV:=V hv;have HU:=V F;have hl:=S.wW;obtain⟨a0,a1,a2,a3,a4,a5,rfl,_⟩:=hv;obtain⟨b,m,rfl,hm,hm2,_⟩:=F;have hdec:decide (40<l.length)=η:=by simp;omega
 go_enter (fU func114 rfl),ntmps114
 go_wp2_with fail
 obtain⟨⟨c0,c1,c2,c3,y,x⟩,hs,hb⟩:=Pn w a0 a1 a2 a3 a4 a5 26 _ rfl;generalize w.alloc _=t at c0 c1 c2 c3 y x hs hb⊢
 go_loopw [5] (λi wr=>∃k:Nat,k<=l.length/\i=Ω Ψ k/\Y t t wr) (λi _=>l.length-(intOf i).toNat)
 case atStart=>exact⟨0,ψ _,rfl,.refl _ _⟩
 case round=>
  obtain⟨k,hk,rfl,f⟩:=hrel;have G:=hb.trans<|f.mono hb.size;by_cases H:k<l.length
  ·obtain⟨b',m',D,_,_,r⟩:=HU.out.below G;cases D
   obtain⟨X,o,rfl,A,r⟩:=r (by omega);obtain⟨p,q,e1⟩:=ep H;obtain⟨d0,z⟩:=r k p q e1;have B:=S.cells _<|Δ e1;have c0:=cG f c0 (by omega:w.heap.size<t.heap.size);have c1:=cG f c1 (by omega:w.heap.size<t.heap.size);have c2:=cG f c2 (by omega:w.heap.size<t.heap.size);have c3:=cG f c3 (by omega:w.heap.size<t.heap.size);have y:=cG f y (by omega:w.heap.size<t.heap.size);have x:=cG f x (by omega:w.heap.size<t.heap.size)
   go_wp2_with fail
   refine(WK wr g (p,q) B).mono ?_;rintro e w2 ⟨rfl,n⟩;have s:w.heap.size<wr:=by have:=f.size;omega
   replace c0:=cG n c0 s;replace c1:=cG n c1 s;replace c2:=cG n c2 s;replace c3:=cG n c3 s;replace y:=cG n y s;replace x:=cG n x s;replace d0:=cG n d0 A;replace z:=cG n z A;have hd:=(R w2 w2).drew;have C:=G.trans<|n.mono G.size
   go_wp2_with fail
   refine Rg.aaH 5 0 (λu=>(u w.heap.size=U a0/\u ⟨w.heap.size,1,I⟩=U a1/\u.cell? ⟨w.heap.size,2,I⟩=U a2/\u.cell? ⟨w.heap.size,3,I⟩=U a3/\u.cell? ⟨w.heap.size,4,I⟩=U a4/\u.cell? ⟨w.heap.size,5,I⟩=U a5)/\u.cell? ⟨X,o+k*2,I⟩=U (Ω Ψ p)/\u.cell? ⟨X,o+k*2+1,I⟩=U (Ω Ψ q)) (by kernel_rfl) (by kernel_rfl) (λc a d v w h=>by cases d<;>exact h) ⟨⟨c0,c1,c2,c3,y,x⟩,d0,z⟩ ?_;simp only[ZJ,ZY,ZM,ZX,ZL]
   iterate 5
    (refine Rg.fp.step (v:=?_) (by rfl) (λu F=>?_) ?_
     rotate_left
     (obtain⟨⟨t0,t1,t2,t3,t4,t5⟩,t6,t7⟩:=F
      go_simp
      try rfl))
   refine Rg.fp.nil<|Rg.pA.zero ?_;simp only[Act.put,Z9,ZV,ZU];clear c0 c1 c2 c3 y x d0 z
   go_wp2_with fail
   refine(Pf _ _ g (p,q) (HV.out.below<|C.trans<|hd.mono C.size) (.inr B) hn ho).mono ?_;rintro e w3 ⟨rfl,T⟩;have E:Y t t w3:=f.trans<|(n.trans<|(hd.trans T).mono n.size).mono f.size;have hB4:=hb.trans<|E.mono hb.size
   go_wp2_with fail
   go_loopw [7] (λi wr=>∃j:Nat,j<=k/\i=Ω Ψ j/\Y t t wr) (λi _=>k-(intOf i).toNat)
   case atStart=>exact⟨0,ψ _,rfl,E⟩
   case round=>
    obtain⟨j,hj,rfl,f⟩:=hrel;by_cases L:j<k
    ·obtain⟨b',m',D,_,_,r⟩:=HU.out.below (hb.trans<|f.mono hb.size);cases D
     obtain⟨bb',o',D,aoy,r⟩:=r (by omega);cases D
     obtain⟨p0,K,W⟩:=ep (by omega:j<l.length);obtain⟨d0,z⟩:=r k p q e1;obtain⟨d2,d3⟩:=r j p0 K W;have hne:∀w:ι,(binOp .eql 50 (.agg #[Ω Ψ p0,Ω Ψ K])<|.agg #[Ω Ψ p,Ω Ψ q]).run prog w=.ok (.bool η) w:=λw=>by
      rw[Q3];have P:(p0,K)≠(p,q):=λe=>by have N:=(υ.1 W);have J:=(υ.1 e1);obtain⟨N,Q⟩:=N;obtain⟨J,O⟩:=J;have:=(Z4.1 S.nodup) j k N J L;rw[Q,O]at this;exact this e
      congr 2
      rw[Bool.and_eq_false_iff];by_cases hp:p0=p
      exact .inr (by simp;exactλhq=>P<|by rw[hp,hq]);exact .inl (by simpa using hp)
     clear r
     go_wp2_with fail
     go_quiet (fail)
     go_wp2_with fail
     exact⟨⟨j+1,by omega,by go_num,bl f _⟩,by simp[intOf];omega⟩
    ·go_wp2_with fail
     exact⟨⟨k+1,by omega,by go_num,f⟩,by simp[intOf];omega⟩
  ·go_wp2_with fail
   go_ret;exact⟨rfl,G⟩
end
section
variable(w:ι)
def aac(k x vs)(f:eI w x vs)(u:vs.length<=1000000):
 Z prog 116 #[.agg #[Ω Ψ k,x]] w λe w'=>e=.returned (.bool<|jW (k,vs))/\Y w w w':=by
 have r:=V f;obtain⟨a,m,rfl,s,n,_⟩:=f;have hb:=af w<|Ξ #[Ω Ψ k,.slice a vs.length m] 76
 go_enter (fU func116 rfl),ntmps116
 go_wp2_with fail
 go_loopw [3] (λi wr=>∃j:Nat,j<=vs.length/\i=Ω Ψ j/\(vs.take j).any dy=η/\wr=w.alloc (Ξ #[Ω Ψ k,.slice a vs.length m] 76)) (λi _=>vs.length-(intOf i).toNat)
 case atStart=>exact⟨0,ψ _,rfl,rfl,rfl⟩
 case round=>
  obtain⟨j,t,rfl,d,rfl⟩:=hrel;by_cases c:j<vs.length
  ·obtain⟨v,A,h,_,_,b⟩:=r.out.below hb;cases h
   obtain⟨z,o,rfl,g,b⟩:=b (by omega);obtain⟨p,q,e1⟩:=ep c;obtain⟨d0,y⟩:=b j p q e1;clear b;by_cases h3:p=3
   ·subst h3
    go_wp2_with fail
    go_ret;refine⟨?_,hb⟩;have:jW (k,vs)=ZN:=List.any_eq_true.2 ⟨_,Δ e1,rfl⟩;rw[this];rfl
   ·have l:(p==3)=η:=by simp[h3]
    go_wp2_with fail
    exact⟨⟨j+1,by omega,by go_num,by rw[bW e1,Zt,d];simp[dy,h3],trivial⟩,by simp[intOf];omega⟩
  ·go_wp2_with fail
   go_ret;refine⟨?_,hb⟩;rw[ω (by omega)]at d;have:jW (k,vs)=η:=d;rw[this];rfl
def aeB(v l n)(x:n9 w v l)(h:n∈l)(z:l.length<=1000000):
 Z prog 117 #[v,Ω Ψ n] w λe w'=>e=.returned (.bool ZN)/\w'=w:=by
 obtain⟨a,m,rfl,A,s,c⟩:=x;have h0:0<l.length:=List.length_pos_of_mem h;obtain⟨b,o,rfl,hb,c⟩:=c h0;obtain⟨t,d⟩:=Zy.1 h;have p:=(υ.1 d).1;have r:=V c;clear c
 go_enter (fU func117 rfl),ntmps117
 go_wp2_with fail
 go_loopw [5] (λi wr=>∃j:Nat,j<=t/\i=Ω Ψ j/\wr=w) (λi _=>l.length-(intOf i).toNat)
 case atStart=>exact⟨0,ψ _,rfl,rfl⟩
 case round=>
  obtain⟨j,B,rfl,rfl⟩:=hrel;obtain⟨y,g⟩:=lw (by omega:j<l.length);have c0:=r.out j y g;by_cases f:y=n
  ·subst f;have q:(y==y)=ZN:=by simp
   go_wp2_with fail
   all_goals first|(go_ret;exact⟨rfl,rfl⟩)|(exfalso;omega)
  ·have u:(y==n)=η:=by simp[f]
   have k:j≠t:=λe=>by subst e;rw[g]at d;exact f<|Option.some.inj d
   go_wp2_with fail
   all_goals first|exact⟨⟨j+1,by omega,by go_num,rfl⟩,by simp[intOf];omega⟩|exact⟨⟨j+1,by omega,by go_num,trivial⟩,by simp[intOf];omega⟩|(exfalso;omega)
def aad(v g)(hv:GV w v g)(q:VG g):
 Z prog 50 #[v] w λe w'=>e=.returned (Ω Ψ 0)/\Y w w w':=by
 have HV:=V hv;obtain⟨a0,a1,a2,a3,a4,a5,rfl,h0,J,H,h3,h4,h5⟩:=hv;have H0:=V h0;have H1:=V J;have H2:=V H;have H3:=V h3;have H4:=V h4;have H5:=V h5;obtain⟨K,T,rfl,_⟩:=h0;obtain⟨G,m1,rfl,_⟩:=J;obtain⟨b2,m2,rfl,_⟩:=H;obtain⟨b3,X,rfl,_⟩:=h3;obtain⟨b4,O,rfl,_⟩:=h4;obtain⟨b5,B,rfl,_⟩:=h5;have n1:=q.news;have n2:=q.bw;have n3:g.roots.length<=4:=Zz q.four;have n4:=q.aA.wW;have n5:=q.done.wW;have n6:=q.By;have b:=φ w<|Ξ #[.slice K g.new.length T,.slice G g.old.length m1,.slice b2 g.roots.length m2,.slice b3 g.aA.length X,.slice b4 g.done.length O,.slice b5 g.marked.length B] 26;have hb:=af w<|Ξ #[.slice K g.new.length T,.slice G g.old.length m1,.slice b2 g.roots.length m2,.slice b3 g.aA.length X,.slice b4 g.done.length O,.slice b5 g.marked.length B] 26;have hs:w.heap.size<(w.alloc<|Ξ #[.slice K g.new.length T,.slice G g.old.length m1,.slice b2 g.roots.length m2,.slice b3 g.aA.length X,.slice b4 g.done.length O,.slice b5 g.marked.length B] 26).heap.size:=by simp
 go_enter (fU func50 rfl),ntmps50
 go_wp2_with fail
 generalize w.alloc _=w1 at b hb hs⊢;refine(Kj _ _ _ g g.new 8 (HV.out.below hb) (H0.out.below hb) (λc hc=>q.cells c<|θ _ hc) (by omega) (by omega) n1<|by omega).mono ?_;rintro e w2 ⟨rfl,N⟩;replace b:=(N.block _ hs).trans b;replace hb:=hb.trans<|N.mono hb.size;replace hs:=χ hs N.size;obtain⟨c0,c1,c2,c3,r,m⟩:=sS b
 go_wp2_with fail
 clear c0 c1 c2 c3 r m;refine(Kj _ _ _ g g.old 32 (HV.out.below hb) (H1.out.below hb) (λc hc=>q.cells c<|ο _ hc) (by omega) (by omega) n2<|by omega).mono ?_;rintro e w3 ⟨rfl,k3⟩;replace b:=(k3.block _ hs).trans b;replace hb:=hb.trans<|k3.mono hb.size;replace hs:=χ hs k3.size;obtain⟨c0,c1,c2,c3,r,m⟩:=sS b
 go_wp2_with fail
 refine(PJ _ g.roots.length 4 (by have:=q.four;omega)).mono ?_;rintro e w4 ⟨rfl,rfl⟩
 go_wp2_with fail
 clear c0 c1 c2 c3 r m;refine(KH _ _ _ g g.roots (HV.out.below hb) (H2.out.below hb) q.roots (by omega) (by omega)<|by omega).mono ?_;rintro e w5 ⟨rfl,k5⟩;replace b:=(k5.block _ hs).trans b;replace hb:=hb.trans<|k5.mono hb.size;replace hs:=χ hs k5.size;obtain⟨c0,c1,c2,c3,r,m⟩:=sS b
 go_wp2_with fail
 clear c0 c1 c2 c3 r m;refine(KI _ _ _ g g.aA (HV.out.below hb) (H3.out.below hb) q.aA (by omega)<|by omega).mono ?_;rintro e w6 ⟨rfl,k6⟩;replace b:=(k6.block _ hs).trans b;replace hb:=hb.trans<|k6.mono hb.size;replace hs:=χ hs k6.size;obtain⟨c0,c1,c2,c3,r,m⟩:=sS b
 go_wp2_with fail
 clear c0 c1 c2 c3 r m;refine(KI _ _ _ g g.done (HV.out.below hb) (H4.out.below hb) q.done (by omega)<|by omega).mono ?_;rintro e w7 ⟨rfl,Q⟩;replace b:=(Q.block _ hs).trans b;replace hb:=hb.trans<|Q.mono hb.size;replace hs:=χ hs Q.size;obtain⟨c0,c1,c2,c3,r,m⟩:=sS b
 go_wp2_with fail
 generalize w7=w8 at b hb hs c0 c1 c2 c3 r m⊢;clear c0 c1 c2 c3 r m
 go_loopw [9] (λi wr=>∃k:Nat,k<=g.marked.length/\i=Ω Ψ k/\Y w8 w8 wr) (λi _=>g.marked.length-(intOf i).toNat)
 case atStart=>exact⟨0,ψ _,rfl,.refl _ _⟩
 case round=>
  obtain⟨k,hk,rfl,f⟩:=hrel;obtain⟨c0,c1,c2,c3,r,m⟩:=sS<|(f.block _ hs).trans b;have y:=hb.trans<|f.mono hb.size;by_cases t:k<g.marked.length
  ·obtain⟨b',m',he,_,_,l⟩:=H5.out.below y;cases he
   obtain⟨z,o,rfl,L,l⟩:=l (by omega);obtain⟨n,e1⟩:=lw t;have d0:=l k n e1;have hn:=q.marks n<|Δ e1;have hd:=(R wr wr).drew
   go_wp2_with fail
   refine Rg.aaH 9 0 (λu=>u ⟨w.heap.size,5,I⟩=U (ZS (U ⟨z,o,I⟩) g.marked.length B)/\u.cell? ⟨w.heap.size,1,I⟩=U (.slice G g.old.length m1)/\u.cell? ⟨z,o+k,I⟩=U (Ω Ψ n)) (by kernel_rfl) (by kernel_rfl) (λc a d v w h=>by cases d<;>exact h) ⟨m,c1,d0⟩ ?_;simp only[ZJ,ZY,ZM,ZX,ZL]
   iterate 9
    (refine Rg.fp.step (v:=?_) (by rfl) (λu hu=>?_) ?_
     rotate_left
     (obtain⟨t0,t1,t2⟩:=hu
      go_simp
      try rfl))
   refine Rg.fp.nil<|Rg.pA.zero ?_;simp only[Act.put,Z9,ZV,ZU]
   go_wp2_with fail
   refine(aaP _ n 0 (g.old.length-1) hn.1<|by omega).mono ?_;rintro e w9 ⟨rfl,rfl⟩
   go_wp2_with fail
   have s:Y w8 w8 wr.drew:=f.trans<|hd.mono f.size;have d0:wr.drew.cell? (z,o+k)=U (Ω Ψ n):=d0;have m:wr.drew.cell? (w.heap.size,5)=U (.slice (z,o) g.marked.length B):=m;by_cases S:k=0
   ·subst S;have hz:decide ((0:Int)<((0:Nat):Int))=η:=rfl
    go_quiet (fail)
    go_wp2_with fail
    exact⟨⟨0+1,by omega,by go_num,bl f _⟩,by simp[intOf];omega⟩
   ·obtain⟨j,P⟩:∃j,k=j+1:=⟨k-1,by omega⟩;obtain⟨F,e0⟩:=lw (by omega:j<g.marked.length);have d1:=l j F e0;have d2:wr.drew.cell? (z,o+j)=U (Ω Ψ F):=d1;have hlt0:F<n:=by obtain⟨J,h1'⟩:=υ.1 e0;obtain⟨H,h2'⟩:=υ.1 e1;have:=(Z4.1 q.order) j k J H (by omega);rwa[h1',h2']at this
    have qv:(k:Int) -1=(j:Int):=by omega
    have hz1:(0:Int)<(k:Int):=by omega
    have hz2:decide (n<=F)=η:=by simp;omega
    have hi2:(j:Int)<(g.marked.length:Int):=by omega
    have hi3:j<g.marked.length:=by omega
    have hi4:0<k:=by omega
    have hw1:IntKind.i64.wrap (j:Int)=(j:Int):=wrap_small _ (by omega) (by omega);clear l P
    go_quiet (fail)
    go_wp2_with fail
    exact⟨⟨k+1,by omega,by go_num,bl f _⟩,by simp[intOf];omega⟩
  ·go_wp2_with fail
   clear c0 c1 c2 c3 r m;generalize wr=wA at f y⊢;replace b:=(f.block _ hs).trans b;replace hs:=χ hs f.size
   go_loopw [10] (λi wr=>∃k:Nat,k<=g.old.length/\i=Ω Ψ k/\Y wA wA wr) (λi _=>g.old.length-(intOf i).toNat)
   case atStart=>exact⟨0,ψ _,rfl,.refl _ _⟩
   case round=>
    clear f;obtain⟨k,hk,rfl,f⟩:=hrel;obtain⟨c0,c1,c2,c3,r,m⟩:=sS<|(f.block _ hs).trans b;have C:=y.trans<|f.mono y.size;by_cases t:k<g.old.length
    ·obtain⟨b',m',he,_,_,l⟩:=H1.out.below C;cases he
     obtain⟨z,o,rfl,L,l⟩:=l (by omega);obtain⟨p,A,e1⟩:=cQ t;obtain⟨d0,x,d1,E⟩:=l k p A e1;have hvl:=(q.cells _<|ο _<|Δ e1).1;dsimp only at hvl;have HX:=V E;obtain⟨ax,mx,rfl,_⟩:=E;clear l
     go_wp2_with fail
     refine(aac wr p _ A HX.out<|by omega).mono ?_;rintro e w9 ⟨rfl,k9⟩;have c5':=cG k9 m (show w.heap.size<wr.heap.size by have:=f.size;omega);have s:=f.trans<|k9.mono f.size;have Dv:=y.trans<|s.mono y.size;by_cases W:jW (p,A)=ZN
     ·rw[W];have D:=q.ju k (p,A) e1 W
      go_wp2_with fail
      refine(aeB w9 _ g.marked k (H5.out.below Dv) D<|by omega).mono ?_;rintro e w10 ⟨rfl,rfl⟩
      go_wp2_with fail
      exact⟨⟨k+1,by omega,by go_num,s⟩,by simp[intOf];omega⟩
     ·rw[show jW (p,A)=η by simpa using W]
      go_wp2_with fail
      exact⟨⟨k+1,by omega,by go_num,s⟩,by simp[intOf];omega⟩
    ·go_wp2_with fail
     go_ret;exact⟨rfl,C⟩
end
section
variable(w:ι)
def WT(a mc l)(d:n9 w (.slice a l.length mc) l):
 Z prog 19 #[.slice a l.length mc] w λe w'=>e=.returned (.pointer w.heap.size)/\kp w' w 0/\Y w w w':=by
 have hb:=af w<|Ξ #[.slice a l.length mc,Ω Ψ 0,Ω .u64 2611923443488327891] 95
 go_enter (fU func19 rfl),ntmps19
 go_wp2_with fail
 go_ret;exact⟨rfl,⟨0,⟨a,l,mc,_,φ _ _,d.below hb,λp h0 e=>by obtain⟨_,_,f,_,_,h3⟩:=d;cases f;obtain⟨b,o,e2,c,_⟩:=h3 h0;rw[e]at e2;cases e2;exact c⟩,by omega,by omega⟩,hb⟩
def aaQ(v g)(i:GV w v g)(j:VG g):
 Z prog 32 #[v] w λe w'=>e=.returned (.bool ZN)/\Y w w w':=by
 have HV:=V i;obtain⟨a0,a1,l,m,k,n,rfl,-⟩:=i;obtain⟨⟨c0,c1,c2,c3,h,c⟩,hs,hb⟩:=Pn w a0 a1 l m k n 26 _ rfl
 go_enter (fU func32 rfl),ntmps32
 go_wp2_with fail
 generalize w.alloc _=b at c0 c1 c2 c3 h c hs hb⊢;refine(aab _ _ g (HV.out.below hb) j).mono ?_;rintro e p ⟨rfl,a⟩;have d:=hb.trans<|a.mono hb.size;replace c0:=cG a c0 (by omega:w.heap.size<b.heap.size);replace c1:=cG a c1 (by omega:w.heap.size<b.heap.size);replace c2:=cG a c2 (by omega:w.heap.size<b.heap.size);replace c3:=cG a c3 (by omega:w.heap.size<b.heap.size);replace h:=cG a h (by omega:w.heap.size<b.heap.size);replace c:=cG a c (by omega:w.heap.size<b.heap.size)
 go_wp2_with fail
 refine(aad _ _ g (HV.out.below d) j).mono ?_;rintro e o ⟨rfl,f⟩
 go_wp2_with fail
 go_ret;exact⟨rfl,d.trans<|f.mono d.size⟩
def RK(n):
 Z prog 54 #[Ω Ψ n] w λe w'=>e=.returned (.agg #[Ω Ψ 1,Ω Ψ n])/\Y w w w':=by
 go_enter (fU func54 rfl),ntmps54
 go_wp2_with fail
 refine ε (v:=.agg #[Ω Ψ 1,Ω Ψ n]) (by simp[Z1,results54,go_sem]) rfl ⟨rfl,?_⟩;exact(R _ _).alloc .refl _
end
def EB(w v u g l)(hv:GV w v g)(hu:eI w u l)(ho:g.old.length<=1000000)(hx:∀x∈l,x.1=3->0<=x.2/\x.2<=1000000)(hl:l.length<=1000000):
 Z prog 101 #[v,u] w λe w'=>(∃r,e=.returned r/\OV w' w r (l.map<|cp g.old.length))/\Y w w w':=by
 have HU:=V hu;obtain⟨a0,a1,a2,a3,a4,a5,rfl,-,⟨b1,m1,rfl,-⟩,-⟩:=hv;obtain⟨a,m,rfl,hm,hm2,-⟩:=hu;obtain⟨⟨-,c1,-⟩,hs,hb⟩:=Pn w a0 (.slice b1 g.old.length m1) a2 a3 a4 a5 26 _ rfl
 go_enter (fU func101 rfl),ntmps101
 go_wp2_with fail
 generalize w.alloc _=A at c1 hs hb⊢
 go_loopw [5,6] (λx i wr=>∃k:Nat,k<=l.length/\i=Ω Ψ k/\OV wr A x ((l.take k).map<|cp g.old.length)/\Y A A wr) (λ_ i _=>l.length-(intOf i).toNat)
 case atStart=>exact⟨0,ψ _,rfl,OV.nil _ _,.refl _ _⟩
 case round=>
  obtain⟨k,hk,rfl,f,j⟩:=hrel;have C:=j.size;have hB:=hb.trans<|j.mono hb.size;by_cases O:k<l.length
  ·obtain⟨a2',m2,he,_,_,y⟩:=HU.out.below hB;simp only[ζ]at he;obtain⟨rfl,-,-⟩:=he;obtain⟨bb,o,rfl,hbb,y⟩:=y (by omega);obtain⟨p,q,e1⟩:=ep O;obtain⟨d0,d1⟩:=y k p q e1;have H:=hx _<|Δ e1;dsimp only at H;have n:((l.take k).map<|cp g.old.length).length<=1000000000:=by simp;omega
   clear y;have N:=cG j c1 (by omega:w.heap.size<A.heap.size);have h:=af wr<|Ξ #[Ω Ψ p,Ω Ψ q] 50;have B:=cG h N (by omega:w.heap.size<wr.heap.size);have hzn:(wr.alloc<|Ξ #[Ω Ψ p,Ω Ψ q] 50).heap.size=wr.heap.size+1:=by simp
   have z:=φ wr<|Ξ #[Ω Ψ p,Ω Ψ q] 50;by_cases S:p=3
   ·subst S;obtain⟨P,hq1⟩:=H rfl;obtain⟨q,rfl⟩:=Z2 P;have hw:=wrap_small _ (by omega) (by omega);obtain⟨L,K,-,-⟩:=hH z
    go_wp2_with fail
    refine(RK _ _).mono ?_;rintro e E ⟨rfl,d⟩;have F:=(d.block wr<|by omega).trans z;have T:=d.size;obtain⟨z0,z1,Q,W⟩:=hH F;have G:Y wr wr ((E.setCell wr.heap.size<|Ω Ψ 1).setCell (wr.heap.size,1)<|Ω Ψ<|(g.old.length:Int)+(q:Int)):=((h.trans<|d.mono<|by omega).setCell (p:=(wr.heap.size:ZC)) .refl _).setCell (p:=((wr.heap.size,1):ZC)) .refl _;have xW:=heap_setCell_same (i:=1) (v:=Ω Ψ<|(g.old.length:Int)+(q:Int))<|heap_setCell_same (i:=0) (v:=Ω Ψ 1) F;have b:=OV.below f G;have t:cp g.old.length (3,(q:Int))=(1,((g.old.length:Int)+(q:Int))):=by simp[cp]<;>omega
    clear L K h B z d d0 d1
    go_wp2_with (at_builtin;refine fO rfl _ _ rfl A _ _ rfl (b.alloc _) E.heap.size _ (1,((g.old.length:Int)+(q:Int))) rfl (by simp[go_sem,Z8]) n (by simp;omega) ?_;intro X w5 c s J)
    exact⟨⟨k+1,by omega,by go_num,by rw[bW e1,κ,ξ,t];exact c,j.trans<|((G.mono C).alloc (by simp;omega) _).trans<|s.mono<|by omega⟩,by simp[intOf];omega⟩
   ·by_cases D:p=4
    ·subst D;obtain⟨L,K,-,-⟩:=hH z
     go_wp2_with fail
     refine(RK _ _).mono ?_;rintro e E ⟨rfl,d⟩;have F:=(d.block wr<|by omega).trans z;have T:=d.size;obtain⟨z0,z1,Q,W⟩:=hH F;have G:Y wr wr ((E.setCell wr.heap.size<|Ω Ψ 1).setCell (wr.heap.size,1) q):=((h.trans<|d.mono<|by omega).setCell (p:=(wr.heap.size:ZC)) .refl _).setCell (p:=((wr.heap.size,1):ZC)) .refl _;have xW:=heap_setCell_same (i:=1) (v:=Ω Ψ q)<|heap_setCell_same (i:=0) (v:=Ω Ψ 1) F;have b:=OV.below f G;have t:cp g.old.length (4,q)=(1,q):=by simp[cp]<;>omega
     clear L K h B z d d0 d1
     go_wp2_with (at_builtin;refine fO rfl _ _ rfl A _ _ rfl (b.alloc _) E.heap.size _ (1,q) rfl (by simp[go_sem,Z8]) n (by simp;omega) ?_;intro X w5 c s J)
     exact⟨⟨k+1,by omega,by go_num,by rw[bW e1,κ,ξ,t];exact c,j.trans<|((G.mono C).alloc (by simp;omega) _).trans<|s.mono<|by omega⟩,by simp[intOf];omega⟩
    ·have aoz:(p==3)=η:=by simp[S]
     have aoA:(p==4)=η:=by simp[D]
     have t:cp g.old.length (p,q)=(p,q):=by simp[cp,S,D]
     obtain⟨L,K,-,-⟩:=hH z;have b:=OV.below f h;clear B z
     go_wp2_with (at_builtin;refine fO rfl _ _ rfl A _ _ rfl (b.alloc _) (wr.heap.size+1:Nat) _ (p,q) rfl (by simp[go_sem,Z8]) n (by simp;omega) ?_;intro X w5 c s J)
     exact⟨⟨k+1,by omega,by go_num,by rw[bW e1,κ,ξ,t];exact c,j.trans<|((h.mono C).alloc (by simp;omega) _).trans<|s.mono<|by omega⟩,by simp[intOf];omega⟩
  ·go_wp2_with fail
   go_ret;rw[ω (by omega)]at f;exact⟨⟨_,rfl,OV.less f<|by omega⟩,hB⟩
def Kk(w v u g l)(D:GV w v g)(X:eI w u l)(S:g.old.length<=1000000)(hx:∀x∈l,x.1=3->0<=x.2/\x.2<=1000000)(T:l.length<=1000000):
 Z prog 102 #[v,u] w λe w'=>(∃r,e=.returned r/\OI w' w.heap.size r ((l.map<|cp g.old.length).map (·.2)))/\Y w.heap.size w w':=by
 have G:=V D;obtain⟨a0,a1,a2,H,P,J,rfl,-⟩:=D;obtain⟨⟨c0,c1,c2,c3,E,B⟩,hs,hb⟩:=Pn w a0 a1 a2 H P J 26 _ rfl
 go_enter (fU func102 rfl),ntmps102
 go_wp2_with fail
 generalize w.alloc _=w1 at c0 c1 c2 c3 E B hs hb⊢;refine(EB _ _ _ g l (G.out.below hb) (X.below hb) S hx T).mono ?_;rintro e s ⟨⟨r,rfl,A⟩,n⟩;have O:=n.size;have f:=OV.reads A;generalize y:l.map (cp g.old.length)=L at A f;have F:L.length=l.length:=by rw[<-y];simp
 have HL:=V y;have HR:=V f;obtain⟨a,m,rfl,hm,K,-⟩:=f;clear y c0 c1 c2 c3 E B
 go_wp2_with fail
 go_loopw [5,7] (λx i wr=>∃k:Nat,k<=L.length/\i=Ω Ψ k/\OI wr s.heap.size x ((L.take k).map (·.2))/\Y s.heap.size s wr) (λ_ i _=>L.length-(intOf i).toNat)
 case atStart=>exact⟨0,ψ _,rfl,OI.nil _ _,.refl _ _⟩
 case round=>
  obtain⟨k,hk,rfl,b,d⟩:=hrel;have N:=d.size;by_cases t:k<L.length
  ·obtain⟨W,m2,C,_,_,c⟩:=HR.out.below d;simp only[ζ]at C;obtain⟨rfl,-,-⟩:=C;obtain⟨bb,o,rfl,Q,c⟩:=c (by omega);obtain⟨p,q,e1⟩:=ep t;obtain⟨d0,d1⟩:=c k p q e1;have j:((L.take k).map (·.2)).length<=1000000000:=by simp;omega
   clear c
   go_wp2_with (at_builtin;refine od rfl _ _ rfl s.heap.size _ _ rfl (b.alloc _) ⟨wr.heap.size,0,I⟩ _ q rfl (by simp[go_sem,Z8]) j (by simp;omega) ?_;intro v' w5 h z hg5)
   exact⟨⟨k+1,by omega,by go_num,by rw[bW e1,κ,ξ];exact h,d.trans<|((R _ _).alloc (by omega) _).trans z⟩,by simp[intOf];omega⟩
  ·go_wp2_with fail
   go_ret;rw[ω (by omega)]at b;exact⟨⟨_,rfl,by rw[HL.out];exact OI.less b<|by omega⟩,(hb.trans<|n.mono hb.size).trans<|d.mono<|by omega⟩
def JL(w v u g cs)(hv:GV w v g)(hu:sa w u cs)(B:g.old.length<=1000000)(hl:cs.length<=1000000)(hs:∀c∈cs,c.2.length<=1000000/\∀x∈c.2,x.1=3->0<=x.2/\x.2<=1000000):
 Z prog 100 #[v,u] w λe w'=>(∃r,e=.returned r/\OX w' w r (cs.map<|Bz g.old.length))/\Y w w w':=by
 have HG:=V hv;have HU:=V hu;obtain⟨a0,a1,a2,a3,a4,a5,rfl,-⟩:=hv;obtain⟨a,mc,rfl,hmc,am9,-⟩:=hu;obtain⟨⟨c0,c1,c2,c3,c4,c5⟩,z,hb⟩:=Pn w a0 a1 a2 a3 a4 a5 26 _ rfl
 go_enter (fU func100 rfl),ntmps100
 go_wp2_with fail
 generalize w.alloc _=s at c0 c1 c2 c3 c4 c5 z hb⊢;have n:w.heap.size<s:=by omega
 clear z
 go_loopw [5,6] (λx i wr=>∃k:Nat,k<=cs.length/\i=Ω Ψ k/\OX wr s x ((cs.take k).map<|Bz g.old.length)/\Y s s wr) (λ_ i _=>cs.length-(intOf i).toNat)
 case atStart=>exact⟨0,ψ _,rfl,OX.nil _ _,.refl _ _⟩
 case round=>
  obtain⟨k,hk,rfl,H,f⟩:=hrel;have hB:=hb.trans<|f.mono hb.size;have aoB:=f.size;by_cases hlt:k<cs.length
  ·obtain⟨a',mc',he,_,_,t⟩:=HU.out.below hB;simp only[ζ]at he;obtain⟨rfl,-,-⟩:=he;obtain⟨D,o,rfl,G,t⟩:=t (by omega);obtain⟨p,T,e1⟩:=cQ hlt;have q:w.heap.size<wr:=by omega
   have q0:=cG f c0 n;have q1:=cG f c1 n;have q2:=cG f c2 n;have q3:=cG f c3 n;have q4:=cG f c4 n;have q5:=cG f c5 n;obtain⟨c0,x,c1,hxv⟩:=t k p T e1;obtain⟨O,oX⟩:=hs _<|Δ e1;dsimp only at O oX;clear t;obtain⟨C,E⟩:∃x,Hid (x=T.map (cp g.old.length)):=⟨_,V rfl⟩
   go_wp2_with fail
   refine Rg.pT [.eq u5,.eq<|.slice (D,o) cs.length mc,.eq<|Ω Ψ k,.eq<|.pointer (D,o+k*2),.eq<|.pointer (D,o+k*2),.eq p,.eq<|.agg #[a0,a1,a2,a3,a4,a5],.eq<|.slice (D,o) cs.length mc,.eq<|Ω Ψ k,.eq<|.pointer (D,o+k*2),.eq<|.pointer (D,o+k*2+1),.eq x,SP.ov s C,SP.cell s p C,SP.adG s p C] (by kernel_rfl) (by kernel_rfl) (by rfl) ?_ ?_
   ·refine⟨?_,?_,?_,?_,?_,?_,?_,?_,?_,?_,?_,?_,?_,?_,?_,trivial⟩
    all_goals intro x2 w2 h d b
    all_goals first|(have f0:=cG h c0 G;have f1:=cG h q0 q;have f2:=cG h q1 q;have f3:=cG h q2 q;have f4:=cG h q3 q;have f5:=cG h q4 q;have f6:=cG h q5 q;have f7:=cG h c1 G;have k0:=d 1 rfl;have k1:=d 2 rfl;have k2:=d 5 rfl;have k3:=d 6 rfl;simp at k0 k1 k2 k3;(try have q0:=Rg.lT (b 1 _ rfl rfl) rfl);(try have q1:=Rg.lT (b 2 _ rfl rfl) rfl);(try have q2:=Rg.lT (b 3 _ rfl rfl) rfl);(try have q3:=Rg.lT (b 4 _ rfl rfl) rfl);(try have q4:=Rg.lT (b 7 _ rfl rfl) rfl);(try have q5:=Rg.lT (b 8 _ rfl rfl) rfl);(try have q6:=Rg.lT (b 9 _ rfl rfl) rfl);(try have q7:=Rg.lT (b 10 _ rfl rfl) rfl);clear d b;go_simp;exact⟨_,rfl,.refl _ _,rfl⟩)|skip
    ·have F:=Rg.lT (b 6 _ rfl rfl) rfl;have m:=Rg.lT (b 11 _ rfl rfl) rfl;have j:=(R _ wr).drew.trans h;clear d b;go_simp;refine(EB _ _ _ g T ((HG.out.below hB).below j) (hxv.below j) B (λx H h3=>oX x H h3) O).mono ?_;rintro e w3 ⟨⟨r,rfl,B⟩,A⟩;replace B:=B.less (show s.heap.size<=_ by have:=j.size;omega);rw[<-E.out]at B;exact⟨_,rfl,A,B⟩
    ·have F:=Rg.lT (b 5 _ rfl rfl) rfl;have m:=b 12 _ rfl rfl;obtain⟨P,S,d2,-⟩:=aF m;rw[d2]at m;clear d b;go_simp;exact⟨_,rfl,.refl _ _,_,rfl,m⟩
    ·obtain⟨y,F,m⟩:∃y,(x2.tmps[26]?).getD undef=.agg #[Ω Ψ p,y]/\OV w2 s y C:=b 13 _ rfl rfl;clear d b;obtain⟨P,S,rfl,-⟩:=aF m;go_simp;exact⟨_,rfl,af _ _,_,_,rfl,φ _ _,m.alloc _⟩
   ·rintro X w3 A ⟨Q,s1,s2,s3,s4,s5,s6,s7,s8,s9,W,s11,s12,s13,⟨gb,y,K,hg,hy⟩,_⟩;obtain⟨P,S,rfl,-⟩:=aF hy;have Q:X 0=u5:=Q;simp[go_sem,K,Q];clear Q s1 s2 s3 s4 s5 s6 s7 s8 s9 W s11 s12 s13 K;have j:=(R wr wr).drew.trans A;obtain⟨lc,L,N⟩:=H.keep<|kE.below j;obtain⟨h1,h2,-,-⟩:=hH hg
    go_wp2_with (at_builtin;refine wh rfl _ _ rfl s _ _ rfl L gb _ (p,.slice P C.length S) rfl rfl ⟨h1,h2⟩ (by have:=N.1;simp at this;omega) (by have:=j.size;omega) ?_;intro v' w6 l J Re;obtain⟨a6,m6,rfl,-⟩:=aF l)
    have hl':(lc++[(p,ZS P C.length S)]).length=lc.length+1:=by simp
    rw[hl']at l;have hz2:=j.size;exact⟨⟨k+1,by omega,by go_num,by rw[bW e1,κ,ξ];unfold Bz;rw[<-E.out];exact⟨_,l,(N.snoc hy).types L Re⟩,f.trans<|(j.mono<|by omega).trans J⟩,by simp[intOf];omega⟩
  ·go_wp2_with fail
   go_ret;rw[ω (by omega)]at H;exact⟨⟨_,rfl,H.less<|by omega⟩,hB⟩
section
def HO.append{w B l l2 cs a}(h:HO w B l cs)(k:HO w B l2 a):HO w B (l++l2) (cs++a):=by
 refine⟨by rw[ZI,ZI,h.1,k.1],λi p x b c e1 e2=>?_⟩;obtain hi|hi:=Nat.lt_or_ge i l.length
 rw[ZR hi]at e1;rw[ZR (by rw[<-h.1];exact hi)]at e2;exact h.2 i p x b c e1 e2;rw[ZE hi]at e1;rw[ZE (by rw[<-h.1];exact hi),<-h.1]at e2;exact k.2 _ p x b c e1 e2
def HO.one{w B l cs}(h:HO w B l cs):∀u∈l.flatMap dW,u.oneCell'=ZN:=by
 intro u b;obtain⟨p,d,b⟩:=List.mem_flatMap.1 b;obtain⟨i,hi⟩:=Zy.1 d;have c:i<cs.length:=by rw[<-h.1];exact(υ.1 hi).1
 obtain⟨f,g,e3⟩:=cQ c;obtain⟨a,m,e,-⟩:=aF (h.2 i p.1 p.2 f g hi e3).2;simp[dW]at b;obtain rfl|rfl:=b
 rfl;rw[e];rfl
section
variable{ops:Array Oper}{rest:List Oper}{o:Oper}{a:Act}{w:ι}{Q:Exit->Act->ι->Prop}{K:Act->ι->Prop}
def Xb(s x)(H:o.op=.call {callee:=.builtin .append,args:=#[s,x],argTypes:=#[22,22]})(B v cs)(hs:a.eval s=v)(e:OX w B v cs)(v2 d)(N:a.eval x=v2)(r:OX w B v2 d)(P:cs.length<=1000000000)(F:d.length<=1000000000)(z:B<=w.heap.size)(h:∀f w',OX w' B f (cs++d) ->Y B w w'->w.grownBy w' v.ownBlock->K (a.put o.dst f) w'):o.wp prog a w K Q:=by
 obtain⟨G,hi,i,p,q⟩:=info_parts ni;obtain⟨l,n,y⟩:=e;obtain⟨g,D,t⟩:=r;have E:=y.1;have C:=t.1;obtain⟨A,c,rfl,-,-,L⟩:=aF D;refine sg s x 22 H B 76 G _ 2 32 mF hi i p q rfl (by decide) v l.length _ hs n A g.length c (g.flatMap dW) N (su g) (λh0=>?_) t.one (by unfold maxLen;omega) (by omega) z λf w' J m=>?_;obtain⟨b,rfl,_,_,_,k⟩:=L h0;refine⟨_,rfl,λj u r=>?_⟩;have O:(⟨b,0,I⟩:ZC).add j=⟨b,j,I⟩:=by unfold Z8;split<;>simp_all
 rw[O];exact k j u r;refine h f w' ⟨l++g,?_,(y.append t).types n m⟩ (cM n m z) m;unfold OC;rw[List.flatMap_append,ZI];exact J
def Qx{E}(d:o.guard=I)(s x)(g:o.op=.call {callee:=.builtin .append,args:=#[s,x],argTypes:=#[22,22]})(B v cs)(hs:a.eval s=v)(c:OX w B v cs)(v2 b)(l:a.eval x=v2)(j:OX w B v2 b)(i:cs.length<=1000000000)(e:b.length<=1000000000)(k:B<=w.heap.size)(h:∀f w',OX w' B f (cs++b) ->Y B w w'->w.grownBy w' v.ownBlock->K (a.put o.dst f) w'):if Region.wanted o (yielded ops a.tmps)=ZN then Oper.wp prog o a w K Q else E:=by rw[if_pos (by simp[Region.wanted,d])];exact Xb s x g B v cs hs c v2 b l j i e k h
end
end
def Ro(w v g)(hv:GV w v g)(P:g.old.length<=1000000)(hn:g.new.length<=1000000)(hs:∀c∈g.new++g.old,c.2.length<=1000000/\∀x∈c.2,x.1=3->0<=x.2/\x.2<=1000000)(hr:∀x∈g.roots,x.1=3->0<=x.2/\x.2<=1000000)(hw:∀x∈g.aA,x.1=3->0<=x.2/\x.2<=1000000)(hd:∀x∈g.done,x.1=3->0<=x.2/\x.2<=1000000)(hrl:g.roots.length<=1000000)(hwl:g.aA.length<=1000000)(hdl:g.done.length<=1000000):
 Z prog 40 #[v] w λe w'=>(∃r,e=.returned r/\pS w' w r (plain g))/\Y w w w':=by
 have HG:=V hv;obtain⟨a0,a1,A,C,z,K,rfl,h0,h1,h2,h3,h4,-⟩:=hv;obtain⟨z0,z1,k,hs0⟩:=KM w (Ξ #[a0,a1,A,C,z,K] 26)<|Ξ #[ZS I 0 0,ZS I 0 0,ZS I 0 0,ZS I 0 0] 56
 go_enter (fU func40 rfl),ntmps40
 go_wp2_with fail
 generalize (w.alloc _).alloc _=m at z0 z1 k hs0⊢;obtain⟨c0,c1,c2,c3,Q,S⟩:=sS z0;have a:w.heap.size<m:=by omega
 have o:=V<|HG.out.below k;have H0:=V<|h0.below k;have H1:=V<|h1.below k;have H2:=V<|h2.below k;have H3:=V<|h3.below k;have H4:=V<|h4.below k;clear h0 h1 h2 h3 h4 HG;have W:¬w.heap.size+1=w:=by omega
 have L:Y m m m.drew:=(R _ _).drew
 go_region_held3 (λx=>x w.heap.size=U a0/\x (w.heap.size,1)=U a1/\x (w.heap.size,2)=U A/\x (w.heap.size,3)=U C/\x (w.heap.size,4)=U z/\x (w.heap.size,5)=U K)
  (refine⟨?_,?_,?_,?_,?_,?_⟩<;>(repeat (first|with_reducible assumption|with_reducible refine dB ?_|with_reducible refine dO ?_|with_reducible refine da W ?_)))
  (first
    |(go_at_call 100;(with_reducible refine(JL _ (.agg #[a0,a1,A,C,z,K]) a1 g g.old (o.out.below L) (H1.out.below L) P P λc hc=>hs c<|ο _ hc).mono ?_);rintro e w4 ⟨⟨r4,rfl,Ja⟩,hb4⟩;have b:Y m m w4:=L.trans hb4;have k0:=cG b c0 a;have k1:=cG b c1 a;have k2:=cG b c2 a;have k3:=cG b c3 a;have k4:=cG b Q a;have k5:=cG b S a)
    |(go_at_call 100;(with_reducible refine(JL _ (.agg #[a0,a1,A,C,z,K]) a0 g g.new (o.out.below b) (H0.out.below b) P hn λc hc=>hs c<|θ _ hc).mono ?_);rintro e w5 ⟨⟨r5,rfl,Pk⟩,hb5⟩;have l:Y m m w5:=b.trans<|hb5.mono b.size;have l0:=cG l c0 a;have l1:=cG l c1 a;have l2:=cG l c2 a;have l3:=cG l c3 a;have l4:=cG l Q a;have l5:=cG l S a)
    |((refine Qx rfl (.tmp 6) (.tmp 10) (by rfl) m r4 _ (by rfl) ((Ja.less<|by exact .refl).keep<|kE.below hb5) r5 _ (by rfl) (Pk.less b.size) (by simp;omega) (by simp;omega) l.size ?_;intro v6 w6 Jb hb6 Re;have d:Y m m w6:=l.trans hb6;obtain⟨s,y,Rf⟩:=Jb;obtain⟨D,u,rfl,-⟩:=aF y;have m0:=cG d c0 a;have m1:=cG d c1 a;have m2:=cG d c2 a;have m3:=cG d c3 a;have m4:=cG d Q a;have m5:=cG d S a))
    |(go_at_call 101;(with_reducible refine(EB _ (.agg #[a0,a1,A,C,z,K]) A g g.roots (o.out.below d) (H2.out.below d) P hr hrl).mono ?_);rintro e w7 ⟨⟨r7,rfl,Jd⟩,hb7⟩;have h:Y m m w7:=d.trans<|hb7.mono d.size;obtain⟨F,G,rfl,-⟩:=aF Jd;have n0:=cG h c0 a;have n1:=cG h c1 a;have n2:=cG h c2 a;have n3:=cG h c3 a;have n4:=cG h Q a;have n5:=cG h S a)
    |(go_at_call 102;(with_reducible refine(Kk _ (.agg #[a0,a1,A,C,z,K]) C g g.aA (o.out.below h) (H3.out.below h) P hw hwl).mono ?_);rintro e w8 ⟨⟨r8,rfl,T⟩,H⟩;have f:Y m m w8:=h.trans<|H.mono h.size;obtain⟨E,O,rfl,-⟩:=aF T;have p0:=cG f c0 a;have p1:=cG f c1 a;have p2:=cG f c2 a;have p3:=cG f c3 a;have p4:=cG f Q a;have p5:=cG f S a)
    |(go_at_call 102;(with_reducible refine(Kk _ (.agg #[a0,a1,A,C,z,K]) z g g.done (o.out.below f) (H4.out.below f) P hd hdl).mono ?_);rintro e w9 ⟨⟨r9,rfl,ho9⟩,q⟩;have n:Y m m w9:=f.trans (q.mono f.size);obtain⟨J,N,rfl,-⟩:=aF ho9;have y1:=(n.block (w.heap.size+1) (by omega)).trans z1;obtain⟨⟨s0,s1,s2,s3⟩,sf⟩:=dT y1;have f0:=sf 0;have f1:=sf 1;have f2:=sf 2;have f3:=sf 3;have q0:=cG n c0 a;have q1:=cG n c1 a;have q2:=cG n c2 a;have q3:=cG n c3 a;have q4:=cG n Q a;have q5:=cG n S a))
 have hf:=heap_setCell_same (i:=3) (v:=.slice J g.done.length N)<|heap_setCell_same (i:=2) (v:=.slice E g.aA.length O)<|heap_setCell_same (i:=1) (v:=.slice F g.roots.length G)<|heap_setCell_same (i:=0) (v:=.slice D s.length u) y1;have t:kE (w.heap.size+2) w9 ((((w9.setCell (w.heap.size+1:Nat)<|.slice D s.length u).setCell (w.heap.size+1,1)<|.slice F g.roots.length G).setCell (w.heap.size+1,2)<|.slice E g.aA.length O).setCell (w.heap.size+1,3)<|.slice J g.done.length N):=λj hb _=>(aa<|by omega).trans<|(aa<|by omega).trans<|(aa<|by omega).trans<|aa<|by omega
 have aiD:=k.trans<|n.mono<|by omega
 have X:Y w w ((((w9.setCell (w.heap.size+1:Nat)<|.slice D s.length u).setCell (w.heap.size+1,1)<|.slice F g.roots.length G).setCell (w.heap.size+1,2)<|.slice E g.aA.length O).setCell (w.heap.size+1,3)<|.slice J g.done.length N):=(((aiD.setCell (p:=((w.heap.size+1:Nat):ZC)) (by show w.heap.size<=w.heap.size+1;omega) _).setCell (p:=((w.heap.size+1,1):ZC)) (by show w.heap.size<=w.heap.size+1;omega) _).setCell (p:=((w.heap.size+1,2):ZC)) (by show w.heap.size<=w.heap.size+1;omega) _).setCell (p:=((w.heap.size+1,3):ZC)) (by show w.heap.size<=w.heap.size+1;omega) _;have j6:=d.size;have j7:=h.size;have j8:=f.size;have JG:OX w9 (w.heap.size+2) (.slice D s.length u) ((g.old++g.new).map<|Bz g.old.length):=by rw[κ];exact(OX.keep (OX.keep (OX.keep ⟨s,y,Rf⟩<|kE.below hb7)<|kE.below H)<|kE.below q).less (by omega)
 have hv9:OV w9 (w.heap.size+2) _ _:=OV.less (OV.below (OV.below Jd H) q) (by omega);have hi9:OI w9 (w.heap.size+2) _ _:=OI.less (OI.below T q) (by omega);have hj9:OI w9 (w.heap.size+2) _ _:=OI.less ho9 (by omega);simp only[List.length_map]at hv9 hi9 hj9;have B:pS ((((w9.setCell (w.heap.size+1:Nat)<|.slice D s.length u).setCell (w.heap.size+1,1)<|.slice F g.roots.length G).setCell (w.heap.size+1,2)<|.slice E g.aA.length O).setCell (w.heap.size+1,3)<|.slice J g.done.length N) w (.agg #[.slice D s.length u,.slice F g.roots.length G,.slice E g.aA.length O,.slice J g.done.length N]) (plain g):=⟨_,_,_,_,rfl,(JG.keep t).less<|by omega,eV (dI hv9 t)<|by omega,eV (dI hi9 t)<|by omega,eV (dI hj9 t)<|by omega⟩;generalize (((w9.setCell (w.heap.size+1:Nat)<|.slice D s.length u).setCell (w.heap.size+1,1)<|.slice F g.roots.length G).setCell (w.heap.size+1,2)<|.slice E g.aA.length O).setCell (w.heap.size+1,3) (.slice J g.done.length N)=wf at hf X B⊢;obtain⟨⟨e0,e1,e2,e3⟩,-⟩:=dT hf
 go_wp2_with fail
 exact ε (v:=.agg #[.slice D s.length u,.slice F g.roots.length G,.slice E g.aA.length O,.slice J g.done.length N]) (by simp[Z1,results40,go_sem,e0,e1,e2,e3]) rfl ⟨⟨_,rfl,B⟩,X⟩
def aae(w v g)(b:GV w v g)(a:VG g)(c:g.new.length+g.old.length<=32):
 Z prog 22 #[v] w λe w'=>(∃r,e=.returned (.tuple #[r,Ω Ψ 0])/\GV w' r (sX g))/\Y w.heap.size w w':=
 OY w v g (sX g) _ b (VG.look a) (by have:=a.By;omega) (VG.cN a) (VG.aeP a) (VG.collect a c)
def Fd{g}(a:VG g){v}(h:ta g v)(h3:v.1=3):0<=v.2/\v.2<=1000000:=by have:=a.news;obtain(⟨h1,_⟩|⟨h1,_⟩)|(⟨_,h2,h4⟩|⟨h1,_⟩):=h<;>omega
def Pg(w v g)(d:GV w v g)(a:VG g):
 Z prog 40 #[v] w λe w'=>(∃r,e=.returned r/\pS w' w.heap.size r (plain g))/\Y w.heap.size w w':=
 Ro w v g d (by have:=a.bw;omega) (by have:=a.news;omega) (λc hc=>⟨by have:=(a.cells c hc).1;omega,λx b=>Fd a<|(a.cells c hc).2 x b⟩)
  (λx b=>Fd a<|a.roots x b) (λx b=>Fd a<|.inr<|a.aA.cells x b) (λx b=>Fd a<|.inr<|a.done.cells x b)
  (by have:=a.four;omega) (by have:=a.aA.wW;omega) (by have:=a.done.wW;omega)
def aaR(w v g)(b:GV w v g)(a:VG g):
 Z prog 21 #[v] w λe w'=>(∃r,e=.returned r/\Pd w' w.heap.size r g)/\Y w.heap.size w w':=
 aaa w v g b (by have:=a.news;omega) (by have:=a.bw;omega) (λc hc=>by have:=(a.cells c hc).1;omega) (by have:=a.four;omega) (by have:=a.aA.wW;omega) (by have:=a.done.wW;omega) (by have:=a.By;omega)
def sv(tl:List HV)(v:HV):HV:=if v.1=1 then tl.getD v.2.toNat (0,0)else v
def KJ(w v u l f)(H:eI w v l)(G:eI w u f)(hx:∀x∈l,x.1=1->0<=x.2/\x.2<f.length)(hl:l.length<=1000000):
 Z prog 74 #[v,u] w λe w'=>(∃r,e=.returned r/\OV w' w r (l.map<|sv f))/\Y w w w':=by
 have HV:=V H;have HU:=V G;obtain⟨a,m,rfl,hm,T,_⟩:=H;obtain⟨a',m',rfl,N,F,_⟩:=G
 go_enter (fU func74 rfl),ntmps74
 go_wp2_with fail
 go_loopw [5,6] (λx i wr=>∃k:Nat,k<=l.length/\i=Ω Ψ k/\OV wr w x ((l.take k).map<|sv f)/\Y w w wr) (λ_ i _=>l.length-(intOf i).toNat)
 case atStart=>exact⟨0,ψ _,rfl,OV.nil _ _,.refl _ _⟩
 case round=>
  obtain⟨k,hk,rfl,d,hb⟩:=hrel;by_cases A:k<l.length
  ·obtain⟨a2,m2,E,_,_,b⟩:=HV.out.below hb;cases E
   obtain⟨bb,o,rfl,hbb,b⟩:=b (by omega);obtain⟨p,q,e1⟩:=ep A;obtain⟨d0,d1⟩:=b k p q e1;have t:=hx _<|Δ e1;dsimp only at t;have g:((l.take k).map<|sv f).length<=1000000000:=by simp;omega
   have W:=hb.size;clear b;by_cases D:p=1
   ·subst D;obtain⟨B,O⟩:=t rfl;obtain⟨q,rfl⟩:=Z2 B;obtain⟨a3,m3,E,_,_,b⟩:=HU.out.below hb;cases E
    obtain⟨bt,ot,rfl,s,b⟩:=b (by omega);obtain⟨y,z,e2⟩:=ep (by omega:q<f.length);obtain⟨X,t1⟩:=b q y z e2;have h:sv f (1,(q:Int))=(y,z):=by simp[sv,ZH,e2]
    have J:q<f.length:=by omega
    clear b;have n:=af wr<|Ξ #[Ω Ψ 1,Ω Ψ q] 50;have Q:=cG n X s;have K:=cG n t1 s
    go_wp2_with (at_builtin;refine fO rfl _ _ rfl w _ _ rfl ((d.alloc<|Ξ #[Ω Ψ y,Ω Ψ z] 50).alloc _) (wr.heap.size+1:Nat) _ (y,z) rfl (by simp[go_sem,Z8]) g (by simp;omega) ?_;intro P L c j C)
    exact⟨⟨k+1,by omega,by go_num,by rw[bW e1,κ,ξ,h];exact c,hb.trans<|(((R _ _).alloc (by omega) _).alloc (by simp;omega) _).trans j⟩,by simp[intOf];omega⟩
   ·have h:sv f (p,q)=(p,q):=by simp[sv,D]
    have S:(p==1)=η:=by simp[D]
    go_wp2_with (at_builtin;refine fO rfl _ _ rfl w _ _ rfl ((d.alloc<|Ξ #[Ω Ψ p,Ω Ψ q] 50).alloc _) (wr.heap.size+1:Nat) _ (p,q) rfl (by simp[go_sem,Z8]) g (by simp;omega) ?_;intro P L c j C)
    exact⟨⟨k+1,by omega,by go_num,by rw[bW e1,κ,ξ,h];exact c,hb.trans<|(((R _ _).alloc (by omega) _).alloc (by simp;omega) _).trans j⟩,by simp[intOf];omega⟩
  ·go_wp2_with fail
   go_ret;rw[ω (by omega)]at d;exact⟨⟨_,rfl,d⟩,hb⟩
def KK(w v u l d)(B:n9 w v l)(A:eI w u d)(N:∀x∈l,0<=x/\x<d.length)(hl:l.length<=1000000):
 Z prog 75 #[v,u] w λe w'=>(∃r,e=.returned r/\OV w' w r (l.map λn=>d.getD n.toNat (0,0)))/\Y w w w':=by
 have HV:=V B;have L:=V A;obtain⟨a,m,rfl,hm,G,_⟩:=B;obtain⟨W,m',rfl,E,z,_⟩:=A
 go_enter (fU func75 rfl),ntmps75
 go_wp2_with fail
 go_loopw [5,6] (λx i wr=>∃k:Nat,k<=l.length/\i=Ω Ψ k/\OV wr w x ((l.take k).map λn=>d.getD n.toNat (0,0))/\Y w w wr) (λ_ i _=>l.length-(intOf i).toNat)
 case atStart=>exact⟨0,ψ _,rfl,OV.nil _ _,.refl _ _⟩
 case round=>
  obtain⟨k,T,rfl,c,hb⟩:=hrel;by_cases h:k<l.length
  ·obtain⟨a2,m2,s,_,_,b⟩:=HV.out.below hb;cases s
   obtain⟨S,o,rfl,K,b⟩:=b (by omega);obtain⟨q,e1⟩:=lw h;have d0:=b k q e1;obtain⟨p,D⟩:=N _<|Δ e1;obtain⟨q,rfl⟩:=Z2 p;have g:((l.take k).map λn=>d.getD n.toNat (0,0)).length<=1000000000:=by simp;omega
   have J:=hb.size;clear b;obtain⟨X,Q,s,_,_,b⟩:=L.out.below hb;cases s
   obtain⟨bt,ot,rfl,F,b⟩:=b (by omega);obtain⟨j,y,e2⟩:=ep (by omega:q<d.length);obtain⟨t0,t1⟩:=b q j y e2;have C:q<d.length:=by omega
   clear b
   go_wp2_with (at_builtin;refine fO rfl _ _ rfl w _ _ rfl (c.alloc _) wr.heap.size _ (j,y) rfl (by simp[go_sem,Z8]) g (by simp;omega) ?_;intro P O f t H)
   exact⟨⟨k+1,by omega,by go_num,by rw[bW e1,κ,ξ,show d.getD ((q:Int)).toNat (0,0)=(j,y) by simp[ZH,e2]];exact f,hb.trans<|((R _ _).alloc (by omega) _).trans t⟩,by simp[intOf];omega⟩
  ·go_wp2_with fail
   go_ret;rw[ω (by omega)]at c;exact⟨⟨_,rfl,c⟩,hb⟩
section
structure yb(tl:List HV)(N M:Nat):Prop where
 nodup:tl.Nodup
 at_:∀v∈tl,(v.1=3/\0<=v.2/\v.2<N)\/(v.1=4/\0<=v.2/\v.2<M)
 news:tl.countP (λv=>v.1==3)=N
 bw:tl.countP (λv=>v.1==4)=M
def yb.nil:yb [] 0 0:=⟨List.nodup_nil,(λv a=>by cases a),rfl,rfl⟩
def yb.len{b N M}(h:yb b N M):b.length=N+M:=by
 have a:∀l:List HV,(∀v∈l,v.1=3\/v.1=4) ->l.length=l.countP (λv=>v.1==3)+l.countP (λv=>v.1==4):=λl=>by
  induction l with
  |nil=>exactλ_=>rfl
  |cons v l d=>grind
 rw[a b λv c=>(h.at_ v c).elim (λh=>.inl h.1) λh=>.inr h.1,h.news,h.bw]
def yb.new{d:List HV}{N M:Nat}(h:yb d N M):yb (d++[(3,(N:Int))]) (N+1) M where
 nodup:=by rw[Zv];refine⟨h.nodup,by simp,λa f b hb e=>?_⟩;simp at hb;subst hb;subst e;obtain h|h:=h.at_ _ f<;>simp at h
 at_:=λv c=>by
  obtain c|c:=ZO.1 c
  obtain h|h:=h.at_ v c<;>omega
  grind
 news:=by rw[μ,h.news];rfl
 bw:=by rw[μ,h.bw];rfl
def yb.old{d:List HV}{N M:Nat}(h:yb d N M):yb (d++[(4,(M:Int))]) N (M+1) where
 nodup:=by rw[Zv];refine⟨h.nodup,by simp,λa f b hb e=>?_⟩;simp at hb;subst hb;subst e;obtain h|h:=h.at_ _ f<;>simp at h
 at_:=λv c=>by
  obtain c|c:=ZO.1 c
  obtain h|h:=h.at_ v c<;>omega
  grind
 news:=by rw[μ,h.news];rfl
 bw:=by rw[μ,h.bw];rfl
structure JO(h:PH)(tl:List HV)(k:Nat)(new old:List HC)(marked:List Int):Prop where
 news:new.length=(tl.take k).countP (λv=>v.1==3)
 bw:old.length=(tl.take k).countP (λv=>v.1==4)
 cells:∀c∈new++old,∃d∈h.cells,c=(d.1,d.2.map (sv tl))
 marks:∀n∈marked,0<=n/\n<old.length
 order:marked.Pairwise (·<·)
 ju:∀(i:Nat) c,old[i]?=U c->jW c=ZN->(i:Int)∈marked
def JO.nil(h b):JO h b 0 [] [] []:=⟨rfl,rfl,(λc hc=>by cases hc),(λn a=>by cases a),List.Pairwise.nil,λi c e=>by simp at e⟩
section
variable{h:PH}{tl:List HV}{k:Nat}{new old:List HC}{marked:List Int}{v:HV}{d:HC}
def JO.Pi(H:JO h tl k new old marked)(a:tl[k]?=U v)(h3:v.1=3)(hd:d∈h.cells):JO h tl (k+1) (new++[(d.1,d.2.map<|sv tl)]) old marked where
 news:=by rw[bW a,μ,<-H.news];simp[h3]
 bw:=by rw[bW a,μ,<-H.bw];simp[h3]
 cells:=λc hc=>by
  simp only[ZO,Zw]at hc;obtain(hc|hc)|hc:=hc
  exact H.cells c<|θ _ hc;exact⟨d,hd,hc⟩;exact H.cells c<|ο _ hc
 marks:=H.marks
 order:=H.order
 ju:=H.ju
def JO.aeC(H:JO h tl k new old marked)(f:tl[k]?=U v)(h4:v.1=4)(hd:d∈h.cells)(m:Bool)(p:jW (d.1,d.2.map<|sv tl)=ZN->m=ZN):JO h tl (k+1) new (old++[(d.1,d.2.map<|sv tl)]) (if m then marked++[(old.length:Int)]else marked) where
 news:=by rw[bW f,μ,<-H.news];simp[h4]
 bw:=by rw[bW f,μ,<-H.bw];simp[h4]
 cells:=λc hc=>by
  simp only[ZO,Zw]at hc;obtain hc|hc|hc:=hc
  exact H.cells c<|θ _ hc;exact H.cells c<|ο _ hc;exact⟨d,hd,hc⟩
 marks:=λn j=>by
  have:n∈marked\/n=(old.length:Int):=by
   cases m
   exact .inl j;simpa using j
  obtain g|g:=this
  have:=H.marks n g;simp;omega;simp;omega
 order:=by
  cases m
  exact H.order;rw[if_pos rfl,List.pairwise_append];refine⟨H.order,by simp,λa l b hb=>?_⟩;simp at hb;have:=H.marks a l;omega
 ju:=λi c e o=>by
  obtain hi|hi:=Nat.lt_or_ge i old.length
  rw[ZR hi]at e;have:=H.ju i c e o;cases m
  exact this;simp[this]
  grind
end
def Rp{h f N M n new old marked}(s:yb f N M)(D:N<=8)(A:M<=32)(p:adJ n h)(B:f.length=n)(H:JO h f n new old marked):VG ⟨new,old,h.roots.map<|sv f,h.aA.map λx=>f.getD x.toNat (0,0),h.done.map λx=>f.getD x.toNat (0,0),marked⟩:=by
 have w:new.length=N:=by rw[H.news,ω<|by omega,s.news]
 have y:old.length=M:=by rw[H.bw,ω<|by omega,s.bw]
 have t:∀x:Int,0<=x->x<n->zH ⟨new,old,h.roots.map<|sv f,h.aA.map λx=>f.getD x.toNat (0,0),h.done.map λx=>f.getD x.toNat (0,0),marked⟩ (f.getD x.toNat (0,0)):=λx h0 k=>by
  have hx:x.toNat<f.length:=by omega
  rw[ZH,ZQ hx];have:=s.at_ _<|List.getElem_mem hx;unfold zH;dsimp only;rw[w,y];exact this
 have u:∀v:HV,KL n v.1 v.2->ta ⟨new,old,h.roots.map<|sv f,h.aA.map λx=>f.getD x.toNat (0,0),h.done.map λx=>f.getD x.toNat (0,0),marked⟩ (sv f v):=λv r=>by
  unfold sv;obtain⟨k,m,h3⟩|⟨k,m⟩|⟨k,m,h3⟩:=r
  rw[if_pos k];exact .inr<|t _ m h3;rw[if_neg (by omega)];exact .inl<|.inr ⟨k,m⟩;rw[if_neg (by omega)];exact .inl<|.inl ⟨k,m,h3⟩
 have g:∀l:List Int,Fs n l->l.length<=6->Oi ⟨new,old,h.roots.map<|sv f,h.aA.map λx=>f.getD x.toNat (0,0),h.done.map λx=>f.getD x.toNat (0,0),marked⟩ (l.map λx=>f.getD x.toNat (0,0)):=λl i C=>by
  refine⟨Ki i.1 λa z b hb e=>?_,λv r=>?_,by simp;omega⟩;have k:=i.2 a z;have m:=i.2 b hb;have o:a.toNat<f.length:=by omega
  have q:b.toNat<f.length:=by omega
  rw[ZH,ZQ o,ZH,ZQ q]at e;have e:=e;obtain j|j|j:=Nat.lt_trichotomy a.toNat b.toNat
  exact absurd e<|Z4.1 s.nodup _ _ o q j;omega;exact absurd e.symm<|Z4.1 s.nodup _ _ q o j;obtain⟨x,hx,rfl⟩:=ZB.1 r;exact t x (i.2 x hx).1 (i.2 x hx).2
 exact
  {cells:=λc hc=>by obtain⟨d,hd,rfl⟩:=H.cells c hc;obtain⟨k,m⟩:=p.cells d hd;refine⟨by simpa using k,λv r=>?_⟩;obtain⟨x,hx,rfl⟩:=ZB.1 r;exact u x<|m x hx
   news:=by dsimp only;omega
   bw:=by dsimp only;omega
   four:=by simp[p.four]
   roots:=λv r=>by obtain⟨x,hx,rfl⟩:=ZB.1 r;exact u x<|p.roots x hx
   aA:=g _ p.aA.1 p.aA.2
   done:=g _ p.done.1 p.done.2
   marks:=H.marks
   order:=H.order
   ju:=H.ju}
end
section
variable{w:ι}
abbrev aaf:Array ZT:=#[(),(),(),(),(),()]
def wX(B bx:Nat)(w w':ι):Prop:=∀j,B<=j->j<w->j≠bx->w'.heap[j]?=w.heap[j]?
def vX{w' B bx e size n v xs cb d}(h:w.ownsRow B e size v n xs)(b:w.heap[bx]?=U (.cells cb d (0,0)))(k:e≠d)(j:wX B bx w w'):w'.ownsRow B e size v n xs:=
 aS h λg a=>j g (h.lt g a).1 (h.lt g a).2 λl=>by
  subst l;obtain⟨e1,_⟩|⟨m,f,i,e1,_,c,_⟩:=h.2
  rw[e1]at a;cases a;rw[e1]at a;cases a;rw[c]at b;cases b
  exact k rfl
def OX.but{w' B bx v cs cb}(h:OX w B v cs)(a:w.heap[bx]?=U (.cells cb 26 (0,0)))(b:wX B bx w w'):OX w' B v cs:=by obtain⟨l,f,e,h3⟩:=h;exact⟨l,vX f a (by decide) b,e,λi k x d c e1 e2=>⟨(h3 i k x d c e1 e2).1,vX (h3 i k x d c e1 e2).2 a (by decide) b⟩⟩
def JU{ops rest o a Q}(g:o.guard=I)(s x)(r:o.op=.call {callee:=.builtin .append,args:=#[s,x],argTypes:=#[22,22]})(B v l)(hs:a.eval s=v)(b:OC w B v l)(ad c u)(t:u.2.oneCell'=ZN)(A:a.eval x=ZS (U ad) 1 c)(n:w (ad.add 0)=U (Ω Ψ u.1)/\w (ad.add 1)=U u.2)(C:l.length<=1000000000)(p:B<=w)(h:∀e w',OC w' B e (l++[u]) ->Y B w w'->w.grownBy w' v.ownBlock->(e.ownBlock=v.ownBlock\/e.ownBlock=U w) ->wpList prog ops Q rest (a.put o.dst e) w'):wpList prog ops Q (o::rest) a w:=by
 obtain⟨q,hi,i,k,f⟩:=info_parts ni;refine wpList_append_own_at _ g s x 22 r B 76 q _ 2 32 mF hi i k f rfl (by decide) v l.length _ hs b ad 1 c (dW u) A rfl (λj z d=>?_) (λz hz=>?_) (by unfold maxLen;omega) (by omega) p λe w' y m _ h4=>?_
 match j,d with
 |0,d=>cases d;exact n.1
 |1,d=>cases d;exact n.2
 |j+2,d=>simp[dW]at d
 simp[dW]at hz;obtain rfl|rfl:=hz
 rfl;exact t;refine h e w' ?_ (cM b m p) m h4;unfold OC;simpa using y
def SP.agN(B:Nat)(a b c:List HV):Rg.SP:=⟨λv w=>∃x y z,v=.agg #[(),(),x,y,z,()]/\OV w B x a/\OV w B y b/\OV w B z c,λ_ _ _ hb ⟨x,y,z,e,h1,h2,h3⟩=>⟨x,y,z,e,OV.below h1 hb,OV.below h2 hb,OV.below h3 hb⟩⟩
def SP.Pn(B:Nat):Rg.SP:=⟨λv w=>∃g,v=.pointer (g:Nat)/\w.heap[g]?=U (.cells aaf 26 (0,0))/\B<=g,λ_ _ _ hb ⟨g,h1,h2,h3⟩=>⟨g,h1,(hb.block g (Γ.1 h2).1).trans h2,h3⟩⟩
def aeD(w)(c m tG:Nat)(h:kp w c m)(hm:m<=400000000)(hmo:tG<=40):
 Z prog 20 #[.pointer c,tG] w λe w'=>(∃r g,e=.returned r/\Pd w' w r g/\VG g/\g.new.length+g.old.length<=tG)/\hQ w c (m+200000) w':=by
 have hc0:=h.lt;have hb0:=af w<|Ξ #[(),(),(),(),(),()] 26;have z0:=φ w<|Ξ #[(),(),(),(),(),()] 26;have hs0:(w.alloc<|Ξ #[(),(),(),(),(),()] 26).heap.size=w.heap.size+1:=by simp
 have h0:=h.oq.below hb0
 go_enter (fU func20 rfl),ntmps20
 go_wp2_with fail
 generalize w.alloc _=w1 at z0 hb0 hs0 h0⊢;refine(Kt _ c m 5 h0.1 (by omega) (by omega)<|by omega).mono ?_;rintro e w2 ⟨⟨p,rfl⟩,hw2⟩;have z2:=(hw2.2.block w (by omega) (by simp;omega)).trans z0;have hz2:=hw2.2.size;replace hw2:=h0.trans hw2
 go_wp2_with fail
 refine(Xz _ c _ tG p hw2.1 (by omega)<|by omega).mono ?_;rintro e w3 ⟨⟨r,n,ph,rfl,hown,ir,hnm⟩,hw3⟩;have z3:=(hw3.2.block w (by omega) (by simp;omega)).trans z2;have hz3:=hw3.2.size;replace hw3:=hw2.trans hw3;clear hw2 h0 z0 z2 hb0;obtain⟨vc,vr,vw,vd,rfl,hox,hor,XI,hod⟩:=hown;have aaS:w.heap.size+1<=w2:=by omega
 replace hox:=hox.less aaS;replace hor:=eV hor aaS;replace XI:=eV XI aaS;replace hod:=eV hod aaS;obtain⟨lc,hlc,hle⟩:=hox;obtain⟨ac,mc,rfl,-⟩:=aF hlc;obtain⟨ar,mr,rfl,-⟩:=aF hor;obtain⟨aw,mw,rfl,-⟩:=aF XI;obtain⟨ad,md,rfl,-⟩:=aF hod;have hlen:lc.length=n:=by rw[hle.1,ir.len]
 rw[hlen]at hlc⊢
 go_wp2_with fail
 obtain⟨q0,q1,hbB,hsB⟩:=KM w3 (Ξ #[.slice ac n mc,.slice ar ph.roots.length mr,.slice aw ph.aA.length mw,.slice ad ph.done.length md] 56)<|Ξ #[Ω Ψ 0,Ω Ψ 3,Ω Ψ 8,Ω Ψ 8] 3;have hwB:=hw3.below hbB;have aeE:=Ku (w3.alloc<|Ξ #[.slice ac n mc,.slice ar ph.roots.length mr,.slice aw ph.aA.length mw,.slice ad ph.done.length md] 56) [0,3,8,8] #[Ω Ψ 0,Ω Ψ 3,Ω Ψ 8,Ω Ψ 8] 4 rfl rfl (by omega);rw[World.size_alloc]at aeE;have hc3:=hw3.1.lt;refine(Pt _ c _ _ _ [0,3,8,8] hwB.1 (by omega) aeE (by omega) (by simp)<|by simp).mono ?_;rintro e wA ⟨⟨many,rfl,RN⟩,hwA⟩;have RN:0<=many/\many<=8:=by simp at RN;omega
 obtain⟨many,rfl⟩:=Z2 RN.1;have RN:many<=8:=by omega
 clear aeE;have F:kE (w.heap.size+1) w3 wA:=(kE.below hbB).trans (kE.oq hwA<|by omega) hbB.size;have x5:=(hwA.2.block w3 (by simp;omega) (by simp;omega)).trans q0;have x4:=(hwA.2.block w (by simp;omega) (by simp;omega)).trans<|(hbB.block w<|by omega).trans z3;have hzA:w3.heap.size+2<=wA:=by have:=hwA.2.size;omega
 replace hwA:=hwB.trans hwA;replace hlc:=dI hlc F;replace hle:=hle.keep F;replace hor:=dI hor F;replace XI:=dI XI F;replace hod:=dI hod F;clear hwB hbB q0 q1 z3 F hw3;have J:w.heap.size+1<=w3:=by omega
 generalize w3.heap.size=b at x5 hzA J⊢;generalize hmA:m+1+100000+1=mA at hwA;have aiE:mA<=m+100010:=by omega
 go_wp2_with fail
 go_loopw [6,8,9,10] (λx i8 i9 i wr=>∃(A:List HV) (N a:Nat),A.length<=n/\i8=Ω Ψ N/\i9=Ω Ψ a/\i=Ω Ψ A.length/\yb A N a/\N<=8/\a<=32/\(kE (w.heap.size+1) wA wr/\wA.heap.size<=wr)/\OV wr wA x A/\wr.heap[w.heap.size]?=U (Ξ #[(),(),(),(),(),()] 26)/\hQ w c (mA+A.length) wr) (λ_ _ _ i _=>n-(intOf i).toNat)
 case atStart=>exact⟨[],0,0,ψ _,rfl,rfl,rfl,.nil,by omega,by omega,⟨λj _ _=>rfl,.refl⟩,OV.nil _ _,x4,hwA⟩
 case round=>
  clear x4 hwA;obtain⟨A,N,a,hk,rfl,rfl,rfl,hp,hN,hM,⟨F,agO⟩,hx,e0,hw⟩:=hrel;have e1:=(F b (by omega)<|by omega).trans x5;have hlen2:=V hp.len;by_cases hlt:A.length<n
  ·obtain⟨⟨d1,-⟩,-⟩:=dT e1;have hbr:b<wr:=by omega
   go_upto_region 8 with(fail)
   clear d1
   go_cut [41]from 24 to 55 λv wx=>∃nb:Bool,v=.bool nb/\(nb=ZN->N+1<=8)/\(nb=η->a+1<=32)/\(kE (w.heap.size+1) wr wx/\wr.heap.size<=wx)/\wx.heap[w.heap.size]?=U (Ξ #[(),(),(),(),(),()] 26)/\hQ w c (mA+(A.length+1)) wx
   case first=>
    clear hlc hle hor XI hod x5 e1;by_cases hNm:N<many
    ·go_wp2_with fail
     refine(Kt _ c _ 2 hw.1 (by omega) (by omega)<|by omega).mono ?_;rintro e w5 ⟨⟨nb,rfl⟩,hw5⟩;have f0:=(hw5.2.block w (by omega) (by simp;omega)).trans e0;have hk5:kE (w.heap.size+1) wr w5:=kE.oq hw5 (by omega);have agP:hQ w c (mA+(A.length+1)) w5:=hw.trans hw5;have KU:=hw5.2.size;cases nb
     ·go_wp2_with fail
      go_meet
      exact⟨_,rfl,(λh=>by have:(a:Int)=32:=(by simpa using h);have:=hlen2.out;omega),(λh=>by have:¬(a:Int)=32:=(by simpa using h);omega),⟨hk5,KU⟩,f0,agP⟩
     ·go_wp2_with fail
      go_meet
      exact⟨ZN,rfl,(λ_=>by omega),(λh=>by cases h),⟨hk5,KU⟩,f0,agP⟩
    ·go_wp2_with fail
     go_meet
     exact⟨_,rfl,(λh=>by have:(a:Int)=32:=(by simpa using h);have:=hlen2.out;omega),(λh=>by have:¬(a:Int)=32:=(by simpa using h);omega),⟨λj _ _=>rfl,.refl⟩,e0,hw.more<|by omega⟩
   case rest=>
    obtain⟨nb,rfl,hn1,hn0,⟨hk5,KU⟩,f0,hw5⟩:=hcut;generalize wc=w5 at hk5 KU f0 hw5⊢;have hx5:=dI (hx.less .refl) (show kE wA wr w5 fromλj hb hj=>hk5 j (by omega) hj);have agQ:=F.trans hk5 agO;have aoD:wA.heap.size<=w5:=by omega
    have hln:A.length<1000:=by omega
    clear hx e0 e1 hw hk5 F;cases nb
    ·have hm0:=hn0 rfl;have s:=af w5<|Ξ #[Ω Ψ 4,a] 50;have t0:=(s.block w<|by omega).trans f0
     go_wp2_with (at_builtin;refine fO rfl _ _ rfl wA _ _ rfl (hx5.alloc _) w5.heap.size _ (4,(a:Int)) rfl (by simp[go_sem,Z8]) (by omega) (by simp;omega) ?_;intro v' w8 L H sR)
     have vm:=H.size;have aeF:kE (w.heap.size+1) wA w8:=λj hb hj=>(H.block j hj).trans<|(s.block j<|by omega).trans<|agQ j hb hj;have hw8:hQ w c (mA+(A.length+1)) w8:=hw5.upto hc0<|(s.mono<|by omega).trans<|H.mono<|by omega
     have t1:=(H.block w<|by omega).trans t0;have X:(A++[((4:Int),(a:Int))]).length=A.length+1:=by simp
     exact⟨⟨_,N,a+1,by rw[X];omega,by go_num,by go_num,by rw[X];go_num,hp.old,by omega,by omega,⟨aeF,by simp at vm;omega⟩,L,t1,by rw[X];exact hw8⟩,by simp[intOf];omega⟩
    ·have hm0:=hn1 rfl;have s:=af w5<|Ξ #[Ω Ψ 3,N] 50;have t0:=(s.block w<|by omega).trans f0
     go_wp2_with (at_builtin;refine fO rfl _ _ rfl wA _ _ rfl (hx5.alloc _) w5.heap.size _ (3,(N:Int)) rfl (by simp[go_sem,Z8]) (by omega) (by simp;omega) ?_;intro v' w8 L H sR)
     have vm:=H.size;have aeF:kE (w.heap.size+1) wA w8:=λj hb hj=>(H.block j hj).trans<|(s.block j<|by omega).trans<|agQ j hb hj;have hw8:hQ w c (mA+(A.length+1)) w8:=hw5.upto hc0<|(s.mono<|by omega).trans<|H.mono<|by omega
     have t1:=(H.block w<|by omega).trans t0;have X:(A++[((3:Int),(N:Int))]).length=A.length+1:=by simp
     exact⟨⟨_,N+1,a,by rw[X];omega,by go_num,by go_num,by rw[X];go_num,hp.new,by omega,by omega,⟨aeF,by simp at vm;omega⟩,L,t1,by rw[X];exact hw8⟩,by simp[intOf];omega⟩
  ·have hln:=V (by omega:A.length=n);replace hx:=eV hx (by omega:w.heap.size+1<=wA);replace hlc:=dI hlc F;replace hle:=hle.keep F;replace hor:=dI hor F;replace XI:=dI XI F;replace hod:=dI hod F;have hbr:b<wr:=by omega
   have aoE:n<=40:=by omega
   generalize hmB:mA+A.length=mB at hw;have aoF:mB<=m+100100:=by omega
   have hcr:=hw.1.lt;clear x5 F hmA aiE hzA agO;obtain⟨⟨d0,d1,d2,d3⟩,-⟩:=dT e1;obtain⟨au,mu,rfl,-⟩:=aF hx
   go_upto_region 13 with(fail)
   clear d0;obtain⟨RL,hRL⟩:∃x,Hid (x=ph.roots.map (sv A)):=⟨_,V rfl⟩;obtain⟨WL,hWL⟩:∃x,Hid (x=ph.aA.map λx=>A.getD x.toNat (0,0)):=⟨_,V rfl⟩;obtain⟨DL,hDL⟩:∃x,Hid (x=ph.done.map λx=>A.getD x.toNat (0,0)):=⟨_,V rfl⟩;refine Rg.pT [.eq (.pointer (b,1)),.eq<|.slice ar ph.roots.length mr,.eq<|.slice au A.length mu,SP.ov (w.heap.size+1) RL,.eq<|.pointer (b,2),.eq<|.slice aw ph.aA.length mw,.eq<|.slice au A.length mu,SP.ov (w.heap.size+1) WL,.eq<|.pointer (b,3),.eq<|.slice ad ph.done.length md,.eq<|.slice au A.length mu,SP.ov (w.heap.size+1) DL,SP.agN (w.heap.size+1) RL WL DL,SP.Pn<|w.heap.size+1] (by kernel_rfl) (by kernel_rfl) (by rfl) ?_ ?_
   ·refine⟨?_,?_,?_,?_,?_,?_,?_,?_,?_,?_,?_,?_,?_,?_,trivial⟩
    all_goals intro x2 w2 T t q
    all_goals first|(have f0:=cG T d1 hbr;have f1:=cG T d2 hbr;have f2:=cG T d3 hbr;have k0:=t 5 rfl;have k1:=t 6 rfl;simp at k0 k1;(try have q0:=Rg.lT (q 0 _ rfl rfl) rfl);(try have q1:=Rg.lT (q 4 _ rfl rfl) rfl);(try have q2:=Rg.lT (q 8 _ rfl rfl) rfl);clear t q;go_simp;exact⟨_,rfl,.refl _ _,rfl⟩)|skip
    ·have e1:=Rg.lT (q 1 _ rfl rfl) rfl;have e2:=Rg.lT (q 2 _ rfl rfl) rfl;have hB:=(R _ wr).drew.trans T;clear t q;go_simp;refine(KJ _ _ _ ph.roots A ((OV.below hor hB).reads) ((OV.below hx hB).reads) (λx hx h1=>by have h:=ir.roots x hx;have:=hln.out;unfold KL at h;omega) (by have:=ir.four;omega)).mono ?_;rintro e w3 ⟨⟨r,rfl,ho⟩,J⟩;replace ho:=ho.less (show w.heap.size+1<=_ by have:=hB.size;omega);rw[<-hRL.out]at ho;exact⟨_,rfl,J,ho⟩
    ·have e1:=Rg.lT (q 5 _ rfl rfl) rfl;have e2:=Rg.lT (q 6 _ rfl rfl) rfl;have hB:=(R _ wr).drew.trans T;clear t q;go_simp;refine(KK _ _ _ ph.aA A ((OI.below XI hB).reads) ((OV.below hx hB).reads) (λx hx=>by have:=ir.aA.1.2 x hx;have:=hln.out;omega) (by have:=ir.aA.2;omega)).mono ?_;rintro e w3 ⟨⟨r,rfl,ho⟩,J⟩;replace ho:=ho.less (show w.heap.size+1<=_ by have:=hB.size;omega);rw[<-hWL.out]at ho;exact⟨_,rfl,J,ho⟩
    ·have e1:=Rg.lT (q 9 _ rfl rfl) rfl;have e2:=Rg.lT (q 10 _ rfl rfl) rfl;have hB:=(R _ wr).drew.trans T;clear t q;go_simp;refine(KK _ _ _ ph.done A ((OI.below hod hB).reads) ((OV.below hx hB).reads) (λx hx=>by have:=ir.done.1.2 x hx;have:=hln.out;omega) (by have:=ir.done.2;omega)).mono ?_;rintro e w3 ⟨⟨r,rfl,ho⟩,J⟩;replace ho:=ho.less (show w.heap.size+1<=_ by have:=hB.size;omega);rw[<-hDL.out]at ho;exact⟨_,rfl,J,ho⟩
    ·have e1:OV w2 (w.heap.size+1) ((x2.tmps[59]?).getD undef) RL:=q 3 _ rfl rfl;have e2:OV w2 (w.heap.size+1) ((x2.tmps[63]?).getD undef) WL:=q 7 _ rfl rfl;have e3:OV w2 (w.heap.size+1) ((x2.tmps[67]?).getD undef) DL:=q 11 _ rfl rfl;obtain⟨y1,m1,f1,-⟩:=aF e1;obtain⟨y2,m2,f2,-⟩:=aF e2;obtain⟨y3,m3,f3,-⟩:=aF e3;rw[f1]at e1;rw[f2]at e2;rw[f3]at e3;clear t q;go_simp;exact⟨_,rfl,.refl _ _,_,_,_,rfl,e1,e2,e3⟩
    ·clear t q;go_simp;exact⟨_,rfl,af _ _,_,rfl,φ _ _,by have:=T.size;simp at this;omega⟩
   ·rintro vs w3 J ⟨_,_,_,_,_,_,_,_,_,_,_,_,⟨v0,v1,v2,s12,hv0,hv1,hv2⟩,⟨bx,s13,hbx,aoG⟩,_⟩;simp[go_sem,s12,s13];clear s12 s13;have hB:=(R _ wr).drew.trans J;obtain⟨y0,m0,rfl,-⟩:=aF hv0;obtain⟨y1,m1,rfl,-⟩:=aF hv1;obtain⟨y2,m2,rfl,-⟩:=aF hv2;obtain⟨d,f⟩:=JJ hbx;have f0:=f 0;have f1:=f 1;have f2:=f 2;have f3:=f 3;have f4:=f 4;have f5:=f 5;have d0:=d 0 (by omega);have d1:=d 1 (by omega);have d2:=d 2 (by omega);have d3:=d 3 (by omega);have d4:=d 4 (by omega);have d5:=d 5 (by omega);clear d f
    go_wp2_with fail
    clear f0 f1 f2 f3 f4 f5 d0 d1 d2 d3 d4 d5;obtain⟨q1,q2,q3,q4⟩:=kn (v0:=()) (v1:=()) (v2:=.slice y0 RL.length m0) (v3:=.slice y1 WL.length m1) (v4:=.slice y2 DL.length m2) (v5:=()) hbx;have K:wX (w.heap.size+1) bx w3 (io w3 bx () () (.slice y0 RL.length m0) (.slice y1 WL.length m1) (.slice y2 DL.length m2) ()):=λj _ _ hj=>q2 j hj;have hwB:hQ w c mB _:=(hw.below hB).upto hc0<|q4 w<|by omega
    have aiF:=(Γ.1 hbx).1;have z1:=(hB.block b hbr).trans e1;have hbne:b≠bx:=λe=>by rw[e,hbx]at z1;simp at z1
    have z1:=(q2 b hbne).trans z1;have z0:=(q2 w<|by omega).trans<|(hB.block w<|by omega).trans e0;have hxB:OX _ (w.heap.size+1) (.slice ac n mc) ph.cells:=OX.but (OX.keep ⟨lc,hlc,hle⟩<|kE.below hB) hbx K;have hxT:OV _ (w.heap.size+1) (.slice au A.length mu) A:=vX (dI hx<|kE.below hB) hbx (by decide) K;replace hv0:=vX hv0 hbx (by decide) K;replace hv1:=vX hv1 hbx (by decide) K;replace hv2:=vX hv2 hbx (by decide) K;rw[show(((((w3.setCell bx ()).setCell (bx,1) ()).setCell (bx,2)<|.slice y0 RL.length m0).setCell (bx,3)<|.slice y1 WL.length m1).setCell (bx,4)<|.slice y2 DL.length m2).setCell (bx,5) ()=io w3 bx () () (.slice y0 RL.length m0) (.slice y1 WL.length m1) (.slice y2 DL.length m2) ()from rfl];have hsz3:=hB.size;have aoH:=hlen;clear K hbx q2 q4 hw hB hlc hle hx e0 e1 J;generalize io w3 bx () () (.slice y0 RL.length m0) (.slice y1 WL.length m1) (.slice y2 DL.length m2) ()=B at q1 q3 hwB z1 z0 hxB hxT hv0 hv1 hv2⊢;have aeL:bx<B:=by omega
    have hbB:b<B:=by omega
    have aoI:w.heap.size<B:=by omega
    clear q3 aiF hsz3 hbr
    go_loopw [12] (λi wr=>∃(k:Nat) (xn xo xm:ZT) (new old:List HC) (marked:List Int),k<=n/\i=Ω Ψ k/\JO ph A k new old marked/\marked.length<=k/\(wX (w.heap.size+1) bx B wr/\B.heap.size<=wr)/\wr.heap[bx]?=U (Ξ #[xn,xo,.slice y0 RL.length m0,.slice y1 WL.length m1,.slice y2 DL.length m2,xm] 26 (0,0))/\OX wr B xn new/\OX wr B xo old/\Apart xn xo/\OI wr B xm marked/\wr.heap[w.heap.size]?=U (.cells aaf 26 (0,0))/\hQ w c (mB+k) wr) (λi _=>n-(intOf i).toNat)
    case atStart=>exact⟨0,_,_,_,[],[],[],ψ _,rfl,.nil _ _,ψ _,⟨λj _ _ _=>rfl,.refl⟩,q1,OX.nil _ _,OX.nil _ _,(λg e=>by cases e),OI.nil _ _,z0,hwB⟩
    case round=>
     clear z0 hwB;obtain⟨k,xn,xo,xm,new,old,marked,hkn,rfl,Ah,hmk,⟨K,hzB⟩,g1,ho1,ho2,hap,P,g0,hw⟩:=hrel;have e1:=(K b (by omega) hbB hbne).trans z1;by_cases hlt:k<n
     ·obtain⟨⟨d1,-⟩,-⟩:=dT e1;have hbr:b<wr:=by omega
      have hxr:=(hxB.but q1 K).reads;have hT:=vX hxT q1 (by decide) K;have HX:=V hxr;obtain⟨a2,m2',he,_,_,Q⟩:=hxr;simp only[ζ]at he;obtain⟨rfl,-,-⟩:=he;have hlk:=ir.len;obtain⟨bb,o,rfl,hbb,Q⟩:=Q (by omega);obtain⟨pk,vs,ek⟩:=cQ (by omega:k<ph.cells.length);obtain⟨c0,x,c1,hxv⟩:=Q k pk vs ek;have hvl:=(ir.cells _<|Δ ek);clear Q
      go_upto_region 17 with(fail)
      obtain⟨O,hVL⟩:∃x,Hid (x=vs.map (sv A)):=⟨_,V rfl⟩;refine Rg.pT [.eq (.pointer b),.eq<|.slice (bb,o) n mc,.eq<|Ω Ψ k,.eq<|.pointer (bb,o+k*2),.eq<|.pointer (bb,o+k*2),.eq pk,.eq<|.pointer b,.eq<|.slice (bb,o) n mc,.eq<|Ω Ψ k,.eq<|.pointer (bb,o+k*2),.eq<|.pointer (bb,o+k*2+1),.eq x,.eq<|.slice au A.length mu,SP.ov wr O,SP.cell wr pk O,SP.agJ wr] (by kernel_rfl) (by kernel_rfl) (by rfl) ?_ ?_
      ·refine⟨?_,?_,?_,?_,?_,?_,?_,?_,?_,?_,?_,?_,?_,?_,?_,?_,trivial⟩
       all_goals intro x2 w2 T t q
       all_goals first|(have f0:=cG T d1 hbr;have f1:=cG T c0 hbb;have f2:=cG T c1 hbb;have k0:=t 5 rfl;have k1:=t 6 rfl;have k2:=t 12 rfl;simp at k0 k1 k2;(try have q0:=Rg.lT (q 0 _ rfl rfl) rfl);(try have q1:=Rg.lT (q 1 _ rfl rfl) rfl);(try have q2:=Rg.lT (q 2 _ rfl rfl) rfl);(try have q3:=Rg.lT (q 3 _ rfl rfl) rfl);(try have q4:=Rg.lT (q 4 _ rfl rfl) rfl);(try have q5:=Rg.lT (q 6 _ rfl rfl) rfl);(try have q6:=Rg.lT (q 7 _ rfl rfl) rfl);(try have q7:=Rg.lT (q 8 _ rfl rfl) rfl);(try have q8:=Rg.lT (q 9 _ rfl rfl) rfl);(try have q9:=Rg.lT (q 10 _ rfl rfl) rfl);clear t q;go_simp;exact⟨_,rfl,.refl _ _,rfl⟩)|skip
       ·have e1':=Rg.lT (q 11 _ rfl rfl) rfl;have e2':=Rg.lT (q 12 _ rfl rfl) rfl;have hB:=(R _ wr).drew.trans T;clear t q;go_simp;refine(KJ _ _ _ vs A (hxv.below hB) ((OV.below hT hB).reads) (λx hx h1=>by have h:=hvl.2 x hx;have:=hln.out;unfold KL at h;omega) (by have:=hvl.1;dsimp only at this;omega)).mono ?_;rintro e w3 ⟨⟨r,rfl,ho⟩,J⟩;replace ho:=ho.less (show wr.heap.size<=_ by have:=hB.size;omega);rw[<-hVL.out]at ho;exact⟨_,rfl,J,ho⟩
       ·have e1':=Rg.lT (q 5 _ rfl rfl) rfl;have e2':OV w2 wr ((x2.tmps[89]?).getD undef) O:=q 13 _ rfl rfl;obtain⟨ay,my,f1,-⟩:=aF e2';rw[f1]at e2';clear t q;go_simp;exact⟨_,rfl,.refl _ _,_,rfl,e2'⟩
       ·clear t q;go_simp;exact⟨_,rfl,af _ _,_,rfl,φ _ _,by have:=T.size;simp at this;omega⟩
      ·rintro fl w3 J ⟨_,_,_,_,_,_,_,_,_,_,_,_,_,_,⟨y,s14,hy⟩,⟨gb,s15,hgb,agR⟩,_⟩;simp[go_sem,s14,s15];clear s14 s15;have hB:=(R _ wr).drew.trans J;obtain⟨ay,my,rfl,-⟩:=aF hy;obtain⟨c0',c1',f0',f1'⟩:=hH hgb;clear c0 c1 d1
       go_upto_region 18 with(fail)
       have hBW:Y wr wr ((w3.setCell gb pk).setCell (gb,1)<|.slice ay O.length my):=(hB.setCell (p:=(gb:ZC)) agR _).setCell (p:=((gb,1):ZC)) agR _;have gN:OV _ wr (.slice ay O.length my) O:=vX (w':=(w3.setCell gb pk).setCell (gb,1)<|.slice ay O.length my) hy hgb (by decide) λj _ _ hj=>(aa hj).trans<|aa hj;have W:=heap_setCell_same (i:=1) (v:=.slice ay O.length my)<|heap_setCell_same (i:=0) (v:=Ω Ψ pk) hgb;clear c0' c1' f0' f1' hy hgb hB J;generalize (w3.setCell gb pk).setCell (gb,1) (.slice ay O.length my)=w5 at hBW gN W⊢;have W:w5.heap[gb]?=U (Ξ #[pk,.slice ay O.length my] 76 (0,0)):=W;have KU:=hBW.size;have hk5:kE B wr w5:=kE.below hBW;have aeO:wX (w.heap.size+1) bx B w5:=λj hb hj hn=>(hBW.block j<|by omega).trans<|K j hb hj hn;have g1:=(hBW.block bx<|by omega).trans g1;have g0:=(hBW.block w<|by omega).trans g0;replace ho1:=ho1.keep hk5;replace ho2:=ho2.keep hk5;replace P:=dI P hk5;replace hw:=hw.below hBW;have hT5:=(OV.below hT hBW).reads;clear hT hBW K e1 hxv hbb hbr;obtain⟨a3,m3,he,_,_,Q⟩:=hT5;simp only[ζ]at he;obtain⟨rfl,-,-⟩:=he;obtain⟨bt,ot,rfl,hbt,Q⟩:=Q (by have:=hln.out;omega);obtain⟨p2,q2,e2⟩:=ep (show k<A.length by have:=hln.out;omega);obtain⟨t0,t1⟩:=Q k p2 q2 e2;have hp2:=hp.at_ _<|Δ e2;dsimp only at hp2;have aiG:gb<w5:=(Γ.1 W).1;clear Q;have hkl:k<A.length:=by have:=hln.out;omega
       obtain⟨l1,u,E⟩:=ho1;obtain⟨a1,n1,rfl,-⟩:=aF u;obtain⟨l2,z,D⟩:=ho2;obtain⟨a2',n2,rfl,-⟩:=aF z;obtain⟨a3',n3,rfl,-⟩:=aF P;obtain⟨r0,r1,-,-,-,r5⟩:=sS g1;obtain⟨x0,x1,-,-⟩:=hH W;have hfr:∀i,w5.frozen? ⟨bx,i,I⟩=η:=λi=>cD g1;have hl1:new.length<=n:=by have:=Ah.news;have:=hp.news;have:=Zx (p:=λv:HV=>v.1==3) (l:=A.take k);simp at this;omega
       have hl2:old.length<=n:=by have:=Ah.bw;have:=Zx (p:=λv:HV=>v.1==4) (l:=A.take k);simp at this;omega
       have hh1:=V E.1;have hh2:=V D.1;clear hlen2;obtain⟨rfl,-⟩|⟨rfl,-⟩:=hp2
       ·have s:=af w5 (Ξ #[pk,.slice ay O.length my] 76);have hxk:=u.below s
        go_wp2_with (at_builtin;refine JU rfl _ _ rfl B _ _ rfl hxk w5.heap.size _ (pk,.slice ay O.length my) rfl rfl (by simp[go_sem,Z8]) (by have:=hh1.out;omega) (by simp;omega) ?_;intro v' w6 G C Re hn6;obtain⟨a6,m6,rfl,-⟩:=aF G;have t1:=(C.block bx<|by omega).trans<|(s.block bx<|by omega).trans g1;obtain⟨s0,-⟩:=sS t1;have sf:=λi=>cD (i:=i) t1)
        have Rf:HO w6 B (l1++[(pk,.slice ay O.length my)]) (new++[(pk,O)]):=((E.snoc<|gN.less (by omega:B.heap.size<=wr)).keep<|kE.below s).types hxk Re;have agS:=uW (z.below s) hap.symm Re;have agT:=(D.keep<|kE.below s).types hxk Re;have ae3:=fy (OI.below P s) hxk (by decide) Re;have aag:Apart (.slice a6 (l1++[(pk,ZS ay O.length my)]).length m6) (.slice a2' l2.length n2):=λg e1 e2=>by
         obtain hn|hn:=hn6
         exact hap g (hn.symm.trans e1) e2;rw[hn]at e1;have:=(z.lt g e2).2;simp at e1;omega
        have X:(l1++[(pk,ZS ay O.length my)]).length=l1.length+1:=by simp
        rw[X]at G aag;have Xe:=C.size;simp at Xe;have S:kE B w6 (w6.setCell bx<|.slice a6 (l1.length+1) m6):=kE.set aeL;have ae6:wX (w.heap.size+1) bx B (w6.setCell bx<|.slice a6 (l1.length+1) m6):=λj hb hj hn=>(aa hn).trans<|(C.block j hj).trans<|(s.block j<|by omega).trans<|aeO j hb hj hn;have hw7:hQ w c (mB+(k+1)) (w6.setCell bx<|.slice a6 (l1.length+1) m6):=(hw.upto hc0<|((s.mono<|by omega).trans<|C.mono<|by omega).setCell (p:=(bx:ZC)) (by show w.heap.size<=bx;omega) _).more (by omega);have t0':=(C.block w<|by omega).trans<|(s.block w<|by omega).trans g0;have Ai:=Ah.Pi e2 rfl<|Δ ek;dsimp only at Ai;rw[<-hVL.out]at Ai
        go_roundw
        case rel=>exact⟨k+1,_,_,_,_,_,_,by omega,by go_num,Ai,by omega,⟨ae6,by simp;omega⟩,heap_setCell_same (i:=0) t1,OX.keep ⟨_,G,Rf⟩ S,OX.keep ⟨_,agS,agT⟩ S,aag,dI ae3 S,(aa<|by omega).trans t0',hw7⟩
        case measure=>simp[intOf];omega
       ·clear r0 r1 r5 x0 x1 hfr t1
        go_wp2_with fail
        refine(Kt _ c _ 4 hw.1 (by omega) (by omega)<|by omega).mono ?_;rintro e w6 ⟨⟨nb,rfl⟩,hw6⟩;have hkw:kE (w.heap.size+1) w5 w6:=kE.oq hw6 (by omega);have Xc:kE B w5 w6:=kE.oq hw6 (by omega);have Xe:=hw6.2.size;have g1:=(hkw bx (by omega)<|by omega).trans g1;have W:=(hkw gb (by omega) aiG).trans W;have g0:=(hw6.2.block w (by omega) (by simp;omega)).trans g0;have aah:wX (w.heap.size+1) bx B w6:=λj hb hj hn=>(hkw j hb<|by omega).trans<|aeO j hb hj hn;have gN:=dI gN (kE.oq hw6 (by omega):kE wr w5 w6);replace hw6:hQ w c (mB+(k+1)) w6:=hw.trans hw6;replace u:=dI u Xc;replace z:=dI z Xc;replace P:=dI P Xc;replace E:=E.keep Xc;replace D:=D.keep Xc;have aoL:gb<w6:=by omega
        clear hkw Xc hw aeO t0;obtain⟨x0,x1,-,-⟩:=hH W;have HY:=V<|OV.reads gN
        go_wp2_with fail
        go_loopw [14,15] (λyv iv wx=>∃(j:Nat) (nb:Bool),yv=.bool nb/\j<=O.length/\iv=Ω Ψ j/\(nb=η->(O.take j).any dy=η)/\wx=w6) (λ_ iv _=>O.length-(intOf iv).toNat)
        case atStart=>exact⟨0,nb,rfl,ψ _,rfl,(λ_=>rfl),rfl⟩
        case round=>
         obtain⟨j,nb,rfl,hj,rfl,hnb,hwx⟩:=hrel;replace hwx:=hwx.symm;subst hwx;by_cases hlj:j<O.length
         ·obtain⟨a4,m4,he,_,_,Q⟩:=HY.out;simp only[ζ]at he;obtain⟨rfl,-,-⟩:=he;obtain⟨b4,o4,rfl,hb4,Q⟩:=Q (by omega);obtain⟨p4,q4,e4⟩:=ep hlj;obtain⟨d0,d1⟩:=Q j p4 q4 e4;clear Q;cases nb
          ·by_cases h3:p4=3
           ·subst h3
            go_wp2_with fail
            exact⟨⟨j+1,ZN,rfl,by omega,by go_num,(λh=>by cases h),trivial⟩,by simp[intOf];omega⟩
           ·have h3':(p4==3)=η:=by simp[h3]
            go_wp2_with fail
            exact⟨⟨j+1,η,rfl,by omega,by go_num,(λ_=>by rw[bW e4,Zt,hnb rfl];simp[dy,h3]),trivial⟩,by simp[intOf];omega⟩
          ·go_wp2_with fail
           exact⟨⟨j+1,ZN,rfl,by omega,by go_num,(λh=>by cases h),trivial⟩,by simp[intOf];omega⟩
         ·have hyc:jW (pk,O)=ZN->nb=ZN:=λh=>by
           cases nb
           have:=hnb rfl;rw[ω (by omega)]at this;exact this.symm.trans h;rfl
          have HYC:=V hyc;clear hnb hyc;obtain⟨-,r1,-,-,-,r5⟩:=sS g1;have hfr:∀i,w6.frozen? ⟨bx,i,I⟩=η:=λi=>cD g1
          go_upto_if 122 with(fail)
          go_cut []from 123 to 130 λwx=>∃xm',wx.heap[bx]?=U (Ξ #[.slice a1 l1.length n1,.slice a2' l2.length n2,.slice y0 RL.length m0,.slice y1 WL.length m1,.slice y2 DL.length m2,xm'] 26 (0,0))/\OI wx B xm' (if nb then marked++[(l2.length:Int)]else marked)/\(OC wx B (.slice a1 l1.length n1) l1/\HO wx B l1 new)/\(OC wx B (.slice a2' l2.length n2) l2/\HO wx B l2 old)/\OV wx B (.slice ay O.length my) O/\wx.heap[gb]?=U (Ξ #[pk,.slice ay O.length my] 76 (0,0))/\wX (w.heap.size+1) bx B wx/\B.heap.size<=wx/\wx.heap[w.heap.size]?=U (.cells aaf 26 (0,0))/\hQ w c (mB+(k+1)) wx
          case first=>
           cases nb
           ·go_wp2_with fail
            go_meet
            exact⟨_,g1,P,⟨u,E⟩,⟨z,D⟩,OV.less gN<|by omega,W,aah,by omega,g0,hw6⟩
           ·have s:=af w6 (Ξ #[l2.length] 3);have hI:=OI.below P s
            go_wp2_with (at_builtin;refine od rfl _ _ rfl B _ _ rfl hI w6.heap.size _ (l2.length:Int) rfl (by simp[go_sem,Z8]) (by omega) (by simp;omega) ?_;intro v' w8 L H sR;obtain⟨a8,m8,rfl,-⟩:=aF L;have t1:=(H.block bx<|by omega).trans<|(s.block bx<|by omega).trans g1;obtain⟨-,-,-,-,-,s0⟩:=sS t1;have sf:=λi=>cD (i:=i) t1)
            go_meet
            have X:(marked++[(l2.length:Int)]).length=marked.length+1:=by simp
            rw[X]at L;have vm:=H.size;simp at vm;have S:kE B w8 (w8.setCell (bx,5)<|.slice a8 (marked.length+1) m8):=kE.set aeL;have hHO:∀{l:List (Int×ZT)} {cs:List HC},HO w6 B l cs->HO w8 B l cs:=λh=>⟨h.1,λi k x k' vs e1 e2=>⟨(h.2 i k x k' vs e1 e2).1,fy (OV.below (h.2 i k x k' vs e1 e2).2 s) hI (by decide) sR⟩⟩;have aaT:=(s.block gb<|by omega).trans W;have aaT:=(sR.block gb (by simp;omega) λe=>eJ hI aaT (by decide) e.symm).trans aaT;have aiJ:gb≠bx:=by omega
            have hk8:wX (w.heap.size+1) bx B (w8.setCell (bx,5)<|.slice a8 (marked.length+1) m8):=λj hb hj hn=>(aa hn).trans<|(H.block j hj).trans<|(s.block j<|by omega).trans<|aah j hb hj hn;have hw8:hQ w c (mB+(k+1)) (w8.setCell (bx,5)<|.slice a8 (marked.length+1) m8):=hw6.upto hc0<|((s.mono<|by omega).trans<|H.mono<|by omega).setCell (p:=((bx,5):ZC)) (by show w.heap.size<=bx;omega) _;have t0':=(H.block w<|by omega).trans<|(s.block w<|by omega).trans g0;exact⟨_,heap_setCell_same (i:=5) t1,dI L S,⟨dI (fy (OC.below u s) hI (by decide) sR) S,(hHO E).keep S⟩,⟨dI (fy (OC.below z s) hI (by decide) sR) S,(hHO D).keep S⟩,dI (fy (OV.below (OV.less gN<|by omega) s) hI (by decide) sR) S,(aa aiJ).trans aaT,hk8,by simp;omega,(aa<|by omega).trans t0',hw8⟩
          case rest=>
           obtain⟨xm',g1,P,⟨u,E⟩,⟨z,D⟩,gN,W,aah,Xe,g0,hw6⟩:=hcut;generalize wc=w5 at g1 P u E z D gN W aah Xe g0 hw6⊢;obtain⟨ax,mx,rfl,-⟩:=aF P;obtain⟨-,r1,-,-,-,-⟩:=sS g1;obtain⟨x0,x1,-,-⟩:=hH W;have s:=af w5<|Ξ #[pk,.slice ay O.length my] 76;have hxk:=z.below s
           go_wp2_with (at_builtin;refine JU rfl _ _ rfl B _ _ rfl hxk w5.heap.size _ (pk,.slice ay O.length my) rfl rfl (by simp[go_sem,Z8]) (by have:=hh2.out;omega) (by simp;omega) ?_;intro v' w7 G C Re hn6;obtain⟨a6,m6,rfl,-⟩:=aF G;have t1:=(C.block bx<|by omega).trans<|(s.block bx<|by omega).trans g1;obtain⟨-,s0,-⟩:=sS t1;have sf:=λi=>cD (i:=i) t1)
           have Rf:HO w7 B (l2++[(pk,.slice ay O.length my)]) (old++[(pk,O)]):=((D.snoc gN).keep<|kE.below s).types hxk Re;have agU:=uW (OC.below u s) hap Re;have agV:=(E.keep<|kE.below s).types hxk Re;have ae3:=fy (OI.below P s) hxk (by decide) Re;have aag:Apart (.slice a1 l1.length n1) (.slice a6 (l2++[(pk,ZS ay O.length my)]).length m6):=λg e1 e2=>by
            obtain hn|hn:=hn6
            exact hap g e1<|hn.symm.trans e2;rw[hn]at e2;have:=(u.lt g e1).2;simp at e2;omega
           have X:(l2++[(pk,ZS ay O.length my)]).length=l2.length+1:=by simp
           rw[X]at G aag;have hz7:=C.size;simp at hz7;have S:kE B w7 (w7.setCell (bx,1)<|.slice a6 (l2.length+1) m6):=kE.set aeL;have ae6:wX (w.heap.size+1) bx B (w7.setCell (bx,1)<|.slice a6 (l2.length+1) m6):=λj hb hj hn=>(aa hn).trans<|(C.block j hj).trans<|(s.block j<|by omega).trans<|aah j hb hj hn;have hw7:hQ w c (mB+(k+1)) (w7.setCell (bx,1)<|.slice a6 (l2.length+1) m6):=hw6.upto hc0<|((s.mono<|by omega).trans<|C.mono<|by omega).setCell (p:=((bx,1):ZC)) (by show w.heap.size<=bx;omega) _;have t0':=(C.block w<|by omega).trans<|(s.block w<|by omega).trans g0;have Ai:=Ah.aeC e2 rfl (Δ ek) nb (by dsimp only;rw[<-hVL.out];exact HYC.out);dsimp only at Ai;rw[<-hVL.out,<-hh2.out]at Ai
           go_roundw
           case rel=>exact⟨k+1,_,_,_,_,_,_,by omega,by go_num,Ai,(by cases nb<;>simp<;>omega),⟨ae6,by simp;omega⟩,heap_setCell_same (i:=1) t1,OX.keep ⟨_,agU,agV⟩ S,OX.keep ⟨_,G,Rf⟩ S,aag,dI ae3 S,(aa<|by omega).trans t0',hw7⟩
           case measure=>simp[intOf];omega
     ·obtain⟨l1,u,E⟩:=ho1;obtain⟨a1,n1,rfl,-⟩:=aF u;obtain⟨l2,z,D⟩:=ho2;obtain⟨a2,n2,rfl,-⟩:=aF z;obtain⟨a3,n3,rfl,-⟩:=aF P;obtain⟨⟨d1,-⟩,-⟩:=dT e1;obtain⟨r0,r1,r2,r3,r4,r5⟩:=sS g1;obtain⟨d,f⟩:=JJ g0;have f0:=f 0;have f1:=f 1;have f2:=f 2;have f3:=f 3;have f4:=f 4;have f5:=f 5;have d0':=d 0 (by omega);have d1':=d 1 (by omega);have d2':=d 2 (by omega);have d3':=d 3 (by omega);have d4':=d 4 (by omega);have d5':=d 5 (by omega);clear d f
      go_wp2_with fail
      obtain⟨s1,s2,s3,s4⟩:=kn (v0:=.slice a1 l1.length n1) (v1:=.slice a2 l2.length n2) (v2:=.slice y0 RL.length m0) (v3:=.slice y1 WL.length m1) (v4:=.slice y2 DL.length m2) (v5:=.slice a3 marked.length n3) g0;rw[show(((((wr.setCell w.heap.size<|.slice a1 l1.length n1).setCell (w.heap.size,1)<|.slice a2 l2.length n2).setCell (w.heap.size,2)<|.slice y0 RL.length m0).setCell (w.heap.size,3)<|.slice y1 WL.length m1).setCell (w.heap.size,4)<|.slice y2 DL.length m2).setCell (w.heap.size,5) (.slice a3 marked.length n3)=io wr w (.slice a1 l1.length n1) (.slice a2 l2.length n2) (.slice y0 RL.length m0) (.slice y1 WL.length m1) (.slice y2 DL.length m2) (.slice a3 marked.length n3)from rfl];have hwf:=(hw.upto hc0<|s4 w .refl).more (by omega:mB+k<=m+200000);have no:kE (w.heap.size+1) wr (io wr w (.slice a1 l1.length n1) (.slice a2 l2.length n2) (.slice y0 RL.length m0) (.slice y1 WL.length m1) (.slice y2 DL.length m2)<|.slice a3 marked.length n3):=λj hb _=>s2 j (by omega);have afh:kE B wr (io wr w (.slice a1 l1.length n1) (.slice a2 l2.length n2) (.slice y0 RL.length m0) (.slice y1 WL.length m1) (.slice y2 DL.length m2)<|.slice a3 marked.length n3):=λj hb _=>s2 j (by omega);have hle:w.heap.size<=B:=by omega
      have hown:Pd _ w (.agg #[.slice a1 l1.length n1,.slice a2 l2.length n2,.slice y0 RL.length m0,.slice y1 WL.length m1,.slice y2 DL.length m2,.slice a3 marked.length n3]) ⟨new,old,RL,WL,DL,marked⟩:=⟨_,_,_,_,_,_,rfl,(OX.keep ⟨l1,u,E⟩ afh).less hle,(OX.keep ⟨l2,z,D⟩ afh).less hle,eV (dI (vX hv0 q1 (by decide) K) no)<|by omega,eV (dI (vX hv1 q1 (by decide) K) no)<|by omega,eV (dI (vX hv2 q1 (by decide) K) no)<|by omega,eV (dI P afh) hle⟩
      generalize io wr w (.slice a1 l1.length n1) (.slice a2 l2.length n2) (.slice y0 RL.length m0) (.slice y1 WL.length m1) (.slice y2 DL.length m2) (.slice a3 marked.length n3)=wf at s1 hwf hown⊢;obtain⟨k0,k1,k2,k3,k4,k5⟩:=sS s1;have hkn':k=n:=by omega
      subst hkn';have hV:=Rp hp hN hM ir hln.out Ah;rw[<-hRL.out,<-hWL.out,<-hDL.out]at hV;have hlen':new.length+old.length<=tG:=by have a1:=Ah.news;have a2:=Ah.bw;have a3:=hln.out;rw[ω (by omega)]at a1 a2;rw[hp.news]at a1;rw[hp.bw]at a2;have:=hp.len;omega
      exact ε (v:=.agg #[.slice a1 l1.length n1,.slice a2 l2.length n2,.slice y0 RL.length m0,.slice y1 WL.length m1,.slice y2 DL.length m2,.slice a3 marked.length n3]) (by simp[Z1,results20,go_sem,k0,k1,k2,k3,k4,k5]) rfl ⟨⟨_,_,rfl,hown,hV,hlen'⟩,hwf⟩
end
end Kn
