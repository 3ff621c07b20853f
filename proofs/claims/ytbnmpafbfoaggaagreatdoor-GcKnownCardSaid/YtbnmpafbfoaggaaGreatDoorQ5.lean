/- A part of the proof of GcKnown; no conditions. -/
import Derived.Test.YtbnmpafbfoaggaaGreatDoorQ4
import Derived.Deep.RegionWith
import Derived.ScopeJumps
import Derived.WalkMore
import Derived.LaidEql
import Derived.Stop.Asserts
import Derived.RowKitTokens
import Derived.Defers
import Derived.Recover
import Derived.Laws.Pointers
import Derived.Deep.Cut
import Derived.Test.YtbnmpafbfoaggaaGreatDoorQ1
import Derived.Deep.DeepCutAuto
import Derived.Deep.AppendLies
set_option linter.unusedVariables false
set_option linter.unusedSimpArgs false
set_option maxRecDepth 100000
set_option maxHeartbeats 16000000
noncomputable section
open Option renaming none->Ω,some->Θ
open Go.Value renaming int->Ψ,pointer->Δ,slice->η
open Go.IntKind renaming i64->Ξ,u64->ZJ
open Go.Lib renaming hid->Γ
open Go.World renaming cell?->ω,cell?_alloc_lt->ζ,frozen?_alloc_old->Z3
open Go.Obj renaming cells->ψ
open Array renaming getElem?_eq_some_iff->χ,getElem?_eq_none->ZP
open Go.RowKit.Below renaming refl->φ
open And renaming intro->υ
open List renaming getElem?_eq_some_iff->ο,getElem?_eq_none->ZY,getElem?_append_left->ZT,replicate->ZO,flatMap_append->ZN,length_append->ZM,eq_nil_of_length_eq_zero->ZH,setIfInBounds_toArray->ZG,getD->ZF,getElem?_set_ne->ZD,take_succ_cons->ZB,drop_succ_cons->ZA
open Go renaming World->ξ,heap_alloc_new->κ,run_callFunc_extern->ι,Value->θ,block_lt_of_cell->ε,callsD_of_wpS->Z8,Calls->Z7,results->Z4,TypeId->Z1,wpS_region->ZZ,bodyPost_ret->ZW,bodyPostS->ZV,wp_loop_rounds->ZS,recoverD->ZR,rounds_succ->ZK,wpOpsS->ZI,method->ZE,Addr->ZC
open Go.RowKit renaming Below->μ
open Go.Result renaming andThen->Z9
open Go.Exit renaming thenS->Z2
open Go.Sem renaming run_bind->Z0
open Bool renaming false->ZX,true->ZL
open Go.Addr renaming add->ZU
open Go.Builtin renaming append_->ZQ
namespace Go.Proofs.YtbnmpafbfoaggaaGreatDoor
namespace Kn
open Go Go.RowKit Md
section
def pw(br b:Nat)(r:Md.RS):Array θ:=#[Δ (Θ ⟨b,0,Ω⟩),Ψ Ξ r.minors,Ψ Ξ r.uJ,Ψ Ξ r.fk,Ψ Ξ r.dA,.func (.func 153) #[Δ (Θ ⟨br,0,Ω⟩)] #[]]
def bD(w:ξ)(B br b:Nat)(r:Md.RS)(J:Nat->Prop):Prop:=B<=br/\w.heap[br]?=Θ (.cells (pw br b r) 131 (0,0))/\cR w B b r.g J/\∀j,J j->j≠br
def tc(J:Nat->Prop)(w w':ξ):Prop:=∀j,J j->j<w.heap.size->w'.heap[j]?=w.heap[j]?
theorem i3(w:ξ)(v:θ)(g:GH)(hv:GV w v g)(hk:eC g)(hm:g.marked.length<=1000000)(hz:cN g=0){J:Nat->Prop}(hJ:∀j,J j->j<w.heap.size):
 Z7 aD.prog 93 #[v] w fun e w'=>(∃br b,e=.returned (Δ (Θ ⟨br,0,Ω⟩))/\bD w' w.heap.size br b ⟨g,0,0,0,0⟩ J)/\μ w.heap.size w w':=by
 have q:∀(fn:Fn) (first cap:Array θ) (w:ξ),(Instr.makeFunc fn first cap).run aD.prog w=.ok (.func fn first cap) w:=fun _ _ _ _=>rfl
 have HV:=Γ hv;obtain⟨n,o,r,i,d,m,rfl,x,t,z,u,y,s⟩:=hv
 go_enter aD.func93,Tryz.ntmps93
 go_wp2_with fail
 have c:=af w (ψ #[n,o,r,i,d,m] 26);refine(sw _ (.agg #[n,o,r,i,d,m]) g (HV.out.below c) hk hz hm).mono ?_;rintro e h ⟨⟨b,rfl,k⟩,f⟩;have l:=Γ (k.less c.size);have a:=c.trans (f.mono c.size);clear k f
 go_wp2_with fail
 go_ret;exact⟨⟨h.heap.size,b,rfl,a.size,κ h _,(cR.wC l.out hJ).below (af h _),fun j p e=>by have:=hJ j p;have:=a.size;omega⟩,a.alloc a.size _⟩
section
variable{w w':ξ}{B br b:Nat}{r:Md.RS}{J:Nat->Prop}
theorem bD.below(h:bD w B br b r J)(hk:μ w.heap.size w w'):bD w' B br b r J:=⟨h.1,(hk.block br (χ.1 h.2.1).1).trans h.2.1,h.2.2.1.below hk,h.2.2.2⟩
theorem bD.ptr(h:bD w B br b r J):w.cell? ⟨br,0,Ω⟩=Θ (Δ (Θ ⟨b,0,Ω⟩))/\w.cell? ⟨br,5,Ω⟩=Θ (.func (.func 153) #[Δ (Θ ⟨br,0,Ω⟩)] #[])/\br<w.heap.size:=by have:=h.2.1;refine⟨by simp[ω,this,pw],by simp[ω,this,pw],(χ.1 this).1⟩
end
theorem sQ(w:ξ)(B br b:Nat)(r:Md.RS){J:Nat->Prop}(n:Nat)(p q:Int)(hr:bD w B br b r J)(hn:r.g.roots[n]?=Θ (p,q))(hl:r.g.roots.length<=1000000):
 Z7 aD.prog 200 #[Δ (Θ ⟨br,0,Ω⟩),Ψ Ξ (n:Int)] w fun e w'=>e=.returned (.agg #[Ψ Ξ p,Ψ Ξ q])/\μ w.heap.size w w':=by
 obtain⟨c0,_,u⟩:=hr.ptr;obtain⟨H,o,F,E,d,m,_,_,c2,_,_,_,_,_,y,_⟩:=hr.2.2.1.own.reads;have hb:=az c2;have x:=(ο.1 hn).1;obtain⟨a,G,rfl,s,t,j⟩:=y;obtain⟨h,i,rfl,f,c⟩:=j (by omega);obtain⟨l,A⟩:=c n p q hn;have z:(w.alloc (ψ #[Ψ Ξ 0,Ψ Ξ 0] 50)).cell? ⟨h,i+n*2,Ω⟩=Θ (Ψ Ξ p):=by rw[(af w _).cell (p:=⟨h,i+n*2,Ω⟩) f];exact l
 have C:(w.alloc (ψ #[Ψ Ξ 0,Ψ Ξ 0] 50)).cell? ⟨h,i+n*2+1,Ω⟩=Θ (Ψ Ξ q):=by rw[(af w _).cell (p:=⟨h,i+n*2+1,Ω⟩) f];exact A
 have D:((n:Int)<0)=False:=by simp
 have k:¬((r.g.roots.length:Int)<=(n:Int)):=by omega
 have e1:decide ((r.g.roots.length:Int)<=(n:Int))=ZX:=by simp;omega
 clear c j hr
 go_enter aD.func200,Tryz.ntmps200
 go_wp2_with fail
 ((with_reducible refine(cd _ _).mono ?_))
 rintro e w' ⟨rfl,rfl⟩
 go_wp2_with fail
 refine ZW (v:=.agg #[Ψ Ξ p,Ψ Ξ q]) (by simp[Z4,Tryz.results200,go_sem]) rfl ⟨rfl,?_⟩;exact(φ _ _).alloc (Nat.le_refl _) _
theorem OV.block{w:ξ}{B gk:Nat}{v:θ}{l:List HV}(h:OV w B v l)(hg:v.ownBlock=Θ gk):∃cur,w.heap[gk]?=Θ (.cells cur 50 (0,0)):=by
 rcases h.2 with⟨e1,_⟩|⟨d,c,b,e1,_,a,_⟩
 ·rw[e1]at hg;cases hg
 ·rw[e1]at hg;cases hg;exact⟨_,a⟩
theorem cR.upd{w w':ξ}{J:Nat->Prop}{B b gk:Nat}{g g':GH}{n o m:θ}{row:HV->θ}(hB:B<=b)(hb:w.heap[b]?=Θ (ψ #[n,o,row (0,0),row (0,1),row (0,2),m] 114 (0,0)))
 (h1:RC w B n (cellsOf row 3 g.new)) (h2:RC w B o (cellsOf row 4 g.old)) (h3:OI w B m g.marked) (h4:kD w B row g) (h5:∀j,J j->j≠b/\∀k,IsKey g k->(row k).ownBlock≠Θ j) {k:HV} (hk:IsKey g k) (hgk:(row k).ownBlock=Θ gk) (hoth:∀j,j≠gk->w'.heap[j]?=w.heap[j]?)
 (hnew:OV w' B (row k) (bd g' k)) (hkey:∀k',IsKey g' k'->IsKey g k') (hval:∀k',k'≠k->IsKey g k'->bd g' k'=bd g k') (hc3:cellsOf row 3 g'.new=cellsOf row 3 g.new) (hc4:cellsOf row 4 g'.old=cellsOf row 4 g.old) (hm:g'.marked=g.marked):cR w' B b g' J:=by
 obtain⟨h,a⟩:=(h4.1 k hk).block hgk;have l:∀{j:Nat} {c:Array θ} {t:Z1} {fr:Nat×Nat},w.heap[j]?=Θ (.cells c t fr) ->t≠50->w'.heap[j]?=w.heap[j]?:=fun {j c t fr} i r=>hoth j fun e=>by
  subst e;rw[a]at i;cases i
  exact r rfl
 refine⟨n,o,m,row,hB,(l hb (by decide)).trans hb,?_,?_,?_,⟨?_,?_⟩,fun j i=>⟨(h5 j i).1,fun k hk=>(h5 j i).2 k (hkey k hk)⟩⟩
 ·rw[hc3];exact h1.below fun g h f=>l f (by decide)
 ·rw[hc4];exact h2.below fun g h f=>l f (by decide)
 ·rw[hm];exact aS h3 fun g f=>hoth g fun e=>by subst e;exact cF h3 a (by decide) f
 ·intro k' d;by_cases e:k'=k
  ·subst e;exact hnew
  ·rw[hval k' e (hkey k' d)];exact aS (h4.1 k' (hkey k' d)) fun g f=>hoth g fun e2=>by subst e2;exact h4.2 k' k (hkey k' d) hk e g f hgk
 ·exact fun p q e1 e2=>h4.2 p q (hkey p e1) (hkey q e2)
theorem cR.el{w:ξ}{B b:Nat}{g:GH}{n:Nat}{J:Nat->Prop}(h:cR w B b g J)(hn:n<g.roots.length)(x:HV):
 ∃gr m p q,w.cell? ⟨b,2,Ω⟩=Θ (η (Θ ⟨gr,0,Ω⟩) g.roots.length m)/\w.cell? ⟨gr,n*2,Ω⟩=Θ (Ψ Ξ p)/\w.cell? ⟨gr,n*2+1,Ω⟩=Θ (Ψ Ξ q)/\(∀i,w.frozen? ⟨gr,i,Ω⟩=ZX)/\B<=gr/\g.roots.length<=m/\m<=maxLen/\(∃cur,w.heap[gr]?=Θ (.cells cur 50 (0,0)))/\(∀j,J j->j≠gr)/\
  cR ((w.setCell ⟨gr,n*2,Ω⟩ (Ψ Ξ x.1)).setCell ⟨gr,n*2+1,Ω⟩ (Ψ Ξ x.2)) B b {g with roots:=g.roots.set n x} J:=by
 obtain⟨N,o,m,row,M,hb,E,C,F,z,A⟩:=h;have h0:=z.roots.1;obtain⟨a,G,l,t,u,H⟩:=aF h0;obtain⟨gr,rfl,_,_,d,_⟩:=H (by omega);have f:IsKey g (0,0):=.inl ⟨rfl,by decide,by decide⟩;rw[l]at h0 d;obtain⟨p,q,s⟩:=ep hn;obtain⟨D,I,L,K,_⟩:=h0.at_ s;refine⟨gr,G,p,q,by simp[ω,hb,l],D,I,L,K,t,u,h0.block d,fun j v e=>(A j v).2 _ f (by rw[l,e];exact d),?_⟩;refine cR.upd (gk:=gr) (k:=(0,0)) M hb E C F z A f (by rw[l];exact d) (fun j v=>cr v) ?_ ?_ ?_ rfl rfl rfl
 ·rw[l];exact h0.set hn
 ·rintro⟨a,c⟩ h;simpa[IsKey]using h
 ·rintro⟨a,c⟩ r _;simp only[bd,cellAt];by_cases y:a=0
  ·have:c≠0:=fun e=>r (by rw[y,e])
   simp[y,this]
  ·simp[y]
theorem bD.el{w:ξ}{B br b:Nat}{r:Md.RS}{J:Nat->Prop}{n gr:Nat}{x:HV}{cur:Array θ}(h:bD w B br b r J)(hg:w.heap[gr]?=Θ (.cells cur 50 (0,0)))(ho:cR ((w.setCell ⟨gr,n*2,Ω⟩ (Ψ Ξ x.1)).setCell ⟨gr,n*2+1,Ω⟩ (Ψ Ξ x.2)) B b {r.g with roots:=r.g.roots.set n x} J):
 bD ((w.setCell ⟨gr,n*2,Ω⟩ (Ψ Ξ x.1)).setCell ⟨gr,n*2+1,Ω⟩ (Ψ Ξ x.2)) B br b (Md.el r n x) J:=by
 refine⟨h.1,?_,by simpa[Md.el]using ho,h.2.2.2⟩;rw[cr (fun e=>by have:=h.2.1;rw[e,hg]at this;cases this)];exact h.2.1
theorem afB(w:ξ)(B br b:Nat)(r:Md.RS){J:Nat->Prop}(n:Nat)(p q:Int)(hr:bD w B br b r J)(hn:n<r.g.roots.length)(hBw:B<=w.heap.size):
 Z7 aD.prog 201 #[Δ (Θ ⟨br,0,Ω⟩),Ψ Ξ (n:Int),.agg #[Ψ Ξ p,Ψ Ξ q]] w fun e w'=>e=.returned (.tuple #[])/\bD w' B br b (Md.el r n (p,q)) J/\μ B w w'/\tc J w w':=by
 have h:=af w (ψ #[Ψ Ξ p,Ψ Ξ q] 50);have d:=hr.below h;obtain⟨c0,_,P⟩:=d.ptr;obtain⟨gr,m,p0,W,c2,L,U,E,o,N,O,⟨Q,a⟩,l,H⟩:=d.2.2.1.el (x:=(p,q)) hn;have G:(w.alloc (ψ #[Ψ Ξ p,Ψ Ξ q] 50)).cell? ⟨w.heap.size,0,Ω⟩=Θ (Ψ Ξ p):=by go_simp
 have I:(w.alloc (ψ #[Ψ Ξ p,Ψ Ξ q] 50)).cell? ⟨w.heap.size,1,Ω⟩=Θ (Ψ Ξ q):=by go_simp
 have y:=Γ (υ d (υ a H));have g0:=E (n*2);have R:=E (n*2+1);have s:=h.mono hBw;have K:=Γ l;have k:=Γ h;clear l;have C:¬gr=br:=fun e=>by have:=d.2.1;rw[<-e,a]at this;cases this
 have A:¬gr=b:=fun e=>by obtain⟨_,_,c,hc⟩:=d.2.2.1.own.obj;rw[<-e,a]at hc;cases hc
 have u:¬gr=w.heap.size:=by
  obtain⟨T,X,_,_,v,M,_⟩:=hr.2.2.1.el (x:=(p,q)) hn;have e:=(h.cell (p:=⟨b,2,Ω⟩) (az v)).trans v;rw[c2]at e;injection e with e
  injection e with e _ _
  injection e with e
  injection e with e _ _
  have:=az M;omega
 clear d a H E hr
 go_enter aD.func201,Tryz.ntmps201
 go_wp2_with fail
 generalize (w.alloc (ψ #[Ψ Ξ p,Ψ Ξ q] 50))=F at c0 c2 L U g0 R G I y s k⊢;obtain⟨bv,f⟩:∃x,x=w.heap.size:=⟨_,rfl⟩;rw[<-f]at G I u k⊢;replace f:=Γ f
 go_region_held3 (fun x=>x.cell? ⟨br,0,Ω⟩=Θ (Δ (Θ ⟨b,0,Ω⟩))/\x.cell? ⟨b,2,Ω⟩=Θ (η (Θ ⟨gr,0,Ω⟩) r.g.roots.length m)/\x.cell? ⟨bv,0,Ω⟩=Θ (Ψ Ξ p)/\x.cell? ⟨bv,1,Ω⟩=Θ (Ψ Ξ q)) ((refine⟨?_,?_,?_,?_⟩<;>(repeat (first|with_reducible assumption|with_reducible refine dO ?_|with_reducible refine da C ?_|with_reducible refine da A ?_|with_reducible refine da u ?_)))) (fail)
 go_wp2_with fail
 have i:bD ((F.setCell ⟨gr,n*2,Ω⟩ (Ψ Ξ p)).setCell ⟨gr,n*2+1,Ω⟩ (Ψ Ξ q)) B br b (Md.el r n (p,q)) J:=bD.el (x:=(p,q)) y.out.1 y.out.2.1 y.out.2.2;have t:=bD.below i ((φ _ _).drew);have z:=((s.setCell (p:=⟨gr,n*2,Ω⟩) o (Ψ Ξ p)).setCell (p:=⟨gr,n*2+1,Ω⟩) o (Ψ Ξ q)).drew;have D:tc J w (((F.setCell ⟨gr,n*2,Ω⟩ (Ψ Ξ p)).setCell ⟨gr,n*2+1,Ω⟩ (Ψ Ξ q)).drew):=fun j V S=>(cr (K.out j V)).trans (k.out.block j (by rw[f.out];exact S))
 go_end0;exact⟨rfl,t,z,D⟩
end
section
variable{b B br:Nat}(w:ξ){J:Nat->Prop}
theorem bD.all{w:ξ}{r:Md.RS}(h:bD w B br b r J):w.cell? ⟨br,0,Ω⟩=Θ (Δ (Θ ⟨b,0,Ω⟩))/\w.cell? ⟨br,1,Ω⟩=Θ (Ψ Ξ r.minors)/\w.cell? ⟨br,2,Ω⟩=Θ (Ψ Ξ r.uJ)/\w.cell? ⟨br,3,Ω⟩=Θ (Ψ Ξ r.fk)/\w.cell? ⟨br,4,Ω⟩=Θ (Ψ Ξ r.dA)/\(∀i,w.frozen? ⟨br,i,Ω⟩=ZX)/\B<=br:=by
 have a:=h.2.1;refine⟨?_,?_,?_,?_,?_,fun i=>by simp[World.frozen?,a],h.1⟩
 all_goals simp[ω,a,pw]
theorem cR.off{w w':ξ}{g:GH}{c:Array θ}{t:Z1}{fr:Nat×Nat}(h:cR w B b g J)(hc:w.heap[br]?=Θ (.cells c t fr))(ht:t≠114/\t≠76/\t≠50/\t≠3)(hk:∀k,k≠br->w'.heap[k]?=w.heap[k]?):cR w' B b g J:=by
 obtain⟨n,o,m,row,z,hb,x,v,A,r,y⟩:=h;have p:∀{j:Nat} {s:Array θ} {i:Z1} {a:Nat×Nat},w.heap[j]?=Θ (.cells s i a) ->t≠i->w'.heap[j]?=w.heap[j]?:=fun {j s i a} q u=>hk j fun e=>by
  subst e;rw[hc]at q;cases q
  exact u rfl
 exact⟨n,o,m,row,z,(p hb ht.1).trans hb,x.below fun g d l=>p l ht.2.1,v.below fun g d l=>p l ht.2.1,bp A hc ht.2.2.2 hk,⟨fun k f=>bp (r.1 k f) hc ht.2.2.1 hk,r.2⟩,y⟩
theorem vd{w:ξ}{r r':Md.RS}{i:Nat}{x y:Int}(h:bD w B br b r J)(hr:r'.g=r.g)(hc:((pw br b r).setIfInBounds i (Ψ Ξ x)).setIfInBounds 4 (Ψ Ξ y)=pw br b r'):bD ((w.setCell ⟨br,i,Ω⟩ (Ψ Ξ x)).setCell ⟨br,4,Ω⟩ (Ψ Ξ y)) B br b r' J:=by
 refine⟨h.1,?_,?_,h.2.2.2⟩
 ·rw[aB (aB h.2.1 i _) 4 _,hc]
 ·rw[hr];exact h.2.2.1.off h.2.1 (by decide) fun k a=>cr a
theorem Af:Z7 aD.prog 306 #[.agg #[]] w fun e w'=>e=.returned (Ψ Ξ 0)/\μ w.heap.size w w':=by
 go_enter aD.func306,Tryz.ntmps306
 go_wp2
 go_ret;exact⟨rfl,(φ _ _).alloc (Nat.le_refl _) _⟩
theorem wM(B br b n:Nat)(r:Md.RS)(g':GH)(hp:im r.g)(hr:bD w B br b r J)(hB:B<=w.heap.size)(lE:Md.collect .minor r.g=Θ (n,g'))(hm:0<=r.minors/\r.minors<=1000)(hm2:0<=r.dA/\r.dA<=100000)(hn:n<=1000):
 Z7 aD.prog 208 #[Δ (Θ ⟨br,0,Ω⟩),.iface 102 (.agg #[])] w fun e w'=>e=.returned (.bool ZL)/\bD w' B br b (Md.counted r .minor n g') J/\μ B w w'/\tc J w w':=by
 have HR:=Γ hr;obtain⟨c0,c1,c2,c3,H,h,m⟩:=hr.all;have D:=IY;have L:=Γ hp;have HC:=Γ lE;have I:IntKind.i64.wrap (r.minors+1)=r.minors+1:=wrap_small _ (by omega) (by omega);have E:IntKind.i64.wrap (r.dA+(n:Int))=r.dA+(n:Int):=wrap_small _ (by omega) (by omega);clear c1 c2 c3 H h hr hp lE
 go_enter aD.func208,Tryz.ntmps208
 go_wp2_with fail
 refine(lz _ B b r.g HR.out.2.2.1 L.out hB).mono ?_;rintro e x q;unfold cq at q;rw[HC.out]at q;obtain⟨rfl,o,i,l,c⟩:=q;have v:=Γ c;clear c;have f:bD x B br b {r with g:=g'} J:=⟨HR.out.1,(l _ _ HR.out.2.1).trans HR.out.2.1,o,HR.out.2.2.2⟩;obtain⟨d0,G,N,O,A,h,_⟩:=f.all;have F:=h 1;have Q:=h 2;have S:=h 3;have K:=h 4;have t:=Γ f;have a:=az A;have u:=Nat.le_trans hB i.size;clear o l f h c0
 go_wp2_with fail
 go_region_with (first|(go_at_call 306;(with_reducible refine(Af _).mono ?_);rintro e s ⟨rfl,y⟩;have z3:μ x.heap.size x s:=(φ _ _).drew.trans y;have M:=(z3.cell (p:=⟨br,1,Ω⟩) a).trans G;have R:=(z3.frozen (p:=⟨br,1,Ω⟩) a).trans F;have P:=(z3.cell (p:=⟨br,4,Ω⟩) a).trans A;have T:=(z3.frozen (p:=⟨br,4,Ω⟩) a).trans K))
 go_wp2_with fail
 have d:bD ((s.setCell ⟨br,1,Ω⟩ (Ψ Ξ (r.minors+1))).setCell ⟨br,4,Ω⟩ (Ψ Ξ (r.dA+(n:Int)))) B br b (Md.counted r .minor n g') J:=vd (t.out.below z3) rfl rfl;have k:=((i.trans (z3.mono u)).setCell (p:=⟨br,1,Ω⟩) m (Ψ Ξ (r.minors+1))).setCell (p:=⟨br,4,Ω⟩) m (Ψ Ξ (r.dA+(n:Int)));have c:tc J w ((s.setCell ⟨br,1,Ω⟩ (Ψ Ξ (r.minors+1))).setCell ⟨br,4,Ω⟩ (Ψ Ξ (r.dA+(n:Int)))):=fun j C z=>(cr (HR.out.2.2.2 j C)).trans ((z3.block j (Nat.lt_of_lt_of_le z i.size)).trans (v.out j C z))
 go_ret;exact⟨rfl,by first|exact d|exact d.below (φ _ _).drew,by first|exact k|exact k.drew,c⟩
theorem Ag:Z7 aD.prog 310 #[.agg #[]] w fun e w'=>e=.returned (Ψ Ξ 2)/\μ w.heap.size w w':=by
 go_enter aD.func310,Tryz.ntmps310
 go_wp2
 go_ret;exact⟨rfl,(φ _ _).alloc (Nat.le_refl _) _⟩
theorem wN(B br b n:Nat)(r:Md.RS)(g':GH)(hJ:∀j,J j->j<w.heap.size)(N R:Nat)(hsw:Jn r.g N R)(hp:im (Md.iF r.g))(hr:bD w B br b r J)(hB:B<=w.heap.size)(lE:Md.collect .major r.g=Θ (n,g'))(hm:0<=r.fk/\r.fk<=1000)(hm2:0<=r.dA/\r.dA<=100000)(hn:n<=1000):
 Z7 aD.prog 208 #[Δ (Θ ⟨br,0,Ω⟩),.iface 120 (.agg #[])] w fun e w'=>e=.returned (.bool ZL)/\bD w' B br b (Md.counted r .major n g') J/\μ B w w'/\tc J w w':=by
 have HR:=Γ hr;obtain⟨c0,c1,c2,c3,G,h,m⟩:=hr.all;have E:=I0;have L:=Γ hp;have HC:=Γ lE;have H:IntKind.i64.wrap (r.fk+1)=r.fk+1:=wrap_small _ (by omega) (by omega);have F:IntKind.i64.wrap (r.dA+(n:Int))=r.dA+(n:Int):=wrap_small _ (by omega) (by omega);clear c1 c2 c3 G h hr hp lE
 go_enter aD.func208,Tryz.ntmps208
 go_wp2_with fail
 refine(sP _ B b r.g hJ HR.out.2.2.1 N R hsw L.out hB).mono ?_;rintro e x q;unfold cq at q;rw[HC.out]at q;obtain⟨rfl,o,i,l,c⟩:=q;have v:=Γ c;clear c;have f:bD x B br b {r with g:=g'} J:=⟨HR.out.1,(l _ _ HR.out.2.1).trans HR.out.2.1,o,HR.out.2.2.2⟩;obtain⟨d0,S,O,D,A,h,_⟩:=f.all;have P:=h 1;have T:=h 2;have K:=h 3;have I:=h 4;have t:=Γ f;have a:=az A;have u:=Nat.le_trans hB i.size;clear o l f h c0
 go_wp2_with fail
 go_region_with (first|(go_at_call 310;(with_reducible refine(Ag _).mono ?_);rintro e s ⟨rfl,y⟩;have z3:μ x.heap.size x s:=(φ _ _).drew.trans y;have M:=(z3.cell (p:=⟨br,3,Ω⟩) a).trans D;have U:=(z3.frozen (p:=⟨br,3,Ω⟩) a).trans K;have Q:=(z3.cell (p:=⟨br,4,Ω⟩) a).trans A;have V:=(z3.frozen (p:=⟨br,4,Ω⟩) a).trans I))
 go_wp2_with fail
 have d:bD ((s.setCell ⟨br,3,Ω⟩ (Ψ Ξ (r.fk+1))).setCell ⟨br,4,Ω⟩ (Ψ Ξ (r.dA+(n:Int)))) B br b (Md.counted r .major n g') J:=vd (t.out.below z3) rfl rfl;have k:=((i.trans (z3.mono u)).setCell (p:=⟨br,3,Ω⟩) m (Ψ Ξ (r.fk+1))).setCell (p:=⟨br,4,Ω⟩) m (Ψ Ξ (r.dA+(n:Int)));have c:tc J w ((s.setCell ⟨br,3,Ω⟩ (Ψ Ξ (r.fk+1))).setCell ⟨br,4,Ω⟩ (Ψ Ξ (r.dA+(n:Int)))):=fun j C z=>(cr (HR.out.2.2.2 j C)).trans ((z3.block j (Nat.lt_of_lt_of_le z i.size)).trans (v.out j C z))
 go_ret;exact⟨rfl,by first|exact d|exact d.below (φ _ _).drew,by first|exact k|exact k.drew,c⟩
end
def Roomy(r r':Md.RS):Prop:=(r.g.new.length<8/\r'=r)\/(8<=r.g.new.length/\r.g.new.length<=1000/\im r.g/\∃n g',Md.collect .minor r.g=Θ (n,g')/\r'=Md.counted r .minor n g'/\(0<=r.minors/\r.minors<=1000)/\(0<=r.dA/\r.dA<=100000)/\n<=1000)
theorem bD.anJ{w:ξ}{B br b:Nat}{r:Md.RS}{J:Nat->Prop}(h:bD w B br b r J):∃a m,w.cell? ⟨b,0,Ω⟩=Θ (.slice a r.g.new.length m):=by obtain⟨n,o,m,row,f,hb,⟨d,e,c,_⟩,_⟩:=h.2.2.1;rw[aT]at c;refine⟨d,e,?_⟩;rw[<-c];simp[ω,hb]
theorem WD(w:ξ)(B br b:Nat)(r r':Md.RS){J:Nat->Prop}(hr:bD w B br b r J)(hB:B<=w.heap.size)(hm:Roomy r r'):
 Z7 aD.prog 232 #[Δ (Θ ⟨br,0,Ω⟩)] w fun e w'=>e=.returned (.tuple #[])/\bD w' B br b r' J/\μ B w w'/\tc J w w':=by
 have HR:=Γ hr;obtain⟨c0,_,_⟩:=hr.ptr;obtain⟨a,m,c1⟩:=hr.anJ;rcases hm with⟨p,rfl⟩|⟨p,s,i,n,t,j,rfl,o,q,k⟩
 ·have l:(r'.g.new.length:Int)<8:=by omega
  clear hr
  go_enter aD.func232,Tryz.ntmps232
  go_wp2
  go_step3
  go_wp2
  go_step3
  go_wp2_with fail
  rw[Exit.noGoto_ret];refine ZW (results_none rfl _ _ _) rfl ?_;exact⟨rfl,HR.out,φ _ _,fun _ _ _=>rfl⟩
 ·have l:¬(r.g.new.length:Int)<8:=by omega
  clear hr;have HC:=Γ (υ i j);clear i j
  go_enter aD.func232,Tryz.ntmps232
  go_wp2
  go_step3
  go_wp2
  go_step3
  go_wp2_with fail
  refine(wM _ B br b n r t HC.out.1 HR.out hB HC.out.2 o q k).mono ?_;rintro e u ⟨rfl,c,h,d⟩;have f:=Γ c;clear c
  go_wp2_with fail
  rw[Exit.noGoto_ret];refine ZW (results_none rfl _ _ _) rfl ?_;exact⟨rfl,f.out,h,d⟩
end Kn
namespace Kn
open Go Go.RowKit Go.Extern.Stop Go.Stop Go.Extern Md
section
variable(a p:ZC)(W:ξ)(c:Int)(t:ZC)(h v old:θ)(w:ξ)
theorem B4:(ReflectliteValue.unpack (.iface 179 (Δ (Θ t)))).run aD.prog w
 =.ok (.agg #[Δ (Θ ⟨1,179,Ω⟩),Δ (Θ ⟨w.heap.size,0,Ω⟩),Ψ ZJ 150]) (w.alloc (ψ #[Δ (Θ t)] 179)):=by kernel_rfl
theorem OF:(ReflectliteValue.methodAny (ReflectliteValue.valueError "reflectlite.Value.Type" 0) (fun t _ _ _=>ReflectliteType.toType t) #[.agg #[Δ (Θ ⟨1,179,Ω⟩),Δ (Θ a),Ψ ZJ 150]]).run aD.prog w
 =.ok (.iface 273 (.agg #[Δ (Θ ⟨1,179,Ω⟩)])) w:=by kernel_rfl
theorem wO:(ZE 463 273 (.agg #[h]) "Kind").run aD.prog w=.ok (302,h) w:=by kernel_rfl
theorem OG:((ReflectliteType.abiMethod fun t=>Functor.map (fun a:Nat=>Value.int IntKind.u8 (a:Int)) (Rtype.kind t)) #[Δ (Θ ⟨1,179,Ω⟩)]).run aD.prog w=.ok (Ψ .u8 22) w:=by kernel_rfl
theorem OH:((ReflectliteType.abiMethod fun t=>Functor.map (fun a:Nat=>Value.int IntKind.u8 (a:Int)) (Rtype.kind t)) #[Δ (Θ ⟨1,177,Ω⟩)]).run aD.prog w=.ok (Ψ .u8 25) w:=by kernel_rfl
theorem Q9(z:Sem θ)(f:Z1->ZC->Nat->Nat->Sem θ)(v:θ):
 ReflectliteValue.method z f #[v]=(do match<-ReflectliteValue.parts v with|none=>z|some (t,a,fl)=>f t a fl (fl %32)):=rfl
theorem Ah:(ReflectliteValue.parts (.agg #[Δ (Θ ⟨1,179,Ω⟩),Δ (Θ a),Ψ ZJ 150])).run aD.prog w=.ok (Θ (179,a,150)) w:=by kernel_rfl
theorem Ai:(isAgg 179).run aD.prog w=.ok ZX w:=by kernel_rfl
theorem Jp(ha:W.cell? a=Θ (Δ (Θ p))):
 (ReflectliteValue.method (ReflectliteValue.valueError "reflectlite.Value.IsNil" 0) ReflectliteValue.isNil #[.agg #[Δ (Θ ⟨1,179,Ω⟩),Δ (Θ a),Ψ ZJ 150]]).run aD.prog W=.ok (.bool ZX) W:=by
 rw[Q9];simp only[Z0,Ah,Z9];have:=Ai W;simp[ReflectliteValue.isNil,loadVar,Z0,ha,Z9]at this⊢
theorem wP:(ZE 463 273 (.agg #[h]) "Elem").run aD.prog w=.ok (337,.agg #[h]) w:=by kernel_rfl
theorem no:(ZE 463 273 (.agg #[h]) "Implements").run aD.prog w=.ok (338,.agg #[h]) w:=by kernel_rfl
theorem lF:(ZE 463 273 (.agg #[h]) "AssignableTo").run aD.prog w=.ok (335,.agg #[h]) w:=by kernel_rfl
theorem OJ:(ReflectliteType.method ReflectliteType.elem #[.agg #[Δ (Θ ⟨1,179,Ω⟩)]]).run aD.prog w=.ok (.iface 273 (.agg #[Δ (Θ ⟨1,177,Ω⟩)])) w:=by kernel_rfl
theorem tT:(ReflectliteType.relation "Implements" ReflectliteType.implements_ #[.agg #[Δ (Θ ⟨1,177,Ω⟩)],.iface 273 (.agg #[Δ (Θ ⟨1,174,Ω⟩)])]).run aD.prog w=.ok (.bool ZL) w:=by kernel_rfl
theorem E8:(ReflectliteType.typeOf #[.iface 177 v]).run aD.prog w=.ok (.iface 273 (.agg #[Δ (Θ ⟨1,177,Ω⟩)])) w:=by kernel_rfl
theorem tU:(ReflectliteType.relation "AssignableTo" ReflectliteType.assignableTo #[.agg #[Δ (Θ ⟨1,177,Ω⟩)],.iface 273 (.agg #[Δ (Θ ⟨1,177,Ω⟩)])]).run aD.prog w=.ok (.bool ZL) w:=by kernel_rfl
theorem B5(e:Int)(w:ξ):(ReflectliteValue.unpack (.iface 177 (.agg #[Ψ Ξ e]))).run aD.prog w
 =.ok (.agg #[Δ (Θ ⟨1,177,Ω⟩),Δ (Θ ⟨w.heap.size,0,Ω⟩),Ψ ZJ 153]) (w.alloc (ψ #[Ψ Ξ e] 177)):=by kernel_rfl
theorem E9:(Rtype.elem? 179).run aD.prog w=.ok (Θ 177) w:=by kernel_rfl
theorem afC:(ReflectliteValue.mk 177 p ReflectliteValue.flagAddr).run aD.prog w=.ok (.agg #[Δ (Θ ⟨1,177,Ω⟩),Δ (Θ p),Ψ ZJ 409]) w:=by kernel_rfl
theorem OK(ha:W.cell? a=Θ (Δ (Θ p))):
 (ReflectliteValue.method (ReflectliteValue.valueError "reflectlite.Value.Elem" 0) ReflectliteValue.elem #[.agg #[Δ (Θ ⟨1,179,Ω⟩),Δ (Θ a),Ψ ZJ 150]]).run aD.prog W
   =.ok (.agg #[Δ (Θ ⟨1,177,Ω⟩),Δ (Θ p),Ψ ZJ 409]) W:=by
 rw[Q9];simp only[Z0,Ah,Z9];have:=Ai W;simp[ReflectliteValue.elem,loadVar,Z0,ha,Z9]at this⊢;simp[this,ha,Z9,E9,afC]
theorem afD(x:θ):ReflectliteValue.set #[v,x]=(do
 let(Θ (dst,a,fl),Θ (src,b,_)):=(<-ReflectliteValue.parts v,<-ReflectliteValue.parts x)
  |unsupported (.noEntry "extern/(internal/reflectlite.Value).Set.zeroValue")
 if fl/ReflectliteValue.flagAddr %2==0 then unsupported (.noEntry "extern/(internal/reflectlite.Value).Set.unaddressable")
 let val<-loadVar src b
 if<-Rtype.directlyAssignable dst src then storeVar dst a val
 else if<-Rtype.implements dst src then
  if(<-Rtype.kind src)==20 then
   match val with
   |.nilIface=>unsupported (.noEntry "extern/reflectlite: a nil value of one interface type handed on as a value of another")
   |_=>storeVar dst a val
  else storeVar dst a (.iface src val)
 else panicString ("reflectlite.Set: value of type "++(<-Rtype.spelt src)++ " is not assignable to type "++(<-Rtype.spelt dst))
 pure (.tuple #[])):=rfl
theorem Jq:(ReflectliteValue.parts (.agg #[Δ (Θ ⟨1,177,Ω⟩),Δ (Θ a),Ψ ZJ 409])).run aD.prog w=.ok (Θ (177,a,409)) w:=by kernel_rfl
theorem Jr:(ReflectliteValue.parts (.agg #[Δ (Θ ⟨1,177,Ω⟩),Δ (Θ a),Ψ ZJ 153])).run aD.prog w=.ok (Θ (177,a,153)) w:=by kernel_rfl
theorem Js:(Rtype.directlyAssignable 177 177).run aD.prog w=.ok ZL w:=by kernel_rfl
theorem Jt:(isAgg 177).run aD.prog w=.ok ZL w:=by kernel_rfl
theorem WE:(sizeOf 177).run aD.prog w=.ok 1 w:=by kernel_rfl
theorem afE(ta b:ZC)(e:Int)(old:θ)(W:ξ)(hb:W.cell? b=Θ (Ψ Ξ e))(ht:W.cell? ta=Θ old)(hf:W.frozen? ta=ZX):
 (ReflectliteValue.set #[.agg #[Δ (Θ ⟨1,177,Ω⟩),Δ (Θ ta),Ψ ZJ 409],.agg #[Δ (Θ ⟨1,177,Ω⟩),Δ (Θ b),Ψ ZJ 153]]).run aD.prog W
   =.ok (.tuple #[]) (W.setCell ta (Ψ Ξ e)):=by
 rw[afD];simp only[Z0,Jq,Jr,Z9];have c:=Jt W;have f:=WE W;have a:=Js W;simp[ReflectliteValue.flagAddr,loadVar,Z0,hb,Z9,storeVar,Value.cells,storeCells,ZU]at c f a⊢;have d:(loadCells b 1).run aD.prog W=.ok #[Ψ Ξ e] W:=by simp[loadCells,loadCellsFrom,Z0,ZU,hb,Z9]
 rw[d];dsimp only;rw[a];simp[storeCells,ZU];rw[run_store aD.prog W ta _ _ (by rfl)];simp[ht,hf]
def np(w:ξ):Prop:=w.cell? ⟨0,0,Ω⟩=Θ (.iface 273 (.agg #[Δ (Θ ⟨1,174,Ω⟩)]))
theorem np.below{w w':ξ}(h:np w)(hk:μ w.heap.size w w'):np w':=(hk.cell (p:=⟨0,0,Ω⟩) (by
 rcases Nat.eq_zero_or_pos w.heap.size with h0|a
 ·unfold np at h;simp[ω,h0]at h
 ·exact a)).trans h
theorem anK(a:ZC)(x:θ)(old:θ)(w:ξ)(ha:w.cell? a=Θ (Δ (Θ t)))(ht0:w.cell? t=Θ old)(hf0:w.frozen? t=ZX):
 Z7 aD.prog 195 #[.iface 177 (.agg #[Ψ Ξ c]),x,.agg #[Δ (Θ ⟨1,179,Ω⟩),Δ (Θ a),Ψ ZJ 150],.iface 273 (.agg #[Δ (Θ ⟨1,177,Ω⟩)])] w fun ev w'=>ev=.returned (.bool ZL)/\∃w1,μ w.heap.size w w1/\w'=w1.setCell t (Ψ Ξ c):=by
 have f:=@ι aD.prog 192 _ (fun b=>ReflectliteValue.unpack (b.getD 0 (.tuple #[]))) aD.func192 (by kernel_rfl) (by kernel_rfl) (by kernel_rfl) (by kernel_rfl);have i:=@ι aD.prog 228 _ ReflectliteType.typeOf aD.func228 (by kernel_rfl) (by kernel_rfl) (by kernel_rfl) (by kernel_rfl);have k:=@ι aD.prog 335 _ (ReflectliteType.relation "AssignableTo" ReflectliteType.assignableTo) aD.func335 (by kernel_rfl) (by kernel_rfl) (by kernel_rfl) (by kernel_rfl);have j:=@ι aD.prog 229 _ (ReflectliteValue.method (ReflectliteValue.valueError "reflectlite.Value.Elem" 0) ReflectliteValue.elem) aD.func229 (by kernel_rfl) (by kernel_rfl) (by kernel_rfl) (by kernel_rfl);have g:=@ι aD.prog 230 _ ReflectliteValue.set aD.func230 (by kernel_rfl) (by kernel_rfl) (by kernel_rfl) (by kernel_rfl);have p:=E8;have n:=lF;have m:=tU;have l:=B5;have e:a.block<w.heap.size:=by
  rcases Nat.lt_or_ge a.block w.heap.size with h|h
  ·exact h
  ·simp[ω,ZP h]at ha
 have d:t.block<w.heap.size:=by
  rcases Nat.lt_or_ge t.block w.heap.size with h|h
  ·exact h
  ·simp[ω,ZP h]at ht0
 have o:=OK a t (w.alloc (ψ #[Δ (Θ ⟨1,179,Ω⟩),Δ (Θ a),Ψ ZJ 150] 222)) (by rw[ζ _ _ a e];exact ha);have st:=afE t ⟨w.heap.size+1,0,Ω⟩ c old ((w.alloc (ψ #[Δ (Θ ⟨1,179,Ω⟩),Δ (Θ a),Ψ ZJ 150] 222)).alloc (ψ #[Ψ Ξ c] 177)) (by rw[World.cell?_alloc_at _ _ _ _ (by simp)];rfl)
  (by rw[ζ _ _ t (by simp;omega),ζ _ _ t d];exact ht0)
  (by rw[Z3 _ _ t (by simp;omega),Z3 _ _ t (Nat.ne_of_lt d)];exact hf0)
 go_enter aD.func195,Tryz.ntmps195
 go_wp2
 refine ZS 1 ?_;rw[ZK]
 go_wp2
 go_ret;exact⟨rfl,_,((φ _ _).alloc (Nat.le_refl _) _).alloc (by simp) _,rfl⟩
theorem WF(hg:np w)(ht0:w.cell? t=Θ old)(hf0:w.frozen? t=ZX):
 Z7 aD.prog 146 #[.iface 177 (.agg #[Ψ Ξ c]),.iface 179 (Δ (Θ t))] w fun ev w'=>ev=.returned (.bool ZL)/\∃w1,μ w.heap.size w w1/\w'=w1.setCell t (Ψ Ξ c):=by
 have m:=@ι aD.prog 192 _ (fun a=>ReflectliteValue.unpack (a.getD 0 (.tuple #[]))) aD.func192 (by kernel_rfl) (by kernel_rfl) (by kernel_rfl) (by kernel_rfl);have i:=@ι aD.prog 193 _ (ReflectliteValue.methodAny (ReflectliteValue.valueError "reflectlite.Value.Type" 0) (fun t _ _ _=>ReflectliteType.toType t)) aD.func193 (by kernel_rfl) (by kernel_rfl) (by kernel_rfl) (by kernel_rfl);have k:=@ι aD.prog 194 _ (ReflectliteValue.method (ReflectliteValue.valueError "reflectlite.Value.IsNil" 0) ReflectliteValue.isNil) aD.func194 (by kernel_rfl) (by kernel_rfl) (by kernel_rfl) (by kernel_rfl);have l:=@ι aD.prog 302 _ (ReflectliteType.abiMethod fun t=>do pure (Ψ .u8 (<-Rtype.kind t))) aD.func302 (by kernel_rfl) (by kernel_rfl) (by kernel_rfl) (by kernel_rfl);have j:=@ι aD.prog 337 _ (ReflectliteType.method ReflectliteType.elem) aD.func337 (by kernel_rfl) (by kernel_rfl) (by kernel_rfl) (by kernel_rfl);have g:=@ι aD.prog 338 _ (ReflectliteType.relation "Implements" ReflectliteType.implements_) aD.func338 (by kernel_rfl) (by kernel_rfl) (by kernel_rfl) (by kernel_rfl);have x:=B4;have u:=OF;have v:=wO;have s:=wP;have r:=no;have KQ:=OG;have n:=OH;have q:=OJ;have o:=tT;have d:0<w.heap.size:=by
  rcases Nat.eq_zero_or_pos w.heap.size with h0|h
  ·unfold np at hg;simp[ω,h0]at hg
  ·exact h
 have b:t.block<w.heap.size:=by
  rcases Nat.lt_or_ge t.block w.heap.size with h|h
  ·exact h
  ·simp[ω,ZP h]at ht0
 have y:=Jp ⟨w.heap.size,0,Ω⟩ t ((w.alloc (ψ #[Δ (Θ t)] 179)).alloc (ψ #[Δ (Θ ⟨1,179,Ω⟩),Δ (Θ ⟨w.heap.size,0,Ω⟩),Ψ ZJ 150] 222)) (by simp);have p:((w.alloc (ψ #[Δ (Θ t)] 179)).alloc (ψ #[Δ (Θ ⟨1,179,Ω⟩),Δ (Θ ⟨w.heap.size,0,Ω⟩),Ψ ZJ 150] 222)).cell? ⟨0,0,Ω⟩=Θ (.iface 273 (.agg #[Δ (Θ ⟨1,174,Ω⟩)])):=by rw[ζ _ _ ⟨0,0,Ω⟩ (by simp),ζ _ _ ⟨0,0,Ω⟩ d];exact hg
 go_enter aD.func146,Tryz.ntmps146
 go_wp2_with fail
 refine(anK c t ⟨w.heap.size,0,Ω⟩ _ old _ (by simp) ?_ ?_).mono ?_
 ·rw[ζ _ _ t (by simp;omega),ζ _ _ t b];exact ht0
 ·rw[Z3 _ _ t (by simp;omega),Z3 _ _ t (Nat.ne_of_lt b)];exact hf0
 rintro e w' ⟨rfl,w1,f,rfl⟩
 go_wp2
 go_ret;exact⟨rfl,w1,(((φ _ _).alloc (Nat.le_refl _) _).alloc (by simp) _).trans (f.mono (by simp;omega)),rfl⟩
theorem WG:(Instr.typeAssert (.iface 177 (.agg #[Ψ Ξ c])) 20 174 ZL).run aD.prog w=.ok (.tuple #[.iface 177 (.agg #[Ψ Ξ c]),.bool ZL]) w:=by kernel_rfl
theorem WH:(Instr.typeAssert .nilIface 20 174 ZL).run aD.prog w=.ok (.tuple #[.nilIface,.bool ZX]) w:=by kernel_rfl
theorem eE:Z7 aD.prog 81 #[.nilIface] w fun ev w'=>ev=.returned (Ψ Ξ 0)/\μ w.heap.size w w':=by
 have h:=WH
 go_enter aD.func81,Tryz.ntmps81
 go_wp2
 go_ret;exact⟨rfl,φ _ _⟩
theorem sR(hg:np w):Z7 aD.prog 81 #[.iface 177 (.agg #[Ψ Ξ c])] w fun ev w'=>ev=.returned (Ψ Ξ c)/\μ w.heap.size w w':=by
 have h:=WG;have f:=Γ hg;clear hg
 go_enter aD.func81,Tryz.ntmps81
 go_wp2_with fail
 have b:=af w (ψ #[Ψ Ξ 0] 177);refine(WF c ⟨w.heap.size,0,Ω⟩ (Ψ Ξ 0) _ (f.out.below b) (by simp) (by simp)).mono ?_;rintro e w' ⟨rfl,d,a,rfl⟩;have hc:(d.setCell ⟨w.heap.size,0,Ω⟩ (Ψ Ξ c)).cell? ⟨w.heap.size,0,Ω⟩=Θ (Ψ Ξ c):=by have e:=heap_setCell_same (i:=0) (v:=Ψ Ξ c) (w:=d) ((a.block w.heap.size (by simp)).trans (κ w _));simp[ω,e]
 go_wp2_with fail
 go_ret;exact⟨rfl,((b.trans (a.mono (by simp))).setCell (Nat.le_refl _) _)⟩
end
end Kn
namespace Kn
open Go Go.RowKit Md
section
variable{b:Nat}{t:Z1}(w:ξ)
def Idle(f:FuncId):Prop:=∀(p:ZC) (x:θ) (w:ξ),w.cell? p=Θ x->w.frozen? p=ZX->CallsD aD.prog f #[Δ (Θ p)] .returning w fun e u' w'=>e=.returned (.tuple #[])/\u'=.returning/\∃w1,μ w.heap.size w w1/\w'=w1.setCell p (Ψ Ξ 0)
def Catch(f:FuncId):Prop:=∀(p:ZC) (x:θ) (c:Int) (w:ξ),np w->w.cell? p=Θ x->w.frozen? p=ZX->CallsD aD.prog f #[Δ (Θ p)] (.panicking (gK c)) w fun e u' w'=>e=.returned (.tuple #[])/\u'=.panicking [{v:=.iface 177 (.agg #[Ψ Ξ c]),recovered:=ZL}]/\∃w1,μ w.heap.size w w1/\w'=w1.setCell p (Ψ Ξ c)
theorem Ju(o1 o2:Obj):((w.alloc o1).alloc o2).heap[w.heap.size+1]?=Θ o2/\μ w.heap.size w ((w.alloc o1).alloc o2)/\((w.alloc o1).alloc o2).heap.size=w.heap.size+1+1:=by refine⟨?_,(af w _).alloc (by simp) _,by simp⟩;have:=κ (w.alloc o1) o2;simpa using this
theorem al3(o1 o2 o3:Obj):(((w.alloc o1).alloc o2).alloc o3).heap[w.heap.size+1]?=Θ o2/\(((w.alloc o1).alloc o2).alloc o3).heap[w.heap.size+1+1]?=Θ o3/\μ w.heap.size w (((w.alloc o1).alloc o2).alloc o3)/\(((w.alloc o1).alloc o2).alloc o3).heap.size=w.heap.size+1+1+1:=by
 refine⟨?_,?_,((af w _).alloc (by simp) _).alloc (by simp;omega) _,by simp⟩
 ·rw[Below.heap_alloc _ _ _ (by simp)];exact(Ju w o1 o2).1
 ·have:=κ ((w.alloc o1).alloc o2) o3;simpa using this
theorem d7{w:ξ}{x:θ}{fr:Nat×Nat}(h:w.heap[b]?=Θ (ψ #[x] t fr)):w.cell? ⟨b,0,Ω⟩=Θ x:=by simp[ω,h]
theorem cD{w:ξ}{i:Nat}{c:Array θ}(h:w.heap[b]?=Θ (.cells c t (0,0))):w.frozen? ⟨b,i,Ω⟩=ZX:=by simp[World.frozen?,h]
theorem behind{w w2 w9:ξ}{x y:θ}(hb:μ w.heap.size w w2)(hy:w2.heap[b]?=Θ (ψ #[x] t (0,0)))(hB:w.heap.size<=b)(h9:μ w2.heap.size w2 w9):
 (w9.setCell ⟨b,0,Ω⟩ y).heap[b]?=Θ (ψ #[y] t (0,0))/\μ w.heap.size w (w9.setCell ⟨b,0,Ω⟩ y)/\∀k,k≠b->k<w2.heap.size->(w9.setCell ⟨b,0,Ω⟩ y).heap[k]?=w2.heap[k]?:=by
 have c:=(χ.1 hy).1;refine⟨?_,(hb.trans (h9.mono hb.size)).setCell (p:=⟨b,0,Ω⟩) hB _,fun k d a=>?_⟩
 ·rw[aB ((h9.block b c).trans hy)];rfl
 ·rw[aq d,h9.block k a]
theorem WI:Idle 80:=fun p x w c f=>by
 have b:p.block<w.heap.size:=ε c;refine Z8 aD.func80 rfl fun a cs g=>?_
 apply ZZ;simp[ZI,go_sem,ZR,g,Tryz.ntmps80,Z2];refine(eE w).mono ?_;rintro e d ⟨rfl,hb⟩;have i:=(hb.cell b).trans c;have h:=(hb.frozen b).trans f;cases a
 simp_all [go_sem,ZV,Z4,Tryz.results80]
 exact⟨d,hb,rfl⟩
theorem WJ:Idle 92:=fun p x w c f=>by
 have b:p.block<w.heap.size:=ε c;refine Z8 aD.func92 rfl fun a cs g=>?_
 apply ZZ;simp[ZI,go_sem,ZR,g,Tryz.ntmps92,Z2];refine(eE w).mono ?_;rintro e d ⟨rfl,hb⟩;have i:=(hb.cell b).trans c;have h:=(hb.frozen b).trans f;cases a
 simp_all [go_sem,ZV,Z4,Tryz.results92]
 exact⟨d,hb,rfl⟩
theorem OL:Idle 103:=fun p x w c f=>by
 have b:p.block<w.heap.size:=ε c;refine Z8 aD.func103 rfl fun a cs g=>?_
 apply ZZ;simp[ZI,go_sem,ZR,g,Tryz.ntmps103,Z2];refine(eE w).mono ?_;rintro e d ⟨rfl,hb⟩;have i:=(hb.cell b).trans c;have h:=(hb.frozen b).trans f;cases a
 simp_all [go_sem,ZV,Z4,Tryz.results103]
 exact⟨d,hb,rfl⟩
theorem ON:Idle 105:=fun p x w c f=>by
 have b:p.block<w.heap.size:=ε c;refine Z8 aD.func105 rfl fun a cs g=>?_
 apply ZZ;simp[ZI,go_sem,ZR,g,Tryz.ntmps105,Z2];refine(eE w).mono ?_;rintro e d ⟨rfl,hb⟩;have i:=(hb.cell b).trans c;have h:=(hb.frozen b).trans f;cases a
 simp_all [go_sem,ZV,Z4,Tryz.results105]
 exact⟨d,hb,rfl⟩
theorem OO:Idle 106:=fun p x w c f=>by
 have b:p.block<w.heap.size:=ε c;refine Z8 aD.func106 rfl fun a cs g=>?_
 apply ZZ;simp[ZI,go_sem,ZR,g,Tryz.ntmps106,Z2];refine(eE w).mono ?_;rintro e d ⟨rfl,hb⟩;have i:=(hb.cell b).trans c;have h:=(hb.frozen b).trans f;cases a
 simp_all [go_sem,ZV,Z4,Tryz.results106]
 exact⟨d,hb,rfl⟩
theorem OP:Idle 118:=fun p x w c f=>by
 have b:p.block<w.heap.size:=ε c;refine Z8 aD.func118 rfl fun a cs g=>?_
 apply ZZ;simp[ZI,go_sem,ZR,g,Tryz.ntmps118,Z2];refine(eE w).mono ?_;rintro e d ⟨rfl,hb⟩;have i:=(hb.cell b).trans c;have h:=(hb.frozen b).trans f;cases a
 simp_all [go_sem,ZV,Z4,Tryz.results118]
 exact⟨d,hb,rfl⟩
theorem OR:Idle 143:=fun p x w c f=>by
 have b:p.block<w.heap.size:=ε c;refine Z8 aD.func143 rfl fun a cs g=>?_
 apply ZZ;simp[ZI,go_sem,ZR,g,Tryz.ntmps143,Z2];refine(eE w).mono ?_;rintro e d ⟨rfl,hb⟩;have i:=(hb.cell b).trans c;have h:=(hb.frozen b).trans f;cases a
 simp_all [go_sem,ZV,Z4,Tryz.results143]
 exact⟨d,hb,rfl⟩
theorem OS:Catch 92:=fun p x c w i b g=>by
 have a:p.block<w.heap.size:=ε b;refine Z8 aD.func92 rfl fun d cs f=>?_
 apply ZZ;unfold gK at f;simp[ZI,go_sem,ZR,f,Tryz.ntmps92,Z2];refine(sR c w i).mono ?_;rintro e h ⟨rfl,hb⟩;have k:=(hb.cell a).trans b;have j:=(hb.frozen a).trans g
 simp_all [go_sem,ZV,Z4,Tryz.results92]
 exact⟨h,hb,rfl⟩
theorem Jv:Catch 109:=fun p x c w i b g=>by
 have a:p.block<w.heap.size:=ε b;refine Z8 aD.func109 rfl fun d cs f=>?_
 apply ZZ;unfold gK at f;simp[ZI,go_sem,ZR,f,Tryz.ntmps109,Z2];refine(sR c w i).mono ?_;rintro e h ⟨rfl,hb⟩;have k:=(hb.cell a).trans b;have j:=(hb.frozen a).trans g
 simp_all [go_sem,ZV,Z4,Tryz.results109]
 exact⟨h,hb,rfl⟩
theorem OT(v:θ)(g:GH)(c:Int)(hv:GV w v g)(hk:eC g)(hm:g.marked.length<=1000000)(hz:cN g=c)(hc:c≠0)(hg:np w):
 Z7 aD.prog 49 #[v] w fun e w'=>e=.returned (Ψ Ξ c)/\μ w.heap.size w w':=by
 have A:∀(fn:Fn) (first cap:Array θ) (w:ξ),(Instr.makeFunc fn first cap).run aD.prog w=.ok (.func fn first cap) w:=fun _ _ _ _=>rfl
 obtain⟨n,o,r,h,d,m,rfl,t,q,x,s,u,z⟩:=hv;have B:=Γ hg;have C:=Γ hk;clear hk hg
 go_enter_defers aD.func49,Tryz.ntmps49
 go_wp2_with fail
 obtain⟨F,_,a,E⟩:=al3 w (ψ #[n,o,r,h,d,m] 26) (ψ #[Ψ Ξ 0] 34) (ψ #[n,o,r,h,d,m] 114);have j:mi (((w.alloc (ψ #[n,o,r,h,d,m] 26)).alloc (ψ #[Ψ Ξ 0] 34)).alloc (ψ #[n,o,r,h,d,m] 114)) (w.heap.size+1+1) g:=⟨n,o,r,h,d,m,by go_simp,by go_simp,by go_simp,by go_simp,by go_simp,by go_simp,t.below a,q.below a,x.below a,s.below a,u.below a,z.below a⟩;refine(Ix _ (w.heap.size+1+1) g j C.out hm).mono ?_;rintro e I ⟨l,b⟩;have p:=(b.block (w.heap.size+1) (by omega)).trans F;unfold dZ at l;rw[hz,if_neg hc]at l;subst l;have i:=a.trans (b.mono a.size);clear b a j t q x s u z;refine leaves_cons (f:=109) (args:=#[Δ (Θ ⟨w.heap.size+1,0,Ω⟩)]) (by simp) (by simp[go_sem]) ?_;refine(Jv ⟨w.heap.size+1,0,Ω⟩ (Ψ Ξ 0) c _ (B.out.below i) (d7 p) (cD p)).mono ?_;rintro e H D ⟨rfl,rfl,w9,k,rfl⟩;obtain⟨q1,G,_⟩:=behind (y:=Ψ Ξ c) i p (by omega) k;have r4:=d7 q1;simp[Leaves,settle,Z4,Tryz.results49,go_sem,r4];exact G
theorem Jw(v:θ)(g:GH)(hv:GV w v g)(hk:eC g)(hm:g.marked.length<=1000000)(hz:cN g=0):
 Z7 aD.prog 47 #[v] w fun e w'=>(∃r,e=.returned (.tuple #[r,Ψ Ξ 0])/\n9 w' r (ju g))/\μ w.heap.size w w':=by
 have I:∀(fn:Fn) (first cap:Array θ) (w:ξ),(Instr.makeFunc fn first cap).run aD.prog w=.ok (.func fn first cap) w:=fun _ _ _ _=>rfl
 have HV:=Γ hv;have D:=Γ hk;obtain⟨n,o,r,F,d,m,rfl,L,G,O,K,M,S⟩:=hv;clear hk L G O K M S
 go_enter_defers aD.func47,Tryz.ntmps47
 go_wp2_with fail
 obtain⟨R,c,P⟩:=Ju w (ψ #[n,o,r,F,d,m] 26) (ψ #[Ψ Ξ 0] 34);refine(sw _ _ g (HV.out.below c) D.out hz hm).mono ?_;rintro e U ⟨⟨b,rfl,q⟩,l⟩;have E:=(l.block (w.heap.size+1) (by omega)).trans R;have j:=c.trans (l.mono c.size);have x:=Γ q;have A:=Γ E;clear l c q E
 go_wp2_with fail
 refine(Dt _ b g x.out.reads (by have:=D.out.bw;omega)).mono ?_;rintro e H ⟨⟨r3,rfl,s⟩,a⟩;have t:=(a.block (w.heap.size+1) (χ.1 A.out).1).trans A.out;have h:=j.trans (a.mono j.size);have HR:=Γ s;have J:=Γ h;have z:=Γ t;have c3:=d7 t;have Y:=cD (i:=0) t;clear j a s h t
 go_wp2_with fail
 have C:(H.setCell ⟨w.heap.size+1,0,Ω⟩ (Ψ Ξ 0)).heap[w.heap.size+1]?=Θ (ψ #[Ψ Ξ 0] 34 (0,0)):=by rw[aB z.out];rfl
 refine leaves_cons (f:=106) (args:=#[Δ (Θ ⟨w.heap.size+1,0,Ω⟩)]) (by simp) (by simp[go_sem]) ?_;refine(OO ⟨w.heap.size+1,0,Ω⟩ (Ψ Ξ 0) _ (d7 C) (cD C)).mono ?_;rintro e X Q ⟨rfl,rfl,w9,u,rfl⟩;obtain⟨q1,V,N⟩:=behind (y:=Ψ Ξ 0) (J.out.setCell (p:=⟨w.heap.size+1,0,Ω⟩) (by simp) (Ψ Ξ 0)) C (by omega) u;have r4:=d7 q1;simp[Leaves,settle,Z4,Tryz.results47,go_sem,r4];refine⟨OI.reads (B:=U.heap.size) (aS HR.out fun k hk=>?_),V⟩;obtain⟨W,T⟩:=HR.out.lt k hk;have:=(χ.1 A.out).1;rw[N k (by omega) (by simpa using T),aq (by omega)]
end
section
variable{fr:Nat×Nat}{J:Nat->Prop}{r:Md.RS}{t:Z1}{x:θ}{b br:Nat}{w:ξ}{B:Nat}{k:Int}
theorem tV{ty:Z1}{m bx:Nat}{a:Option ZC}{l:List (Int×θ)}(h:RC w B (.slice a l.length m) l)(hx:w.heap[bx]?=Θ (ψ #[Ψ Ξ k,x] t fr))(h1:x.oneCell'=ZL)(hl:l.length<=1000000):
 ∃v' w',(ZQ #[22,22] ty #[.slice a l.length l.length,η (Θ ⟨bx,0,Ω⟩) 1 1]).run aD.prog w=.ok v' w'/\(OC w' w.heap.size v' (l++[(k,x)])/\μ w.heap.size w w'/\∃g m',v'=η (Θ ⟨g,0,Ω⟩) (l.length+1) m'):=by
 obtain⟨y,hi,f,n,o⟩:=info_parts ni;have b:∀j u,(dW (k,x))[j]?=Θ u->w.cell? ((⟨bx,0,Ω⟩:ZC).add j)=Θ u:=by
  intro j u d
  match j,d with
  |0,d=>cases d;simp[ω,hx,ZU]
  |1,d=>cases d;simp[ω,hx,ZU]
  |j+2,d=>simp[dW]at d
 have s:∀u∈dW (k,x),u.oneCell'=ZL:=by
  intro u z;simp[dW]at z;rcases z with rfl|rfl
  ·rfl
  ·exact h1
 have fin:∀v' w',w'.ownsRow w.heap.size 76 2 v' (l.length+1) (l.flatMap dW++dW (k,x)) ->OC w' w.heap.size v' (l++[(k,x)])/\∃g m',v'=η (Θ ⟨g,0,Ω⟩) (l.length+1) m':=by
  intro v' w' r1;have q:OC w' w.heap.size v' (l++[(k,x)]):=by unfold OC;rw[ZN,ZM];simpa using r1
  refine⟨q,?_⟩;obtain⟨g,r,e,_⟩:=r1.form (by omega);exact⟨g,r,e⟩
 obtain⟨D,m',e,F,C,A,E⟩:=id h;cases e
 cases a with
 |none=>have p:l=[]:=ZH (by have:=A rfl;omega);subst p;obtain⟨v',w',c,r1,r2,_⟩:=run_append_own (P:=aD.prog) w w.heap.size 22 ty 76 y _ 2 32 mF hi f n o rfl (by decide) (η Ω 0 0) 0 [] (World.ownsRow_nil w _ 76 2) ⟨bx,0,Ω⟩ 1 1 (dW (k,x)) rfl b s (by unfold maxLen;omega) (by omega) (Nat.le_refl _);obtain⟨q1,v⟩:=fin v' w' (by simpa using r1);exact⟨v',w',c,q1,(φ _ w).grown r2 (Nat.le_refl _) (fun k e=>by cases e),v⟩
 |some ad=>
  obtain⟨v',w',c,r1,r2⟩:=run_append_arg_grows (P:=aD.prog) w 22 ty 76 y _ 2 32 mF hi f n o rfl (by decide) ad l.length l.length (l.flatMap dW) (iu l) (fun j u d=>by
   have i:0<l.length:=by
    rcases Nat.eq_zero_or_pos l.length with h0|h0
    ·have:l=[]:=ZH h0;subst this;simp at d
    ·exact h0
   obtain⟨g,m2,e,_,_,_,_,hc⟩:=h.cells i;cases e
   have:=hc j u d;unfold ZU;split
   ·rename_i h0;subst h0;exact this
   ·simpa using this) ⟨bx,0,Ω⟩ 1 1 (dW (k,x)) rfl b (by omega) (by unfold maxLen;omega) (by omega)
  obtain⟨q1,v⟩:=fin v' w' r1;exact⟨v',w',c,q1,(φ _ w).grown r2 (Nat.le_refl _) (fun k e=>by cases e),v⟩
theorem mJ{ty:Z1}{m bx n:Nat}{a:Option ZC}{l:List (Int×θ)}(hn:l.length=n)(h:RC w B (.slice a l.length m) l)(hx:w.heap[bx]?=Θ (ψ #[Ψ Ξ k,x] t fr))(h1:x.oneCell'=ZL)(hl:l.length<=1000000):
 ∃v' w',(ZQ #[22,22] ty #[.slice a n n,η (Θ ⟨bx,0,Ω⟩) 1 1]).run aD.prog w=.ok v' w'/\(OC w' w.heap.size v' (l++[(k,x)])/\μ w.heap.size w w'/\∃g m',v'=η (Θ ⟨g,0,Ω⟩) (n+1) m'):=by
 subst hn;exact tV h hx h1 hl
theorem wQ{row row':HV->θ}{kind:Int}{cs:List HC}{c:HC}(h:∀i:Nat,i<cs.length->row' (kind,(i:Int))=row (kind,(i:Int))):cellsOf row' kind (cs++[c])=cellsOf row kind cs++[(c.1,row' (kind,(cs.length:Int)))]:=by
 apply List.ext_getElem?;intro i;rcases Nat.lt_trichotomy i cs.length with hi|hi|hi
 ·obtain⟨p,q,e⟩:=cQ hi;rw[bH (row:=row') (kind:=kind) (c:=(p,q)) (by rw[ZT hi];exact e),ZT (by rw[aT];exact hi),bH e,h i hi]
 ·subst hi;rw[bH (row:=row') (kind:=kind) (c:=c) (by simp),List.getElem?_append_right (by rw[aT];exact Nat.le_refl _)];simp[aT]
 ·rw[ZY (by rw[aT];simp;omega),ZY (by simp[aT];omega)]
theorem cR.B6{w2:ξ}{g:GH}{n o m v':θ}{row:HV->θ}{vs:List HV}(hJ:∀j,J j->j<w.heap.size)(h5:∀j,J j->j≠b/\∀k,IsKey g k->(row k).ownBlock≠Θ j)(hB:B<=b)(hb:w.heap[b]?=Θ (ψ #[n,o,row (0,0),row (0,1),row (0,2),m] 114 (0,0)))(h2:RC w B o (cellsOf row 4 g.old))(h3:OI w B m g.marked)(h4:kD w B row g)(hBw:B<=w.heap.size)(hk:μ w.heap.size w w2)(hoc:OC w2 B v' (cellsOf row 3 g.new++[(k,x)]))(hx:OV w2 w.heap.size x vs):
 cR (w2.setCell ⟨b,0,Ω⟩ v') B b {g with new:=g.new++[(k,vs)]} J/\μ B w (w2.setCell ⟨b,0,Ω⟩ v'):=by
 have f:=(hk.block b (χ.1 hb).1).trans hb;have r:∀k,k≠b->(w2.setCell ⟨b,0,Ω⟩ v').heap[k]?=w2.heap[k]?:=fun k h=>aq h
 have keep:∀i:Nat,i<g.new.length->(if((3,(i:Int)):HV)=(3,(g.new.length:Int))then x else row (3,(i:Int)))=row (3,(i:Int)):=fun i hi=>if_neg fun e=>by have:=congrArg Prod.snd e;dsimp only at this;omega
 have hold:∀d,IsKey {g with new:=g.new++[(k,vs)]} d->d≠(3,(g.new.length:Int)) ->IsKey g d/\bd {g with new:=g.new++[(k,vs)]} d=bd g d:=by
  rintro⟨a,c⟩ h t;rcases h with⟨e1,e2,e3⟩|⟨e1,e2,e3⟩|⟨e1,e2,e3⟩
  ·dsimp only at e1 e2 e3;subst e1;exact⟨.inl ⟨rfl,e2,e3⟩,by simp[bd]⟩
  ·dsimp only at e1 e2 e3;subst e1;have A:c<g.new.length:=by
    have:c≠g.new.length:=fun e=>t (by rw[e])
    simp at e3;omega
   refine⟨.inr (.inl ⟨rfl,e2,A⟩),?_⟩;simp only[bd,cellAt];have:c.toNat<g.new.length:=by omega
   simp[ZF,ZT this]
  ·dsimp only at e1 e2 e3;subst e1;exact⟨.inr (.inr ⟨rfl,e2,e3⟩),by simp[bd,cellAt]⟩
 refine⟨⟨v',o,m,fun d=>if d=(3,(g.new.length:Int))then x else row d,hB,?_,?_,?_,?_,⟨?_,?_⟩,?_⟩,?_⟩
 ·rw[aB f];simp
 ·dsimp only;rw[wQ (row:=row) (fun i hi=>keep i hi),if_pos rfl];exact OC.rc (B:=B) (bp hoc f (by decide) r)
 ·have:cellsOf (fun d=>if d=(3,(g.new.length:Int))then x else row d) 4 g.old=cellsOf row 4 g.old:=by
   unfold cellsOf;refine List.map_congr_left fun y _=>?_
   have F:¬((4,(y.2:Int)):HV)=(3,(g.new.length:Int)):=fun e=>by have:=congrArg Prod.fst e;simp at this
   simp only[if_neg F]
  dsimp only;rw[this];exact(h2.low hk).below fun z D s=>r z fun e=>by subst e;rw[f]at s;cases s
 ·exact bp (h3.below hk) f (by decide) r
 ·intro d l;dsimp only;by_cases e:d=(3,(g.new.length:Int))
  ·subst e;rw[if_pos rfl];have:bd {g with new:=g.new++[(k,vs)]} (3,(g.new.length:Int))=vs:=by simp[bd,cellAt,ZF]
   rw[this];exact eV (bp hx f (by decide) r) hBw
  ·rw[if_neg e];obtain⟨e1,e2⟩:=hold d l e;rw[e2];exact bp ((h4.1 d e1).below hk) f (by decide) r
 ·intro u v e1 e2 q;dsimp only;have wl:∀d,IsKey g d->Apart x (row d):=fun d l z a1 E=>by have:=(hx.lt z a1).1;have:=((h4.1 d l).lt z E).2;omega
  by_cases c1:u=(3,(g.new.length:Int))<;>by_cases c2:v=(3,(g.new.length:Int))
  ·exact absurd (c1.trans c2.symm) q
  ·rw[if_pos c1,if_neg c2];exact wl _ (hold v e2 c2).1
  ·rw[if_neg c1,if_pos c2];exact Apart.symm (wl _ (hold u e1 c1).1)
  ·rw[if_neg c1,if_neg c2];exact h4.2 u v (hold u e1 c1).1 (hold v e2 c2).1 q
 ·intro j C;refine⟨(h5 j C).1,fun d l e=>?_⟩;dsimp only at e;by_cases c1:d=(3,(g.new.length:Int))
  ·rw[if_pos c1]at e;have:=(hx.lt j e).1;have:=hJ j C;omega
  ·rw[if_neg c1]at e;exact(h5 j C).2 d (hold d l c1).1 e
 ·exact(hk.mono hBw).setCell (p:=⟨b,0,Ω⟩) hB _
def Aj(k:Nat):Prop:=∀W:ξ,OV (W.alloc (.cells (madeCells #[Ψ Ξ 0,Ψ Ξ 0] (k*2)) 50)) W.heap.size (η (Θ ⟨W.heap.size,0,Ω⟩) k k) (ZO k (0,0))
theorem WK:Aj 0:=fun W=>sf W W.heap.size 0 (Nat.le_refl _) (by omega)
theorem Jy:Aj 1:=fun W=>⟨rfl,.inr ⟨W.heap.size,1,_,rfl,Nat.le_refl _,κ _ _,Nat.le_refl _,by unfold maxLen;omega,by kernel_rfl,by kernel_rfl⟩⟩
theorem bD.more(h:bD w B br b r J):bD w B br b r (fun j=>J j\/w.heap.size<=j):=by
 obtain⟨l,d,⟨n,o,m,row,p,hb,i,g,s,c,g5⟩,q⟩:=h;refine⟨l,d,⟨n,o,m,row,p,hb,i,g,s,c,fun j a=>?_⟩,fun j a=>?_⟩
 ·rcases a with a|a
  ·exact g5 j a
  ·refine⟨fun e=>?_,fun k f e=>?_⟩
   ·have:=(χ.1 hb).1;omega
   ·have:=((c.1 k f).lt j e).2;omega
 ·rcases a with a|a
  ·exact q j a
  ·have:=(χ.1 d).1;omega
theorem bD.sub{J':Nat->Prop}(h:bD w B br b r J)(hs:∀j,J' j->J j):bD w B br b r J':=by obtain⟨g,f,⟨n,o,m,row,i,hb,e,d,l,c,g5⟩,k⟩:=h;exact⟨g,f,⟨n,o,m,row,i,hb,e,d,l,c,fun j a=>g5 j (hs j a)⟩,fun j a=>k j (hs j a)⟩
theorem bD.ne(h:bD w B br b r J):¬br=b:=fun e=>by obtain⟨_,a,d,_⟩:=h;obtain⟨_,_,c,hc⟩:=d.own.obj;rw[<-e,a]at hc;cases hc
theorem bD.free{w':ξ}{j:Nat}{c:Array θ}(h:bD w B br b r J)(hj:J j)(hc:w.heap[j]?=Θ (.cells c t fr))(ht:t≠76/\t≠3)(hk:∀k:Nat,k≠j->w'.heap[k]?=w.heap[k]?):bD w' B br b r J:=by
 obtain⟨A,z,⟨n,o,m,row,C,hb,x,v,D,p,g5⟩,u⟩:=h;have q:∀{k:Nat} {s:Array θ} {l:Z1} {d:Nat×Nat},w.heap[k]?=Θ (.cells s l d) ->t≠l->w'.heap[k]?=w.heap[k]?:=fun {k s l d} a y=>hk k fun e=>by
  subst e;rw[hc]at a;cases a
  exact y rfl
 exact⟨A,(hk br (Ne.symm (u j hj))).trans z,⟨n,o,m,row,C,(hk b (Ne.symm (g5 j hj).1)).trans hb,x.below fun g i f=>q f ht.1,v.below fun g i f=>q f ht.1,bp D hc ht.2 hk,⟨fun k a=>aS (p.1 k a) fun g f=>hk g fun e=>(g5 j hj).2 k a (by rw[f,e]),p.2⟩,g5⟩,u⟩
theorem bD.B6{w w2:ξ}{B br b:Nat}{r:Md.RS}{J:Nat->Prop}{x:θ}{k:Int}{vs:List HV}(h:bD w B br b r J)(hJ:∀j,J j->j<w.heap.size)(hBw:B<=w.heap.size)(hk:μ w.heap.size w w2)(hx:OV w2 w.heap.size x vs):
 ∃a m row,w.cell? ⟨b,0,Ω⟩=Θ (.slice a r.g.new.length m)/\r.g.new.length<=m/\RC w B (.slice a (cellsOf row 3 r.g.new).length m) (cellsOf row 3 r.g.new)/\(cellsOf row 3 r.g.new).length=r.g.new.length/\
  ∀w3 v',μ w2.heap.size w2 w3->OC w3 B v' (cellsOf row 3 r.g.new++[(k,x)]) ->bD (w3.setCell ⟨b,0,Ω⟩ v') B br b {r with g:={r.g with new:=r.g.new++[(k,vs)]}} J/\μ B w (w3.setCell ⟨b,0,Ω⟩ v')/\tc J w (w3.setCell ⟨b,0,Ω⟩ v'):=by
 have i:=h.ne;obtain⟨t,l,⟨n,o,m,row,C,hb,q,s,E,u,g5⟩,y⟩:=h;obtain⟨a,z,e,p,F,H,G⟩:=id q;refine⟨a,z,row,?_,?_,e▸q,aT _ _ _,fun w3 v' d f=>?_⟩
 ·rw[aT]at e;rw[<-e];simp[ω,hb]
 ·rw[aT]at p;exact p
 ·have c:=hk.trans (d.mono hk.size);obtain⟨q1,D⟩:=cR.B6 hJ g5 C hb s E u hBw c f (hx.below d);refine⟨⟨t,?_,q1,y⟩,D,fun j A v=>?_⟩
  ·rw[aq i,c.block br (χ.1 l).1];exact l
  ·rw[aq (g5 j A).1,c.block j v]
theorem WL(w:ξ)(B br b k:Nat)(r r':Md.RS)(hr:bD w B br b r J)(hB:B<=w.heap.size)(hJ:∀j,J j->j<w.heap.size)(hm:Roomy r r')(hz:Aj k)(hk:k<=1000)(hl:r'.g.new.length<=1000):
 Z7 aD.prog 202 #[Δ (Θ ⟨br,0,Ω⟩),Ψ Ξ 0,Ψ Ξ (k:Int),η Ω 0 0] w fun e w'=>e=.returned (.agg #[Ψ Ξ 3,Ψ Ξ (r'.g.new.length:Int)])/\bD w' B br b {r' with g:={r'.g with new:=r'.g.new++[(0,ZO k (0,0))]}} J/\μ B w w'/\tc J w w':=by
 have HM:=Γ hm;have hb1:=af w (ψ #[Ψ Ξ 0,Ψ Ξ 0] 50);have HR:=Γ ((hr.more.below hb1).sub (J':=fun j=>J j\/j=w.heap.size) (fun j A=>A.imp id (fun e=>by omega)));have HZ:=Γ hz;have L:=Γ hb1;clear hr hm hz;have hmk:=fun W=>BC k k (Nat.le_refl _) (by omega) W
 go_enter aD.func202,Tryz.ntmps202
 go_wp2_with fail
 refine ZS 1 ?_;rw[ZK]
 go_wp2_with fail
 refine(WD _ B br b r r' HR.out (by simp;omega) HM.out).mono ?_;rintro e F ⟨rfl,Q,V,s⟩;have t:=Γ Q;have y2:=(s w.heap.size (.inr rfl) (by simp)).trans (κ w _);have U:=Γ (υ V s);have HY2:=Γ y2;clear Q V s y2
 go_wp2_with fail
 refine ZS 1 ?_;rw[ZK];have f:=af F (.cells (madeCells #[Ψ Ξ 0,Ψ Ξ 0] (k*2)) 50);have hsz:w.heap.size<F.heap.size:=by have:=(χ.1 HY2.out).1;exact this
 have hJ2:∀j,(J j\/j=w.heap.size) ->j<F.heap.size:=by
  intro j A;rcases A with h|h
  ·have:=hJ j h;omega
  ·omega
 obtain⟨a,m,row,I,hlm,X,M,C⟩:=t.out.B6 (x:=η (Θ ⟨F.heap.size,0,Ω⟩) k k) (k:=0) (vs:=ZO k (0,0)) hJ2 (by omega) f (HZ.out F);obtain⟨c0,_,T⟩:=t.out.ptr;have H:=az I;have O:=(f.cell (p:=⟨br,0,Ω⟩) T).trans c0;have e1:=(f.cell (p:=⟨b,0,Ω⟩) H).trans I;have ef:=f.frozen (p:=⟨b,0,Ω⟩) H;have ef0:F.frozen? ⟨b,0,Ω⟩=ZX:=by obtain⟨_,_,c,hc⟩:=t.out.2.2.1.own.obj;exact cD hc
 rw[ef0]at ef;have z:=X.low f;have E:=Nat.lt_of_lt_of_le T f.size;have y:=Nat.lt_of_lt_of_le H f.size;have HA:=Γ C;have S:=Γ z;have hll:(cellsOf row 3 r'.g.new).length<=1000000:=by omega
 have HL:=Γ M;have hne:=t.out.ne;rw[M]at z;generalize hw3:(F.alloc (.cells (madeCells #[Ψ Ξ 0,Ψ Ξ 0] (k*2)) 50))=q at f HA O e1 ef S E y⊢;clear hw3 C I c0 X z ef0 M;have hl0:(0:Int)<=(r'.g.new.length:Int):=by omega
 have hl1:(r'.g.new.length:Int)<=(m:Int):=by omega
 clear hmk
 go_wp2_with fail
 have hnr:¬b=br:=fun e=>hne e.symm
 refine Rg.wp_cut (n:=34) (fun x=>x.cell? ⟨br,0,Ω⟩=Θ (Δ (Θ ⟨b,0,Ω⟩))/\x.cell? ⟨b,0,Ω⟩=Θ (.slice a r'.g.new.length m)) (by kernel_rfl) (by kernel_rfl) (fun c a d v w h=>by cases d<;>exact h) ⟨O,e1⟩ ?_;simp only[ZB,List.take_zero,ZA,List.drop_zero]
 iterate 34
  (refine Rg.fp.step (v:=?_) (by rfl) (fun u hu=>?_) ?_
   rotate_left
   (obtain⟨hu0,hu1⟩:=hu
    go_simp;rfl))
 refine Rg.fp.nil ?_;simp only[Act.put,ZG,List.set_cons_zero,List.set_cons_succ];refine wpOp_step rfl (fun K hK=>?_);go_simp;refine hK _ _ ⟨⟨dB (dO O),dB (dO e1)⟩,?_⟩;clear hK K;refine wpOp_step rfl (fun K hK=>?_);refine aX rfl _ _ 22 (by rfl) (.slice a r'.g.new.length r'.g.new.length) (η (Θ ⟨q.heap.size,0,Ω⟩) 1 1) (by rfl) (by rfl) _ (mJ (k:=0) (x:=η (Θ ⟨F.heap.size,0,Ω⟩) k k) HL.out (S.out.low (by first|exact(af q _).drew|exact(af q _)|exact((φ _ q).drew.alloc (Nat.le_refl _) _)|exact((φ _ q).drew.alloc (Nat.le_refl _) _).drew)) (κ q _) (by rfl) hll) ?_;intro v' w4 h2;obtain⟨hoc,o,Z,mg,rfl⟩:=h2;have l:μ q.heap.size q w4:=Below.trans (by first|exact(af q _).drew|exact(af q _)|exact((φ _ q).drew.alloc (Nat.le_refl _) _)|exact((φ _ q).drew.alloc (Nat.le_refl _) _).drew) (o.mono (by simp));have gc:=(l.cell (p:=⟨b,0,Ω⟩) y).trans e1;have gr:=(l.cell (p:=⟨br,0,Ω⟩) E).trans O;have gf:=(l.frozen (p:=⟨b,0,Ω⟩) y).trans ef;refine hK _ _ ⟨⟨gr,gc⟩,?_⟩;clear hK K;obtain⟨p1,P,N⟩:=HA.out w4 _ l (hoc.less (by have:=f.size;simp;omega));have HP:=Γ (υ p1 (υ P N));have o:¬b=w.heap.size:=fun e=>(t.out.2.2.1.ne (.inr rfl)) e.symm
 have y4:=(l.block w.heap.size (by have:=f.size;omega)).trans ((f.block w.heap.size hsz).trans HY2.out);have HY4:=Γ y4;have z0:(w4.setCell ⟨b,0,Ω⟩ (η (Θ ⟨Z,0,Ω⟩) (r'.g.new.length+1) mg)).cell? ⟨w.heap.size,0,Ω⟩=Θ (Ψ Ξ 0):=da o (by simp[ω,y4]);have z1:(w4.setCell ⟨b,0,Ω⟩ (η (Θ ⟨Z,0,Ω⟩) (r'.g.new.length+1) mg)).cell? ⟨w.heap.size,1,Ω⟩=Θ (Ψ Ξ 0):=da o (by simp[ω,y4]);have y5:=(aq (w:=w4) (i:=0) (v:=η (Θ ⟨Z,0,Ω⟩) (r'.g.new.length+1) mg) (Ne.symm o)).trans y4;have zf0:=cD (i:=0) y5;have zf1:=cD (i:=1) y5;have zr:(w4.setCell ⟨b,0,Ω⟩ (η (Θ ⟨Z,0,Ω⟩) (r'.g.new.length+1) mg)).cell? ⟨br,0,Ω⟩=Θ (Δ (Θ ⟨b,0,Ω⟩)):=da hnr gr;have hw1:IntKind.i64.wrap ((r'.g.new.length:Int)+1-1)=(r'.g.new.length:Int):=by rw[show((r'.g.new.length:Int)+1-1)=(r'.g.new.length:Int) by omega];exact wrap_small _ (by omega) (by omega)
 have HY5:=Γ y5;clear p1 P N hoc o O e1 ef y4 y5
 go_wp2_with fail
 obtain⟨p1,P,N⟩:=HP.out;have G:=HY5.out;clear z0 z1 zf0 zf1 zr;generalize (w4.setCell ⟨b,0,Ω⟩ (η (Θ ⟨Z,0,Ω⟩) (r'.g.new.length+1) mg))=w5 at p1 P N G⊢;have y6:=aB (aB G 0 (Ψ Ξ 3)) 1 (Ψ Ξ (r'.g.new.length:Int));have D:=(p1.free (w':=(w5.setCell ⟨w.heap.size,0,Ω⟩ (Ψ Ξ 3)).setCell ⟨w.heap.size,1,Ω⟩ (Ψ Ξ (r'.g.new.length:Int))) (.inr rfl) G (by decide) (fun k hk=>cr hk)).sub (J':=J) (fun j A=>.inl A);have R:μ B w ((w5.setCell ⟨w.heap.size,0,Ω⟩ (Ψ Ξ 3)).setCell ⟨w.heap.size,1,Ω⟩ (Ψ Ξ (r'.g.new.length:Int))):=((((L.out.mono hB).trans U.out.1).trans P).setCell (p:=⟨w.heap.size,0,Ω⟩) hB _).setCell (p:=⟨w.heap.size,1,Ω⟩) hB _;have Y:tc J w ((w5.setCell ⟨w.heap.size,0,Ω⟩ (Ψ Ξ 3)).setCell ⟨w.heap.size,1,Ω⟩ (Ψ Ξ (r'.g.new.length:Int))):=fun j A hl=>(cr (by have:=hJ j A;omega)).trans ((N j (.inl A) (by have:=hJ j A;omega)).trans ((U.out.2 j (.inl A) (Nat.lt_of_lt_of_le hl L.out.size)).trans (L.out.block j hl)))
 generalize (w5.setCell ⟨w.heap.size,0,Ω⟩ (Ψ Ξ 3)).setCell ⟨w.heap.size,1,Ω⟩ (Ψ Ξ (r'.g.new.length:Int))=w6 at y6 D R Y⊢;refine ZW (v:=.agg #[Ψ Ξ 3,Ψ Ξ (r'.g.new.length:Int)]) (by simp[Z4,Tryz.results202,go_sem,ω,y6]) rfl ⟨rfl,D,R,Y⟩
end
section
variable{J:Nat->Prop}
theorem fZ{w:ξ}{b:Nat}{t:Z1}{v0 v1 v2 v3:θ}(h:w.heap[b]?=Θ (ψ #[v0,v1,v2,v3] t (0,0))):w.cell? ⟨b,0,Ω⟩=Θ v0/\w.cell? ⟨b,1,Ω⟩=Θ v1/\w.cell? ⟨b,2,Ω⟩=Θ v2/\w.cell? ⟨b,3,Ω⟩=Θ v3:=by refine⟨?_,?_,?_,?_⟩<;>simp[ω,h]
def Jz(r:Md.RS)(k:Nat):Md.RS:={r with g:={r.g with new:=r.g.new++[(0,ZO k (0,0))]}}
theorem bD.one{w:ξ}{B br b:Nat}{r:Md.RS}(h:bD w B br b r J)(o:Obj):bD (w.alloc o) B br b r (fun j=>J j\/j=w.heap.size):=(h.more.below (af w o)).sub (fun j a=>a.imp id (fun e=>by omega))
theorem JA(w:ξ)(B br b tt k:Nat)(r r':Md.RS)(p q:Int)(hr:bD w B br b r J)(hB:B<=w.heap.size)(hJ:∀j,J j->j<w.heap.size)(ht:r.g.roots[tt]?=Θ (p,q))(hrl:r.g.roots.length<=1000)(hm:Roomy r r')(hz:Aj k)(hk:k<=4)(hl:r'.g.new.length<=1000)(ht':tt<r'.g.roots.length):
 Z7 aD.prog 153 #[Δ (Θ ⟨br,0,Ω⟩),.agg #[Ψ Ξ 0,Ψ Ξ (tt:Int),Ψ Ξ (k:Int),Ψ Ξ 0]] w fun e w'=>e=.returned (.tuple #[])/\bD w' B br b (Md.el (Jz r' k) tt (3,(r'.g.new.length:Int))) J/\μ B w w'/\tc J w w':=by
 have V:=Γ hm;have Y:=Γ hz;have d:=af w (ψ #[Ψ Ξ 0,Ψ Ξ (tt:Int),Ψ Ξ (k:Int),Ψ Ξ 0] 44);have HR:=Γ (hr.one (ψ #[Ψ Ξ 0,Ψ Ξ (tt:Int),Ψ Ξ (k:Int),Ψ Ξ 0] 44));have D:=Γ d;clear hr hm hz;have W:¬((k:Int)<0):=by omega
 have X:¬(4<(k:Int)):=by omega
 go_enter aD.func153,Tryz.ntmps153
 go_wp2_with fail
 ((with_reducible refine(cd _ _).mono ?_))
 rintro e Q ⟨rfl,i⟩;have I:Q.heap[w.heap.size]?=Θ (ψ #[Ψ Ξ 0,Ψ Ξ (tt:Int),Ψ Ξ (k:Int),Ψ Ξ 0] 44 (0,0)):=by rw[i];exact κ w _
 rw[<-i]at HR D d;have C:Q.heap.size=w.heap.size+1:=by rw[i];simp
 clear i;obtain⟨c0,c1,c2,c3⟩:=fZ I
 go_wp2_with fail
 refine(sQ _ B br b r tt p q HR.out ht (by omega)).mono ?_;rintro e Z ⟨rfl,a⟩;have F:=(a.block w.heap.size (by omega)).trans I;have z:=Γ (HR.out.below a);have l:=Γ (d.trans (a.mono d.size));have c:w.heap.size<Z.heap.size:=by have:=a.size;omega
 clear I HR c0 c1 c2 c3 d a D C;obtain⟨c0,c1,c2,c3⟩:=fZ F
 go_wp2_with fail
 rw[show(decide ((k:Int)<0)||decide (4<(k:Int)))=ZX by simp;omega]
 ((with_reducible refine(cd _ _).mono ?_))
 rintro e R ⟨rfl,v⟩;rw[<-v]at z l F c0 c1 c2 c3 c;clear v
 go_wp2_with fail
 have n:∀j,(J j\/j=w.heap.size) ->j<R.heap.size:=by
  intro j f;rcases f with h|h
  ·have:=hJ j h;omega
  ·omega
 have U:((0:Int)==0)=ZL:=rfl
 go_region_held3 (fun x=>x.cell? ⟨w.heap.size,1,Ω⟩=Θ (Ψ Ξ (tt:Int))/\x.cell? ⟨w.heap.size,2,Ω⟩=Θ (Ψ Ξ (k:Int))) ((refine⟨?_,?_⟩<;>(repeat (first|with_reducible assumption|with_reducible refine dO ?_))))
  (first
    |(go_at_call 202;(with_reducible refine(WL _ B br b k r r' (z.out.below (φ _ _).drew) (by simp;omega) (fun j f=>by have:=n j f;simpa using this) V.out Y.out (by omega) hl).mono ?_);rintro e w4 ⟨rfl,t,E,o⟩;have T:=(o w.heap.size (.inr rfl) c).trans F;have P:=Γ t;have s:=Γ E;have y:=Γ o;obtain⟨d0,d1,d2,d3⟩:=fZ T;clear t E o T)
    |(go_at_call 201;(with_reducible refine(afB _ B br b _ tt 3 (r'.g.new.length:Int) P.out ht' (by have:=s.out.size;simp at this;omega)).mono ?_);rintro e w5 ⟨rfl,u,A,m⟩;have S:=(m w.heap.size (.inr rfl) (az d0)).trans (show _=Θ (ψ #[Ψ Ξ 0,Ψ Ξ (tt:Int),Ψ Ξ (k:Int),Ψ Ξ 0] 44 (0,0))from(y.out w.heap.size (.inr rfl) c).trans F);have L:=Γ u;have K:=Γ A;have O:=Γ m;obtain⟨g0,g1,g2,g3⟩:=fZ S;clear u A m S))
 have M:=s.out.size;have eq:=l.out.size;have G:bD w5 B br b (Md.el (Jz r' k) tt (3,(r'.g.new.length:Int))) J:=L.out.sub (fun j f=>.inl f);have H:μ B w w5:=(((l.out.mono hB).trans ((φ B R).drew)).trans s.out).trans K.out;have N:tc J w w5:=fun j f hl=>(O.out j (.inl f) (by have:=n j (.inl f);simp at M;omega)).trans ((y.out j (.inl f) (by have:=n j (.inl f);simpa using this)).trans (l.out.block j hl))
 go_end0;exact⟨rfl,G,H,N⟩
theorem E'(w:ξ)(B br b n:Nat)(r:Md.RS)(g':GH)(p q:Int)(tt:Nat)(hr:bD w B br b r J)(hB:B<=w.heap.size)(hJ:∀j,J j->j<w.heap.size)(ht:r.g.roots[tt]?=Θ (p,q))(hrl:r.g.roots.length<=1000)(N R:Nat)(hsw:Jn r.g N R)(hp:im (Md.iF r.g))(lE:Md.collect .major r.g=Θ (n,g'))(hm:0<=r.fk/\r.fk<=1000)(hm2:0<=r.dA/\r.dA<=100000)(hn:n<=1000):
 Z7 aD.prog 153 #[Δ (Θ ⟨br,0,Ω⟩),.agg #[Ψ Ξ 10,Ψ Ξ (tt:Int),Ψ Ξ 0,Ψ Ξ 0]] w fun e w'=>e=.returned (.tuple #[])/\bD w' B br b (Md.counted r .major n g') J/\μ B w w'/\tc J w w':=by
 have a:=af w (ψ #[Ψ Ξ 10,Ψ Ξ (tt:Int),Ψ Ξ 0,Ψ Ξ 0] 44);have HR:=Γ (hr.below a);have s:=Γ a;have A:=Γ (υ hsw (υ hp lE));clear hr hsw hp lE
 go_enter aD.func153,Tryz.ntmps153
 go_wp2_with fail
 ((with_reducible refine(cd _ _).mono ?_))
 rintro e D ⟨rfl,d⟩;have x:D.heap[w.heap.size]?=Θ (ψ #[Ψ Ξ 10,Ψ Ξ (tt:Int),Ψ Ξ 0,Ψ Ξ 0] 44 (0,0)):=by rw[d];exact κ w _
 rw[<-d]at HR s a;have o:D.heap.size=w.heap.size+1:=by rw[d];simp
 clear d;obtain⟨c0,c1,c2,c3⟩:=fZ x
 go_wp2_with fail
 refine(sQ _ B br b r tt p q HR.out ht (by omega)).mono ?_;rintro e H ⟨rfl,f⟩;have F:=(f.block w.heap.size (by omega)).trans x;have y:=Γ (HR.out.below f);have c:=Γ (a.trans (f.mono a.size));clear x HR c0 c1 c2 c3 a f s o;obtain⟨c0,c1,c2,c3⟩:=fZ F
 go_wp2_with fail
 refine(wN _ B br b n r g' (fun j C=>by have:=hJ j C;have:=c.out.size;omega) N R A.out.1 A.out.2.1 y.out (by have:=c.out.size;omega) A.out.2.2 hm hm2 hn).mono ?_;rintro e G ⟨rfl,t,u,i⟩;have l:=Γ t;have k:=Γ u;have m:=Γ i;clear t u i
 go_wp2_with fail
 ((with_reducible refine(cd _ _).mono ?_))
 rintro e w4 ⟨rfl,h⟩;rw[<-h]at l k m;clear h
 go_wp2_with fail
 have v:μ B w w4:=(c.out.mono hB).trans k.out;have z:tc J w w4:=fun j C E=>(m.out j C (Nat.lt_of_lt_of_le E c.out.size)).trans (c.out.block j E)
 go_end0;exact⟨rfl,l.out,v,z⟩
end
section
variable{k:Int}{B i:Nat}{w:ξ}{vs:List HV}
theorem RC.at_{v:θ}{row:HV->θ}{kind:Int}{cs:List HC}(h:RC w B v (cellsOf row kind cs))(hr:OV w B (row (kind,(i:Int))) vs)(e:cs[i]?=Θ (k,vs)):
 ∃bn m a m',v=η (Θ ⟨bn,0,Ω⟩) cs.length m/\w.cell? ⟨bn,i*2,Ω⟩=Θ (Ψ Ξ k)/\row (kind,(i:Int))=.slice a vs.length m'/\w.cell? ⟨bn,i*2+1,Ω⟩=Θ (.slice a vs.length m'):=by
 have hi:=(ο.1 e).1;obtain⟨g,m,rfl,_,d,_,_,c⟩:=h.cells (by rw[aT];omega);obtain⟨e1,e2⟩:=jx dW (fun v=>Ψ Ξ v.1) (fun v=>v.2) (fun _=>rfl) _ i _ (bH (row:=row) (kind:=kind) e);obtain⟨a,m',b,_⟩:=aF hr;refine⟨g,m,a,m',by rw[aT],c _ _ e1,b,?_⟩;have:=c _ _ e2;dsimp only at this;rw[this,b]
theorem dm.WM{b:Nat}{g:GH}(h:dm w B b g)(e:g.new[i]?=Θ (k,vs)):
 ∃bn m a m',w.cell? ⟨b,0,Ω⟩=Θ (η (Θ ⟨bn,0,Ω⟩) g.new.length m)/\w.cell? ⟨bn,i*2,Ω⟩=Θ (Ψ Ξ k)/\w.cell? ⟨bn,i*2+1,Ω⟩=Θ (.slice a vs.length m'):=by
 obtain⟨n,o,m,row,q,hb,j,p,r,f⟩:=h;obtain⟨c,d⟩:=oi e;have:=f.1 _ c;rw[d]at this;obtain⟨bn,l,a,m',rfl,r1,_,r2⟩:=j.at_ this e;exact⟨bn,l,a,m',by simp[ω,hb],r1,r2⟩
theorem dm.JB{b:Nat}{g:GH}(h:dm w B b g)(e:g.old[i]?=Θ (k,vs)):
 ∃bn m a m',w.cell? ⟨b,1,Ω⟩=Θ (η (Θ ⟨bn,0,Ω⟩) g.old.length m)/\w.cell? ⟨bn,i*2,Ω⟩=Θ (Ψ Ξ k)/\w.cell? ⟨bn,i*2+1,Ω⟩=Θ (.slice a vs.length m'):=by
 obtain⟨n,o,m,row,q,hb,p,f,r,j⟩:=h;obtain⟨c,d⟩:=j6 e;have:=j.1 _ c;rw[d]at this;obtain⟨bn,l,a,m',rfl,r1,_,r2⟩:=f.at_ this e;exact⟨bn,l,a,m',by simp[ω,hb],r1,r2⟩
theorem Fa(w:ξ)(B br b i:Nat)(r:Md.RS){J:Nat->Prop}(k:Int)(vs:List HV)(hr:bD w B br b r J)(e:r.g.new[i]?=Θ (k,vs))(hk:0<=k/\k<=1000)(hv:vs.length<=1000)(hl:r.g.new.length<=1000):
 Z7 aD.prog 154 #[Δ (Θ ⟨br,0,Ω⟩),.agg #[Ψ Ξ 3,Ψ Ξ (i:Int)]] w fun e w'=>e=.returned (.agg #[Ψ Ξ 1,Ψ Ξ (10*k+vs.length)])/\μ w.heap.size w w':=by
 have F:=(ο.1 e).1;obtain⟨f,m,a,S,c0,c1,c2⟩:=hr.2.2.1.own.WM e;obtain⟨p0,_,D⟩:=hr.ptr;have E:=az c0;have o:=az c1;have R:IntKind.i64.wrap (10*k)=10*k:=wrap_small _ (by omega) (by omega);have P:IntKind.i64.wrap (10*k+(vs.length:Int))=10*k+(vs.length:Int):=wrap_small _ (by omega) (by omega);obtain⟨K,j,C⟩:=Ju w (ψ #[Ψ Ξ 3,Ψ Ξ (i:Int)] 50) (ψ #[Ψ Ξ 0,Ψ Ξ 0] 50);have N:((w.alloc (ψ #[Ψ Ξ 3,Ψ Ξ (i:Int)] 50)).alloc (ψ #[Ψ Ξ 0,Ψ Ξ 0] 50)).heap[w.heap.size]?=Θ (ψ #[Ψ Ξ 3,Ψ Ξ (i:Int)] 50 (0,0)):=((af _ _).block _ (by simp)).trans (κ w _)
 go_enter aD.func154,Tryz.ntmps154
 go_wp2_with fail
 refine(jX _ 3 (i:Int) rfl).mono ?_;rintro e q ⟨rfl,d⟩;have y:=d.size;have c:=Γ (j.trans (d.mono j.size));have x0:=(d.block w.heap.size (by omega)).trans N;have x1:=(d.block (w.heap.size+1) (by omega)).trans K;have t:=(c.out.cell (p:=⟨br,0,Ω⟩) D).trans p0;have q1:=(c.out.cell (p:=⟨b,0,Ω⟩) E).trans c0;have s:=(c.out.cell (p:=⟨f,i*2,Ω⟩) o).trans c1;have L:=(c.out.cell (p:=⟨f,i*2+1,Ω⟩) o).trans c2;have z:q.cell? ⟨w.heap.size,0,Ω⟩=Θ (Ψ Ξ 3):=by simp[ω,x0]
 have H:q.cell? ⟨w.heap.size,1,Ω⟩=Θ (Ψ Ξ (i:Int)):=by simp[ω,x0]
 have A:w.heap.size+1<q.heap.size:=by omega
 have U:=Γ x1;clear N K j C c0 c1 c2 p0 d x0 x1 y
 go_wp2_with fail
 go_region_held3 (fun x=>x.cell? ⟨br,0,Ω⟩=Θ (Δ (Θ ⟨b,0,Ω⟩))/\x.cell? ⟨w.heap.size,0,Ω⟩=Θ (Ψ Ξ 3)/\x.cell? ⟨w.heap.size,1,Ω⟩=Θ (Ψ Ξ (i:Int))) ((refine⟨?_,?_,?_⟩<;>(repeat (first|with_reducible assumption|with_reducible refine dO ?_))))
  ((go_at_call 199;(with_reducible refine(zD _ b f r.g.new.length m i (((φ _ _).drew.cell (p:=⟨b,0,Ω⟩) (az q1)).trans q1) F (by omega)).mono ?_);rintro e w4 ⟨rfl,n⟩;have h:μ q.heap.size q w4:=(φ _ _).drew.trans n;have Q:=(h.cell (p:=⟨br,0,Ω⟩) (az t)).trans t;have O:=(h.cell (p:=⟨w.heap.size,0,Ω⟩) (az z)).trans z;have T:=(h.cell (p:=⟨w.heap.size,1,Ω⟩) (az H)).trans H))
 have W:=(h.cell (p:=⟨f,i*2,Ω⟩) (az s)).trans s;have Z:=(h.cell (p:=⟨f,i*2+1,Ω⟩) (az s)).trans L;have x4:=(h.block (w.heap.size+1) A).trans U.out;have Y:w4.cell? ⟨w.heap.size+1,0,Ω⟩=Θ (Ψ Ξ 0):=by simp[ω,x4]
 have m1:w4.cell? ⟨w.heap.size+1,1,Ω⟩=Θ (Ψ Ξ 0):=by simp[ω,x4]
 have V:=cD (i:=0) x4;have X:=cD (i:=1) x4;have u:¬w.heap.size+1=f:=by omega
 have I:=Γ x4;have G:=Γ (c.out.trans (h.mono c.out.size));clear x4 h t q1 s L z H Q O T n
 go_wp2_with fail
 go_region_held3 (fun x=>x.cell? ⟨f,i*2,Ω⟩=Θ (Ψ Ξ k)/\x.cell? ⟨f,i*2+1,Ω⟩=Θ (.slice a vs.length S)) ((refine⟨?_,?_⟩<;>(repeat (first|with_reducible assumption|with_reducible refine dO ?_|with_reducible refine da u ?_)))) (fail)
 go_wp2_with fail
 have M:((w4.setCell ⟨w.heap.size+1,0,Ω⟩ (Ψ Ξ 1)).setCell ⟨w.heap.size+1,1,Ω⟩ (Ψ Ξ (10*k+(vs.length:Int)))).drew.heap[w.heap.size+1]?=_:=aB (aB I.out 0 (Ψ Ξ 1)) 1 (Ψ Ξ (10*k+(vs.length:Int)));have l:μ w.heap.size w ((w4.setCell ⟨w.heap.size+1,0,Ω⟩ (Ψ Ξ 1)).setCell ⟨w.heap.size+1,1,Ω⟩ (Ψ Ξ (10*k+(vs.length:Int)))).drew:=((G.out.setCell (p:=⟨w.heap.size+1,0,Ω⟩) (by simp) (Ψ Ξ 1)).setCell (p:=⟨w.heap.size+1,1,Ω⟩) (by simp) (Ψ Ξ (10*k+(vs.length:Int)))).drew;generalize ((w4.setCell ⟨w.heap.size+1,0,Ω⟩ (Ψ Ξ 1)).setCell ⟨w.heap.size+1,1,Ω⟩ (Ψ Ξ (10*k+(vs.length:Int)))).drew=w5 at M l⊢;refine ZW (v:=.agg #[Ψ Ξ 1,Ψ Ξ (10*k+vs.length)]) (by simp[Z4,Tryz.results154,go_sem,ω,M]) rfl ⟨rfl,l⟩
theorem ve(w:ξ)(B br b i:Nat)(r:Md.RS){J:Nat->Prop}(k:Int)(vs:List HV)(hr:bD w B br b r J)(e:r.g.old[i]?=Θ (k,vs))(hk:0<=k/\k<=1000)(hv:vs.length<=1000)(hl:r.g.old.length<=1000):
 Z7 aD.prog 154 #[Δ (Θ ⟨br,0,Ω⟩),.agg #[Ψ Ξ 4,Ψ Ξ (i:Int)]] w fun e w'=>e=.returned (.agg #[Ψ Ξ 1,Ψ Ξ (10*k+vs.length)])/\μ w.heap.size w w':=by
 have F:=(ο.1 e).1;obtain⟨f,m,a,S,c0,c1,c2⟩:=hr.2.2.1.own.JB e;obtain⟨p0,_,D⟩:=hr.ptr;have E:=az c0;have o:=az c1;have R:IntKind.i64.wrap (10*k)=10*k:=wrap_small _ (by omega) (by omega);have P:IntKind.i64.wrap (10*k+(vs.length:Int))=10*k+(vs.length:Int):=wrap_small _ (by omega) (by omega);obtain⟨K,j,C⟩:=Ju w (ψ #[Ψ Ξ 4,Ψ Ξ (i:Int)] 50) (ψ #[Ψ Ξ 0,Ψ Ξ 0] 50);have N:((w.alloc (ψ #[Ψ Ξ 4,Ψ Ξ (i:Int)] 50)).alloc (ψ #[Ψ Ξ 0,Ψ Ξ 0] 50)).heap[w.heap.size]?=Θ (ψ #[Ψ Ξ 4,Ψ Ξ (i:Int)] 50 (0,0)):=((af _ _).block _ (by simp)).trans (κ w _)
 go_enter aD.func154,Tryz.ntmps154
 go_wp2_with fail
 refine(jX _ 4 (i:Int) rfl).mono ?_;rintro e q ⟨rfl,d⟩;have y:=d.size;have c:=Γ (j.trans (d.mono j.size));have x0:=(d.block w.heap.size (by omega)).trans N;have x1:=(d.block (w.heap.size+1) (by omega)).trans K;have t:=(c.out.cell (p:=⟨br,0,Ω⟩) D).trans p0;have q1:=(c.out.cell (p:=⟨b,1,Ω⟩) E).trans c0;have s:=(c.out.cell (p:=⟨f,i*2,Ω⟩) o).trans c1;have L:=(c.out.cell (p:=⟨f,i*2+1,Ω⟩) o).trans c2;have z:q.cell? ⟨w.heap.size,0,Ω⟩=Θ (Ψ Ξ 4):=by simp[ω,x0]
 have H:q.cell? ⟨w.heap.size,1,Ω⟩=Θ (Ψ Ξ (i:Int)):=by simp[ω,x0]
 have A:w.heap.size+1<q.heap.size:=by omega
 have U:=Γ x1;clear N K j C c0 c1 c2 p0 d x0 x1 y
 go_wp2_with fail
 go_region_held3 (fun x=>x.cell? ⟨br,0,Ω⟩=Θ (Δ (Θ ⟨b,0,Ω⟩))/\x.cell? ⟨w.heap.size,0,Ω⟩=Θ (Ψ Ξ 4)/\x.cell? ⟨w.heap.size,1,Ω⟩=Θ (Ψ Ξ (i:Int))) ((refine⟨?_,?_,?_⟩<;>(repeat (first|with_reducible assumption|with_reducible refine dO ?_))))
  ((go_at_call 199;(with_reducible refine(ol _ b f r.g.old.length m i (((φ _ _).drew.cell (p:=⟨b,1,Ω⟩) (az q1)).trans q1) F (by omega)).mono ?_);rintro e w4 ⟨rfl,n⟩;have h:μ q.heap.size q w4:=(φ _ _).drew.trans n;have Q:=(h.cell (p:=⟨br,0,Ω⟩) (az t)).trans t;have O:=(h.cell (p:=⟨w.heap.size,0,Ω⟩) (az z)).trans z;have T:=(h.cell (p:=⟨w.heap.size,1,Ω⟩) (az H)).trans H))
 have W:=(h.cell (p:=⟨f,i*2,Ω⟩) (az s)).trans s;have Z:=(h.cell (p:=⟨f,i*2+1,Ω⟩) (az s)).trans L;have x4:=(h.block (w.heap.size+1) A).trans U.out;have Y:w4.cell? ⟨w.heap.size+1,0,Ω⟩=Θ (Ψ Ξ 0):=by simp[ω,x4]
 have m1:w4.cell? ⟨w.heap.size+1,1,Ω⟩=Θ (Ψ Ξ 0):=by simp[ω,x4]
 have V:=cD (i:=0) x4;have X:=cD (i:=1) x4;have u:¬w.heap.size+1=f:=by omega
 have I:=Γ x4;have G:=Γ (c.out.trans (h.mono c.out.size));clear x4 h t q1 s L z H Q O T n
 go_wp2_with fail
 go_region_held3 (fun x=>x.cell? ⟨f,i*2,Ω⟩=Θ (Ψ Ξ k)/\x.cell? ⟨f,i*2+1,Ω⟩=Θ (.slice a vs.length S)) ((refine⟨?_,?_⟩<;>(repeat (first|with_reducible assumption|with_reducible refine dO ?_|with_reducible refine da u ?_)))) (fail)
 go_wp2_with fail
 have M:((w4.setCell ⟨w.heap.size+1,0,Ω⟩ (Ψ Ξ 1)).setCell ⟨w.heap.size+1,1,Ω⟩ (Ψ Ξ (10*k+(vs.length:Int)))).drew.heap[w.heap.size+1]?=_:=aB (aB I.out 0 (Ψ Ξ 1)) 1 (Ψ Ξ (10*k+(vs.length:Int)));have l:μ w.heap.size w ((w4.setCell ⟨w.heap.size+1,0,Ω⟩ (Ψ Ξ 1)).setCell ⟨w.heap.size+1,1,Ω⟩ (Ψ Ξ (10*k+(vs.length:Int)))).drew:=((G.out.setCell (p:=⟨w.heap.size+1,0,Ω⟩) (by simp) (Ψ Ξ 1)).setCell (p:=⟨w.heap.size+1,1,Ω⟩) (by simp) (Ψ Ξ (10*k+(vs.length:Int)))).drew;generalize ((w4.setCell ⟨w.heap.size+1,0,Ω⟩ (Ψ Ξ 1)).setCell ⟨w.heap.size+1,1,Ω⟩ (Ψ Ξ (10*k+(vs.length:Int)))).drew=w5 at M l⊢;refine ZW (v:=.agg #[Ψ Ξ 1,Ψ Ξ (10*k+vs.length)]) (by simp[Z4,Tryz.results154,go_sem,ω,M]) rfl ⟨rfl,l⟩
end
theorem nr{w:ξ}{ty:Z1}{B bx:Nat}{v:θ}{l:List HV}{p q:Int}{t:Z1}{fr:Nat×Nat}(h:OV w B v l)(hx:w.heap[bx]?=Θ (ψ #[Ψ Ξ p,Ψ Ξ q] t fr))(hl:l.length<=1000000)(hB:B<=w.heap.size):
 ∃v' w',(ZQ #[23,23] ty #[v,η (Θ ⟨bx,0,Ω⟩) 1 1]).run aD.prog w=.ok v' w'/\(OV w' B v' (l++[(p,q)])/\w.grownBy w' v.ownBlock/\∃g m',v'=η (Θ ⟨g,0,Ω⟩) (l.length+1) m'/\(v.ownBlock=Θ g\/g=w.heap.size)):=by
 obtain⟨k,hi,d,f,c⟩:=info_parts nh;obtain⟨g,e,w',b,n,m,o,r⟩:=run_append_lies (P:=aD.prog) w 23 ty B 50 k _ 2 16 lx hi d f c rfl (by decide) v l.length _ h ⟨bx,0,Ω⟩ 1 1 (lU (p,q)) rfl (fun j u a=>by
  match j,a with
  |0,a=>cases a;simp[ω,hx,ZU]
  |1,a=>cases a;simp[ω,hx,ZU]
  |j+2,a=>simp[lU]at a) (fun u i=>by
  simp[lU]at i;rcases i with rfl|rfl<;>rfl) (by omega) (by unfold maxLen;omega) (by omega) hB _ rfl
 refine⟨_,w',b,?_,m,g,e,rfl,o⟩;unfold OV;rw[ZN,ZM];simpa using n
theorem bD.grown{w w':ξ}{B br b:Nat}{r:Md.RS}{J:Nat->Prop}{row:Option Nat}(h:bD w B br b r J)(hg:w.grownBy w' row)(hJ:∀j,row=Θ j->J j/\∃cur,w.heap[j]?=Θ (.cells cur 50 (0,0))):bD w' B br b r J:=by
 obtain⟨y,s,⟨n,o,m,l,z,hb,v,u,q,i,g5⟩,A⟩:=h;have f:∀{k:Nat} {t:Array θ} {p:Z1} {d:Nat×Nat},w.heap[k]?=Θ (.cells t p d) ->p≠50->w'.heap[k]?=w.heap[k]?:=fun {k t p d} a x=>hg.block k (χ.1 a).1 fun e=>by
  obtain⟨_,cur,hc⟩:=hJ k e.symm;rw[hc]at a;cases a
  exact x rfl
 refine⟨y,(f s (by decide)).trans s,⟨n,o,m,l,z,(f hb (by decide)).trans hb,v.below fun g cur hg=>f hg (by decide),u.below fun g cur hg=>f hg (by decide),aS q fun g c=>?_,⟨fun k a=>aS (i.1 k a) fun g c=>hg.block g ((i.1 k a).lt g c).2 fun e=>(g5 g (hJ g e.symm).1).2 k a c,i.2⟩,g5⟩,A⟩;exact hg.block g (q.lt g c).2 fun e=>by obtain⟨_,cur,hc⟩:=hJ g e.symm;exact cF q hc (by decide) c
theorem bD.JC{w:ξ}{B br b n:Nat}{r:Md.RS}{J:Nat->Prop}{p q:Int}(h:bD w B br b r J)(hn:r.g.roots[n]?=Θ (p,q)):
 ∃gr m,w.cell? ⟨b,2,Ω⟩=Θ (η (Θ ⟨gr,0,Ω⟩) r.g.roots.length m)/\w.cell? ⟨gr,n*2,Ω⟩=Θ (Ψ Ξ p)/\w.cell? ⟨gr,n*2+1,Ω⟩=Θ (Ψ Ξ q)/\∀j,J j->j≠gr:=by
 obtain⟨_,_,⟨D,o,m,row,E,hb,z,y,C,i,k⟩,_⟩:=h;have A:=(ο.1 hn).1;have h0:=i.roots.1;obtain⟨a,t,d,l,s,u⟩:=aF h0;obtain⟨gr,rfl,_,_,c,_⟩:=u (by omega);rw[d]at h0;obtain⟨f,v,_⟩:=h0.at_ hn;exact⟨gr,t,by simp[ω,hb,d],f,v,fun j x e=>(k j x).2 (0,0) (.inl ⟨rfl,by decide,by decide⟩) (by rw[d,e];rw[d]at c;exact c)⟩
abbrev C4:=Int×Nat×Int×Int
def c4V(c:C4):θ:=.agg #[Ψ Ξ c.1,Ψ Ξ (c.2.1:Int),Ψ Ξ c.2.2.1,Ψ Ξ c.2.2.2]
def JD(w:ξ)(P:Nat->Prop)(v:θ)(l:List C4):Prop:=∃a m,v=.slice a l.length m/\(0<l.length->∃b o,a=Θ ⟨b,o,Ω⟩/\P b/\∀(i:Nat) c,l[i]?=Θ c->w.cell? ⟨b,o+i*4,Ω⟩=Θ (Ψ Ξ c.1)/\w.cell? ⟨b,o+i*4+1,Ω⟩=Θ (Ψ Ξ (c.2.1:Int))/\w.cell? ⟨b,o+i*4+2,Ω⟩=Θ (Ψ Ξ c.2.2.1)/\w.cell? ⟨b,o+i*4+3,Ω⟩=Θ (Ψ Ξ c.2.2.2))
def B7(w:ξ)(J:Nat->Prop):Prop:=∀j,J j->∀c t fr,w.heap[j]?=Θ (.cells c t fr) ->t≠3
structure Step(B br b:Nat)(r r':Md.RS)(c:C4)(s:HV):Prop where
 OU:∀(w:ξ) (J:Nat->Prop),bD w B br b r J->B<=w.heap.size->(∀j,J j->j<w.heap.size) ->B7 w J->Z7 aD.prog 153 #[Δ (Θ ⟨br,0,Ω⟩),c4V c] w fun e w'=>e=.returned (.tuple #[])/\bD w' B br b r' J/\μ B w w'/\tc J w w'
 root:∃p q,r'.g.roots[c.2.1]?=Θ (p,q)/\∀(w:ξ) (J:Nat->Prop),bD w B br b r' J->Z7 aD.prog 154 #[Δ (Θ ⟨br,0,Ω⟩),.agg #[Ψ Ξ p,Ψ Ξ q]] w fun e w'=>e=.returned (.agg #[Ψ Ξ s.1,Ψ Ξ s.2])/\μ w.heap.size w w'
 wW:r'.g.roots.length<=1000
theorem afF{l:List C4}{k:Nat}(h:k<l.length):∃c,l[k]?=Θ c:=⟨_,List.getElem?_eq_getElem h⟩
theorem JE(w:ξ)(B br b:Nat)(v:θ)(cs:List C4)(rs:Nat->Md.RS)(sv:List HV){J:Nat->Prop}(hv:JD w (fun j=>j<B\/J j) v cs)(hr:bD w B br b (rs 0) J)(hB:B<=w.heap.size)(hJ:∀j,J j->j<w.heap.size)(hJ3:B7 w J)(hl:cs.length<=1000)(hsl:sv.length=cs.length)
 (hst:∀(i:Nat) c s,cs[i]?=Θ c->sv[i]?=Θ s->Step B br b (rs i) (rs (i+1)) c s):
 Z7 aD.prog 94 #[Δ (Θ ⟨br,0,Ω⟩),v] w fun e w'=>(∃rv,e=.returned rv/\OV w' B rv sv)/\bD w' B br b (rs cs.length) J/\μ B w w'/\tc J w w':=by
 obtain⟨la,lm,rfl,L⟩:=hv;have anL:=Γ L;have HST:=Γ hst;have HR:=Γ hr;clear L hst hr
 go_enter aD.func94,Tryz.ntmps94
 go_wp2_with fail
 go_loopw [5,10] (fun o i wr=>∃(k:Nat),k<=cs.length/\i=Ψ Ξ k/\Hid (OV wr w.heap.size o (sv.take k)/\bD wr B br b (rs k) (fun j=>J j\/o.ownBlock=Θ j)/\μ B w wr/\tc J w wr)) (fun _ i _=>cs.length-(intOf i).toNat)
 case atStart=>exact⟨0,by omega,rfl,Γ ⟨OV.nil _ _,HR.out.sub (fun j f=>f.elim id (fun e=>by cases e)),φ _ _,fun _ _ _=>rfl⟩⟩
 case round=>
  obtain⟨k,hk,rfl,a⟩:=hrel;by_cases hlt:k<cs.length
  ·obtain⟨U,lo,rfl,hlb,hat⟩:=anL.out (by omega);obtain⟨⟨c0,c1,c2,c3⟩,hc⟩:=afF hlt;obtain⟨s0,s1,hs⟩:=ep (l:=sv) (k:=k) (by omega);have C:=Γ (HST.out k _ _ hc hs);obtain⟨q0,q1,q2,q3⟩:=hat k _ hc;have Q:=a.out.2.2.1;have I:wr.heap[U]?=w.heap[U]?:=by
    rcases hlb with h|h
    ·exact Q.block U h
    ·exact a.out.2.2.2 U h (az q0)
   have d:∀o,wr.cell? ⟨U,o,Ω⟩=w.cell? ⟨U,o,Ω⟩:=fun o=>by simp only[ω,I]
   replace q0:=(d _).trans q0;replace q1:=(d _).trans q1;replace q2:=(d _).trans q2;replace q3:=(d _).trans q3;clear I d;dsimp only at q0 q1 q2 q3;have hsw:=Q.size;have S:=(a.out.2.1.ptr).2.1;have hk0:(0:Int)<=(k:Int):=by omega
   have hk1:(k:Int)<(cs.length:Int):=by omega
   have HC:=Γ hc;clear hat Q hc
   go_wp2_with fail
   have HDO:=Γ (show ∀(W:ξ) (J':Nat->Prop),bD W B br b (rs k) J'->B<=W.heap.size->(∀j,J' j->j<W.heap.size) ->B7 W J'->Z7 aD.prog 153 #[Δ (Θ ⟨br,0,Ω⟩),.agg #[Ψ Ξ c0,Ψ Ξ (c1:Int),Ψ Ξ c2,Ψ Ξ c3]] W fun e w'=>e=.returned (.tuple #[])/\bD w' B br b (rs (k+1)) J'/\μ B W w'/\tc J' W w' from C.out.OU);have y:=af wr (ψ #[Ψ Ξ c0,Ψ Ξ (c1:Int),Ψ Ξ c2,Ψ Ξ c3] 44);have E:=a.out.2.1.one (ψ #[Ψ Ξ c0,Ψ Ξ (c1:Int),Ψ Ξ c2,Ψ Ξ c3] 44);have y1:=κ wr (ψ #[Ψ Ξ c0,Ψ Ξ (c1:Int),Ψ Ξ c2,Ψ Ξ c3] 44);have hz1:(wr.alloc (ψ #[Ψ Ξ c0,Ψ Ξ (c1:Int),Ψ Ξ c2,Ψ Ξ c3] 44)).heap.size=wr.heap.size+1:=by simp
   have p5:=(y.cell (p:=⟨br,5,Ω⟩) (az S)).trans S;clear q0 q1 q2 q3 S;generalize (wr.alloc (ψ #[Ψ Ξ c0,Ψ Ξ (c1:Int),Ψ Ξ c2,Ψ Ξ c3] 44))=w1 at y E y1 hz1 p5⊢;have D:=Γ (υ y (υ E y1));obtain⟨x0,x1,x2,x3⟩:=fZ y1;have r:=a.out.1;have hJ1:∀j,((J j\/u5.ownBlock=Θ j)\/j=wr.heap.size) ->j<w1.heap.size:=by
    intro j f;rcases f with(h|h)|h
    ·have:=hJ j h;omega
    ·have:=(r.lt j h).2;omega
    ·omega
   have R:=Γ hJ1;have H3:=Γ (show B7 w1.drew (fun j=>(J j\/u5.ownBlock=Θ j)\/j=wr.heap.size)from fun j f c t fr hc=>by
    rcases f with(h|h)|h
    ·have:=hJ j h;exact hJ3 j h c t fr ((a.out.2.2.2 j h this).symm.trans ((y.block j (by omega)).symm.trans hc))
    ·obtain⟨cur,anM⟩:=r.block h;have F:=(y.block j (r.lt j h).2).trans anM;have P:Θ (ψ cur 50 (0,0))=Θ (ψ c t fr):=F.symm.trans hc;cases P
     decide
    ·subst h;have P:Θ (ψ _ 44 (0,0))=Θ (ψ c t fr):=y1.symm.trans hc;cases P
     decide)
   clear y E y1 r hJ1
   go_region_held3 (fun x=>x.cell? ⟨br,5,Ω⟩=Θ (.func (.func 153) #[Δ (Θ ⟨br,0,Ω⟩)] #[])/\x.cell? ⟨wr.heap.size,0,Ω⟩=Θ (Ψ Ξ c0)/\x.cell? ⟨wr.heap.size,1,Ω⟩=Θ (Ψ Ξ (c1:Int))/\x.cell? ⟨wr.heap.size,2,Ω⟩=Θ (Ψ Ξ c2)/\x.cell? ⟨wr.heap.size,3,Ω⟩=Θ (Ψ Ξ c3)) ((refine⟨?_,?_,?_,?_,?_⟩<;>(repeat (first|with_reducible assumption|with_reducible refine dO ?_))))
    ((go_at_call 153;(with_reducible refine(HDO.out _ _ (D.out.2.1.below (φ _ _).drew) (by simp;omega) (fun j f=>by have:=R.out j f;simpa using this) H3.out).mono ?_);rintro e w2 ⟨rfl,M,hb2,O⟩;have y2:=(O wr.heap.size (.inr rfl) (by simp;omega)).trans (show _=Θ (ψ #[Ψ Ξ c0,Ψ Ξ (c1:Int),Ψ Ξ c2,Ψ Ξ c3] 44 (0,0))from D.out.2.2);have hp2:=M.ptr.2.1;obtain⟨x0,x1,x2,x3⟩:=fZ y2;have u:=Γ M;have HB2:=Γ hb2;have HF2:=Γ O;clear M hb2 O y2))
   go_wp2_with fail
   obtain⟨p,q,m,G⟩:=C.out.root;dsimp only at m;have hfew:=C.out.wW;have ar7:=(ο.1 m).1;have anN:=Γ G;obtain⟨gr,gm,z2,z3,z,hjg⟩:=u.out.JC m;have z1:=u.out.ptr.1;have X:=az z1;have anO:=az z2;have H:=az z3;have Z:=az x1;have eq:=HB2.out.size;have A:OV w2 w.heap.size u5 (sv.take k):=aS (a.out.1.below D.out.1) fun g hg=>HF2.out g (.inl (.inr hg)) (by have:=R.out g (.inl (.inr hg));simpa using this)
   have HO2:=Γ A;have n1:Θ br≠u5.ownBlock:=fun e=>by have:=u.out.2.2.2 br (.inl (.inr e.symm));exact this rfl
   have n2:Θ b≠u5.ownBlock:=fun e=>by have:=u.out.2.2.1.ne (j:=b) (.inl (.inr e.symm));exact this rfl
   have n3:Θ gr≠u5.ownBlock:=fun e=>hjg gr (.inl (.inr e.symm)) rfl
   have n4:Θ wr.heap.size≠u5.ownBlock:=fun e=>by have:=(a.out.1.lt _ e.symm).2;omega
   have HN:=Γ (υ n1 (υ n2 (υ n3 n4)));have hr0:(0:Int)<=(c1:Int):=by omega
   have E:(c1:Int)<((rs (k+1)).g.roots.length:Int):=by omega
   clear G m hjg A n1 n2 n3 n4 x0 x2 x3;have Y:=Γ (υ z1 (υ z2 (υ z3 (υ z x1))))
   go_region_held_law (fun x=>x.cell? ⟨br,0,Ω⟩=Θ (Δ (Θ ⟨b,0,Ω⟩))/\x.cell? ⟨b,2,Ω⟩=Θ (η (Θ ⟨gr,0,Ω⟩) (rs (k+1)).g.roots.length gm)/\x.cell? ⟨gr,c1*2,Ω⟩=Θ (Ψ Ξ p)/\x.cell? ⟨gr,c1*2+1,Ω⟩=Θ (Ψ Ξ q)/\x.cell? ⟨wr.heap.size,1,Ω⟩=Θ (Ψ Ξ (c1:Int)))
    ((refine⟨?_,?_,?_,?_,?_⟩<;>(repeat (first|with_reducible assumption|with_reducible refine dO ?_|with_reducible refine dB ?_))))
    (first
      |(refine aX rfl _ _ 23 (by rfl) u5 (η (Θ ⟨w4.heap.size,0,Ω⟩) 1 1) (by rfl) (by rfl) _ (nr (B:=w.heap.size) (p:=s0) (q:=s1) (l:=sv.take k) (N.out.below (af w4 _)) (κ w4 _) (by simp;omega) (by simp;omega)) ?_;intro v' w5 h5;obtain⟨V,n,gg,mg,rfl,K⟩:=h5;have g1:=(n.cell_far ⟨br,0,Ω⟩ (by simp;omega) HN.out.1).trans (dB k1);have g2:=(n.cell_far ⟨b,2,Ω⟩ (by simp;omega) HN.out.2.1).trans (dB k2);have g3:=(n.cell_far ⟨gr,c1*2,Ω⟩ (by simp;omega) HN.out.2.2.1).trans (dB k3);have g4:=(n.cell_far ⟨gr,c1*2+1,Ω⟩ (by simp;omega) HN.out.2.2.1).trans (dB k4);have g5:=(n.cell_far ⟨wr.heap.size,1,Ω⟩ (by simp;omega) HN.out.2.2.2).trans (dB k5))
      |(go_at_call 154;(with_reducible refine(anN.out _ _ (u.out.below (φ _ _).drew)).mono ?_);rintro e w4 ⟨rfl,hb4⟩;have z:μ w2.heap.size w2 w4:=(φ _ _).drew.trans hb4;have hs4:=z.size;have k1:=(z.cell (p:=⟨br,0,Ω⟩) X).trans Y.out.1;have k2:=(z.cell (p:=⟨b,2,Ω⟩) anO).trans Y.out.2.1;have k3:=(z.cell (p:=⟨gr,c1*2,Ω⟩) H).trans Y.out.2.2.1;have k4:=(z.cell (p:=⟨gr,c1*2+1,Ω⟩) H).trans Y.out.2.2.2.1;have k5:=(z.cell (p:=⟨wr.heap.size,1,Ω⟩) Z).trans Y.out.2.2.2.2;have N:=Γ (HO2.out.below z)))
   have HF:=Γ (υ V (υ n K));have T:=Γ z;clear g1 g2 g3 g4 g5 k1 k2 k3 k4 k5 z1 z2 z3 z x1 V n K
   go_wp2_with fail
   go_roundw
   case rel=>
    refine⟨k+1,by omega,by go_num,Γ ⟨?_,?_,?_,?_⟩⟩
    ·rw[bW hs];have F:=HF.out.1;rw[show(List.take k sv).length=k by simp;omega]at F;exact F
    ·refine(((u.out.below T.out).more.below (af w4 _)).grown HF.out.2.1 (fun j f=>⟨.inl (.inl (.inr f)),(N.out.below (af w4 _)).block f⟩)).sub (fun j f=>?_);rcases f with f|f
     ·exact .inl (.inl (.inl f))
     ·have hgj:gg=j:=by have hj':Θ gg=Θ j:=f;exact Option.some.inj hj'
      subst hgj;rcases HF.out.2.2 with e|e
      ·exact .inl (.inl (.inr e))
      ·exact .inr (by rw[e];simp)
    ·exact((((a.out.2.2.1.trans (D.out.1.mono (by omega))).trans ((φ B w1).drew)).trans HB2.out).trans (T.out.mono (by simp at eq;omega))).trans (((af w4 _).mono (by simp at eq;omega)).trans (cM (N.out.below (af w4 _)) HF.out.2.1 (by simp;omega)|>.mono hB))
    ·intro j f hl;have F:Θ j≠u5.ownBlock:=fun e=>by have:=(a.out.1.lt _ e.symm).1;omega
     have P:=R.out j (.inl (.inl f));simp at eq;exact(HF.out.2.1.block j (by simp;omega) F).trans (((af w4 _).block j (by omega)).trans ((T.out.block j (by omega)).trans ((HF2.out j (.inl (.inl f)) (by simpa using P)).trans ((D.out.1.block j (by omega)).trans (a.out.2.2.2 j f hl)))))
   case measure=>simp[intOf];omega
  ·have hke:k=cs.length:=by omega
   subst hke
   go_wp2_with fail
   obtain⟨F,P,h3,h4⟩:=a.out;rw[<-hsl,List.take_length]at F;go_ret;exact⟨⟨_,rfl,F.less hB⟩,P.sub (fun j f=>.inl f),h3,h4⟩
theorem Fb(w:ξ)(B br b:Nat)(v:θ)(c:C4)(r:Md.RS)(ch:List PanicEntry){J:Nat->Prop}(hv:JD w (fun _=>True) v [c])(hr:bD w B br b r J)(hB:B<=w.heap.size)
 (hst:∀(w:ξ),bD w B br b r J->B<=w.heap.size->Z7 aD.prog 153 #[Δ (Θ ⟨br,0,Ω⟩),c4V c] w fun e w'=>e=.panicked ch/\μ B w w'):
 Z7 aD.prog 94 #[Δ (Θ ⟨br,0,Ω⟩),v] w fun e w'=>e=.panicked ch/\μ B w w':=by
 obtain⟨la,y,rfl,d⟩:=hv;obtain⟨x,lo,rfl,_,i⟩:=d (by simp);obtain⟨c0,c1,c2,c3⟩:=c;obtain⟨l,q1,o,m⟩:=i 0 _ rfl;dsimp only at l q1 o m;rw[Nat.zero_mul,Nat.add_zero]at l q1 o m;have q:=Γ (show ∀(w:ξ),bD w B br b r J->B<=w.heap.size->Z7 aD.prog 153 #[Δ (Θ ⟨br,0,Ω⟩),.agg #[Ψ Ξ c0,Ψ Ξ (c1:Int),Ψ Ξ c2,Ψ Ξ c3]] w fun e w'=>e=.panicked ch/\μ B w w' from hst);have f:=hr.ptr.2.1;have HR:=Γ hr;clear d i hst hr
 go_enter aD.func94,Tryz.ntmps94
 go_wp2_with fail
 refine ZS 1 ?_;rw[ZK]
 go_wp2_with fail
 have a:=af w (ψ #[Ψ Ξ c0,Ψ Ξ (c1:Int),Ψ Ξ c2,Ψ Ξ c3] 44);have g:=HR.out.below a;have j:=κ w (ψ #[Ψ Ξ c0,Ψ Ξ (c1:Int),Ψ Ξ c2,Ψ Ξ c3] 44);have s:=(a.cell (p:=⟨br,5,Ω⟩) (az f)).trans f;clear l q1 o m f;generalize (w.alloc (ψ #[Ψ Ξ c0,Ψ Ξ (c1:Int),Ψ Ξ c2,Ψ Ξ c3] 44))=t at a g j s⊢;obtain⟨x0,x1,x2,x3⟩:=fZ j;have k:=Γ g;have h:=Γ a;clear g j a
 go_still_tail 5,(by kernel_rfl)
 change wpList _ _ _ _ _ (World.drew _)
 go_wp2_with fail
 refine(q.out _ (k.out.below (φ _ _).drew) (by have:=h.out.size;simp;omega)).mono ?_;rintro e u ⟨rfl,n⟩;exact⟨rfl,rfl,((h.out.mono hB).trans ((φ B t).drew)).trans n⟩
theorem JF(w:ξ)(a:Option ZC)(m:Nat)(n:Int):Z7 aD.prog 233 #[.slice a 0 m,Ψ Ξ n] w fun e w'=>e=.returned (.tuple #[Ψ Ξ 0,.bool ZX])/\w'=w:=by
 go_enter aD.func233,Tryz.ntmps233
 go_wp2_with fail
 refine ZS 1 ?_;rw[ZK]
 go_wp2_with fail
 exact ZW (v:=.tuple #[Ψ Ξ 0,.bool ZX]) (by simp[Z4,Tryz.results233,go_sem]) rfl ⟨rfl,rfl⟩
theorem B8{w:ξ}{ty:Z1}{B bx:Nat}{v:θ}{l:List Int}{p:Int}{t:Z1}{fr:Nat×Nat}(h:OI w B v l)(hx:w.heap[bx]?=Θ (ψ #[Ψ Ξ p] t fr))(hl:l.length<=1000000)(hB:B<=w.heap.size):
 ∃v' w',(ZQ #[24,24] ty #[v,η (Θ ⟨bx,0,Ω⟩) 1 1]).run aD.prog w=.ok v' w'/\(OI w' B v' (l++[p])/\w.grownBy w' v.ownBlock/\∃g m',v'=η (Θ ⟨g,0,Ω⟩) (l.length+1) m'/\(v.ownBlock=Θ g\/g=w.heap.size)):=by
 obtain⟨k,hi,d,f,c⟩:=info_parts Dq;obtain⟨g,e,w',a,n,m,o,q⟩:=run_append_lies (P:=aD.prog) w 24 ty B 3 k _ 1 8 se hi d f c rfl (by decide) v l.length _ h ⟨bx,0,Ω⟩ 1 1 (eP p) rfl (fun j u b=>by
  match j,b with
  |0,b=>cases b;simp[ω,hx,ZU]
  |j+1,b=>simp[eP]at b) (fun u i=>by
  simp[eP]at i;subst i;rfl) (by omega) (by unfold maxLen;omega) (by omega) hB _ rfl
 refine⟨_,w',a,?_,m,g,e,rfl,o⟩;unfold OI;rw[ZN,ZM];simpa using n
theorem JG(w:ξ)(B bx m:Nat)(a:Option ZC)(n:Int){t:Z1}{fr:Nat×Nat}(h:OI w B (.slice a 0 m) [])(hx:w.heap[bx]?=Θ (ψ #[Ψ Ξ n] t fr))(hB:B<=w.heap.size):
 Z7 aD.prog 234 #[.slice a 0 m,Ψ Ξ 0,η (Θ ⟨bx,0,Ω⟩) 1 1] w fun e w'=>∃g m',e=.returned (η (Θ ⟨g,0,Ω⟩) 1 m')/\OI w' B (η (Θ ⟨g,0,Ω⟩) 1 m') [n]/\w.grownBy w' (η a 0 m).ownBlock/\((η a 0 m).ownBlock=Θ g\/g=w.heap.size):=by
 have k:=Γ h;have o:=Γ hx;clear h hx
 go_enter aD.func234,Tryz.ntmps234
 go_wp2_with (refine wpList_step (fun K f=>aX rfl (.tmp 23) (.tmp 24) 24 (by rfl) (.slice a 0 m) (η (Θ ⟨bx,0,Ω⟩) 1 1) (by rfl) (by rfl) _ (B8 (B:=B) (p:=n) k.out o.out (by simp) hB) ?_);intro q w5 l;obtain⟨c,d,j,i,rfl,b⟩:=l;refine f _ _ ?_;clear f K)
 go_ret;exact⟨j,i,rfl,c,d,b⟩
section
variable{g:GH}{B b:Nat}{w:ξ}{J:Nat->Prop}
def wR(g:GH)(n:Nat)(k:Int)(vs:List HV):GH:={g with old:=g.old.set n (k,vs)}
theorem Ak{row:HV->θ}{kind k:Int}{cs:List HC}{n:Nat}{vs vs':List HV}(h:cs[n]?=Θ (k,vs)):cellsOf row kind (cs.set n (k,vs'))=cellsOf row kind cs:=by
 apply List.ext_getElem?;intro i;have b:=(ο.1 h).1;by_cases hi:i<cs.length
 ·obtain⟨p,q,e⟩:=cQ hi;rw[bH e];by_cases a:n=i
  ·subst a;rw[h]at e;cases e
   rw[bH (c:=(k,vs')) (by rw[List.getElem?_set_self b])]
  ·rw[bH (c:=(p,q)) (by rw[ZD a];exact e)]
 ·rw[ZY (by simp[aT];omega),ZY (by simp[aT];omega)]
theorem cR.WN{n pl:Nat}{k:Int}{vs:List HV}(h:cR w B b g J)(e:g.old[n]?=Θ (k,vs))(hp:pl<vs.length)(x:HV):
 ∃bn mo rb m' p q,w.cell? ⟨b,1,Ω⟩=Θ (η (Θ ⟨bn,0,Ω⟩) g.old.length mo)/\w.cell? ⟨bn,n*2,Ω⟩=Θ (Ψ Ξ k)/\w.cell? ⟨bn,n*2+1,Ω⟩=Θ (η (Θ ⟨rb,0,Ω⟩) vs.length m')/\
  w.cell? ⟨rb,pl*2,Ω⟩=Θ (Ψ Ξ p)/\w.cell? ⟨rb,pl*2+1,Ω⟩=Θ (Ψ Ξ q)/\(∀i,w.frozen? ⟨rb,i,Ω⟩=ZX)/\B<=rb/\(∃cur,w.heap[rb]?=Θ (.cells cur 50 (0,0)))/\(∀j,J j->j≠rb)/\
  cR ((w.setCell ⟨rb,pl*2,Ω⟩ (Ψ Ξ x.1)).setCell ⟨rb,pl*2+1,Ω⟩ (Ψ Ξ x.2)) B b (wR g n k (vs.set pl x)) J:=by
 obtain⟨V,o,m,row,S,hb,I,D,r,E,F⟩:=h;obtain⟨s,z⟩:=j6 e;have h0:=E.1 _ s;replace z:bd g (4,(n:Int))=vs:=z;rw[z]at h0;obtain⟨bn,mo,a,m',rfl,r1,f,r2⟩:=D.at_ h0 e;obtain⟨T,U,l,K,L,N⟩:=aF h0;obtain⟨rb,rfl,_,_,d,_⟩:=N (by omega);rw[l]at h0 d;rw[l]at f;cases f
 obtain⟨p,q,u⟩:=ep hp;obtain⟨H,P,R,Q,_⟩:=h0.at_ u;have O:=(ο.1 e).1;refine⟨bn,mo,rb,m',p,q,by simp[ω,hb],r1,r2,H,P,R,Q,h0.block d,fun j A M=>(F j A).2 _ s (by rw[l,M];exact d),?_⟩;refine cR.upd (gk:=rb) (k:=(4,(n:Int))) S hb I D r E F s (by rw[l];exact d) (fun j A=>cr A) ?_ ?_ ?_ rfl (by exact Ak e) rfl
 ·rw[l];have:bd (wR g n k (vs.set pl x)) (4,(n:Int))=vs.set pl x:=by simp[bd,cellAt,wR,ZF,O]
  rw[this];exact h0.set hp
 ·rintro⟨a,c⟩ h;simpa[IsKey,wR]using h
 ·rintro⟨a,c⟩ t G;simp only[bd,cellAt,wR];by_cases C:a=0
  ·simp[C]
  ·by_cases r:a=3
   ·simp[r]
   ·have y:a=4/\0<=c:=by
     rcases G with⟨e1,_⟩|⟨e1,_⟩|⟨e1,e2,_⟩
     ·exact absurd e1 C
     ·exact absurd e1 r
     ·exact⟨e1,e2⟩
    have v:n≠c.toNat:=fun e=>t (by rw[y.1,e];congr 1;omega)
    simp[C,r,ZF,ZD v]
theorem cR.marks{w2:ξ}{v v':θ}{l:List Int}(h:cR w B b g J)(hm:w.cell? ⟨b,5,Ω⟩=Θ v)(hg:w.grownBy w2 v.ownBlock)(hv:OI w2 B v' l):
 cR (w2.setCell ⟨b,5,Ω⟩ v') B b {g with marked:=l} J:=by
 obtain⟨n,o,m,row,E,hb,z,y,D,r,A⟩:=h;have e:v=m:=by simp[ω,hb]at hm;exact hm.symm
 subst e;have u:∀{k:Nat} {i:Array θ} {d:Z1} {c:Nat×Nat},w.heap[k]?=Θ (.cells i d c) ->d≠3->w2.heap[k]?=w.heap[k]?:=fun {k i d c} a t=>hg.block k (χ.1 a).1 fun q=>cF D a t q.symm
 have p:=(u hb (by decide)).trans hb;have f:∀k:Nat,k≠b->(w2.setCell ⟨b,5,Ω⟩ v').heap[k]?=w2.heap[k]?:=fun k h=>aq h
 have wl:∀{k:Nat} {i:Array θ} {d:Z1} {c:Nat×Nat},w.heap[k]?=Θ (.cells i d c) ->d≠3->d≠114->(w2.setCell ⟨b,5,Ω⟩ v').heap[k]?=w.heap[k]?:=fun {k i d c} a t C=>(f k fun q=>by
  subst q;rw[hb]at a;cases a
  exact C rfl).trans (u a t)
 refine⟨n,o,v',row,E,by rw[aB p];rfl,z.below fun g j hg=>wl hg (by decide) (by decide),y.below fun g j hg=>wl hg (by decide) (by decide),bp hv p (by decide) f,⟨fun k x=>aS (r.1 k x) fun g s=>?_,r.2⟩,A⟩;obtain⟨j,hc⟩:=(r.1 k x).block s;exact wl hc (by decide) (by decide)
theorem dm.OW(h:dm w B b g):∃a m,w.cell? ⟨b,5,Ω⟩=Θ (.slice a g.marked.length m)/\OI w B (.slice a g.marked.length m) g.marked:=by obtain⟨n,o,m,row,k,hb,j,f,c,i⟩:=h;obtain⟨a,d,e,_⟩:=aF c;rw[e]at c;exact⟨a,d,by simp[ω,hb,e],c⟩
theorem Fc(w:ξ)(x:Int):Z7 aD.prog 151 #[.agg #[Ψ Ξ 3,Ψ Ξ x]] w fun e w'=>e=.returned (.bool ZL)/\μ w.heap.size w w':=wd w (3,x)
def gN(J:Nat->Prop)(B br b:Nat)(r:Md.RS)(n pl:Nat)(vs:List HV)(x:Int)(w:ξ)(e:Ending)(w':ξ):Prop:=
 if pl<vs.length then e=.returned (.tuple #[])/\bD w' B br b {r with g:={wR r.g n 0 (vs.set pl (3,x))with marked:=[(n:Int)]}} J/\μ B w w'/\tc J w w'
 else e=.panicked (gK 9)/\μ B w w'
theorem JH(w:ξ)(B br b rt n pl:Nat)(r:Md.RS)(vs:List HV)(x:Int)(hr:bD w B br b r J)(hB:B<=w.heap.size)(hJ:∀j,J j->j<w.heap.size)(hJ3:B7 w J)(ht:r.g.roots[rt]?=Θ (4,(n:Int)))(he:r.g.old[n]?=Θ (0,vs))(hrl:r.g.roots.length<=1000)(hol:r.g.old.length<=1000)(hvl:vs.length<=1000)(hpl:pl<=1000)(hmk:pl<vs.length->r.g.marked=[]):
 Z7 aD.prog 204 #[Δ (Θ ⟨br,0,Ω⟩),Ψ Ξ (rt:Int),.agg #[Ψ Ξ 3,Ψ Ξ x],Ψ Ξ (pl:Int)] w (gN J B br b r n pl vs x w):=by
 have ar9:=(ο.1 ht).1;have hnl:=(ο.1 he).1;obtain⟨gr,gm,E,z3,z4,hjg⟩:=hr.JC ht;obtain⟨p0,_,hbr⟩:=hr.ptr;have A:=af w (ψ #[Ψ Ξ 3,Ψ Ξ x] 50);have p1:=(A.cell (p:=⟨br,0,Ω⟩) hbr).trans p0;have p2:=(A.cell (p:=⟨b,2,Ω⟩) (az E)).trans E;have p3:=(A.cell (p:=⟨gr,rt*2,Ω⟩) (az z3)).trans z3;have p4:=(A.cell (p:=⟨gr,rt*2+1,Ω⟩) (az z3)).trans z4;have hr0:(0:Int)<=(rt:Int):=by omega
 have hr1:(rt:Int)<(r.g.roots.length:Int):=by omega
 have hrp:=p0;have HR:=Γ hr;have HH:=Γ (υ ht (υ he hmk));obtain⟨C,mo,va,vm,o1,o2,o3⟩:=hr.2.2.1.own.JB he;clear hr ht he hmk E z3 z4 p0 hjg
 go_enter aD.func204,Tryz.ntmps204
 go_wp2_with fail
 clear p1 p2 p3 p4 A;obtain⟨y1,y,hz2⟩:=Ju w (ψ #[Ψ Ξ 3,Ψ Ξ x] 50) (ψ #[Ψ Ξ 4,Ψ Ξ (n:Int)] 50);have y0:((w.alloc (ψ #[Ψ Ξ 3,Ψ Ξ x] 50)).alloc (ψ #[Ψ Ξ 4,Ψ Ξ (n:Int)] 50)).heap[w.heap.size]?=Θ (ψ #[Ψ Ξ 3,Ψ Ξ x] 50 (0,0)):=((af _ _).block _ (by simp)).trans (κ w _);generalize ((w.alloc (ψ #[Ψ Ξ 3,Ψ Ξ x] 50)).alloc (ψ #[Ψ Ξ 4,Ψ Ξ (n:Int)] 50))=Z at y0 y1 y hz2⊢;have s0:Z.cell? ⟨w.heap.size+1,0,Ω⟩=Θ (Ψ Ξ 4):=by simp[ω,y1]
 have s1:Z.cell? ⟨w.heap.size+1,1,Ω⟩=Θ (Ψ Ξ (n:Int)):=by simp[ω,y1]
 have s2:=(y.cell (p:=⟨br,0,Ω⟩) hbr).trans (hrp);have s3:=(y.cell (p:=⟨C,n*2,Ω⟩) (az o2)).trans o2;have s4:=(y.cell (p:=⟨C,n*2+1,Ω⟩) (az o2)).trans o3;have s5:=(y.cell (p:=⟨b,1,Ω⟩) (az o1)).trans o1;have o:=az s0;have hl2:=az s2;have D:=az s3;have hl5:=az s5;have Y:=Γ (υ y (υ y0 y1));clear o1 o2 o3 y0 y1 y;have asb:((0:Int) !=0)=ZX:=rfl
 go_region_held3 (fun x=>x.cell? ⟨w.heap.size+1,0,Ω⟩=Θ (Ψ Ξ 4)/\x.cell? ⟨w.heap.size+1,1,Ω⟩=Θ (Ψ Ξ (n:Int))/\x.cell? ⟨br,0,Ω⟩=Θ (Δ (Θ ⟨b,0,Ω⟩))/\x.cell? ⟨C,n*2,Ω⟩=Θ (Ψ Ξ 0)/\x.cell? ⟨C,n*2+1,Ω⟩=Θ (.slice va vs.length vm)) ((refine⟨?_,?_,?_,?_,?_⟩<;>(repeat (first|with_reducible assumption|with_reducible refine dO ?_))))
  (first
    |(go_at_call 168;(with_reducible refine(jX _ 4 (n:Int) rfl).mono ?_);rintro e w2 ⟨rfl,hb3⟩;have E:μ Z.heap.size Z w2:=(φ _ _).drew.trans hb3;have k0:=(E.cell (p:=⟨w.heap.size+1,0,Ω⟩) o).trans s0;have U:=(E.cell (p:=⟨w.heap.size+1,1,Ω⟩) o).trans s1;have R:=(E.cell (p:=⟨br,0,Ω⟩) hl2).trans s2;have k3:=(E.cell (p:=⟨C,n*2,Ω⟩) D).trans s3;have k4:=(E.cell (p:=⟨C,n*2+1,Ω⟩) D).trans s4;have k5:=(E.cell (p:=⟨b,1,Ω⟩) hl5).trans s5)
    |(go_at_call 199;(with_reducible refine(ol _ b C r.g.old.length mo n k5 hnl (by omega)).mono ?_);rintro e w3 ⟨rfl,hb4⟩;have z3:μ Z.heap.size Z w3:=E.trans (hb4.mono E.size);have m0:=(z3.cell (p:=⟨w.heap.size+1,0,Ω⟩) o).trans s0;have m1:=(z3.cell (p:=⟨w.heap.size+1,1,Ω⟩) o).trans s1;have m2:=(z3.cell (p:=⟨br,0,Ω⟩) hl2).trans s2;have m3:=(z3.cell (p:=⟨C,n*2,Ω⟩) D).trans s3;have m4:=(z3.cell (p:=⟨C,n*2+1,Ω⟩) D).trans s4;have m5:=(z3.cell (p:=⟨b,1,Ω⟩) hl5).trans s5)
    |(go_at_call 84;(with_reducible refine(cd _ _).mono ?_);rintro e w4 ⟨rfl,hw4⟩;rw[<-hw4]at z3 m0 m1 m2 m3 m4 m5;clear hw4))
 clear k0 U R k3 k4 k5 E hb3 hb4
 go_wp2_with fail
 have e5:=(((φ w4.heap.size w4).drew).cell (p:=⟨b,1,Ω⟩) (az m5)).trans m5
 go_region_held3 (fun x=>x.cell? ⟨w.heap.size+1,0,Ω⟩=Θ (Ψ Ξ 4)/\x.cell? ⟨w.heap.size+1,1,Ω⟩=Θ (Ψ Ξ (n:Int))/\x.cell? ⟨br,0,Ω⟩=Θ (Δ (Θ ⟨b,0,Ω⟩))/\x.cell? ⟨C,n*2,Ω⟩=Θ (Ψ Ξ 0)/\x.cell? ⟨C,n*2+1,Ω⟩=Θ (.slice va vs.length vm)) ((refine⟨?_,?_,?_,?_,?_⟩<;>(repeat (first|with_reducible assumption|with_reducible refine dO ?_))))
  ((go_at_call 199;(with_reducible refine(ol _ b C r.g.old.length mo n e5 hnl (by omega)).mono ?_);rintro e m ⟨rfl,hb6⟩;have N:μ Z.heap.size Z m:=z3.trans (((φ _ _).drew.trans hb6).mono z3.size);have g0:=(N.cell (p:=⟨w.heap.size+1,0,Ω⟩) o).trans s0;have g1:=(N.cell (p:=⟨w.heap.size+1,1,Ω⟩) o).trans s1;have g2:=(N.cell (p:=⟨br,0,Ω⟩) hl2).trans s2;have g3:=(N.cell (p:=⟨C,n*2,Ω⟩) D).trans s3;have g4:=(N.cell (p:=⟨C,n*2+1,Ω⟩) D).trans s4;have g5:=(N.cell (p:=⟨b,1,Ω⟩) hl5).trans s5))
 clear m0 m1 m2 m3 m4 m5 e5 z3 hb6;by_cases hp:pl<vs.length
 ·have s:=HR.out.more.below (Y.out.1.trans (N.mono Y.out.1.size));obtain⟨bn',mo',f,m',p,q,a1,a2,a3,a4,a5,a6,a7,⟨cur,a8⟩,a9,a10⟩:=s.2.2.1.WN HH.out.2.1 hp (3,x);rw[g5]at a1;cases a1
  rw[g4]at a3;cases a3
  have hrb:f<w.heap.size:=Nat.lt_of_not_le fun h=>a9 f (.inr h) rfl
  have H:¬f=w.heap.size+1:=by omega
  have hn2:¬f=br:=fun e=>by have:=s.2.1;rw[<-e,a8]at this;cases this
  have hn3:¬f=b:=fun e=>by obtain⟨_,_,c,hc⟩:=s.2.2.1.own.obj;rw[<-e,a8]at hc;cases hc
  have t0:((m.setCell ⟨f,pl*2,Ω⟩ (Ψ Ξ 3)).setCell ⟨f,pl*2+1,Ω⟩ (Ψ Ξ x)).cell? ⟨w.heap.size+1,0,Ω⟩=Θ (Ψ Ξ 4):=da H (da H g0);have t1:((m.setCell ⟨f,pl*2,Ω⟩ (Ψ Ξ 3)).setCell ⟨f,pl*2+1,Ω⟩ (Ψ Ξ x)).cell? ⟨w.heap.size+1,1,Ω⟩=Θ (Ψ Ξ (n:Int)):=da H (da H g1);have t2:((m.setCell ⟨f,pl*2,Ω⟩ (Ψ Ξ 3)).setCell ⟨f,pl*2+1,Ω⟩ (Ψ Ξ x)).cell? ⟨br,0,Ω⟩=Θ (Δ (Θ ⟨b,0,Ω⟩)):=da hn2 (da hn2 g2);have V:¬f=w.heap.size:=by omega
  have x0:=(N.block w.heap.size (by omega)).trans Y.out.2.1;have u0:m.cell? ⟨w.heap.size,0,Ω⟩=Θ (Ψ Ξ 3):=by simp[ω,x0]
  have u1:m.cell? ⟨w.heap.size,1,Ω⟩=Θ (Ψ Ξ x):=by simp[ω,x0]
  have v0:((m.setCell ⟨f,pl*2,Ω⟩ (Ψ Ξ 3)).setCell ⟨f,pl*2+1,Ω⟩ (Ψ Ξ x)).cell? ⟨w.heap.size,0,Ω⟩=Θ (Ψ Ξ 3):=da V (da V u0);have v1:((m.setCell ⟨f,pl*2,Ω⟩ (Ψ Ξ 3)).setCell ⟨f,pl*2+1,Ω⟩ (Ψ Ξ x)).cell? ⟨w.heap.size,1,Ω⟩=Θ (Ψ Ξ x):=da V (da V u1);have fz0:=a6 (pl*2);have fz1:=a6 (pl*2+1);have hr7:bD ((m.setCell ⟨f,pl*2,Ω⟩ (Ψ Ξ 3)).setCell ⟨f,pl*2+1,Ω⟩ (Ψ Ξ x)) B br b {r with g:=wR r.g n 0 (vs.set pl (3,x))} (fun j=>J j\/w.heap.size<=j):=⟨s.1,(cr (fun e=>hn2 e.symm)).trans s.2.1,a10,s.2.2.2⟩;have hbz:μ w.heap.size w m:=Y.out.1.trans (N.mono Y.out.1.size);have hb7:μ B w ((m.setCell ⟨f,pl*2,Ω⟩ (Ψ Ξ 3)).setCell ⟨f,pl*2+1,Ω⟩ (Ψ Ξ x)):=((hbz.mono hB).setCell (p:=⟨f,pl*2,Ω⟩) a7 _).setCell (p:=⟨f,pl*2+1,Ω⟩) a7 _;have hf7:tc J w ((m.setCell ⟨f,pl*2,Ω⟩ (Ψ Ξ 3)).setCell ⟨f,pl*2+1,Ω⟩ (Ψ Ξ x)):=fun j I hl=>(cr (a9 j (.inl I))).trans (hbz.block j hl)
  have hx7:((m.setCell ⟨f,pl*2,Ω⟩ (Ψ Ξ 3)).setCell ⟨f,pl*2+1,Ω⟩ (Ψ Ξ x)).heap[w.heap.size+1]?=Θ (ψ #[Ψ Ξ 4,Ψ Ξ (n:Int)] 50 (0,0)):=(cr (Ne.symm H)).trans ((N.block _ o).trans Y.out.2.2);have F:((m.setCell ⟨f,pl*2,Ω⟩ (Ψ Ξ 3)).setCell ⟨f,pl*2+1,Ω⟩ (Ψ Ξ x)).heap.size=m.heap.size:=by simp
  have anP:μ w.heap.size w m:=hbz;have O:=Γ (υ hr7 (υ hb7 (υ hf7 (υ hx7 F))));have hs6:w.heap.size+1<m.heap.size:=az g0;have hp0:(0:Int)<=(pl:Int):=by omega
  have hp1:(pl:Int)<(vs.length:Int):=by omega
  have apI:((4:Int) !=4)=ZX:=rfl;clear a9 a10 s hr7 hb7 hf7 hx7 F anP a6 a7 a8 x0 g3 a2
  go_wp2_with fail
  rw[show(decide ((pl:Int)<0)||decide (vs.length<=pl))=ZX by simp;omega]
  ((with_reducible refine(cd _ _).mono ?_))
  rintro e w7 ⟨rfl,F⟩;subst F
  go_wp2_with fail
  generalize ((w7.setCell ⟨f,pl*2,Ω⟩ (Ψ Ξ 3)).setCell ⟨f,pl*2+1,Ω⟩ (Ψ Ξ x))=w8 at O t0 t1 t2 v0 v1⊢;refine(Fc _ x).mono ?_;rintro e w9 ⟨rfl,L⟩;have c0:=(L.cell (p:=⟨br,0,Ω⟩) (az t2)).trans t2;have c1:=(L.cell (p:=⟨w.heap.size+1,1,Ω⟩) (az t1)).trans t1;have S:=Γ (O.out.1.below L);have t:=Γ L;obtain⟨Q,P,c5,hmo⟩:=S.out.2.2.1.own.OW;have hm0:=HH.out.2.2 hp;rw[show(wR r.g n 0 (vs.set pl (3,x))).marked=[]from hm0]at hmo c5;replace c5:w9.cell? ⟨b,5,Ω⟩=Θ (.slice Q 0 P):=c5;have HMO:=Γ (show OI w9 B (.slice Q 0 P) []from hmo);have hl0':=az c0;have W:=az c1;have X:=az c5;have fb:w9.frozen? ⟨b,5,Ω⟩=ZX:=by obtain⟨_,_,c,hc⟩:=S.out.2.2.1.own.obj;exact cD hc
  have hnb:¬b=br:=fun e=>S.out.ne e.symm
  clear t0 t1 t2 v0 v1 u0 u1 g0 g1 g2 g4 g5 a4 a5 L hmo s0 s1 s2 s3 s4 s5
  go_wp2_with fail
  go_region_held3 (fun x=>x.cell? ⟨br,0,Ω⟩=Θ (Δ (Θ ⟨b,0,Ω⟩))/\x.cell? ⟨b,5,Ω⟩=Θ (.slice Q 0 P)/\x.cell? ⟨w.heap.size+1,1,Ω⟩=Θ (Ψ Ξ (n:Int))) ((refine⟨?_,?_,?_⟩<;>(repeat (first|with_reducible assumption|with_reducible refine dO ?_))))
   ((go_at_call 233;(with_reducible refine(JF _ Q P (n:Int)).mono ?_);rintro e k ⟨rfl,rfl⟩))
  have i:μ w9.heap.size w9 w9.drew:=(φ _ _).drew;have k0:=(i.cell (p:=⟨br,0,Ω⟩) hl0').trans c0;have U:=(i.cell (p:=⟨b,5,Ω⟩) X).trans c5;have R:=(i.cell (p:=⟨w.heap.size+1,1,Ω⟩) W).trans c1;have kf:=(i.frozen (p:=⟨b,5,Ω⟩) X).trans fb
  go_wp2_with fail
  generalize w9.drew=k at i k0 U R kf⊢;have HMA:=Γ (HMO.out.below i);have HRA:=Γ (S.out.below i);have hBA:B<=k.heap.size:=by have h1:=O.out.2.1.size;have h2:=t.out.size;have h3:=i.size;omega
  clear c0 c1 c5 fb;refine Rg.wp_cut (n:=15) (fun x=>x.cell? ⟨br,0,Ω⟩=Θ (Δ (Θ ⟨b,0,Ω⟩))/\x.cell? ⟨b,5,Ω⟩=Θ (.slice Q 0 P)/\x.cell? ⟨w.heap.size+1,1,Ω⟩=Θ (Ψ Ξ (n:Int))) (by kernel_rfl) (by kernel_rfl) (fun c a d v w h=>by cases d<;>exact h) ⟨k0,U,R⟩ ?_;simp only[ZB,List.take_zero,ZA,List.drop_zero]
  iterate 15
   (refine Rg.fp.step (v:=?_) (by rfl) (fun u hu=>?_) ?_
    rotate_left
    (obtain⟨hu0,hu1,hu2⟩:=hu
     go_simp;rfl))
  refine Rg.fp.nil ?_;simp only[Act.put,ZG,List.set_cons_zero,List.set_cons_succ];refine wpOp_step rfl (fun K hK=>?_);go_simp;refine hK _ _ ⟨⟨dB (dO k0),dB (dO U),dB (dO R)⟩,?_⟩;clear hK K;refine wpOp_step rfl (fun K hK=>?_);go_simp;have l:μ k.heap.size k (k.alloc (ψ #[Ψ Ξ (n:Int)] 3)).drew:=((φ _ k).alloc (Nat.le_refl _) _).drew;have z:=HMA.out.below l;have M:=HRA.out.below l;have kb:=(l.cell (p:=⟨br,0,Ω⟩) (az k0)).trans k0;have G:=(l.cell (p:=⟨b,5,Ω⟩) (az U)).trans U;have T:=(l.cell (p:=⟨w.heap.size+1,1,Ω⟩) (az R)).trans R;have kbf:=(l.frozen (p:=⟨b,5,Ω⟩) (az U)).trans kf;have hxB:=(l.block (w.heap.size+1) (az R)).trans ((i.block (w.heap.size+1) W).trans ((t.out.block (w.heap.size+1) (by have:=O.out.2.2.2.2;omega)).trans O.out.2.2.2.1));have hsB:k.heap.size<=(k.alloc (ψ #[Ψ Ξ (n:Int)] 3)).drew.heap.size:=l.size;refine(JG _ B k.heap.size P Q (n:Int) z (show(k.alloc (ψ #[Ψ Ξ (n:Int)] 3)).drew.heap[k.heap.size]?=_ from κ k _) (by omega)).mono ?_;generalize (k.alloc (ψ #[Ψ Ξ (n:Int)] 3)).drew=wB at l z M kb G T kbf hxB hsB⊢;rintro e w11 ⟨gg,mg,rfl,ho,hg,hat⟩;obtain⟨_,_,cb,hcb⟩:=M.2.2.1.own.obj;have n1:Θ br≠(η Q 0 P).ownBlock:=fun e=>cF z M.2.1 (by decide) e.symm
  have n2:Θ b≠(η Q 0 P).ownBlock:=fun e=>cF z hcb (by decide) e.symm
  have n3:Θ (w.heap.size+1)≠(η Q 0 P).ownBlock:=fun e=>cF z hxB (by decide) e.symm
  have q0:=(hg.cell_far ⟨br,0,Ω⟩ (az kb) n1).trans kb;have q1:=(hg.cell_far ⟨b,5,Ω⟩ (az G) n2).trans G;have q2:=(hg.cell_far ⟨w.heap.size+1,1,Ω⟩ (az T) n3).trans T;have qf:=(hg.frozen_far ⟨b,5,Ω⟩ (az G) n2).trans kbf;refine hK _ _ ⟨⟨q0,q1,q2⟩,?_⟩;clear hK K;have HE:=Γ (υ l (υ z (υ M (υ ho (υ hg (υ G n1))))));clear l z M ho hg kb G T kbf k0 U R kf hcb hxB
  go_wp2_with fail
  obtain⟨e1,e2,e3,e4,e5,e6,e7⟩:=HE.out;have hJm:∀j,J j->j<w.heap.size->Θ j≠(η Q 0 P).ownBlock/\wB.heap[j]?=w.heap[j]?:=fun j I hl=>by
   have a0:=O.out.2.2.1 j I hl;have s8:=O.out.2.2.2.2;have s9:=t.out.size;have s10:=i.size;have a1:wB.heap[j]?=w.heap[j]?:=(e1.block j (by omega)).trans ((i.block j (by omega)).trans ((t.out.block j (by omega)).trans a0));refine⟨fun e=>?_,a1⟩;rcases e2.2 with⟨h0,_⟩|⟨g1,cap1,asi,h0,_,A,_⟩
   ·rw[h0]at e;cases e
   ·rw[h0]at e;cases e
    exact hJ3 _ I _ _ _ (a1.symm.trans A) rfl
  have hrun:bD (w11.setCell ⟨b,5,Ω⟩ (η (Θ ⟨gg,0,Ω⟩) 1 mg)) B br b {r with g:={wR r.g n 0 (vs.set pl (3,x))with marked:=[(n:Int)]}} J:=by refine⟨e3.1,?_,cR.marks (e3.sub (J':=J) (fun j I=>.inl I)).2.2.1 e6 e5 e4,fun j I=>e3.2.2.2 j (.inl I)⟩;rw[aq (Ne.symm hnb),e5.block br (χ.1 e3.2.1).1 e7];exact e3.2.1
  have hbl:μ B w (w11.setCell ⟨b,5,Ω⟩ (η (Θ ⟨gg,0,Ω⟩) 1 mg)):=by have s8:=O.out.2.2.2.2;have s9:=t.out.size;have s10:=i.size;exact((((O.out.2.1.trans (t.out.mono (by omega))).trans (i.mono (by omega))).trans (e1.mono hBA)).trans (cM e2 e5 (by omega))).setCell (p:=⟨b,5,Ω⟩) e3.2.2.1.own.obj.1 _
  have hfj:tc J w (w11.setCell ⟨b,5,Ω⟩ (η (Θ ⟨gg,0,Ω⟩) 1 mg)):=fun j I hl=>by obtain⟨h1,h2⟩:=hJm j I hl;have s8:=O.out.2.2.2.2;have s9:=t.out.size;have s10:=i.size;rw[aq (e3.2.2.1.ne (.inl I)),e5.block j (by omega) h1,h2]
  go_end0;unfold gN;rw[if_pos hp];exact⟨rfl,hrun,hbl,hfj⟩
 ·have e1:(decide ((pl:Int)<0)||decide ((vs.length:Int)<=(pl:Int)))=ZL:=by simp;omega
  go_wp2_with fail
  rw[show(decide ((pl:Int)<0)||decide (vs.length<=pl))=ZL by simp;omega]
  ((with_reducible refine(eU _ _).mono ?_))
  rintro e w7 ⟨rfl,F⟩;subst F;refine⟨rfl,?_⟩;unfold gN;rw[if_neg hp];exact⟨rfl,(Y.out.1.trans (N.mono Y.out.1.size)).mono hB⟩
end
end Kn
