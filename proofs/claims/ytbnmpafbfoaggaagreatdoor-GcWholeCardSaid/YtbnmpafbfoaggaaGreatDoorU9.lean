/- A part of the proof of GcWhole; no conditions. -/
import Derived.Test.YtbnmpafbfoaggaaGreatDoorU8
import Derived.Test.YtbnmpafbfoaggaaGreatDoorU0
import Derived.Conc.AppendWalk
import Derived.Conc.Beside
import Derived.Conc.CrowdBase
set_option linter.defProp false
set_option linter.unusedVariables false
set_option linter.unusedSimpArgs false
set_option maxRecDepth 100000
set_option maxHeartbeats 16000000
noncomputable section
open Bool renaming false->U,true->I,false_eq_true->ZW
open Option renaming some->V,map_eq_some_iff->ψ,none->ζ
open Go.Value renaming pointer->Ω,int->Ξ,slice->Δ
open Go renaming Goroutine->R,Value->φ,Addr->μ,World->κ,callFunc->ε,Frame->Z9,TypeId->Z4,HappensBefore->Z1,Program->ZV,Event->ZQ,Item->ZL,mayWake->ZB
open Array renaming mem_singleton->Ψ,mem_of_getElem?->Z8,getElem?_modify->ZM
open Go.IntKind renaming wrap->Θ,i64->Γ,u64->ο,wrap_u64->ZJ
open Go.Conc renaming g?_old->ω,touchAt->Z2,noRace_append->Z0,getElem?_append_cases->ZX,seen_none->ZT,deafBehind_still->ZN,knows_own->ZH,touch_of->ZF,seen_app->ZE
open Go.MemAct renaming ofEvent->χ,touch?->υ
open Option.some renaming injEq->ξ
open List renaming mem_cons->ι,mem_toArray->θ,not_mem_nil->η,zipWith->ZU,mem_cons_of_mem->ZK,mem_cons_self->ZI,length_cons->ZG
open Go.Result renaming andThen->Z7,evThen->ZY
open Nat renaming lt_of_lt_of_le->Z3,not_lt->ZO,mul_le_mul->ZD
open Go.Frame renaming enter->ZZ,oper?->ZC
open Int renaming toNat_natCast->ZS,fdiv_eq_ediv_of_nonneg->ZP
open Go.Obj renaming cells->ZR
namespace Go.Proofs.YtbnmpafbfoaggaaGreatDoor
namespace Ph
open Go Go.Conc
open Go.ConcN (sumTo upd sumTo_upd)
open Go.ConcM (muA msA MuAt ShAt Eff)
open Go.ConcR (stA smA WgAt mk)
section
def rG(B:Nat):St->Prop
 |.sq x|.c1 x|.c2 x=>x.old.c<=B
 |.uc o=>o.c<=B
 |_=>True
def qL{B x}(h:x.old.c<=B):rG B (hd x):=by unfold hd;split<;>exact h
def yi{B o}(h:o.c<=B):rG B (k8 o):=by unfold k8;split<;>first|trivial|exact h
def Nx.akU{B s s' h h'}(a:Nx s h s' h')(b:h.mu.c<=B)(hb:rG B s):rG B s':=by
 cases s with
 |w7=>exact a.elim
 |w8=>exact a.elim
 |pv=>exact a.elim
 |fin=>exact a.elim
 |l0=>obtain⟨_,rfl,_⟩|⟨_,rfl,_⟩:=a<;>trivial
 |r0=>obtain⟨rfl,_⟩:=a;exact qL b
 |sq x=>
  obtain⟨_,rfl|⟨_,rfl⟩⟩:=a;exact hb;split
  ·exact hb
  trivial
 |c1 x=>obtain⟨_,rfl,_⟩|⟨_,rfl,_⟩:=a<;>trivial
 |r1 x=>obtain⟨rfl,_⟩:=a;exact qL b
 |r3 x=>obtain⟨rfl,_⟩:=a;exact qL b
 |c2 x=>
  obtain⟨_,_,rfl⟩|⟨_,rfl,_⟩:=a
  split
  ·trivial
  split<;>trivial
  trivial
 |t1 x=>obtain⟨_,t,rfl⟩:=a;trivial
 |s1 x=>obtain⟨_,_,rfl⟩:=a;split<;>trivial
 |t2 x=>obtain⟨_,t,rfl⟩:=a;trivial
 |r2 x=>
  obtain⟨_,rfl⟩:=a;split
  trivial;exact qL b
 |u0=>
  obtain⟨_,rfl⟩:=a;split
  trivial;exact yi b
 |uc o=>obtain⟨_,rfl,_⟩|⟨_,rfl,_⟩:=a<;>trivial
 |ux=>obtain⟨rfl,_⟩:=a;exact yi b
 |ga=>obtain⟨_,rfl⟩:=a;split<;>trivial
 |_=>obtain⟨rfl,_⟩:=a;trivial
theorem vJ{F F':St->Nat}{st:Nat->St}:∀{n:Nat},cnt n (λs=>F s+F' s) st=cnt n F st+cnt n F' st
 |0=>rfl
 |n+1=>by have e1:cnt (n+1) (λs=>F s+F' s) st=cnt n (λs=>F s+F' s) st+(F (st n)+F' (st n)):=rfl;have e2:cnt (n+1) F st=cnt n F st+F (st n):=rfl;have e3:cnt (n+1) F' st=cnt n F' st+F' (st n):=rfl;rw[e1,vJ];omega
def GI.wW{n st h}(G:GI n st h):h.mu.c<=n/\h.ms<=1:=by
 have b:cnt n (λs=>nQ s+nT s+nH s) st<=n*1:=mV λi hi=>by show nQ (st i)+nT (st i)+nH (st i)<=1;cases st i<;>simp[nQ,nT,nH]
 have e1:cnt n (λs=>nQ s+nT s+nH s) st=cnt n nQ st+cnt n nT st+cnt n nH st:=by rw[vJ (F:=λs=>nQ s+nT s) (F':=nH),vJ]
 have a:=G.Ee;obtain⟨⟨L,W,S,c⟩,ms,k,wt,ws⟩:=h;unfold ia at a;dsimp only at a⊢;cases L<;>cases W<;>cases S<;>simp at a<;>omega
def nM:St->Nat
 |.gm=>1
 |_=>0
structure mW(wa:Bool)(x:Nat)(h:Sh)(G L M:Nat):Prop where
 k:h.k=G+x
 wt:h.wt<=1
 idle:wa=U->h.wt=0/\h.ws=0/\L=0/\M=0
 wait:wa=I->x=0/\h.wt+M+h.ws=1/\((L=1/\h.wt=1/\h.k=0)\/(L=0/\(h.wt=1->0<h.k)/\(h.wt=0->h.k=0)))
def mW.core{wa x h h' s s' l i j}(e:mW wa x h (l+nG s) (i+nL s) (j+nM s))(b:Nx s h s' h'):mW wa x h' (l+nG s') (i+nL s') (j+nM s'):=by
 have same:∀{d:Sh},d.k=h.k->d.wt=h.wt->d.ws=h.ws->nG s'=nG s->nL s'=nL s->nM s'=nM s->mW wa x d (l+nG s') (i+nL s') (j+nM s'):=by intro d e1 e2 e3 e4 m n;refine⟨by rw[e1,e4];exact e.k,by rw[e2];exact e.wt,λhw=>?_,λhw=>?_⟩;rw[e2,e3,m,n];exact e.idle hw;rw[e1,e2,e3,m,n];exact e.wait hw
 have a:∀y,nG (hd y)=1/\nL (hd y)=0/\nM (hd y)=0:=λy=>by unfold hd;split<;>exact⟨rfl,rfl,rfl⟩
 have c:∀y,nG (k8 y)=1/\nL (k8 y)=0/\nM (k8 y)=0:=λy=>by unfold k8;split<;>exact⟨rfl,rfl,rfl⟩
 cases s with
 |w7=>exact b.elim
 |w8=>exact b.elim
 |pv=>exact b.elim
 |fin=>exact b.elim
 |l0=>obtain⟨_,rfl,rfl⟩|⟨_,rfl,rfl⟩:=b<;>exact same rfl rfl rfl rfl rfl rfl
 |r0=>obtain⟨rfl,rfl⟩:=b;exact same rfl rfl rfl (a _).1 (a _).2.1 (a _).2.2
 |sq y=>obtain⟨rfl,rfl|⟨_,rfl⟩⟩:=b;exact same rfl rfl rfl rfl rfl rfl;split<;>rename_i hc<;>simp only[hc]at same<;>exact same rfl rfl rfl rfl rfl rfl
 |c1 y=>obtain⟨_,rfl,rfl⟩|⟨_,rfl,rfl⟩:=b<;>exact same rfl rfl rfl rfl rfl rfl
 |r1 y=>obtain⟨rfl,rfl⟩:=b;exact same rfl rfl rfl (a _).1 (a _).2.1 (a _).2.2
 |r3 y=>obtain⟨rfl,rfl⟩:=b;exact same rfl rfl rfl (a _).1 (a _).2.1 (a _).2.2
 |c2 y=>
  obtain⟨_,rfl,rfl⟩|⟨_,rfl,rfl⟩:=b
  ·refine same rfl rfl rfl ?_ ?_ ?_<;>(split<;>(try split)<;>rfl)
  exact same rfl rfl rfl rfl rfl rfl
 |t1 y=>obtain⟨rfl,t,rfl⟩:=b;exact same rfl rfl rfl rfl rfl rfl
 |s1 y=>obtain⟨_,rfl,rfl⟩:=b;refine same rfl rfl rfl ?_ ?_ ?_<;>(split<;>rfl)
 |t2 y=>obtain⟨rfl,t,rfl⟩:=b;exact same rfl rfl rfl rfl rfl rfl
 |r2 y=>obtain⟨rfl,rfl⟩:=b;refine same rfl rfl rfl ?_ ?_ ?_<;>(split<;>first|rfl|exact(a _).1|exact(a _).2.1|exact(a _).2.2)
 |a1 y=>obtain⟨rfl,rfl⟩:=b;exact same rfl rfl rfl rfl rfl rfl
 |u0=>obtain⟨rfl,rfl⟩:=b;refine same rfl rfl rfl ?_ ?_ ?_<;>(split<;>first|rfl|exact(c _).1|exact(c _).2.1|exact(c _).2.2)
 |uc o=>obtain⟨_,rfl,rfl⟩|⟨_,rfl,rfl⟩:=b<;>exact same rfl rfl rfl rfl rfl rfl
 |ux=>obtain⟨rfl,rfl⟩:=b;exact same rfl rfl rfl (c _).1 (c _).2.1 (c _).2.2
 |ga=>
  obtain⟨rfl,rfl⟩:=b;obtain⟨g,f,h3,h4⟩:=e;simp only[nG,nL,nM]at g h3 h4;split
  ·rename_i hc;refine⟨by simp only[nG];(try dsimp only);omega,f,λhw=>?_,λhw=>?_⟩;have:=h3 hw;omega
   ·have:=h4 hw;simp only[nL,nM]
    (try dsimp only)
    omega
  ·rename_i hc;refine⟨by simp only[nG];(try dsimp only);omega,f,λhw=>?_,λhw=>?_⟩
   ·have:=h3 hw;simp only[nL,nM];(try dsimp only);omega
   ·have:=h4 hw;simp only[nL,nM]
    (try dsimp only)
    omega
 |gs=>
  obtain⟨rfl,rfl⟩:=b;obtain⟨g,f,h3,h4⟩:=e;simp only[nG,nL,nM]at g h3 h4;refine⟨?_,by(try dsimp only);omega,λhw=>?_,λhw=>?_⟩
  ·simp only[nG];obtain _|_:=wa
   have:=h3 rfl;omega;have:=h4 rfl;(try dsimp only);omega
  ·have:=h3 hw;(try dsimp only);simp only[nL,nM];omega
  have:=h4 hw;refine⟨this.1,?_,.inr ⟨?_,λh=>absurd h (by decide:¬(0=1)),λ_=>rfl⟩⟩;show 0+(j+1)+h.ws=1;omega;show i+0=0;omega
 |gm=>
  obtain⟨rfl,rfl⟩:=b;obtain⟨g,f,h3,h4⟩:=e;simp only[nG,nL,nM]at g h3 h4;refine⟨?_,f,λhw=>?_,λhw=>?_⟩
  ·simp only[nG];(try dsimp only);omega
  have:=h3 hw;omega
  ·have:=h4 hw;simp only[nL,nM]
   (try dsimp only)
   omega
 |us=>obtain⟨rfl,rfl⟩:=b;exact same rfl rfl rfl rfl rfl rfl
 |uh=>obtain⟨rfl,rfl⟩:=b;exact same rfl rfl rfl rfl rfl rfl
 |_=>obtain⟨rfl,rfl⟩:=b;exact same rfl rfl rfl rfl rfl rfl
def CK:St->Bool
 |.w7|.w8|.pv|.e1|.e2|.e3|.e4|.gx|.fin=>U
 |_=>I
section
variable{tM tW:Z4}{Mu Wg:Nat}{p:WP}{e:Int}{s:St}{h:Sh}{g:R}{w:κ}{x:Lc}{wa:Bool}{y:Nat}{RO RA RT RQ RH RU RV RC RG RL RM B:Nat}
def yj(a:p.lk=muA Mu)(d:p.wg=stA Wg)(b:Mu≠Wg)(q:pV h s RO RA RT RQ RH RU RV RC)(m:aaA h s)(t:rG B s)(G:B<1048576)(K:h.mu.c<=B)(A:h.ms<=1)(r:mW wa y h (RG+nG s) (RL+nL s) (RM+nM s))(D:h.k<1073741824)(u:h.ws<1000)
 (hw:ShAt tM tW Mu Wg w (dU h)) (j:CK s=I) (hs:bh p e s g):
 (∃x,s=.s1 x/\h.ms=0/\stepG P0 U g w=.go {g with status:=.blocked} w #[])\/Out tM tW Mu Wg p e s h g w:=by
 have hb:h.mu.c+2<268435455:=by omega
 have n:∀{x:Lc},nA s=(if x.aw then 1 else 0) ->x.aw=I->h.mu.W=I:=by intro x i C;rw[if_pos C]at i;exact(q.woken<|by omega).1
 cases s with
 |w7=>cases j
 |w8=>cases j
 |pv=>cases j
 |e1=>cases j
 |e2=>cases j
 |e3=>cases j
 |e4=>cases j
 |gx=>cases j
 |fin=>cases j
 |ld=>exact .inr<|aby hw hs
 |l0=>exact .inr<|abz a b hw hs
 |r0=>exact .inr<|abA a hb hw hs
 |sq x=>exact .inr<|abB (by have:x.old.c<=B:=t;omega) m hw hs
 |c1 x=>exact .inr<|abC a b (by have:x.old.c<=B:=t;omega) m hw hs
 |ds x=>exact .inr<|abD m hw hs
 |r1 x=>exact .inr<|abE a hb (n rfl) hw hs
 |r3 x=>exact .inr<|abF a hb (n rfl) hw hs
 |c2 x=>exact .inr<|abG a b (by have:x.old.c<=B:=t;omega) hw hs
 |t1 x=>exact .inr<|abH hw hs
 |s1 x=>
  by_cases h0:h.ms=0
  exact .inl ⟨x,rfl,h0,A8 a h0 hw hs⟩;exact .inr<|abI a b (by omega) hw hs
 |t2 x=>exact .inr<|abJ hw hs
 |r2 x=>
  refine .inr<|abK a hb (λv=>?_) (λv=>?_) hw hs;obtain⟨_,_,h3,_⟩:=q;obtain⟨h3,_⟩:=h3 v;cases hW':h.mu.W with
  |true=>rfl
  |false=>rw[hW']at h3;simp[nT]at h3
  obtain⟨i,_,_,h4⟩:=q;obtain⟨h5,H,E,F,J,l⟩:=h4 v;have:nT (.r2 x)=1:=rfl;refine⟨?_,h5,l⟩;cases hL':h.mu.L with
  |false=>rfl
  |true=>rw[hL']at i;simp at i;omega
 |a1 x=>
  obtain⟨i,_,_,h4⟩:=q;obtain⟨h5,H,E,F,J,l⟩:=h4 m.1;have:nH (.a1 x)=1:=rfl;refine .inr<|abL a b hb ?_ m.1 l hw hs;cases hL':h.mu.L with
  |false=>rfl
  |true=>rw[hL']at i;simp at i;omega
 |le f=>exact .inr<|abO hw hs
 |cv f=>exact .inr<|abP a hw hs
 |la f=>exact .inr<|abQ a hw hs
 |u1=>exact .inr<|abR a hw hs
 |uv=>exact .inr<|abS a hw hs
 |ur=>exact .inr<|abT a hw hs
 |ud=>exact .inr<|abU hw hs
 |u0=>
  refine .inr<|abV a b hb ?_ hw hs;have i:=q.1;cases hL':h.mu.L with
  |true=>rfl
  |false=>rw[hL']at i;simp[nO]at i
 |uc o=>exact .inr<|abW a b (by have:o.c<=B:=t;omega) m hw hs
 |ux=>exact .inr<|abX a hb hw hs
 |us=>exact .inr<|abY a b (by omega) hw hs
 |uh=>exact .inr<|abZ a b (by omega) hw hs
 |ue=>exact .inr<|ab0 hw hs
 |gv=>exact .inr<|ab1 d hw hs
 |gr=>exact .inr<|ab2 d hw hs
 |gd=>exact .inr<|ab3 hw hs
 |ga=>refine .inr<|ab4 d b ?_ D r.wt hw hs;have i:=r.k;have:nG .ga=1:=rfl;omega
 |gl=>
  have:nL .gl=1:=rfl;have z:h.wt=1/\h.k=0:=by
   obtain _|_:=wa
   have:=r.idle rfl;omega;have:=(r.wait rfl).2.2;omega
  exact .inr<|ab5 d z.2 z.1 hw hs
 |gs=>exact .inr<|ab6 d b hw hs
 |gm=>exact .inr<|ab7 d b u hw hs
 |gn=>exact .inr<|ab8 hw hs
end
end
end Ph
namespace Ph
open Go Go.Conc
section
def ab9:mp P0 83 U:=λw a=>by kernel_rfl
def ag3:mp P0 3 U:=λw a=>by kernel_rfl
def Tv:mp P0 34 U:=λw a=>by kernel_rfl
def aca:mp P0 104 U:=λw a=>by kernel_rfl
def acb:mp P0 76 I:=λw a=>by kernel_rfl
def L7:dt P0 76 2:=λw a=>by kernel_rfl
def aex:dt P0 34 1:=λw a=>by kernel_rfl
def L8:P0.underlying 83=V (.slice 34):=by kernel_rfl
def yk:bR P0 211 U:=by rfl
def fh(p:WP)(e:Int)(E:μ)(n i:Nat)(s:St)(g:R):Prop:=
 match s with
 |.w7=>bj (fW p tw7 [] [aZ p]) [fB []] g
 |.w8=>∃g0,bj (fW p LB [pv 7 g0] [aZ p]) [fB []] g
 |.e2=>bj (fW p LD [(11,Δ (V E) n n),iv 6 e] [cT p,aZ p]) [fB []] g
 |.e3=>bj (fW p LE [(11,Δ (V E) n n),iv 12 i,iv 13 e] [cT p,aZ p]) [fB []] g
 |.e4=>bj (fW p Gm [pv 14 (E.add i),iv 13 e] [cT p,aZ p]) [fB []] g
 |s=>bh p e s g
section
variable{p:WP}{e:Int}{E:μ}{n i:Nat}{g:R}{w:κ}
def acd{g0}(hc:w p.gb=V (Ω<|V g0))(hs:fh p e E n i .w7 g):stepG P0 U g w=.go (fin (Ω<|V g0) g) w #[⟨.cell p.gb,U,U⟩]/\
 bZ P0 U 200 (bj (fW p LB [pv 7 g0] [aZ p]) [fB []]) (fin (Ω<|V g0) g):=by
 exact⟨du (bj.head (λF=>by kernel_rfl) g hs) aca hc (by rw[bj.cg hs];exact yk),aba p g0 g hs⟩
def ace{g0 v1 v2}(hc:w (p.cb.add 0)=V v1)(b:w (p.cb.add 1)=V v2)(hs:bj (fW p LB [pv 7 g0] [aZ p]) [fB []] g):
 stepG P0 U g w=.go (fin (.agg #[v1,v2]) g) w #[⟨.cell<|p.cb.add 0,U,U⟩,⟨.cell<|p.cb.add 1,U,U⟩]/\
 bZ P0 U 200 (λg'=>∃a,bj (fW p QG [] [aZ p]) [fB []] (G a.head! a.tail)/\a≠[]/\g'={frame:=ZZ P0 213 #[Ω (V g0),.agg #[v1,v2]] .normal,callers:=a,status:=.running,dying:=ζ}) (fin (.agg #[v1,v2]) g):=by
 exact⟨jp (bj.head (λF=>by kernel_rfl) g hs) acb L7 hc b (by rw[bj.cg hs];exact yk),abb p g0 _ g hs⟩
def acf(hc:w p.eb=V (Δ (V E) n n))(hs:fh p e E n i .e1 g):stepG P0 U g w=.go (fin (Δ (V E) n n) g) w #[⟨.cell p.eb,U,U⟩]/\
 bZ P0 U 200 (fh p e E n i .e2) (fin (Δ (V E) n n) g):=by
 have a:=hs;exact⟨du (bj.head (λF=>by kernel_rfl) g a) ab9 hc (by rw[bj.cg a];exact yk),SR p e _ g a⟩
def acg(hc:w p.ib=V (Ξ Γ i))(hs:fh p e E n i .e2 g):stepG P0 U g w=.go (fin i g) w #[⟨.cell p.ib,U,U⟩]/\
 bZ P0 U 200 (fh p e E n i .e3) (fin i g):=by
 exact⟨du (bj.head (λF=>by kernel_rfl) g hs) ag3 hc (by rw[bj.cg hs];exact yk),SS p e i _ g hs⟩
def ach(hi:i<n)(hs:fh p e E n i .e3 g):stepG P0 U g w=.go (fin (Ω<|V<|E.add i) g) w #[]/\
 bZ P0 U 200 (fh p e E n i .e4) (fin (Ω<|V<|E.add i) g):=by
 exact⟨Ec (bj.head (λF=>by kernel_rfl) g hs:dl g=V (l9 83 (Δ (V E) n n) i)) L8 aex hi,ST p e _ _ _ g hs⟩
def aci{v}(hc:w ((E.add i).add 0)=V v)(hz:w.frozen? ((E.add i).add 0)=U)(hs:fh p e E n i .e4 g):
 stepG P0 U g w=.go (fin undef g) (w.setCell ((E.add i).add 0) e) #[⟨.cell<|(E.add i).add 0,I,U⟩]/\
 bZ P0 U 200 (fh p e E n i .u1) (fin undef g):=by
 have a:=hs;exact⟨iS (bj.head (λF=>by kernel_rfl) g a) aex rfl rfl hc hz (by rw[bj.cg a];exact yk),SU p e _ g a⟩
def acj{W cs}(hs:bj (fW p QG [] [aZ p]) [fB []] (G W cs)):bZ P0 U 200 (fh p e E n i .ld) {frame:=W.finish e,callers:=cs,status:=.running,dying:=ζ}:=abc p e (G W cs) hs
end
end
section
def SC(d:bG)(ds:List bG)(cs:List Z9)(F:Nat->Nat->φ):R:=G (d.fr<|Jv d.n<|cO d.l<|F 0)<|KN ds (λi=>F<|i+1)++cs
def aQ(d:bG)(ds:List bG)(cs:List Z9)(g:R):Prop:=∃F,g=SC d ds cs F
theorem jN:∀(ds:List bG) (qH:List Z9),ck ds qH=ck ds (qH.take ds.length)
 |[],qH=>by cases qH<;>simp[ck]
 |d::ds,[]=>by simp
 |d::ds,fr::qH=>by simp[ck,<-jN ds qH]
theorem lg:∀(ds:List bG) (qH:List Z9),(ck ds qH).length=min ds.length qH.length
 |[],qH=>by cases qH<;>simp[ck]
 |d::ds,[]=>by simp[ck]
 |d::ds,fr::qH=>by simp only[ck,ZG,lg ds qH];omega
section
variable{P:ZV}{main:Bool}{g:R}
def aQ.of{d ds cs r}(b:r=G (d.fr r.frame.tmps) (ck ds r.callers++cs))(c:(r.frame::r.callers.take ds.length).map (λfr=>fr.tmps.size)=(d::ds).map (·.n))(h3:ZU (λd fr=>d.l.map λp=>fr.tmps.getD p.1 undef) (d::ds) (r.frame::r.callers.take ds.length)=(d::ds).map (λd=>d.l.map Prod.snd)):aQ d ds cs r:=by
 have e1:=congrArg Goroutine.frame b;have e2:=congrArg Goroutine.callers b;dsimp only[G]at e1 e2;have f:=congrArg List.length c;simp only[List.map_cons,ZG,List.length_map]at f;have e:ds.length<=r.callers.length:=by
  have:(r.callers.take ds.length).length=ds.length:=by omega
  rw[List.length_take]at this;omega
 have a:r.callers.take ds.length=ck ds (r.callers.take ds.length):=by
  rw[<-jN];have g:(ck ds r.callers).length=ds.length:=by rw[lg];omega
  grind
 obtain⟨F,hF⟩:=A4 (d::ds) (r.frame::r.callers.take ds.length) (by simp only[ck];rw[<-a,<-e1]) c h3
 refine⟨F,?_⟩;simp only[KN,List.cons.injEq]at hF;unfold SC;rw[<-hF.1,<-hF.2,a,<-jN,<-e2];rw[b];rw[<-e1,<-e2];rfl
def aQ.QF{d b ds a cs}(stop k)(c:∀F,bN P main stop k (SC d ds cs F)=G (b.fr (bN P main stop k<|SC d ds cs F).frame.tmps) (ck a (bN P main stop k<|SC d ds cs F).callers++cs))(e:∀F,((bN P main stop k<|SC d ds cs F).frame::(bN P main stop k<|SC d ds cs F).callers.take a.length).map (λfr=>fr.tmps.size)=(b::a).map (·.n))(h3:∀F,ZU (λd fr=>d.l.map λp=>fr.tmps.getD p.1 undef) (b::a) ((bN P main stop k<|SC d ds cs F).frame::(bN P main stop k<|SC d ds cs F).callers.take a.length)=(b::a).map (λd=>d.l.map Prod.snd))(g)(h:aQ d ds cs g):bZ P main k (aQ b a cs) g:=by obtain⟨F,rfl⟩:=h;exact bZ.run stop k<|aQ.of (c F) (e F)<|h3 F
def aQ.F3{d b ds a cs}(v stop k)(c:∀F,bN P main stop k (fin v<|SC d ds cs F)=G (b.fr (bN P main stop k<|fin v<|SC d ds cs F).frame.tmps) (ck a (bN P main stop k<|fin v<|SC d ds cs F).callers++cs))(e:∀F,((bN P main stop k<|fin v<|SC d ds cs F).frame::(bN P main stop k<|fin v<|SC d ds cs F).callers.take a.length).map (λfr=>fr.tmps.size)=(b::a).map (·.n))(h3:∀F,ZU (λd fr=>d.l.map λp=>fr.tmps.getD p.1 undef) (b::a) ((bN P main stop k<|fin v<|SC d ds cs F).frame::(bN P main stop k<|fin v<|SC d ds cs F).callers.take a.length)=(b::a).map (λd=>d.l.map Prod.snd))(g)(h:aQ d ds cs g):bZ P main k (aQ b a cs) (fin v g):=by obtain⟨F,rfl⟩:=h;exact bZ.run stop k<|aQ.of (c F) (e F)<|h3 F
def aQ.head{d ds cs s}(h:∀F,dl (SC d ds cs F)=V s)(g)(a:aQ d ds cs g):dl g=V s:=by obtain⟨F,rfl⟩:=a;exact h F
def aQ.cg{d ds cs g}(h:aQ d ds cs g):g.frame.fn=d.fn:=by obtain⟨F,rfl⟩:=h;rfl
end
def cz3(ds:List bG)(r:R):R×List Nat×List (List φ):=(r,(r.frame::r.callers.take ds.length.pred).map λfr=>fr.tmps.size,ZU (λd fr=>d.l.map λp=>fr.tmps.getD p.1 undef) ds (r.frame::r.callers.take ds.length.pred))
def cg3(d:bG)(ds:List bG)(cs:List Z9)(r:R):R×List Nat×List (List φ):=(G (d.fr r.frame.tmps)<|ck ds r.callers++cs,(d::ds).map (·.n),(d::ds).map λd=>d.l.map Prod.snd)
def Xg(P:ZV)(m:Bool)(k:Nat)(d:bG)(ds:List bG)(d':bG)(ds':List bG):Prop:=∀cs g,aQ d ds cs g->bZ P m k (aQ d' ds' cs) g
def Xf(P:ZV)(m:Bool)(k:Nat)(v:φ)(d:bG)(ds:List bG)(d':bG)(ds':List bG):Prop:=∀cs g,aQ d ds cs g->bZ P m k (aQ d' ds' cs) (fin v g)
def Cg(P:ZV)(k:Nat)(d:bG)(ds:List bG)(d':bG)(ds':List bG):Prop:=∀cs c0 g,aQ d ds (c0::cs) g->bZ P I k (aQ d' ds' (c0::cs)) g
def Cf(P:ZV)(k:Nat)(v:φ)(d:bG)(ds:List bG)(d':bG)(ds':List bG):Prop:=∀cs c0 g,aQ d ds (c0::cs) g->bZ P I k (aQ d' ds' (c0::cs)) (fin v g)
def bJ{P m k d b ds a cs}(stop)(h:∀F,cz3 (b::a) (bN P m stop k<|SC d ds cs F)=cg3 b a cs (bN P m stop k<|SC d ds cs F))(g)(c:aQ d ds cs g):bZ P m k (aQ b a cs) g:=aQ.QF stop k (λf=>(wV.three<|h f).1) (λf=>(wV.three<|h f).2.1) (λf=>(wV.three<|h f).2.2) g c
def aR{P m k v d b ds a cs}(stop)(h:∀F,cz3 (b::a) (bN P m stop k<|fin v<|SC d ds cs F)=cg3 b a cs (bN P m stop k<|fin v<|SC d ds cs F))(g)(c:aQ d ds cs g):bZ P m k (aQ b a cs) (fin v g):=aQ.F3 v stop k (λf=>(wV.three<|h f).1) (λf=>(wV.three<|h f).2.1) (λf=>(wV.three<|h f).2.2) g c
def o6(d:bG)(ds:List bG)(s:Sem Next):Prop:=∀cs g,aQ d ds cs g->dl g=V s
def CL(d:bG)(ds:List bG)(s:Sem Next):Prop:=∀cs c0 g,aQ d ds (c0::cs) g->dl g=V s
end
section
noncomputable abbrev up:=Cg P0 300
noncomputable abbrev lP:=Cf P0 300
def jq:Bool->CallKind
 |true=>.deferred
 |false=>.normal
def fK(b:Bool)(T:List ZL)(l:List (Nat×φ)):bG:={fn:=166,n:=43,T,l,kind:=jq b}
def fF(T:List ZL)(b:Bool)(k:Int):bG:={fn:=84,n:=8,T,l:=[bv 0 b,iv 1 k]}
def kH(d:bG)(ds:List bG)(stop:R->Bool):R:=bN P0 I stop 300<|SC d ds [default] λ_ _=>undef
def c8(d:bG)(ds:List bG)(v:φ)(stop:R->Bool):R:=bN P0 I stop 300<|fin v<|SC d ds [default] λ_ _=>undef
def ack(f:FuncId)(g:R):Bool:=
 g.frame.fn==f&&match g.frame.mode,g.frame.todo with
 |.run,.inRegion ops (i::_)::_=>match((ops[i]?).map (·.op):Option Op)with
  |some (.go ..)=>I
  |_=>U
 |_,_=>U
def CM(f:FuncId)(g:R):Bool:=
 g.frame.fn==f&&match g.frame.mode,g.frame.todo with
 |.run,.inRegion ops (i::_)::_=>match((ops[i]?).map (·.op):Option Op)with
  |some (.panic ..)=>I
  |_=>U
 |_,_=>U
def lQ(f:FuncId)(g:R):Bool:=g.frame.fn==f&&rE g
def gC0:=bN P0 I (ah 166 3) 300 {frame:=ZZ P0 166 #[Ω (V a0),Δ (V a0) 1 1,Ξ Γ 5] .normal,callers:=[default],status:=.running,dying:=ζ}
def tk3:=aK gC0
abbrev Nw:List (Nat×φ):=[pv 0 a0,(1,Δ (V a0) 1 1),iv 2 5]
def gC1:=c8 (fK U tk3 Nw) [] (Ω<|V a0)<|aC 84 4
def Tw:=aK gC1
def L9:=cH 0 gC1
def OG:=aK<|kH {fF Tw I 6 with l:=[bv 4 I,bv 0 I,iv 1 6]} [fK U L9 Nw]<|CM 84
def L':=aK<|kH {fF Tw U 6 with l:=[bv 4 U,bv 0 U,iv 1 6]} [fK U L9 Nw]<|ah 166 20
def tk6:=aK<|c8 (fK U L' [pv 0 a0,(1,Δ (V a0) 1 1),iv 2 5,iv 19 1]) [] (Δ (V a0) 1 1)<|ah 166 6
abbrev Xi:List (Nat×φ):=[pv 0 a0,(1,Δ (V a0) 1 1),iv 2 5,(20,Δ (V a0) 1 1)]
def CO:=aK<|c8 (fK U tk6 Xi) [] (Ω<|V a0)<|eh 166
def tk7:=aK<|c8 (fK U CO Xi) [] undef<|ah 166 7
def tk8:=aK<|c8 (fK U tk7 Nw) [] (Ω<|V a0)<|ah 166 8
def uq:=aK<|c8 (fK U tk8 Nw) [] (Ω<|V a0)<|aC 166 24
def GD:=aK<|kH (fK U uq [bv 24 I,(21,Δ (V a0) 1 1),iv 22 1,iv 23 0,pv 3 a0,pv 6 a0,pv 7 a0,pv 8 a0]) []<|ah 166 26
structure MP where
 ca:Option μ
 n:Nat
 m:Nat
 gb:μ
 eb:μ
 lk:μ
 wg:μ
variable(b:Bool)(q:MP)(v0:φ)(i v:Int)(E ib:μ)(k:Int)(ce:μ)(w:Int)(cb:μ)
def MP.l(q:MP):List (Nat×φ):=[pv 3 q.gb,pv 6 q.eb,pv 7 q.lk,pv 8 q.wg,(21,.slice q.ca q.n q.m),iv 22 q.n]
def MP.wp(q:MP)(cb ib:μ):WP:=⟨q.wg,q.gb,cb,q.lk,q.eb,ib⟩
def eu:MP:=⟨V a0,1,1,a0,a0,a0,a0⟩
def kl(b:Bool)(q:MP)(T:List ZL)(ex:List (Nat×φ)):bG:=fK b T<|ex++q.l
def gA(q:MP)(T:List ZL)(ex:List (Nat×φ))(ds:List Deferred):bG:={fn:=210,n:=117,T,l:=ex++[pv 0 q.wg,iv 1 1],defers:=ds}
def gAr(T:List ZL)(ds:List Deferred):bG:={fn:=210,n:=117,T,l:=[],defers:=ds,mode:=.returning}
def gM(q:MP)(f:FuncId)(n:Nat)(T:List ZL)(ex:List (Nat×φ)):bG:={fn:=f,n,T,l:=ex++[pv 0 q.wg]}
def gQ(q:MP)(T:List ZL)(ex:List (Nat×φ)):bG:={fn:=216,n:=84,T,l:=ex++[pv 0 q.wg]}
def GE:=aK<|c8 (kl U eu GD [iv 23 0]) [] (Ω<|V a0)<|ah 166 27
def OH:=aK<|c8 (kl U eu GE [iv 23 0]) [] (.agg #[])<|ah 166 9
def GF:=aK<|c8 (kl U eu OH [iv 23 0]) [] (Ω<|V a0)<|ah 166 10
def yl:=aK<|c8 (kl U eu GF [iv 23 0]) [] (Ω<|V a0)<|eh 166
def ym:=aK<|c8 (kl U eu yl [iv 23 0]) [] undef<|eh 166
def gC2:=c8 (kl U eu ym [iv 23 0]) [] undef<|ah 210 14
def Mb:=aK gC2
def qs:=cH 0 gC2
noncomputable abbrev y':List bG:=[(kl U eu qs [iv 23 0,pv 9 a0,pv 10 a0])]
def gC3:=c8 (gA eu Mb [] []) y' (.tuple #[])<|ah 242 9
def CP:=aK gC3
def Mc:=cH 0 gC3
def Tx:=aK<|c8 (gM eu 242 10 CP []) (gA eu Mc [bv 4 U] [dK]::y') (Ξ ο 0)<|ah 210 48
def CQ:=aK<|kH (gA eu Tx [bv 47 U,(6,Ξ ο 0),bv 4 U] [dK]) y'<|aC 210 67
abbrev Kl:List (Nat×φ):=[(6,Ξ ο 0),bv 4 U,jv 7 0,(8,Ξ .u32 0)]
def Me:=aK<|kH (gA eu CQ (bv 67 I::Kl) [dK]) y'<|ah 210 71
def Mf:=aK<|c8 (gA eu Me Kl [dK]) y' (Ω<|V a0)<|ah 210 72
def yn:=aK<|c8 (gA eu Mf Kl [dK]) y' (.tuple #[])<|aC 210 74
def Ty:=aK<|kH (gA eu yn (bv 74 U::Kl) [dK]) y'<|ah 210 79
def Tz:=aK<|kH (gA eu Ty (bv 78 U::Kl) [dK]) y'<|ah 210 92
def tar:=aK<|kH (gA eu Tz (bv 91 I::Kl) [dK]) y' rE
def Mg:=aK<|kH (gAr tar []) y'<|ack 166
def gC4:=kH (kl U eu uq [bv 24 U,iv 23 0]) []<|ah 216 7
def tq7:=aK gC4
def cC:=cH 0 gC4
noncomputable abbrev pQ:List bG:=[(kl U eu cC [])]
def gC5:=c8 (gQ eu tq7 []) pQ (.tuple #[])<|ah 244 6
def nP:=aK gC5
def GJ:=cH 0 gC5
def yo:=aK<|c8 (gM eu 244 7 nP []) (gQ eu GJ []::pQ) (Ξ ο 0)<|aC 216 19
abbrev yF:List (Nat×φ):=[(2,Ξ ο 0),jv 3 0,(4,Ξ .u32 0)]
def Mh:=aK<|kH (gQ eu yo (bv 19 I::yF)) pQ<|ah 216 20
def Mi:=aK<|c8 (gQ eu Mh yF) pQ (.tuple #[])<|ah 216 22
def Mj:=aK<|c8 (gQ eu Mi yF) pQ (Ω<|V a0)<|ah 216 23
def TA:=aK<|c8 (gQ eu Mj yF) pQ (.tuple #[])<|ah 216 27
def TB:=aK<|kH (gQ eu TA (bv 26 I::yF)) pQ<|ah 216 32
def A9:=aK<|kH (gQ eu TB (bv 31 U::yF)) pQ<|ah 166 32
def gC6:=kH (gQ eu yo (bv 19 U::yF)) pQ<|ah 254 12
def yp:=aK gC6
def GK:=cH 0 gC6
def GL:=aK<|c8 (gM eu 254 13 yp []) (gQ eu GK yF::pQ) (.bool I)<|aC 216 52
def Mk:=aK<|kH (gQ eu GL (bv 52 I::yF)) pQ<|ah 216 56
def Ml:=aK<|c8 (gQ eu Mk yF) pQ (Ω<|V a0)<|ah 216 57
def TD:=aK<|c8 (gQ eu Ml yF) pQ (.tuple #[])<|ah 216 62
def Mm:=aK<|kH (gQ eu TD [bv 61 U,bv 5 U]) pQ<|ah 216 72
def gC7:=c8 (gQ eu Mm []) pQ (.tuple #[])<|ah 244 6
def Mn:=cH 0 gC7
def Mo:=aK<|c8 (gM eu 244 7 nP []) (gQ eu Mn []::pQ) (Ξ ο 0)<|ah 216 78
def Mp:=aK<|c8 (gQ eu Mo []) pQ (.tuple #[])<|ah 216 80
def TE:=aK<|c8 (gQ eu Mp []) pQ (Ω<|V a0)<|ah 216 81
def rH:=aK<|c8 (kl U eu A9 []) [] (Δ (V a0) 1 1)<|aC 166 35
abbrev PN:List (Nat×φ):=[(32,Δ (V a0) 1 1),iv 33 1,iv 34 0]
def Mr:=aK<|kH (kl U eu rH (bv 35 I::PN)) []<|ah 166 36
def Ms:=aK<|c8 (kl U eu Mr PN) [] (Ω<|V a0)<|ah 166 37
def gC8:=c8 (kl U eu Ms PN) [] (Ξ Γ 0)<|aC 84 4
def Mt:=cH 0 gC8
abbrev qt(v:Int)(k:Int)(w:Int):List (Nat×φ):=[(2,Ξ ο v),jv 3 k,(4,Ξ .u32 w)]
abbrev tz(v:Int)(k:Int)(w:Int):List (Nat×φ):=[(6,Ξ ο v),bv 4 U,jv 7 k,(8,Ξ .u32 w)]
noncomputable abbrev iI (b:Bool) (q:MP) (cb:μ) (ib:μ) (i:Int):List bG:=[(kl b q qs [pv 10 cb,pv 9 ib,iv 23 i])]
abbrev aaz(E:μ)(n:Nat)(i:Int):List (Nat×φ):=[(32,Δ (V E) n n),iv 33 n,iv 34 i]
abbrev aay(gb:μ)(v0:φ)(ca:Option μ)(n:Nat)(m:Nat)(room:Int):List (Nat×φ):=[pv 3 gb,(0,v0),(1,.slice ca n m),iv 2 room]
def acn(ca n m room gb):lP (Ω<|V gb) (fK b tk3 [(0,v0),(1,.slice ca n m),iv 2 room]) [] {fF Tw (decide<|(n:Int)>room) 6 with l:=[bv 4 (decide<|(n:Int)>room),bv 0<|decide<|(n:Int)>room,iv 1 6]} [fK b L9 (aay gb v0 ca n m room)]:=by cases b<;>exactλ_ _=>aR (aC 84 4) λ_=>by kernel_rfl
def akV(ca n m room gb):up {fF Tw (U) 6 with l:=[bv 4 (U),bv 0<|U,iv 1 6]} [fK b L9 (aay gb v0 ca n m room)] (fK b L' (iv 19 n::aay gb v0 ca n m room)) []:=by cases b<;>exactλ_ _=>bJ (ah 166 20) λ_=>by kernel_rfl
def TF(ca n m room gb E):lP (Δ (V E) n n) (fK b L' (iv 19 n::aay gb v0 ca n m room)) [] (fK b tk6 ((20,Δ (V E) n n)::aay gb v0 ca n m room)) []:=by cases b<;>exactλ_ _=>aR (ah 166 6) λ_=>by kernel_rfl
def aco(ca n m room gb eb E):lP (Ω<|V eb) (fK b tk6 ((20,Δ (V E) n n)::aay gb v0 ca n m room)) [] (fK b CO ((20,Δ (V E) n n)::pv 6 eb::aay gb v0 ca n m room)) []:=by cases b<;>exactλ_ _=>aR (eh 166) λ_=>by kernel_rfl
def Mv(ca n m room gb eb E):lP (undef) (fK b CO ((20,Δ (V E) n n)::pv 6 eb::aay gb v0 ca n m room)) [] (fK b tk7 (pv 6 eb::aay gb v0 ca n m room)) []:=by cases b<;>exactλ_ _=>aR (ah 166 7) λ_=>by kernel_rfl
def acp(ca n m room gb eb lk):lP (Ω<|V lk) (fK b tk7 (pv 6 eb::aay gb v0 ca n m room)) [] (fK b tk8 (pv 7 lk::pv 6 eb::aay gb v0 ca n m room)) []:=by cases b<;>exactλ_ _=>aR (ah 166 8) λ_=>by kernel_rfl
def acr(ca n m room gb eb lk wg):lP (Ω<|V wg) (fK b tk8 (pv 7 lk::pv 6 eb::aay gb v0 ca n m room)) [] (kl b ⟨ca,n,m,gb,eb,lk,wg⟩ uq [bv 24 (decide<|(0:Int)<n),iv 23 0]) []:=by cases b<;>exactλ_ _=>aR (aC 166 24) λ_=>by kernel_rfl
def GM:up (kl b q uq [bv 24 I,iv 23 i]) [] (kl b q GD [iv 25 i,iv 23 i]) []:=by cases b<;>exactλ_ _=>bJ (ah 166 26) λ_=>by kernel_rfl
def TG:lP (Ω<|V ce) (kl b q GD [iv 25 i,iv 23 i]) [] (kl b q GE [pv 26 ce,iv 25 i,iv 23 i]) []:=by cases b<;>exactλ_ _=>aR (ah 166 27) λ_=>by kernel_rfl
def TH(v):lP (v) (kl b q GE [pv 26 ce,iv 25 i,iv 23 i]) [] (kl b q OH [(27,v),iv 25 i,iv 23 i]) []:=by cases b<;>exactλ_ _=>aR (ah 166 9) λ_=>by kernel_rfl
def acs(v):lP (Ω<|V ib) (kl b q OH [(27,v),iv 25 i,iv 23 i]) [] (kl b q GF [pv 9 ib,(27,v),iv 25 i,iv 23 i]) []:=by cases b<;>exactλ_ _=>aR (ah 166 10) λ_=>by kernel_rfl
def TJ(v):lP (Ω<|V cb) (kl b q GF [pv 9 ib,(27,v),iv 25 i,iv 23 i]) [] (kl b q yl [pv 10 cb,pv 9 ib,(27,v),iv 25 i,iv 23 i]) []:=by cases b<;>exactλ_ _=>aR (eh 166) λ_=>by kernel_rfl
def Mw(v):lP (undef) (kl b q yl [pv 10 cb,pv 9 ib,(27,v),iv 25 i,iv 23 i]) [] (kl b q ym [pv 10 cb,pv 9 ib,(27,v),iv 23 i]) []:=by cases b<;>exactλ_ _=>aR (eh 166) λ_=>by kernel_rfl
def My(v):lP (undef) (kl b q ym [pv 10 cb,pv 9 ib,(27,v),iv 23 i]) [] (gA q Mb [] []) (iI b q cb ib i):=by cases b<;>exactλ_ _=>aR (ah 210 14) λ_=>by kernel_rfl
def TK:lP (.tuple #[]) (gA q Mb [] []) (iI b q cb ib i) (gM q 242 10 CP [pv 7 q.wg,(8,Ξ ο 4294967296)]) (gA q Mc [bv 4 U] [dK]::iI b q cb ib i):=by cases b<;>exactλ_ _=>aR (ah 242 9) λ_=>by kernel_rfl
def Mz(v):lP (Ξ ο v) (gM q 242 10 CP [pv 7 q.wg,(8,Ξ ο 4294967296)]) (gA q Mc [bv 4 U] [dK]::iI b q cb ib i) (gA q Tx [bv 47 (bits .and ο v 2147483648 !=0),(6,Ξ ο v),bv 4 U] [dK]) (iI b q cb ib i):=by cases b<;>exactλ_ _=>aR (ah 210 48) λ_=>by kernel_rfl
def acu(v):up (gA q Tx [bv 47 U,(6,Ξ ο v),bv 4 U] [dK]) (iI b q cb ib i) (gA q CQ [bv 67 (decide<|Θ .i32 (v.fdiv 4294967296)=1),(6,Ξ ο v),bv 4 U,jv 7<|Θ .i32<|v.fdiv 4294967296,(8,Ξ .u32<|Θ .u32<|bits .and ο v 2147483647)] [dK]) (iI b q cb ib i):=by cases b<;>exactλ_ _=>bJ (aC 210 67) λ_=>by kernel_rfl
def TL(v k w):up (gA q CQ (bv 67 I::tz v k w) [dK]) (iI b q cb ib i) (gA q Me (pv 70 (q.wg.add 1)::tz v k w) [dK]) (iI b q cb ib i):=by cases b<;>exactλ_ _=>bJ (ah 210 71) λ_=>by kernel_rfl
def TM(v k w):lP (Ω<|V<|q.wg.add 1) (gA q Me (pv 70 (q.wg.add 1)::tz v k w) [dK]) (iI b q cb ib i) (gA q Mf (pv 71 (q.wg.add 1)::tz v k w) [dK]) (iI b q cb ib i):=by cases b<;>exactλ_ _=>aR (ah 210 72) λ_=>by kernel_rfl
def TN(v k w):lP (.tuple #[]) (gA q Mf (pv 71 (q.wg.add 1)::tz v k w) [dK]) (iI b q cb ib i) (gA q yn (bv 74 (decide<|k<0)::tz v k w) [dK]) (iI b q cb ib i):=by cases b<;>exactλ_ _=>aR (aC 210 74) λ_=>by kernel_rfl
def TO(v k w):up (gA q CQ (bv 67 U::tz v k w) [dK]) (iI b q cb ib i) (gA q yn (bv 74 (decide<|k<0)::tz v k w) [dK]) (iI b q cb ib i):=by cases b<;>exactλ_ _=>bJ (aC 210 74) λ_=>by kernel_rfl
def TP(v k w):up (gA q yn (bv 74 U::tz v k w) [dK]) (iI b q cb ib i) (gA q Ty (bv 78 (w !=0)::tz v k w) [dK]) (iI b q cb ib i):=by cases b<;>exactλ_ _=>bJ (ah 210 79) λ_=>by kernel_rfl
def TQ(v k w):up (gA q Ty (bv 78 U::tz v k w) [dK]) (iI b q cb ib i) (gA q Tz (bv 91 (decide<|k>0)::tz v k w) [dK]) (iI b q cb ib i):=by cases b<;>exactλ_ _=>bJ (ah 210 92) λ_=>by kernel_rfl
def acv(v k w):up (gA q Tz (bv 91 I::tz v k w) [dK]) (iI b q cb ib i) (gAr tar [dK]) (iI b q cb ib i):=by cases b<;>exactλ_ _=>bJ (rE) λ_=>by kernel_rfl
def acw:up (gAr tar []) (iI b q cb ib i) (kl b q Mg [(29,.func (.func 211) #[] (q.wp cb ib).tx),iv 23 i]) []:=by cases b<;>exactλ_ _=>bJ (ack 166) λ_=>by kernel_rfl
def TR(a):lP (undef) (kl b q Mg [(29,a),iv 23 i]) [] (kl b q uq [bv 24 (decide<|Θ Γ (i+1)<q.n),iv 23<|Θ Γ<|i+1]) []:=by cases b<;>exactλ_ _=>aR (aC 166 24) λ_=>by kernel_rfl
def GN:up (kl b q uq [bv 24 U,iv 23 i]) [] (gQ q tq7 []) [(kl b q cC [])]:=by cases b<;>exactλ_ _=>bJ (ah 216 7) λ_=>by kernel_rfl
def acx:lP (.tuple #[]) (gQ q tq7 []) [(kl b q cC [])] (gM q 244 7 nP [pv 5 q.wg]) [gQ q GJ [],(kl b q cC [])]:=by cases b<;>exactλ_ _=>aR (ah 244 6) λ_=>by kernel_rfl
def MA:lP (Ξ ο v) (gM q 244 7 nP [pv 5 q.wg]) [gQ q GJ [],(kl b q cC [])] (gQ q yo [bv 19 (decide<|Θ .i32 (v.fdiv 4294967296)=0),(2,Ξ ο v),jv 3<|Θ .i32<|v.fdiv 4294967296,(4,Ξ .u32<|Θ .u32<|bits .and ο v 2147483647)]) [(kl b q cC [])]:=by cases b<;>exactλ_ _=>aR (aC 216 19) λ_=>by kernel_rfl
def TS:up (gQ q yo (bv 19 I::qt v k w)) [(kl b q cC [])] (gQ q Mh<|qt v k w) [(kl b q cC [])]:=by cases b<;>exactλ_ _=>bJ (ah 216 20) λ_=>by kernel_rfl
def TU:lP (.tuple #[]) (gQ q Mh<|qt v k w) [(kl b q cC [])] (gQ q Mi (pv 21 q.wg::qt v k w)) [(kl b q cC [])]:=by cases b<;>exactλ_ _=>aR (ah 216 22) λ_=>by kernel_rfl
def TV:lP (Ω<|V q.wg) (gQ q Mi (pv 21 q.wg::qt v k w)) [(kl b q cC [])] (gQ q Mj (pv 22 q.wg::qt v k w)) [(kl b q cC [])]:=by cases b<;>exactλ_ _=>aR (ah 216 23) λ_=>by kernel_rfl
def TW:lP (.tuple #[]) (gQ q Mj (pv 22 q.wg::qt v k w)) [(kl b q cC [])] (gQ q TA (bv 26 (decide<|w=0)::qt v k w)) [(kl b q cC [])]:=by cases b<;>exactλ_ _=>aR (ah 216 27) λ_=>by kernel_rfl
def acy:up (gQ q TA (bv 26 I::qt v k w)) [(kl b q cC [])] (gQ q TB (bv 31 (bits .and ο v 2147483648 !=0)::qt v k w)) [(kl b q cC [])]:=by cases b<;>exactλ_ _=>bJ (ah 216 32) λ_=>by kernel_rfl
def acz:up (gQ q TB (bv 31 U::qt v k w)) [(kl b q cC [])] (kl b q A9 []) []:=by cases b<;>exactλ_ _=>bJ (ah 166 32) λ_=>by kernel_rfl
def TX:up (gQ q yo (bv 19 U::qt v k w)) [(kl b q cC [])] (gM q 254 13 yp [pv 9 q.wg,(10,Ξ ο v),(11,Ξ ο<|Θ ο<|v+1)]) [gQ q GK (qt v k w),(kl b q cC [])]:=by cases b<;>exactλ_ _=>bJ (ah 254 12) λ_=>by kernel_rfl
def TY:lP (.bool I) (gM q 254 13 yp [pv 9 q.wg,(10,Ξ ο v),(11,Ξ ο<|Θ ο<|v+1)]) [gQ q GK (qt v k w),(kl b q cC [])] (gQ q GL (bv 52 (decide<|w=0)::qt v k w)) [(kl b q cC [])]:=by cases b<;>exactλ_ _=>aR (aC 216 52) λ_=>by kernel_rfl
def TZ:lP (.bool U) (gM q 254 13 yp [pv 9 q.wg,(10,Ξ ο v),(11,Ξ ο<|Θ ο<|v+1)]) [gQ q GK (qt v k w),(kl b q cC [])] (gM q 244 7 nP [pv 5 q.wg]) [gQ q GJ [],(kl b q cC [])]:=by cases b<;>exactλ_ _=>aR (ah 244 6) λ_=>by kernel_rfl
def T1:up (gQ q GL (bv 52 I::qt v k w)) [(kl b q cC [])] (gQ q Mk (pv 55 (q.wg.add 1)::qt v k w)) [(kl b q cC [])]:=by cases b<;>exactλ_ _=>bJ (ah 216 56) λ_=>by kernel_rfl
def T2:lP (Ω<|V<|q.wg.add 1) (gQ q Mk (pv 55 (q.wg.add 1)::qt v k w)) [(kl b q cC [])] (gQ q Ml (pv 56 (q.wg.add 1)::qt v k w)) [(kl b q cC [])]:=by cases b<;>exactλ_ _=>aR (ah 216 57) λ_=>by kernel_rfl
def T3:lP (.tuple #[]) (gQ q Ml (pv 56 (q.wg.add 1)::qt v k w)) [(kl b q cC [])] (gQ q TD [bv 61 (bits .and ο v 2147483648 !=0),bv 5 U]) [(kl b q cC [])]:=by cases b<;>exactλ_ _=>aR (ah 216 62) λ_=>by kernel_rfl
def acA:up (gQ q TD [bv 61 U,bv 5 U]) [(kl b q cC [])] (gQ q Mm [pv 70 (q.wg.add 1),bv 71 U]) [(kl b q cC [])]:=by cases b<;>exactλ_ _=>bJ (ah 216 72) λ_=>by kernel_rfl
def T4:lP (.tuple #[]) (gQ q Mm [pv 70 (q.wg.add 1),bv 71 U]) [(kl b q cC [])] (gM q 244 7 nP [pv 5 q.wg]) [gQ q Mn [],(kl b q cC [])]:=by cases b<;>exactλ_ _=>aR (ah 244 6) λ_=>by kernel_rfl
def GO:lP (Ξ ο v) (gM q 244 7 nP [pv 5 q.wg]) [gQ q Mn [],(kl b q cC [])] (gQ q Mo [bv 6 (v !=0)]) [(kl b q cC [])]:=by cases b<;>exactλ_ _=>aR (ah 216 78) λ_=>by kernel_rfl
def T5:lP (.tuple #[]) (gQ q Mo [bv 6 U]) [(kl b q cC [])] (gQ q Mp [pv 79 q.wg,bv 6 U]) [(kl b q cC [])]:=by cases b<;>exactλ_ _=>aR (ah 216 80) λ_=>by kernel_rfl
def T6:lP (Ω<|V q.wg) (gQ q Mp [pv 79 q.wg,bv 6 U]) [(kl b q cC [])] (gQ q TE [pv 80 q.wg,bv 6 U]) [(kl b q cC [])]:=by cases b<;>exactλ_ _=>aR (ah 216 81) λ_=>by kernel_rfl
def T7:lP (.tuple #[]) (gQ q TE [pv 80 q.wg,bv 6 U]) [(kl b q cC [])] (kl b q A9 []) []:=by cases b<;>exactλ_ _=>aR (ah 166 32) λ_=>by kernel_rfl
def T8(n):lP (Δ (V E) n n) (kl b q A9 []) [] (kl b q rH [bv 35 (decide<|(0:Int)<n),(32,Δ (V E) n n),iv 33 n,iv 34 0]) []:=by cases b<;>exactλ_ _=>aR (aC 166 35) λ_=>by kernel_rfl
def T9(n i):up (kl b q rH (bv 35 I::aaz E n i)) [] (kl b q Mr<|aaz E n i) []:=by cases b<;>exactλ_ _=>bJ (ah 166 36) λ_=>by kernel_rfl
def Ua(n i):lP (Ω<|V ce) (kl b q Mr<|aaz E n i) [] (kl b q Ms (pv 36 ce::aaz E n i)) []:=by cases b<;>exactλ_ _=>aR (ah 166 37) λ_=>by kernel_rfl
def Ub(n i e):lP (Ξ Γ e) (kl b q Ms (pv 36 ce::aaz E n i)) [] {fF Tw (e !=0) e with l:=[bv 4 (e !=0),bv 0<|e !=0,iv 1 e]} [(kl b q Mt<|aaz E n i)]:=by cases b<;>exactλ_ _=>aR (aC 84 4) λ_=>by kernel_rfl
def acB(n i e):up {fF Tw U e with l:=[bv 4 U,bv 0 U,iv 1 e]} [(kl b q Mt<|aaz E n i)] (kl b q rH [bv 35 (decide<|Θ Γ (i+1)<n),(32,Δ (V E) n n),iv 33 n,iv 34<|Θ Γ<|i+1]) []:=by cases b<;>exactλ_ _=>bJ (aC 166 35) λ_=>by kernel_rfl
def acC(n i e):up {fF Tw I e with l:=[bv 4 I,bv 0 I,iv 1 e]} [(kl b q Mt<|aaz E n i)] {fF OG I e with l:=[(7,.iface 177<|.agg #[Ξ Γ e])]} [(kl b q Mt<|aaz E n i)]:=by cases b<;>exactλ_ _=>bJ (CM 84) λ_=>by kernel_rfl
def tkr:=aK<|kH (kl U eu rH (bv 35 U::PN)) []<|lQ 166
def Uc(n i):up (kl b q rH (bv 35 U::aaz E n i)) [] {fn:=166,n:=43,T:=tkr,l:=[],mode:=.returning,kind:=jq b} []:=by cases b<;>exactλ_ _=>bJ (lQ 166) λ_=>by kernel_rfl
end
section
def zh(t:Z4):Sem Next:=do pure (.value<|<-Instr.alloc t I (.tuple #[]))
def mb(t:Z4)(x:φ):Sem Next:=do pure (.value<|<-Instr.box t x)
def mkS(t:Z4)(a b:φ):Sem Next:=do pure (.value<|<-Instr.makeSlice t a b)
def gp(P:ZV)(t:Z4)(z:φ):Prop:=∀w es,(zeroValue t).runT P w es=(.ok z w,es)
section
variable{P:ZV}{main:Bool}{g:R}{t:Z4}{w w':κ}{ad:μ}{v u z:φ}{q:Bool}
def gp.run(h:gp P t z)(w):(zeroValue t).run P w=.ok z w:=by
 have:=h w #[]
 simp_all
def gp.events(h:gp P t z)(w es):(zeroValue t).events P w es=es:=by simp
def gq(h:dl g=V (zh t))(hz:gp P t z):stepG P main g w=.go (fin (.pointer w.heap.size) g) (w.alloc<|.cells z.cells t) #[]:=by obtain⟨_,_,_,k,_⟩:=bU (w':=w.alloc<|.cells z.cells t) h;rw[k (.pointer w.heap.size),ZT];unfold zh Instr.alloc newVar newRow;simp[hz.run,hz.events,Z7,ZY]
def rI(h:dl g=V (mb t u)):stepG P main g w=.go (fin (.pointer w.heap.size) g) (w.alloc<|.cells u.cells t) #[]:=by obtain⟨_,_,_,k,_⟩:=bU (w':=w.alloc<|.cells u.cells t) h;rw[k (.pointer w.heap.size),ZT];unfold mb Instr.box newVar newRow;simp
def ut{x y v2}(h:dl g=V (gh t (Ω<|V ad)<|.agg #[x,y]))(hs:dt P t 2)(c:x.oneCell'=I)(b:y.oneCell'=I)(hc:w (ad.add 0)=V v)(hz:w.frozen? (ad.add 0)=U)(e:(w.setCell (ad.add 0) x) (ad.add 1)=V v2)(d:(w.setCell (ad.add 0) x).frozen? (ad.add 1)=U)(f:bR P g.frame.fn U):
 stepG P main g w=.go (fin undef g) ((w.setCell (ad.add 0) x).setCell (ad.add 1) y) #[⟨.cell<|ad.add 0,I,U⟩,⟨.cell<|ad.add 1,I,U⟩]:=by
 obtain⟨_,_,_,_,k,_⟩:=bU (P:=P) (main:=main) (w:=w) (w':=(w.setCell (ad.add 0) x).setCell (ad.add 1) y) (es:=#[⟨.cell<|ad.add 0,I,U⟩,⟨.cell<|ad.add 1,I,U⟩]) h;rw[k];rw[seen_def];unfold bR at f;simp[seenStep,f];rw[Sem.runT_eq];unfold gh Instr.storeAt Instr.sureAddr storeVar;have a:(Value.agg #[x,y]).cells=#[x,y]:=rfl;simp[hs.run,hs.events,a,storeCells,hc,hz,e,d,Z7,ZY,events_store P _ _ _ x .plain c,run_store P _ _ x .plain c,events_store P _ _ _ y .plain b,run_store P _ _ y .plain b]
def Ba{f tx}(h:dl g=V (pure<|.spawn {target:=.fn f tx,args:=#[]})):
 stepG P main g w=.spawn (fin undef g) {frame:={(default:Z9)with fn:=P.funcs.size,defers:=[{target:=.fn f tx,args:=#[]}],mode:=.panicking [goexitEntry]},callers:=[],status:=.running,dying:=ζ} w #[]:=by
 unfold dl at h;by_cases d:d9 g=I
 ·rw[if_pos d]at h;obtain⟨fr,cs,st,j,off⟩:=g;obtain⟨fn,b,todo,defers,mode,kind,l⟩:=fr;obtain⟨o,a,e⟩:=ψ.1 h;obtain⟨rfl,rfl,rfl,rfl,k⟩:st=.running/\j=ζ/\off=ζ/\l=ζ/\(kind==.early)=U:=by unfold Ph.d9 at d;dsimp only at d;split at d<;>first|(cases d;done)|exact⟨rfl,rfl,rfl,rfl,rfl⟩
  unfold rC at a;dsimp only at a e;cases mode with
  |run=>
   obtain _|⟨i,rest⟩:=todo
   cases a
   cases i with
   |inRegion c todo=>
    obtain _|⟨i,is⟩:=todo
    cases a
    dsimp only at a;by_cases hw:(((c[i]?).map (Region.wanted · (yielded c b))).getD U)=I
    rw[if_pos hw]at a;unfold stepG;dsimp only;unfold stepG.exec;dsimp only;simp only[if_pos hw];unfold stepG.oper;simp only[ZC,a];unfold stepG.apply;have m:(execOp (Frame.eval {fn:=fn,tmps:=b,todo:=.inRegion c (i::is)::rest,defers:=defers,mode:=.run,kind:=kind,roundOf:=ζ}) o).runT P w #[]=(.ok (.spawn {target:=.fn f tx,args:=#[]}) w,#[]):=by rw[e];rfl
    simp only[if_true,m,k,ZW,if_false,ZT];simp only[Bool.and_false,Bool.false_and,ZW,if_false,GStep.after];rfl;rw[if_neg hw]at a;cases a
   |_=>cases a
  |_=>cases a
 rw[if_neg d]at h;cases h
end
def z83:gp P0 83 (Δ ζ 0 0):=λw a=>by kernel_rfl
def akX:gp P0 249 (.agg #[Ξ .i32 0,Ξ .u32 0]):=λw a=>by kernel_rfl
def akY:gp P0 255 (.agg #[Ξ ο 0,Ξ .u32 0]):=λw a=>by kernel_rfl
def z3:gp P0 3 (Ξ Γ 0):=λw a=>by kernel_rfl
def z76:∃v,gp P0 76 (.agg #[Ξ Γ 0,v]):=⟨Δ ζ 0 0,λw a=>by kernel_rfl⟩
def aeA(b q i cb ib cs c0 g)(h:aQ (kl b q Mg [(29,.func (.func 211) #[] (q.wp cb ib).tx),iv 23 i]) [] (c0::cs) g):dl g=V (pure<|.spawn<|vA<|q.wp cb ib):=by cases b<;>exact aQ.head (λF=>by kernel_rfl) g h
end
section
def akZ:∃i,P0.info? 34=V i/\i.zero=V (Ξ Γ 0)/\i.size=1/\i.bytes<=8:=by
 obtain⟨i,hi,a⟩:=ψ.1 (by kernel_rfl:(P0.info? 34).map (λi=>(i.zero,i.size,decide<|i.bytes<=8))=V (V<|Ξ Γ 0,1,I))
 grind
def bP(n:Nat):Array φ:=Array.replicate n<|Ξ Γ 0
def Bb(n):madeCells #[Ξ Γ 0] n=bP n:=by
 unfold madeCells bP
 grind
section
variable{main:Bool}{g:R}{w:κ}{n:Nat}
def Ef(e:n<1048576)(h:dl g=V (mkS 83 (Ξ Γ n)<|Ξ Γ n)):stepG P0 main g w=.go (fin (Δ (V ⟨w.heap.size,0,ζ⟩) n n) g) (w.alloc<|.cells (bP n) 34) #[]:=by
 obtain⟨i,hi,hz,hs,hb⟩:=akZ;have c:(i.bytes:Int)*(n:Int)<=281474976710656:=by
  have:i.bytes*n<=8*1048576:=ZD hb (by omega)
  grind
 have d:(n:Int).toNat*i.bytes<=140737488355328:=by have:i.bytes*n<=8*1048576:=ZD hb (by omega);rw[ZS,Nat.mul_comm];omega
 have h3:(n:Int).toNat*i.size<=16777216:=by rw[ZS,hs];omega
 have a:=run_makeSlice (P:=P0) w 83 34 i _ L8 hi hz Γ Γ n n (by omega) (Int.le_refl _) h3 c (by omega);have b:(Ξ IntKind.i64 0).cells=#[Ξ Γ 0]:=rfl;rw[ZS,hs,Nat.mul_one,b,Bb]at a;obtain⟨_,_,_,k,_⟩:=bU (P:=P0) (main:=main) (w:=w) (w':=w.alloc<|.cells (bP n) 34) (es:=#[]) h;rw[k (Δ (V ⟨w.heap.size,0,ζ⟩) n n),ZT];rw[Sem.runT_eq];unfold mkS;simp[a,events_make (P:=P0) w 83 34 i _ L8 hi hz Γ Γ n n (by omega) (Int.le_refl _) c (by omega) d #[],Z7,ZY]
def Bc{P s v}(h:dl g=V s)(e:s.runT P w #[]=(.halt (.panic v) w,#[])):stepG P main g w=.go {g with frame:=g.frame.raise [{v,recovered:=U}]} w #[]:=by
 unfold dl at h;by_cases b:d9 g=I
 ·rw[if_pos b]at h;obtain⟨fr,cs,st,f,off⟩:=g;obtain⟨fn,d,todo,defers,mode,kind,k⟩:=fr;obtain⟨o,a,rfl⟩:=ψ.1 h;obtain⟨rfl,rfl,rfl,rfl,j⟩:st=.running/\f=ζ/\off=ζ/\k=ζ/\(kind==.early)=U:=by unfold Ph.d9 at b;dsimp only at b;split at b<;>first|(cases b;done)|exact⟨rfl,rfl,rfl,rfl,rfl⟩
  unfold rC at a;dsimp only at a e;cases mode with
  |run=>
   obtain _|⟨i,rest⟩:=todo
   cases a
   cases i with
   |inRegion c todo=>
    obtain _|⟨i,is⟩:=todo
    cases a
    dsimp only at a;by_cases hw:(((c[i]?).map (Region.wanted · (yielded c d))).getD U)=I
    rw[if_pos hw]at a;unfold stepG;dsimp only;unfold stepG.exec;dsimp only;simp only[if_pos hw];unfold stepG.oper;simp only[ZC,a];unfold stepG.apply;simp only[if_true,e,j,ZW,if_false,ZT,GStep.after];rfl;rw[if_neg hw]at a;cases a
   |_=>cases a
  |_=>cases a
 rw[if_neg b]at h;cases h
def uu{P fr c cs a}(b:fr.mode=.panicking a)(hd:fr.defers=[])(hc:fr.catches P=U):stepG P main (G fr (c::cs)) w=.go (G (c.raise a) cs) w #[]:=by
 unfold stepG G;unfold unwind
 grind
end
end
end Ph
namespace Ph
open Go Go.Conc
open Go.ConcM (muA msA MuAt ShAt Eff BookOK book_nil book_dis book_en book_one book_rw book_sem)
open Go.ConcR (stA smA WgAt mk)
section
inductive Mq where
 |q7|ql|qc (k0:Nat)|QO|KO|Bd|GQ|Eg|rJ|qm|MB|Eh|yq|kI
def Mx(s:Mq)(h:Sh)(s':Mq)(h':Sh):Prop:=
 match s with
 |.q7=>s'=.ql/\h'=h
 |.ql=>h'=h/\s'=if h.k=0 then .QO else .qc h.k
 |.qc k0=>(h.k=k0/\h'={h with wt:=1}/\s'=.GQ)\/(h.k≠k0/\h'=h/\s'=.ql)
 |.QO=>s'=.KO/\h'=h
 |.KO=>s'=.Bd/\h'=h
 |.Bd=>s'=.kI/\h'=h
 |.GQ=>s'=.Eg/\h'=h
 |.Eg=>s'=.rJ/\h'=h
 |.rJ=>0<h.ws/\h'={h with ws:=h.ws-1}/\s'=.qm
 |.qm=>s'=.MB/\h'=h
 |.MB=>s'=.Eh/\h'=h
 |.Eh=>s'=.yq/\h'=h
 |.yq=>s'=.kI/\h'=h
 |.kI=>False
def CR:Mq->Nat
 |.q7|.KO|.Bd|.Eh|.yq|.kI=>0
 |_=>1
def EvQ(Mu Wg:Nat)(s s':Mq)(es:Array ZQ):Prop:=
 match s with
 |.Bd|.yq=>es=#[mk (.acquire<|stA Wg)]
 |.Eg=>es=#[mk (.write<|smA Wg)]
 |_=>BookOK Mu Wg (CR s) (CR s') es
def wv(k wt:Nat):Int:=(k:Int)*4294967296+(wt:Int)
def qG(k0:Nat):List (Nat×φ):=[(2,Ξ ο<|wv k0 0),jv 3 (k0:Int),(4,Ξ .u32 0)]
def Ei(b:Bool)(q:MP):bG:=kl b q cC []
def ey(b:Bool)(q:MP)(cs:List Z9)(s:Mq)(g:R):Prop:=
 match s with
 |.q7=>aQ (gQ q tq7 []) [Ei b q] cs g
 |.ql=>aQ (gM q 244 7 nP [pv 5 q.wg]) [gQ q GJ [],Ei b q] cs g
 |.qc k0=>aQ (gM q 254 13 yp [pv 9 q.wg,(10,Ξ ο<|wv k0 0),(11,Ξ ο<|Θ ο<|wv k0 0+1)]) [gQ q GK (qG k0),Ei b q] cs g/\k0<1073741824
 |.QO=>aQ (gQ q Mh<|qG 0) [Ei b q] cs g
 |.KO=>aQ (gQ q Mi (pv 21 q.wg::qG 0)) [Ei b q] cs g
 |.Bd=>aQ (gQ q Mj (pv 22 q.wg::qG 0)) [Ei b q] cs g
 |.GQ=>∃k0,aQ (gQ q Mk (pv 55 (q.wg.add 1)::qG k0)) [Ei b q] cs g/\k0<1073741824
 |.Eg=>∃k0,aQ (gQ q Ml (pv 56 (q.wg.add 1)::qG k0)) [Ei b q] cs g/\k0<1073741824
 |.rJ=>aQ (gQ q Mm [pv 70 (q.wg.add 1),bv 71 U]) [Ei b q] cs g
 |.qm=>aQ (gM q 244 7 nP [pv 5 q.wg]) [gQ q Mn [],Ei b q] cs g
 |.MB=>aQ (gQ q Mo [bv 6 U]) [Ei b q] cs g
 |.Eh=>aQ (gQ q Mp [pv 79 q.wg,bv 6 U]) [Ei b q] cs g
 |.yq=>aQ (gQ q TE [pv 80 q.wg,bv 6 U]) [Ei b q] cs g
 |.kI=>aQ (kl b q A9 []) [] cs g
def nR(tM tW:Z4)(Mu Wg:Nat)(b:Bool)(q:MP)(cs:List Z9)(s:Mq)(h:Sh)(g:R)(w:κ):Prop:=∃s' h' g' w' es,Mx s h s' h'/\stepG P0 I g w=.go g' w' es/\ShAt tM tW Mu Wg w' (dU h')/\Eff Mu Wg w w'/\EvQ Mu Wg s s' es/\bZ P0 I 2000 (ey b q cs s') g'
def QP:P0.underlying 294=V (.pointer 245):=by kernel_rfl
def QQ:(P0.info? 245).map (λi=>decide<|i.size=0)=V U:=by kernel_rfl
section
variable{tM tW:Z4}{Mu Wg:Nat}{b:Bool}{q:MP}{cs:List Z9}{c0:Z9}{h:Sh}{g:R}{w:κ}
def acD(hw:ShAt tM tW Mu Wg w (dU h))(hs:ey b q (c0::cs) .q7 g):nR tM tW Mu Wg b q (c0::cs) .q7 h g w:=by
 have a:dl g=V (ε 236 #[]):=by cases b<;>exact aQ.head (λF=>by kernel_rfl) g hs
 exact⟨.ql,h,_,w,_,⟨rfl,rfl⟩,mC .disable (λg h=>by cases h) F2 a,hw,Eff.refl w,book_dis 0,(acx b q cs c0 g hs).le<|by omega⟩
def acE(e:q.wg=stA Wg)(f:h.k<1073741824)(h0:h.wt=0)(hw:ShAt tM tW Mu Wg w (dU h))(hs:ey b q (c0::cs) .ql g):nR tM tW Mu Wg b q (c0::cs) .ql h g w:=by
 have j:dl g=V (ε 269 #[Ω (V q.wg)]):=by cases b<;>exact aQ.head (λF=>by kernel_rfl) g hs
 have hc:w.cell? q.wg=V (Ξ ο<|wv h.k 0):=by rw[e,hw.2.cellSt];show V (Ξ ο<|(h.k:Int)*4294967296+(h.wt:Int))=_;rw[h0];rfl
 refine⟨_,h,_,w,_,⟨rfl,rfl⟩,rD Sa j hc,hw,Eff.refl w,?_,?_⟩;show BookOK Mu Wg 1 (CR (if _ then _ else _)) _;split<;>exact book_one 0 _ _<|.inr (by rw[e];rfl)
 refine bZ.le (bZ.trans (n:=300) (k:=300) (MA b q (wv h.k 0) cs c0 g hs) λg c=>?_) (by omega);have i:(wv h.k 0).fdiv 4294967296=(h.k:Int):=by unfold wv;rw[ZP _ (by decide)];omega
 have l:Θ .u32 (bits .and ο (wv h.k 0) 2147483647)=0:=by
  unfold wv;rw[(Go.ConcN.st_waiters h.k 0 (by omega)<|by omega)]
  decide
 rw[i,wrap_small (by omega)<|by omega,l]at c;by_cases a:h.k=0
 rw[if_pos a];rw[(decide_eq_true<|by omega)]at c;have d:=TS b q _ _ _ cs c0 g c;rw[a]at d;exact d;rw[if_neg a];rw[(decide_eq_false<|by omega)]at c;exact bZ.mono (TX b q _ _ _ cs c0 g c) .refl λg c=>⟨c,f⟩
def acF{k0}(a:q.wg=stA Wg)(d:Mu≠Wg)(l:h.k<1073741824)(h0:h.wt=0)(hw:ShAt tM tW Mu Wg w (dU h))(hs:ey b q (c0::cs) (.qc k0) g):nR tM tW Mu Wg b q (c0::cs) (.qc k0) h g w:=by
 obtain⟨hs,e⟩:=hs;have e1:Θ ο (wv k0 0+1)=wv k0 1:=by unfold wv;rw[ZJ];omega
 have i:dl g=V (ε 275 #[Ω (V q.wg),Ξ ο<|wv k0 0,Ξ ο<|Θ ο<|wv k0 0+1]):=by cases b<;>exact aQ.head (λF=>by kernel_rfl) g hs
 have hc:w.cell? q.wg=V (Ξ ο<|wv h.k 0):=by rw[a,hw.2.cellSt];show V (Ξ ο<|(h.k:Int)*4294967296+(h.wt:Int))=_;rw[h0];rfl
 have hz:w.frozen? q.wg=U:=by rw[a];exact hw.2.thaw 0
 by_cases c:h.k=k0
 rw[c]at hc;refine⟨.GQ,{h with wt:=1},_,_,_,.inl ⟨c,rfl,rfl⟩,nJ aa7 i hc hz,?_,Eff.set _ _<|.inr (by rw[a];rfl),book_rw 0 _<|.inr (by rw[a];rfl),?_⟩;rw[a,e1,<-c];exact hw.setWg d _;refine bZ.le (bZ.trans (n:=300) (k:=300) (TY b q _ _ _ cs c0 g hs) λg f=>?_) (by omega);exact bZ.mono (T1 b q _ _ _ cs c0 g f) .refl λg f=>⟨k0,f,e⟩;refine⟨.ql,h,_,_,_,.inr ⟨c,rfl,rfl⟩,kY aa7 i hc hz λj=>c (by unfold wv at j;omega),hw,Eff.refl w,book_one 0 _ _<|.inr (by rw[a];rfl),(TZ b q _ _ _ cs c0 g hs).le<|by omega⟩
def Ud(hw:ShAt tM tW Mu Wg w (dU h))(hs:ey b q (c0::cs) .QO g):nR tM tW Mu Wg b q (c0::cs) .QO h g w:=by
 have a:dl g=V (ε 237 #[]):=by cases b<;>exact aQ.head (λF=>by kernel_rfl) g hs
 exact⟨.KO,h,_,w,_,⟨rfl,rfl⟩,mC .enable (λg h=>by cases h) tw a,hw,Eff.refl w,book_en 0,(TU b q _ _ _ cs c0 g hs).le<|by omega⟩
def CS(a:q.wg=stA Wg)(hw:ShAt tM tW Mu Wg w (dU h))(b:dl g=V (iC 288 219<|Ω<|V q.wg)):stepG P0 I g w=.go (fin (Ω<|V q.wg) g) w #[]:=iD b QL yf QM (by rw[a];exact hw.2.cellSt)
def Ue(a:q.wg=stA Wg)(hw:ShAt tM tW Mu Wg w (dU h))(hs:ey b q (c0::cs) .KO g):nR tM tW Mu Wg b q (c0::cs) .KO h g w:=by
 have c:dl g=V (iC 288 219<|Ω<|V q.wg):=by cases b<;>exact aQ.head (λF=>by kernel_rfl) g hs
 exact⟨.Bd,h,_,w,_,⟨rfl,rfl⟩,CS a hw c,hw,Eff.refl w,book_nil 0,(TV b q _ _ _ cs c0 g hs).le<|by omega⟩
def Uf(c:q.wg=stA Wg)(hw:ShAt tM tW Mu Wg w (dU h))(hs:ey b q (c0::cs) .Bd g):nR tM tW Mu Wg b q (c0::cs) .Bd h g w:=by
 have e:dl g=V (ε 252 #[Ω (V q.wg)]):=by cases b<;>exact aQ.head (λF=>by kernel_rfl) g hs
 have d:(#[⟨.mark<|.acquire q.wg,U,I⟩]:Array ZQ)=#[mk (.acquire<|stA Wg)]:=by rw[c];rfl
 refine⟨.kI,h,_,w,_,⟨rfl,rfl⟩,kZ .acquire (λ_ g h=>by cases h) La e,hw,Eff.refl w,d,?_⟩;refine bZ.le (bZ.trans (n:=300) (k:=600) (TW b q _ _ _ cs c0 g hs) λg a=>?_) (by omega);refine bZ.trans (n:=300) (k:=300) (acy b q _ _ _ cs c0 g a) λg a=>?_;rw[(by decide:(bits .and ο (wv 0 0) 2147483648 !=0)=U)]at a;exact acz b q _ _ _ cs c0 g a
def Ug(a:q.wg=stA Wg)(hw:ShAt tM tW Mu Wg w (dU h))(hs:ey b q (c0::cs) .GQ g):nR tM tW Mu Wg b q (c0::cs) .GQ h g w:=by
 obtain⟨e,hs,c⟩:=hs;have d:dl g=V (iC 294 219<|Ω<|V<|q.wg.add 1):=by cases b<;>exact aQ.head (λF=>by kernel_rfl) g hs
 have e1:q.wg.add 1=smA Wg:=by rw[a];rfl
 exact⟨.Eg,h,_,w,_,⟨rfl,rfl⟩,iD (P:=P0) (main:=I) d QP yf QQ (by rw[e1];exact hw.2.cellSm),hw,Eff.refl w,book_nil 1,bZ.mono (T2 b q _ _ _ cs c0 g hs) (by omega) λg f=>⟨e,f,c⟩⟩
def Uh(a:q.wg=stA Wg)(hw:ShAt tM tW Mu Wg w (dU h))(hs:ey b q (c0::cs) .Eg g):nR tM tW Mu Wg b q (c0::cs) .Eg h g w:=by
 obtain⟨d,hs,i⟩:=hs;have e1:q.wg.add 1=smA Wg:=by rw[a];rfl
 have j:dl g=V (ε 255 #[Ω (V<|q.wg.add 1)]):=by cases b<;>exact aQ.head (λF=>by kernel_rfl) g hs
 have c:(#[⟨.mark<|.write<|q.wg.add 1,U,I⟩]:Array ZQ)=#[mk (.write<|smA Wg)]:=by rw[e1];rfl
 refine⟨.rJ,h,_,w,_,⟨rfl,rfl⟩,kZ .write (λ_ g h=>by cases h) akM j,hw,Eff.refl w,c,?_⟩;refine bZ.le (bZ.trans (n:=300) (k:=300) (T3 b q _ _ _ cs c0 g hs) λg e=>?_) (by omega);have f:(bits .and ο (wv d 0) 2147483648 !=0)=U:=by unfold wv;rw[(Go.ConcN.st_flag d 0 (by omega)<|by omega)];rfl
 rw[f]at e;exact acA b q cs c0 g e
def yr(a:q.wg=stA Wg)(h0:h.ws=0)(hw:ShAt tM tW Mu Wg w (dU h))(hs:ey b q (c0::cs) .rJ g):stepG P0 I g w=.go {g with status:=.blocked} w #[]:=by
 have c:dl g=V (ε 256 #[Ω (V<|q.wg.add 1),.bool U]):=by cases b<;>exact aQ.head (λF=>by kernel_rfl) g hs
 have e1:q.wg.add 1=smA Wg:=by rw[a];rfl
 refine xU aa8 c rfl ?_;rw[e1,hw.2.cellSm];show V (Ξ IntKind.u32 (h.ws:Int))=_;rw[h0];rfl
def Ui(a:q.wg=stA Wg)(c:Mu≠Wg)(h0:0<h.ws)(hw:ShAt tM tW Mu Wg w (dU h))(hs:ey b q (c0::cs) .rJ g):nR tM tW Mu Wg b q (c0::cs) .rJ h g w:=by
 have d:dl g=V (ε 256 #[Ω (V<|q.wg.add 1),.bool U]):=by cases b<;>exact aQ.head (λF=>by kernel_rfl) g hs
 have e1:q.wg.add 1=smA Wg:=by rw[a];rfl
 have hc:w.cell? (q.wg.add 1)=V (Ξ .u32 (h.ws:Int)):=by rw[e1,hw.2.cellSm];rfl
 refine⟨.qm,{h with ws:=h.ws-1},_,_,_,⟨h0,rfl,rfl⟩,P6 (P:=P0) (main:=I) aa8 d rfl hc (by omega) (by rw[e1];exact hw.2.thaw 1),?_,Eff.set _ _<|.inr (by rw[e1];rfl),book_sem 0 _<|.inr (by rw[e1];rfl),(T4 b q cs c0 g hs).le<|by omega⟩;rw[e1];have:=hw.setWs c<|(h.ws:Int) -1;unfold dU at this⊢;dsimp only at this⊢;rw[<-(by omega:(h.ws:Int) -1=((h.ws-1:Nat):Int))];exact this
def acG(a:q.wg=stA Wg)(c:h.k=0)(h0:h.wt=0)(hw:ShAt tM tW Mu Wg w (dU h))(hs:ey b q (c0::cs) .qm g):nR tM tW Mu Wg b q (c0::cs) .qm h g w:=by
 have d:dl g=V (ε 269 #[Ω (V q.wg)]):=by cases b<;>exact aQ.head (λF=>by kernel_rfl) g hs
 have hc:w.cell? q.wg=V (Ξ ο 0):=by rw[a,hw.2.cellSt];show V (Ξ ο<|(h.k:Int)*4294967296+(h.wt:Int))=_;rw[h0,c];rfl
 exact⟨.MB,h,_,w,_,⟨rfl,rfl⟩,rD Sa d hc,hw,Eff.refl w,book_one 0 _ _<|.inr (by rw[a];rfl),(GO b q 0 cs c0 g hs).le<|by omega⟩
def Uj(hw:ShAt tM tW Mu Wg w (dU h))(hs:ey b q (c0::cs) .MB g):nR tM tW Mu Wg b q (c0::cs) .MB h g w:=by
 have a:dl g=V (ε 237 #[]):=by cases b<;>exact aQ.head (λF=>by kernel_rfl) g hs
 exact⟨.Eh,h,_,w,_,⟨rfl,rfl⟩,mC .enable (λg h=>by cases h) tw a,hw,Eff.refl w,book_en 0,(T5 b q cs c0 g hs).le<|by omega⟩
def Uk(a:q.wg=stA Wg)(hw:ShAt tM tW Mu Wg w (dU h))(hs:ey b q (c0::cs) .Eh g):nR tM tW Mu Wg b q (c0::cs) .Eh h g w:=by
 have c:dl g=V (iC 288 219<|Ω<|V q.wg):=by cases b<;>exact aQ.head (λF=>by kernel_rfl) g hs
 exact⟨.yq,h,_,w,_,⟨rfl,rfl⟩,CS a hw c,hw,Eff.refl w,book_nil 0,(T6 b q cs c0 g hs).le<|by omega⟩
def Ul(a:q.wg=stA Wg)(hw:ShAt tM tW Mu Wg w (dU h))(hs:ey b q (c0::cs) .yq g):nR tM tW Mu Wg b q (c0::cs) .yq h g w:=by
 have d:dl g=V (ε 252 #[Ω (V q.wg)]):=by cases b<;>exact aQ.head (λF=>by kernel_rfl) g hs
 have c:(#[⟨.mark<|.acquire q.wg,U,I⟩]:Array ZQ)=#[mk (.acquire<|stA Wg)]:=by rw[a];rfl
 exact⟨.kI,h,_,w,_,⟨rfl,rfl⟩,kZ .acquire (λ_ g h=>by cases h) La d,hw,Eff.refl w,c,(T7 b q cs c0 g hs).le<|by omega⟩
end
end
section
inductive Ma where
 |GR|tA|QR|GS|ar|yt
def Ax(s:Ma)(h:Sh)(s':Ma)(h':Sh):Prop:=
 match s with
 |.GR=>s'=.tA/\h'=h
 |.tA=>h'={h with k:=h.k+1}/\s'=if h.k=0 then .QR else .ar
 |.QR=>s'=.GS/\h'=h
 |.GS=>s'=.ar/\h'=h
 |.ar=>s'=.yt/\h'=h
 |.yt=>False
def CU:Ma->Nat
 |.GR|.yt=>0
 |_=>1
def EvA(Mu Wg:Nat)(s s':Ma)(es:Array ZQ):Prop:=
 match s with
 |.GS=>es=#[mk (.read<|smA Wg)]
 |_=>BookOK Mu Wg (CU s) (CU s') es
def Ah(b:Bool)(q:MP)(i:Int)(ib cb:μ):bG:=kl b q qs [pv 10 cb,pv 9 ib,iv 23 i]
def aG(k:Nat):List (Nat×φ):=[(6,Ξ ο<|wv k 0),bv 4 U,jv 7 (k:Int),(8,Ξ .u32 0)]
def jO(b:Bool)(q:MP)(i:Int)(ib cb:μ)(cs:List Z9)(s:Ma)(g:R):Prop:=
 match s with
 |.GR=>aQ (gA q Mb [] []) [Ah b q i ib cb] cs g
 |.tA=>aQ (gM q 242 10 CP [pv 7 q.wg,(8,Ξ ο 4294967296)]) [gA q Mc [bv 4 U] [dK],Ah b q i ib cb] cs g
 |.QR=>aQ (gA q Me (pv 70 (q.wg.add 1)::aG 1) [dK]) [Ah b q i ib cb] cs g
 |.GS=>aQ (gA q Mf (pv 71 (q.wg.add 1)::aG 1) [dK]) [Ah b q i ib cb] cs g
 |.ar=>aQ (gAr tar [dK]) [Ah b q i ib cb] cs g
 |.yt=>aQ (kl b q Mg [(29,.func (.func 211) #[] (q.wp cb ib).tx),iv 23 i]) [] cs g
def Ej(tM tW:Z4)(Mu Wg:Nat)(b:Bool)(q:MP)(i:Int)(ib cb:μ)(cs:List Z9)(s:Ma)(h:Sh)(g:R)(w:κ):Prop:=∃s' h' g' w' es,Ax s h s' h'/\stepG P0 I g w=.go g' w' es/\ShAt tM tW Mu Wg w' (dU h')/\Eff Mu Wg w w'/\EvA Mu Wg s s' es/\bZ P0 I 2000 (jO b q i ib cb cs s') g'
section
variable{tM tW:Z4}{Mu Wg:Nat}{b:Bool}{q:MP}{i:Int}{ib cb:μ}{cs:List Z9}{c0:Z9}{h:Sh}{g:R}{w:κ}
def Um(hw:ShAt tM tW Mu Wg w (dU h))(hs:jO b q i ib cb (c0::cs) .GR g):Ej tM tW Mu Wg b q i ib cb (c0::cs) .GR h g w:=by
 have a:dl g=V (ε 236 #[]):=by cases b<;>exact aQ.head (λF=>by kernel_rfl) g hs
 exact⟨.tA,h,_,w,_,⟨rfl,rfl⟩,mC .disable (λg h=>by cases h) F2 a,hw,Eff.refl w,book_dis 0,(TK b q i ib cb cs c0 g hs).le<|by omega⟩
def yu{k:Nat}(c:0<k)(hs:aQ (gA q yn (bv 74 (decide<|(k:Int)<0)::aG k) [dK]) [Ah b q i ib cb] (c0::cs) g):bZ P0 I 900 (jO b q i ib cb (c0::cs) .ar) g:=by refine bZ.trans (k:=600) (TP b q i ib cb _ _ _ cs c0 g hs) λg a=>?_;refine bZ.trans (k:=300) (TQ b q i ib cb _ _ _ cs c0 g a) λg a=>?_;rw[(decide_eq_true<|by omega)]at a;exact acv b q i ib cb _ _ _ cs c0 g a
def MC(a:q.wg=stA Wg)(j:Mu≠Wg)(v:h.k<1073741823)(h0:h.wt=0)(hw:ShAt tM tW Mu Wg w (dU h))(hs:jO b q i ib cb (c0::cs) .tA g):Ej tM tW Mu Wg b q i ib cb (c0::cs) .tA h g w:=by
 have t:dl g=V (ε 268 #[Ω (V q.wg),Ξ ο 4294967296]):=by cases b<;>exact aQ.head (λF=>by kernel_rfl) g hs
 have hc:w.cell? q.wg=V (Ξ ο<|wv h.k 0):=by rw[a,hw.2.cellSt];show V (Ξ ο<|(h.k:Int)*4294967296+(h.wt:Int))=_;rw[h0];rfl
 have e:=qF (P:=P0) (main:=I) aa6 t hc (by rw[a];exact hw.2.thaw 0);have ev:IntKind.u64.wrap (wv h.k 0+4294967296)=wv (h.k+1) 0:=by unfold wv;rw[ZJ];omega
 rw[ev]at e;refine⟨_,{h with k:=h.k+1},_,_,_,⟨rfl,rfl⟩,e,?_,Eff.set _ _<|.inr (by rw[a];rfl),?_,?_⟩;have o:dU {h with k:=h.k+1}={dU h with wg:=wv (h.k+1) 0}:=by unfold dU wv;dsimp only;rw[h0]
 rw[a,o];exact hw.setWg j _
 ·show BookOK Mu Wg 1 (CU (if _ then _ else _)) _;split<;>exact book_rw 0 _<|.inr (by rw[a];rfl)
 refine bZ.le (bZ.trans (n:=300) (k:=1500) (Mz b q i ib cb (wv (h.k+1) 0) cs c0 g hs) λg c=>?_) (by omega);have r:=Go.ConcN.st_flag (h.k+1) 0 (by omega) (by omega);have m:=Go.ConcN.st_waiters (h.k+1) 0 (by omega) (by omega);have l:(bits .and ο (wv (h.k+1) 0) 2147483648 !=0)=U:=by unfold wv;rw[r];rfl
 have s:(wv (h.k+1) 0).fdiv 4294967296=((h.k+1:Nat):Int):=by unfold wv;rw[ZP _ (by decide)];omega
 have p:Θ .i32 ((h.k+1:Nat):Int)=((h.k+1:Nat):Int):=wrap_small (by omega) (by omega);have u:Θ .u32 (bits .and ο (wv (h.k+1) 0) 2147483647)=0:=by
  unfold wv;rw[m]
  decide
 rw[l]at c;refine bZ.trans (n:=300) (k:=1200) (acu b q i ib cb _ cs c0 g c) λg c=>?_;rw[s,p,u]at c;by_cases d:h.k=0
 rw[if_pos d];have e1:decide (((h.k+1:Nat):Int)=1)=I:=decide_eq_true (by omega);rw[e1]at c;have f:=TL b q i ib cb _ _ _ cs c0 g c;rw[d]at f;exact f.le (by omega);rw[if_neg d];have e1:decide (((h.k+1:Nat):Int)=1)=U:=decide_eq_false (by omega);rw[e1]at c;exact bZ.le (bZ.trans (n:=300) (k:=900) (TO b q i ib cb _ _ _ cs c0 g c) λg c=>yu (by omega) c) (by omega)
def Un(a:q.wg=stA Wg)(hw:ShAt tM tW Mu Wg w (dU h))(hs:jO b q i ib cb (c0::cs) .QR g):Ej tM tW Mu Wg b q i ib cb (c0::cs) .QR h g w:=by
 have c:dl g=V (iC 294 219<|Ω<|V<|q.wg.add 1):=by cases b<;>exact aQ.head (λF=>by kernel_rfl) g hs
 have e1:q.wg.add 1=smA Wg:=by rw[a];rfl
 exact⟨.GS,h,_,w,_,⟨rfl,rfl⟩,iD (P:=P0) (main:=I) c QP yf QQ (by rw[e1];exact hw.2.cellSm),hw,Eff.refl w,book_nil 1,(TM b q i ib cb _ _ _ cs c0 g hs).le<|by omega⟩
def Uo(a:q.wg=stA Wg)(hw:ShAt tM tW Mu Wg w (dU h))(hs:jO b q i ib cb (c0::cs) .GS g):Ej tM tW Mu Wg b q i ib cb (c0::cs) .GS h g w:=by
 have e1:q.wg.add 1=smA Wg:=by rw[a];rfl
 have e:dl g=V (ε 243 #[Ω (V<|q.wg.add 1)]):=by cases b<;>exact aQ.head (λF=>by kernel_rfl) g hs
 have c:(#[⟨.mark<|.read<|q.wg.add 1,U,I⟩]:Array ZQ)=#[mk (.read<|smA Wg)]:=by rw[e1];rfl
 refine⟨.ar,h,_,w,_,⟨rfl,rfl⟩,kZ .read (λ_ g h=>by cases h) akL e,hw,Eff.refl w,c,?_⟩;exact bZ.le (bZ.trans (n:=300) (k:=900) (TN b q i ib cb _ _ _ cs c0 g hs) λg d=>yu (k:=1) (by omega) d) (by omega)
def acH(hw:ShAt tM tW Mu Wg w (dU h))(hs:jO b q i ib cb (c0::cs) .ar g):Ej tM tW Mu Wg b q i ib cb (c0::cs) .ar h g w:=by obtain⟨F,rfl⟩:=hs;exact⟨.yt,h,_,w,_,⟨rfl,rfl⟩,wY .enable (λg h=>by cases h) tw rfl rfl,hw,Eff.refl w,book_en 0,(acw b q i ib cb cs c0 _ ⟨F,rfl⟩).le<|by omega⟩
end
end
end Ph
namespace Ph
open Go Go.Conc
section
section
variable(b:Bool)(v0:φ)(ca:Option μ)(n m:Nat)(room:Int)(gb eb lk wg E ce ib cb:μ)(q:MP)(i e:Int)(v:φ)(cs:List Z9)(c0:Z9)(g:R)
def acI(h:aQ (fK b tk3 [(0,v0),(1,.slice ca n m),iv 2 room]) [] (c0::cs) g):dl g=V (mb 104 v0):=by cases b<;>exact aQ.head (λF=>by kernel_rfl) g h
def Up(h:aQ (fK b L' [iv 19 n,pv 3 gb,(0,v0),(1,.slice ca n m),iv 2 room]) [] (c0::cs) g):dl g=V (mkS 83 (Ξ Γ n)<|Ξ Γ n):=by cases b<;>exact aQ.head (λF=>by kernel_rfl) g h
def acJ(h:aQ (fK b tk6 [(20,Δ (V E) n n),pv 3 gb,(0,v0),(1,.slice ca n m),iv 2 room]) [] (c0::cs) g):dl g=V (zh 83):=by cases b<;>exact aQ.head (λF=>by kernel_rfl) g h
def MD(h:aQ (fK b CO [(20,Δ (V E) n n),pv 6 eb,pv 3 gb,(0,v0),(1,.slice ca n m),iv 2 room]) [] (c0::cs) g):dl g=V (gh 83 (Ω<|V eb)<|Δ (V E) n n):=by cases b<;>exact aQ.head (λF=>by kernel_rfl) g h
def acK(h:aQ (fK b tk7 [pv 6 eb,pv 3 gb,(0,v0),(1,.slice ca n m),iv 2 room]) [] (c0::cs) g):dl g=V (zh 249):=by cases b<;>exact aQ.head (λF=>by kernel_rfl) g h
def acL(h:aQ (fK b tk8 [pv 7 lk,pv 6 eb,pv 3 gb,(0,v0),(1,.slice ca n m),iv 2 room]) [] (c0::cs) g):dl g=V (zh 255):=by cases b<;>exact aQ.head (λF=>by kernel_rfl) g h
def Uq(h:aQ (kl b q GD [iv 25 i,iv 23 i]) [] (c0::cs) g):dl g=V (l9 22 (.slice q.ca q.n q.m)<|Ξ Γ i):=by cases b<;>exact aQ.head (λF=>by kernel_rfl) g h
def Ur(h:aQ (kl b q GE [pv 26 ce,iv 25 i,iv 23 i]) [] (c0::cs) g):dl g=V (bI 76<|Ω<|V ce):=by cases b<;>exact aQ.head (λF=>by kernel_rfl) g h
def acM(h:aQ (kl b q OH [(27,v),iv 25 i,iv 23 i]) [] (c0::cs) g):dl g=V (zh 3):=by cases b<;>exact aQ.head (λF=>by kernel_rfl) g h
def Us(h:aQ (kl b q GF [pv 9 ib,(27,v),iv 25 i,iv 23 i]) [] (c0::cs) g):dl g=V (zh 76):=by cases b<;>exact aQ.head (λF=>by kernel_rfl) g h
def ME(h:aQ (kl b q yl [pv 10 cb,pv 9 ib,(27,v),iv 25 i,iv 23 i]) [] (c0::cs) g):dl g=V (gh 3 (Ω<|V ib)<|Ξ Γ i):=by cases b<;>exact aQ.head (λF=>by kernel_rfl) g h
def MF(h:aQ (kl b q ym [pv 10 cb,pv 9 ib,(27,v),iv 23 i]) [] (c0::cs) g):dl g=V (gh 76 (Ω<|V cb) v):=by cases b<;>exact aQ.head (λF=>by kernel_rfl) g h
def Ut(h:aQ (kl b q A9 []) [] (c0::cs) g):dl g=V (bI 83<|Ω<|V q.eb):=by cases b<;>exact aQ.head (λF=>by kernel_rfl) g h
def Uu(h:aQ (kl b q Mr [(32,Δ (V E) n n),iv 33 n,iv 34 i]) [] (c0::cs) g):dl g=V (l9 83 (Δ (V E) n n)<|Ξ Γ i):=by cases b<;>exact aQ.head (λF=>by kernel_rfl) g h
def Uv(h:aQ (kl b q Ms [pv 36 ce,(32,Δ (V E) n n),iv 33 n,iv 34 i]) [] (c0::cs) g):dl g=V (bI 34<|Ω<|V ce):=by cases b<;>exact aQ.head (λF=>by kernel_rfl) g h
def ak6:P0.underlying 22=V (.slice 76):=by kernel_rfl
def si3:dt P0 3 1:=λw a=>by kernel_rfl
def ak7:dt P0 83 1:=λw a=>by kernel_rfl
def uw:bR P0 166 U:=by rfl
def Uw(T l c)(h:aQ {fF OG I e with l:=(7,.iface 177<|.agg #[Ξ Γ e])::l} [kl b q T c] (c0::cs) g)(w):∃s,dl g=V s/\s.runT P0 w #[]=(.halt (.panic<|.iface 177<|.agg #[Ξ Γ e]) w,#[]):=by
 have a:(dl g).map (λs=>s.runT P0 w #[])=V (.halt (.panic<|.iface 177<|.agg #[Ξ Γ e]) w,#[]):=by obtain⟨F,rfl⟩:=h;cases b<;>kernel_rfl
 simp_all
end
section
variable{P:ZV}{main:Bool}{g:R}{t:Z4}{w:κ}{ad:μ}
def jr{k e}{i n m z:Nat}(h:dl g=V (l9 t (Δ (V ad) n m)<|.int k i))(b:P.underlying t=V (.slice e))(hs:dt P e z)(hi:i<n):
 stepG P main g w=.go (fin (Ω<|V<|ad.add<|i*z) g) w #[]:=by
 obtain⟨_,_,_,c,_⟩:=bU (P:=P) (main:=main) (w:=w) (w':=w) (es:=(l9 t (Δ (V ad) n m)<|.int k i).events P w #[]) h;have a:(l9 t (Δ (V ad) n m)<|.int k i).events P w #[]=#[]:=by
  unfold l9 Instr.indexAt;simp[asIntOf,run_underlying b,hi,hs.run,Z7,ZY]
  try (intro h;omega)
 rw[c (Ω<|V<|ad.add<|i*z),a,ZT];rw[Sem.runT_eq];unfold l9 Instr.indexAt;simp[asIntOf,run_underlying b,hi,hs.run,Z7]
end
end
section
variable(v0:μ)(xc xe:Nat)(hi:Int)(ca:Option μ)(n m:Nat)(i:Int)(xx:Nat)(pe:μ)(v:φ)(xv xw:Nat)(q N:Int)
noncomputable abbrev Ux:=Xg P0 U 300
noncomputable abbrev J1:=Xf P0 U 300
def pz(x:Nat):φ:=.pointer x
def q1(x:Nat):φ:=.pointer (x,1)
def ak8(xe:Nat):Deferred:={target:=.fn (.func 248) #[pz xe],args:=#[]}
def fX(v0:μ)(xc xe:Nat)(T:List ZL)(ex:List (Nat×φ)):bG:={fn:=213,n:=48,T,l:=ex++[pv 0 v0,(3,pz xc),(4,pz xe)],defers:=[ak8 xe]}
def iX(v0:μ)(T:List ZL)(ex:List (Nat×φ)):bG:={fn:=167,n:=29,T,l:=ex++[pv 0 v0]}
def mX(v0:μ)(T:List ZL)(ex:List (Nat×φ)):bG:={fn:=169,n:=30,T,l:=ex++[pv 0 v0]}
def CV(T:List ZL)(b:Bool)(k:Int):bG:={fn:=84,n:=8,T,l:=[bv 4 b,bv 0 b,iv 1 k]}
def MG(d:bG)(ds:List bG)(stop:R->Bool):R:=bN P0 U stop 300<|SC d ds [default] λ_ _=>undef
def dc(d:bG)(ds:List bG)(v:φ)(stop:R->Bool):R:=bN P0 U stop 300<|fin v<|SC d ds [default] λ_ _=>undef
def gx3:=bN P0 U (ah 213 3) 300 {frame:=ZZ P0 213 #[Ω (V a0),.agg #[Ξ Γ 0,Δ (V a0) 1 1]] .normal,callers:=[default],status:=.running,dying:=ζ}
def tx3:=aK gx3
def tx4:=aK<|dc {fn:=213,n:=48,T:=tx3,l:=[pv 0 a0,(1,.agg #[Ξ Γ 0,Δ (V a0) 1 1])]} [] (pz 7)<|ah 213 4
def Ek:=aK<|dc {fn:=213,n:=48,T:=tx4,l:=[pv 0 a0,(3,pz 7)]} [] (pz 8)<|ah 213 11
def tB:=aK<|dc (fX a0 7 8 Ek []) [] (Ξ Γ 0)<|ah 213 15
def tC:=aK<|dc (fX a0 7 8 tB [bv 13 U]) [] (Ξ Γ 0)<|ah 213 21
def yx:=aK<|dc (fX a0 7 8 tC []) [] (Ξ Γ 0)<|ah 213 26
def acN:=dc (fX a0 7 8 yx [iv 5 0,iv 6 4]) [] (Δ (V a0) 1 1)<|aC 84 4
def CX:=aK acN
def Uy:=cH 0 acN
def MH:=aK<|MG (CV CX U 5) [(fX a0 7 8 Uy [iv 5 0,iv 6 4])]<|ah 213 32
def ak9:=dc (fX a0 7 8 MH [iv 5 0,iv 6 4]) [] (Δ (V a0) 1 1)<|aC 84 4
def Uz:=cH 0 ak9
def MI:=aK<|MG (CV CX U 6) [(fX a0 7 8 Uz [])]<|ah 213 38
def Ar:=aK<|dc (fX a0 7 8 MI []) [] (Δ (V a0) 1 1)<|aC 213 41
abbrev KC:List (Nat×φ):=[(38,Δ (V a0) 1 1),iv 39 1,iv 40 0]
def MJ:=aK<|MG (fX a0 7 8 Ar (bv 41 I::KC)) []<|ah 213 42
def MK:=aK<|dc (fX a0 7 8 MJ KC) [] (Ω<|V a0)<|ah 213 43
def tx8:=aK<|dc (fX a0 7 8 MK KC) [] (.agg #[Ξ Γ 0,Ξ Γ 0])<|ah 213 8
def ML:=aK<|dc (fX a0 7 8 tx8 ((43,.agg #[Ξ Γ 0,Ξ Γ 0])::KC)) [] (pz 9)<|eh 213
def GT:=aK<|dc (fX a0 7 8 ML ((8,pz 9)::KC)) [] undef<|ah 213 45
def gv3:=dc (fX a0 7 8 GT (pv 44 a0::KC)) [] (.agg #[Ξ Γ 0,Ξ Γ 0])<|ah 167 3
def tv3:=aK gv3
def ja:=cH 0 gv3
noncomputable abbrev yX:List bG:=[(fX a0 7 8 ja KC)]
def MM:=aK<|dc (iX a0 tv3 []) yX (pz 10)<|ah 167 5
def GU:=aK<|dc (iX a0 MM [(3,pz 10)]) yX (Ξ Γ 0)<|ah 167 10
def GW:=aK<|dc (iX a0 MM [(3,pz 10)]) yX (Ξ Γ 2)<|ah 167 20
def El:=aK<|dc (iX a0 MM [(3,pz 10)]) yX (Ξ Γ 3)<|ah 167 27
def MN:=aK<|dc (iX a0 GU [(3,pz 10)]) yX (Ξ Γ 1)<|ah 167 13
def ala:=dc (iX a0 MN [iv 11 1]) yX (Ξ Γ 1)<|aC 84 4
def acO:=cH 0 ala
def alb:=dc (iX a0 GW []) yX (Ξ Γ 0)<|aC 84 4
def acP:=cH 0 alb
def gp3:=dc (iX a0 El [pv 26 a0]) yX (.agg #[Ξ Γ 3,Ξ Γ 0])<|ah 169 3
def tp3:=aK gp3
def fi:=cH 0 gp3
def tp9:=aK<|dc (mX a0 tp3 []) ((iX a0 fi [])::yX) (pz 11)<|ah 169 9
def Em:=aK<|dc (mX a0 tp9 [(3,pz 11)]) ((iX a0 fi [])::yX) (Δ (V a0) 1 1)<|ah 169 12
def MO:=aK<|dc (mX a0 Em [iv 4 1,(3,pz 11)]) ((iX a0 fi [])::yX) (Ξ Γ 3)<|ah 169 18
def Be:=aK<|dc (mX a0 Em [iv 4 1,(3,pz 11)]) ((iX a0 fi [])::yX) (Ξ Γ 4)<|ah 169 21
def MQ:=aK<|dc (mX a0 Be [iv 4 1,(3,pz 11)]) ((iX a0 fi [])::yX) (Ξ Γ 0)<|ah 169 25
def alc:=dc (mX a0 MQ [bv 23 U,iv 4 1,(3,pz 11)]) ((iX a0 fi [])::yX) (Ξ Γ 0)<|aC 84 4
def acQ:=cH 0 alc
def OJ:=aK<|MG (fX a0 7 8 Ar (bv 41 U::KC)) []<|eh 213
noncomputable abbrev cY (v0:μ) (xc:Nat) (xe:Nat) (ca:Option μ) (n:Nat) (m:Nat) (i:Int):List bG:=[(fX v0 xc xe ja [(38,.slice ca n m),iv 39 n,iv 40 i])]
abbrev lh(ca:Option μ)(n:Nat)(m:Nat)(i:Int):List (Nat×φ):=[(38,.slice ca n m),iv 39 n,iv 40 i]
abbrev UA(i:Int)(n:Nat)(ca:Option μ)(m:Nat):List (Nat×φ):=[bv 41 (decide<|Θ Γ (i+1)<n),(38,.slice ca n m),iv 39 n,iv 40<|Θ Γ<|i+1]
def MR(v1 v2 cs):bZ P0 U 300 (aQ {fn:=213,n:=48,T:=tx3,l:=[pv 0 v0,(1,.agg #[v1,v2])]} [] cs) {frame:=ZZ P0 213 #[Ω (V v0),.agg #[v1,v2]] .normal,callers:=cs,status:=.running,dying:=ζ}:=bZ.run (ah 213 3) 300 (aQ.of (by kernel_rfl) (by kernel_rfl)<|by kernel_rfl)
def acS(c a):J1 (pz a) {fn:=213,n:=48,T:=tx3,l:=[pv 0 v0,(1,c)]} [] {fn:=213,n:=48,T:=tx4,l:=[pv 0 v0,(3,pz a)]} []:=λ_=>aR (ah 213 4) λ_=>by kernel_rfl
def acT:J1 (pz xe) {fn:=213,n:=48,T:=tx4,l:=[pv 0 v0,(3,pz xc)]} [] (fX v0 xc xe Ek [(10,pz xc)]) []:=λ_=>aR (ah 213 11) λ_=>by kernel_rfl
def acU:J1 (Ξ Γ 0) (fX v0 xc xe Ek [(10,pz xc)]) [] (fX v0 xc xe tB [(14,pz xc),bv 13 U]) []:=λ_=>aR (ah 213 15) λ_=>by kernel_rfl
def acV:J1 (Ξ Γ 0) (fX v0 xc xe tB [(14,pz xc),bv 13 U]) [] (fX v0 xc xe tC [(20,pz xc)]) []:=λ_=>aR (ah 213 21) λ_=>by kernel_rfl
def acW:J1 (Ξ Γ 0) (fX v0 xc xe tC [(20,pz xc)]) [] (fX v0 xc xe yx [(25,q1 xc),iv 5 0,iv 6 4]) []:=λ_=>aR (ah 213 26) λ_=>by kernel_rfl
def acX:J1 (Ξ Γ 1) (fX v0 xc xe Ek [(10,pz xc)]) [] (fX v0 xc xe tB [(14,pz xc),bv 13 U]) []:=λ_=>aR (ah 213 15) λ_=>by kernel_rfl
def acY:J1 (Ξ Γ 1) (fX v0 xc xe tB [(14,pz xc),bv 13 U]) [] (fX v0 xc xe tC [(20,pz xc)]) []:=λ_=>aR (ah 213 21) λ_=>by kernel_rfl
def acZ:J1 (Ξ Γ 1) (fX v0 xc xe tC [(20,pz xc)]) [] (fX v0 xc xe yx [(25,q1 xc),iv 5 1,iv 6 1]) []:=λ_=>aR (ah 213 26) λ_=>by kernel_rfl
def ac0:J1 (Ξ Γ 2) (fX v0 xc xe Ek [(10,pz xc)]) [] (fX v0 xc xe tB [(14,pz xc),bv 13 U]) []:=λ_=>aR (ah 213 15) λ_=>by kernel_rfl
def ac1:J1 (Ξ Γ 2) (fX v0 xc xe tB [(14,pz xc),bv 13 U]) [] (fX v0 xc xe tC [(20,pz xc)]) []:=λ_=>aR (ah 213 21) λ_=>by kernel_rfl
def ac2:J1 (Ξ Γ 2) (fX v0 xc xe tC [(20,pz xc)]) [] (fX v0 xc xe yx [(25,q1 xc),iv 5 2,iv 6 2]) []:=λ_=>aR (ah 213 26) λ_=>by kernel_rfl
def UB(lo hi ca n m):J1 (.slice ca n m) (fX v0 xc xe yx [(25,q1 xc),iv 5 lo,iv 6 hi]) [] (CV CX (decide<|(n:Int)<lo) 5) [(fX v0 xc xe Uy [iv 6 hi])]:=λ_=>aR (aC 84 4) λ_=>by kernel_rfl
def ac3:Ux (CV CX U 5) [(fX v0 xc xe Uy [iv 6 hi])] (fX v0 xc xe MH [(31,q1 xc),iv 6 hi]) []:=λ_=>bJ (ah 213 32) λ_=>by kernel_rfl
def UC:J1 (.slice ca n m) (fX v0 xc xe MH [(31,q1 xc),iv 6 hi]) [] (CV CX (decide<|(n:Int)>hi) 6) [(fX v0 xc xe Uz [])]:=λ_=>aR (aC 84 4) λ_=>by kernel_rfl
def ac4:Ux (CV CX U 6) [(fX v0 xc xe Uz [])] (fX v0 xc xe MI [(37,q1 xc)]) []:=λ_=>bJ (ah 213 38) λ_=>by kernel_rfl
def UD:J1 (.slice ca n m) (fX v0 xc xe MI [(37,q1 xc)]) [] (fX v0 xc xe Ar [bv 41 (decide<|(0:Int)<n),(38,.slice ca n m),iv 39 n,iv 40 0]) []:=λ_=>aR (aC 213 41) λ_=>by kernel_rfl
def ald:Ux (fX v0 xc xe Ar (bv 41 I::lh ca n m i)) [] (fX v0 xc xe MJ<|lh ca n m i) []:=λ_=>bJ (ah 213 42) λ_=>by kernel_rfl
def ale:Ux (fX v0 xc xe Ar (bv 41 U::lh ca n m i)) [] (fX v0 xc xe OJ []) []:=λ_=>bJ (eh 213) λ_=>by kernel_rfl
def UE:J1 (Ω<|V pe) (fX v0 xc xe MJ<|lh ca n m i) [] (fX v0 xc xe MK (pv 42 pe::lh ca n m i)) []:=λ_=>aR (ah 213 43) λ_=>by kernel_rfl
def UF:J1 (v) (fX v0 xc xe MK (pv 42 pe::lh ca n m i)) [] (fX v0 xc xe tx8 ((43,v)::lh ca n m i)) []:=λ_=>aR (ah 213 8) λ_=>by kernel_rfl
def ac5:J1 (pz xv) (fX v0 xc xe tx8 ((43,v)::lh ca n m i)) [] (fX v0 xc xe ML ((8,pz xv)::(43,v)::lh ca n m i)) []:=λ_=>aR (eh 213) λ_=>by kernel_rfl
def UG:J1 (undef) (fX v0 xc xe ML ((8,pz xv)::(43,v)::lh ca n m i)) [] (fX v0 xc xe GT (pv 44 v0::(8,pz xv)::lh ca n m i)) []:=λ_=>aR (ah 213 45) λ_=>by kernel_rfl
def UH(a b):J1 (.agg #[a,b]) (fX v0 xc xe GT (pv 44 v0::(8,pz xv)::lh ca n m i)) [] (iX v0 tv3 [(1,.agg #[a,b])]) (cY v0 xc xe ca n m i):=λ_=>aR (ah 167 3) λ_=>by kernel_rfl
def ac6:J1 (pz xw) (iX v0 tv3 [(1,v)]) (cY v0 xc xe ca n m i) (iX v0 MM [(4,pz xw),(3,pz xw)]) (cY v0 xc xe ca n m i):=λ_=>aR (ah 167 5) λ_=>by kernel_rfl
def alf:J1 (Ξ Γ 0) (iX v0 MM [(4,pz xw),(3,pz xw)]) (cY v0 xc xe ca n m i) (iX v0 GU [(9,q1 xw),(3,pz xw)]) (cY v0 xc xe ca n m i):=λ_=>aR (ah 167 10) λ_=>by kernel_rfl
def alg:J1 (Ξ Γ 2) (iX v0 MM [(4,pz xw),(3,pz xw)]) (cY v0 xc xe ca n m i) (iX v0 GW [(19,q1 xw),(3,pz xw)]) (cY v0 xc xe ca n m i):=λ_=>aR (ah 167 20) λ_=>by kernel_rfl
def alh:J1 (Ξ Γ 3) (iX v0 MM [(4,pz xw),(3,pz xw)]) (cY v0 xc xe ca n m i) (iX v0 El [pv 26 v0,(3,pz xw)]) (cY v0 xc xe ca n m i):=λ_=>aR (ah 167 27) λ_=>by kernel_rfl
def ali:J1 (Ξ Γ 4) (iX v0 MM [(4,pz xw),(3,pz xw)]) (cY v0 xc xe ca n m i) (iX v0 El [pv 26 v0,(3,pz xw)]) (cY v0 xc xe ca n m i):=λ_=>aR (ah 167 27) λ_=>by kernel_rfl
def UI:J1 N (iX v0 GU [(9,q1 xw),(3,pz xw)]) (cY v0 xc xe ca n m i) (iX v0 MN [(12,q1 xw),iv 11 (if 99<N then 99 else N),(3,pz xw)]) (cY v0 xc xe ca n m i):=λ_=>aR (ah 167 13) λ_=>by kernel_rfl
def UJ(M N:Int):J1 N (iX v0 MN [(12,q1 xw),iv 11 M,(3,pz xw)]) (cY v0 xc xe ca n m i) (CV CX (M !=(if N< -99 then-99 else N)) 13) ((iX v0 acO [])::cY v0 xc xe ca n m i):=λ_=>aR (aC 84 4) λ_=>by kernel_rfl
def ac7:Ux (CV CX U 13) ((iX v0 acO [])::cY v0 xc xe ca n m i) (fX v0 xc xe Ar<|UA i n ca m) []:=λ_=>bJ (aC 213 41) λ_=>by kernel_rfl
def UK:J1 N (iX v0 GW [(19,q1 xw),(3,pz xw)]) (cY v0 xc xe ca n m i) (CV CX (N !=0) 13) ((iX v0 acP [])::cY v0 xc xe ca n m i):=λ_=>aR (aC 84 4) λ_=>by kernel_rfl
def ac8:Ux (CV CX U 13) ((iX v0 acP [])::cY v0 xc xe ca n m i) (fX v0 xc xe Ar<|UA i n ca m) []:=λ_=>bJ (aC 213 41) λ_=>by kernel_rfl
def UM(a b):J1 (.agg #[a,b]) (iX v0 El [pv 26 v0,(3,pz xw)]) (cY v0 xc xe ca n m i) (mX v0 tp3 [(1,.agg #[a,b])]) ((iX v0 fi [])::cY v0 xc xe ca n m i):=λ_=>aR (ah 169 3) λ_=>by kernel_rfl
def ac9(a):J1 (pz a) (mX v0 tp3 [(1,v)]) ((iX v0 fi [])::cY v0 xc xe ca n m i) (mX v0 tp9 [pv 8 ((v0.add 0).add 1),(3,pz a)]) ((iX v0 fi [])::cY v0 xc xe ca n m i):=λ_=>aR (ah 169 9) λ_=>by kernel_rfl
def ada(c a b):J1 (.slice c a b) (mX v0 tp9 [pv 8 ((v0.add 0).add 1),(3,pz xx)]) ((iX v0 fi [])::cY v0 xc xe ca n m i) (mX v0 Em [(11,pz xx),iv 4 a,(3,pz xx)]) ((iX v0 fi [])::cY v0 xc xe ca n m i):=λ_=>aR (ah 169 12) λ_=>by kernel_rfl
def adb:J1 (Ξ Γ 3) (mX v0 Em [(11,pz xx),iv 4 q,(3,pz xx)]) ((iX v0 fi [])::cY v0 xc xe ca n m i) (mX v0 MO [pv 17 ((v0.add 0).add 0),(3,pz xx)]) ((iX v0 fi [])::cY v0 xc xe ca n m i):=λ_=>aR (ah 169 18) λ_=>by kernel_rfl
def adc:J1 (Ξ Γ 4) (mX v0 Em [(11,pz xx),iv 4 q,(3,pz xx)]) ((iX v0 fi [])::cY v0 xc xe ca n m i) (mX v0 Be [(20,q1 xx),iv 4 q,(3,pz xx)]) ((iX v0 fi [])::cY v0 xc xe ca n m i):=λ_=>aR (ah 169 21) λ_=>by kernel_rfl
def UN(c a b):J1 (.slice c a b) (mX v0 MO [pv 17 ((v0.add 0).add 0),(3,pz xx)]) ((iX v0 fi [])::cY v0 xc xe ca n m i) (mX v0 Be [(20,q1 xx),iv 4 a,(3,pz xx)]) ((iX v0 fi [])::cY v0 xc xe ca n m i):=λ_=>aR (ah 169 21) λ_=>by kernel_rfl
def UO(N:Nat):J1 (Ξ Γ (N:Int)) (mX v0 Be [(20,q1 xx),iv 4 q,(3,pz xx)]) ((iX v0 fi [])::cY v0 xc xe ca n m i) (mX v0 MQ [(24,q1 xx),bv 23 U,iv 4 q,(3,pz xx)]) ((iX v0 fi [])::cY v0 xc xe ca n m i):=λ_=>aR (ah 169 25) λ_=>by kernel_rfl
def UP:J1 N (mX v0 MQ [(24,q1 xx),bv 23 U,iv 4 q,(3,pz xx)]) ((iX v0 fi [])::cY v0 xc xe ca n m i) (CV CX (decide<|N>=q) 9) ((mX v0 acQ [])::(iX v0 fi [])::cY v0 xc xe ca n m i):=λ_=>aR (aC 84 4) λ_=>by kernel_rfl
def ade:Ux (CV CX U 9) ((mX v0 acQ [])::(iX v0 fi [])::cY v0 xc xe ca n m i) (fX v0 xc xe Ar<|UA i n ca m) []:=λ_=>bJ (aC 213 41) λ_=>by kernel_rfl
def adf(c):o6 {fn:=213,n:=48,T:=tx3,l:=[pv 0 v0,(1,c)]} [] (mb 76 c):=λ_=>aQ.head λ_=>by kernel_rfl
def adg:o6 {fn:=213,n:=48,T:=tx4,l:=[pv 0 v0,(3,pz xc)]} [] (zh 34):=λ_=>aQ.head λ_=>by kernel_rfl
def UQ:o6 (fX v0 xc xe Ek [(10,pz xc)]) [] (bI 3<|pz xc):=λ_=>aQ.head λ_=>by kernel_rfl
def UR:o6 (fX v0 xc xe tB [(14,pz xc),bv 13 U]) [] (bI 3<|pz xc):=λ_=>aQ.head λ_=>by kernel_rfl
def UT:o6 (fX v0 xc xe tC [(20,pz xc)]) [] (bI 3<|pz xc):=λ_=>aQ.head λ_=>by kernel_rfl
def UU(lo hi):o6 (fX v0 xc xe yx [(25,q1 xc),iv 5 lo,iv 6 hi]) [] (bI 23<|q1 xc):=λ_=>aQ.head λ_=>by kernel_rfl
def UV:o6 (fX v0 xc xe MH [(31,q1 xc),iv 6 hi]) [] (bI 23<|q1 xc):=λ_=>aQ.head λ_=>by kernel_rfl
def UW:o6 (fX v0 xc xe MI [(37,q1 xc)]) [] (bI 23<|q1 xc):=λ_=>aQ.head λ_=>by kernel_rfl
def UX:o6 (fX v0 xc xe MJ<|lh ca n m i) [] (l9 23 (.slice ca n m) i):=λ_=>aQ.head λ_=>by kernel_rfl
def UY:o6 (fX v0 xc xe MK (pv 42 pe::lh ca n m i)) [] (bI 50<|Ω<|V pe):=λ_=>aQ.head λ_=>by kernel_rfl
def adh:o6 (fX v0 xc xe tx8 ((43,v)::lh ca n m i)) [] (zh 50):=λ_=>aQ.head λ_=>by kernel_rfl
def UZ:o6 (fX v0 xc xe ML ((8,pz xv)::(43,v)::lh ca n m i)) [] (gh 50 (pz xv) v):=λ_=>aQ.head λ_=>by kernel_rfl
def U0:o6 (fX v0 xc xe GT (pv 44 v0::(8,pz xv)::lh ca n m i)) [] (bI 50<|pz xv):=λ_=>aQ.head λ_=>by kernel_rfl
def adi:o6 (iX v0 tv3 [(1,v)]) (cY v0 xc xe ca n m i) (mb 50 v):=λ_=>aQ.head λ_=>by kernel_rfl
def adj:o6 (iX v0 MM [(4,pz xw),(3,pz xw)]) (cY v0 xc xe ca n m i) (bI 3<|pz xw):=λ_=>aQ.head λ_=>by kernel_rfl
def U1:o6 (iX v0 GU [(9,q1 xw),(3,pz xw)]) (cY v0 xc xe ca n m i) (bI 3<|q1 xw):=λ_=>aQ.head λ_=>by kernel_rfl
def U2(M):o6 (iX v0 MN [(12,q1 xw),iv 11 M,(3,pz xw)]) (cY v0 xc xe ca n m i) (bI 3<|q1 xw):=λ_=>aQ.head λ_=>by kernel_rfl
def U3:o6 (iX v0 GW [(19,q1 xw),(3,pz xw)]) (cY v0 xc xe ca n m i) (bI 3<|q1 xw):=λ_=>aQ.head λ_=>by kernel_rfl
def U4:o6 (iX v0 El [pv 26 v0,(3,pz xw)]) (cY v0 xc xe ca n m i) (bI 50<|pz xw):=λ_=>aQ.head λ_=>by kernel_rfl
def adk:o6 (mX v0 tp3 [(1,v)]) ((iX v0 fi [])::cY v0 xc xe ca n m i) (mb 50 v):=λ_=>aQ.head λ_=>by kernel_rfl
def adl:o6 (mX v0 tp9 [pv 8 ((v0.add 0).add 1),(3,pz xx)]) ((iX v0 fi [])::cY v0 xc xe ca n m i) (bI 22<|Ω<|V<|(v0.add 0).add 1):=λ_=>aQ.head λ_=>by kernel_rfl
def U5:o6 (mX v0 Em [(11,pz xx),iv 4 q,(3,pz xx)]) ((iX v0 fi [])::cY v0 xc xe ca n m i) (bI 3<|pz xx):=λ_=>aQ.head λ_=>by kernel_rfl
def U6:o6 (mX v0 MO [pv 17 ((v0.add 0).add 0),(3,pz xx)]) ((iX v0 fi [])::cY v0 xc xe ca n m i) (bI 22<|Ω<|V<|(v0.add 0).add 0):=λ_=>aQ.head λ_=>by kernel_rfl
def U7:o6 (mX v0 Be [(20,q1 xx),iv 4 q,(3,pz xx)]) ((iX v0 fi [])::cY v0 xc xe ca n m i) (bI 3<|q1 xx):=λ_=>aQ.head λ_=>by kernel_rfl
def U8:o6 (mX v0 MQ [(24,q1 xx),bv 23 U,iv 4 q,(3,pz xx)]) ((iX v0 fi [])::cY v0 xc xe ca n m i) (bI 3<|q1 xx):=λ_=>aQ.head λ_=>by kernel_rfl
def adm:o6 (fX v0 xc xe OJ []) [] (gh 34 (pz xe)<|Ξ Γ 0):=λ_=>aQ.head λ_=>by kernel_rfl
def fR(xe:Nat)(T:List ZL)(ex:List (Nat×φ)):bG:={fn:=248,n:=3,T,l:=ex++[(0,pz xe)],kind:=.deferred}
def As(v0:μ)(xc xe:Nat)(T:List ZL):bG:={fn:=213,n:=48,T,l:=[pv 0 v0,(3,pz xc),(4,pz xe)],mode:=.returning}
def gxz:=dc (fX a0 7 8 OJ []) [] undef<|ah 248 1
def OK:=aK gxz
def KP:=cH 0 gxz
def GX:=aK<|dc (fR 8 OK []) [As a0 7 8 KP] .nilIface<|eh 248
def OP:=aK<|dc (fR 8 GX [iv 2 0]) [As a0 7 8 KP] undef<|lQ 213
def GY(cs g)(h:aQ (fR xe OK []) [As v0 xc xe KP] cs g)(w):stepG P0 U g w=.go (fin .nilIface g) w #[]:=by obtain⟨F,rfl⟩:=h;kernel_rfl
def adp:J1 (undef) (fX v0 xc xe OJ []) [] (fR xe OK []) [(As v0 xc xe KP)]:=λ_=>aR (ah 248 1) λ_=>by kernel_rfl
def adq:J1 (.nilIface) (fR xe OK []) [(As v0 xc xe KP)] (fR xe GX [iv 2 0]) [(As v0 xc xe KP)]:=λ_=>aR (eh 248) λ_=>by kernel_rfl
def U9:o6 (fR xe GX [iv 2 0]) [(As v0 xc xe KP)] (gh 34 (pz xe)<|Ξ Γ 0):=λ_=>aQ.head λ_=>by kernel_rfl
def U':J1 (undef) (fR xe GX [iv 2 0]) [(As v0 xc xe KP)] (As v0 xc xe OP) []:=λ_=>aR (lQ 213) λ_=>by kernel_rfl
end
section
structure yy(n0:Nat)(Y X X':Nat->Prop)(w w':κ)(es:Array ZQ):Prop where
 tape:w'.tape=w.tape
 drawn:w'.drawn=w.drawn
 os:w'.os=w.os
 output:w'.output=w.output
 size:w.heap.size<=w'.heap.size
 others:∀x,x<w.heap.size->¬X x->w'.heap[x]?=w.heap[x]?
 grow:∀x,X x->X' x
 fresh:∀x,X' x->¬X x->w.heap.size<=x
 full:∀x,w.heap.size<=x->x<w'.heap.size->X' x
 Ft:∀e∈es,match e.loc with
  |.cell a=>(X' a.block\/(a.block<n0/\e.write=U/\Y a.block))/\e.sync=U
  |.obj r=>X' r/\e.sync=U
  |.mark (.extern _)=>True
  |_=>False
structure PK where
 B0:Nat
 h0:Array Obj
 Y:Nat->Prop
 TT:Z4->Prop
 C:Nat
structure o7(K:PK)(X:List Nat)(O:List (Nat×Obj))(w:κ):Prop where
 old:∀b,b<K.B0->w.heap[b]?=K.h0[b]?
 size:K.B0<=w.heap.size
 own:∀x∈X,K.B0<=x/\x<w.heap.size/\∃cs e f,w.heap[x]?=V (.cells cs e f)/\K.TT e
 known:∀p∈O,p.1∈X/\w.heap[p.1]?=V p.2
def PX(K:PK)(gE:R):Nat->List Nat->List (Nat×Obj) ->R->Prop
 |0,_,_,_=>False
 |N+1,X,O,g=>g.status=.running/\∀w,o7 K X O w->
   (X.length<=K.C/\∃w' es,stepG P0 U g w=.go gE w' es/\yy K.B0 K.Y (·∈X) (·∈X) w w' es/\o7 K X O w')\/
   ∃g' X' O' w' es,stepG P0 U g w=.go g' w' es/\yy K.B0 K.Y (·∈X) (·∈X') w w' es/\o7 K X' O' w'/\PX K gE N X' O' g'
section
variable{K:PK}{gE g g':R}{N:Nat}{X:List Nat}{O:List (Nat×Obj)}{w w':κ}
def PX.running(h:PX K gE N X O g):g.status=.running:=by
 cases N with
 |zero=>exact h.elim
 |succ N=>exact h.1
def PX.mono:∀{N M} {X} {O} {g},N<=M->PX K gE N X O g->PX K gE M X O g
 |0,_,_,_,_,_,h=>h.elim
 |N+1,0,_,_,_,hM,_=>by omega
 |N+1,M+1,X,O,g,hM,h=>by refine⟨h.1,λw hw=>(h.2 w hw).imp id ?_⟩;rintro⟨i,f,b,a,e,d,c,h3,h4⟩;exact⟨i,f,b,a,e,d,c,h3,PX.mono (by omega) h4⟩
def o7.others(h:o7 K X O w)(hs:w.heap.size<=w'.heap.size)(j:∀b,b<K.B0->w'.heap[b]?=w.heap[b]?)(d:∀x,x∈X->w'.heap[x]?=w.heap[x]?):o7 K X O w':=by refine⟨λb hb=>(j b hb).trans<|h.old b hb,Nat.le_trans h.size hs,λx g=>?_,λp i=>?_⟩;obtain⟨a,c,cs,e,f,h3,h4⟩:=h.own x g;exact⟨a,Z3 c hs,cs,e,f,by rw[d x g];exact h3,h4⟩;obtain⟨a,c⟩:=h.known p i;exact⟨a,by rw[d _ a];exact c⟩
def mY{b g c es} (i:∀e∈es,match e.loc with
 |.cell a=>(c a.block\/(a.block<g/\e.write=U/\b a.block))/\e.sync=U
 |.obj r=>c r/\e.sync=U
 |.mark (.extern _)=>True
 |_=>False):yy g b c c w w es:=
 ⟨rfl,rfl,rfl,rfl,.refl,λ_ _ _=>rfl,λ_ h=>h,λx f d=>absurd f d,λx f d=>absurd d<|ZO.2 f,i⟩
def PX.path(h:PX K gE N X O g'):∀{k} {g},Path P0 U k g g'->PX K gE (N+k) X O g
 |0,g,hp=>by have:=hp;rw[<-this];exact h
 |k+1,g,hp=>by obtain⟨c,b,a,d⟩:=hp;exact⟨c,λw hw=>.inr ⟨b,X,O,w,#[],a w,mY<|by simp,hw,PX.path h d⟩⟩
def PX.to{n S}(b:bZ P0 U n S g)(h:∀g',S g'->PX K gE N X O g'):PX K gE (N+n) X O g:=by obtain⟨k,c,g',a,hs⟩:=b;exact PX.mono (by omega)<|(h g' hs).path a
def PX.look{n S es}(f:g.status=.running)(b:∀w,o7 K X O w->stepG P0 U g w=.go g' w es)(i:∀e∈es,∃a,e=⟨.cell a,U,U⟩/\(a.block∈X\/(a.block<K.B0/\K.Y a.block)))(c:bZ P0 U n S g')(h:∀g',S g'->PX K gE N X O g'):PX K gE (N+n+1) X O g:=by
 refine⟨f,λw hw=>.inr ⟨g',X,O,w,es,b w hw,mY λe d=>?_,hw,PX.to c h⟩⟩
 grind
def yz(w:κ)(cs e):(w.alloc<|.cells cs e).heap.size=w.heap.size+1/\(∀x,x<w.heap.size->(w.alloc<|.cells cs e).heap[x]?=w.heap[x]?)/\(w.alloc<|.cells cs e).heap[w.heap.size]?=V (.cells cs e):=by refine⟨?_,λx a=>?_,?_⟩;simp;show(w.heap.push _)[x]?=_;rw[Array.getElem?_push_lt a,Array.getElem?_eq_getElem a];show(w.heap.push _)[w.heap.size]?=_;rw[Array.getElem?_push_size]
def PX.new{n}{S:Nat->R->Prop}{cs e}(q:g.status=.running)(o:K.TT e)(l:Nat->R)(k:∀w,o7 K X O w->stepG P0 U g w=.go (l w.heap.size) (w.alloc<|.cells cs e) #[])(f:∀x,bZ P0 U n (S x)<|l x)(h:∀x g',K.B0<=x->S x g'->PX K gE N (x::X) ((x,.cells cs e)::O) g'):PX K gE (N+n+1) X O g:=by
 refine⟨q,λw hw=>.inr ⟨l w.heap.size,w.heap.size::X,(w.heap.size,.cells cs e)::O,w.alloc<|.cells cs e,#[],k w hw,⟨rfl,rfl,rfl,rfl,?_,λx d t=>?_,λx d=>ZK _ d,λx d t=>?_,λx i j=>?_,by simp⟩,⟨λb hb=>?_,?_,λx d=>?_,λp f=>?_⟩,PX.to (f _) λg' hs=>h _ g' hw.size hs⟩⟩
 all_goals obtain⟨u,c,a⟩:=yz w cs e
 omega;exact c x d
 grind
 have:x=w.heap.size:=by omega
 subst this;exact ZI;rw[c b (Z3 hb hw.size)];exact hw.old b hb;have:=hw.size;omega;obtain rfl|d:=ι.1 d
 ·exact⟨hw.size,by omega,cs,e,_,a,o⟩
 obtain⟨i,j,m,s,r,h3,h4⟩:=hw.own x d;exact⟨i,by omega,m,s,r,by rw[c x j];exact h3,h4⟩;obtain rfl|f:=ι.1 f
 ·exact⟨ZI,a⟩
 obtain⟨i,j⟩:=hw.known p f;exact⟨ZK _ i,by rw[c _ (hw.own _ i).2.1];exact j⟩
def PX.qu{n S x cs cs' e O' es}(v:g.status=.running)(B:(x,.cells cs e)∈O)(u:∀p∈O',p=(x,.cells cs' e)\/(p∈O/\p.1≠x))(j:∀w,o7 K X O w->w.heap[x]?=V (.cells cs e) ->∃w',stepG P0 U g w=.go g' w' es/\w'.tape=w.tape/\w'.drawn=w.drawn/\w'.os=w.os/\w'.output=w.output/\w'.heap.size=w.heap.size/\w'.heap[x]?=V (.cells cs' e)/\∀y,y≠x->w'.heap[y]?=w.heap[y]?)(E:∀ev∈es,∃a wr,ev=⟨.cell a,wr,U⟩/\a.block=x)(k:bZ P0 U n S g')(h:∀g',S g'->PX K gE N X O' g'):PX K gE (N+n+1) X O g:=by
 refine⟨v,λw hw=>.inr ?_⟩;obtain⟨c,i⟩:=hw.known _ B;obtain⟨w',f,d,h3,h4,h5,C,t,l⟩:=j w hw i;refine⟨g',X,O',w',es,f,⟨d,h3,h4,h5,by omega,λy q A=>l y λe=>A<|e▸c,λ_ h=>h,λy f d=>absurd f d,λy f d=>by omega,λev s=>?_⟩,⟨λb hb=>?_,by rw[C];exact hw.size,λy q=>?_,λp k=>?_⟩,PX.to k h⟩
 grind
 rw[l b (λe=>by have:=(hw.own x c).1;omega)];exact hw.old b hb;obtain⟨q1,r,z,e1,D,m,o⟩:=hw.own y q
 grind
 obtain rfl|⟨q1,r⟩:=u p k
 ·exact⟨c,t⟩
 obtain⟨m,o⟩:=hw.known p q1;exact⟨m,by rw[l _ r];exact o⟩
end
end
end Ph
namespace Ph
open Go Go.Conc
open Go.ConcN (RelBy fork_knows)
section
def blk:Loc->Nat
 |.cell a=>a.block
 |.obj r=>r
 |_=>0
def cc{t u i x}(h:Z2 (t++u) i=V x):(i<t.size/\Z2 t i=V x)\/∃op,op∈u/\op.act.touch?=V x/\(t++u)[i]?=V op:=by
 obtain⟨op,b,c⟩:=ZF h;obtain⟨hi,a⟩|⟨_,d⟩:=ZX b
 exact .inl ⟨hi,by rw[touchAt_of a];exact c⟩
 grind
def CY{B}{act:MemAct}{x}(h:act.low B)(a:act.touch?=V x)(b:x.loc.isMemory=I):blk x.loc<B:=by
 cases act with
 |access e=>simp only[υ,ξ]at a;subst a;obtain⟨loc,wr,c⟩:=e;cases loc<;>first|exact h|(simp[Loc.isMemory]at b)
 |mark m=>
  cases m<;>simp only[υ,ξ,reduceCtorEq]at a
  subst a;exact h;subst a;exact h
 |_=>simp[υ]at a
section
variable(Shun ic:Loc->Prop)(Own:Nat->Loc->Prop)(p0 r Z:Nat)(H:Nat->Nat)(B:Nat)
structure TI(t:Trace):Prop where
 clean:∀said,¬Race said t
 seen:∀op∈t,op.act.low B
 quiet:∀i x,Z2 t i=V x->ic x.loc->x.kind≠.plain/\(x.kind=.said->t.g? i=V 0)
 known:∀i x,Z2 t i=V x->x.loc.isMemory=I->(Shun x.loc/\x.kind=.atomic)\/ic x.loc\/
  (∃j,j<r/\t.g? i=V (p0+j)/\x.kind≠.atomic/\(Own j x.loc\/(x.write=U/\blk x.loc<Z/\∀k,¬Own k x.loc)))\/Knows t 0 i
 wk:∀j,j<r->∀i x,Z2 t i=V x->x.loc.isMemory=I->(Own j x.loc\/(x.write=I/\blk x.loc<H j/\¬ic x.loc/\¬Shun x.loc/\∀k,¬Own k x.loc)) ->Knows t (p0+j) i
 over:∀i g,t.g? i=V g->g≠0->(g<p0\/p0+r<=g) ->t.counts i->∃j,t.g? j=V 0/\Z1 t i j
structure OS:Prop where
 own:∀k k' l,Own k l->Own k' l->k=k'
 ownSh:∀k l,Own k l->¬ic l/\¬Shun l
 hz:∀j,j<r->H j<=Z
 pos:0<p0
 QS:∀l,ic l->l.isMemory=I
def OkW(j:Nat)(op:MemOp):Prop:=op.g=p0+j/\∀x,op.act.touch?=V x->x.loc.isMemory=I->(ic x.loc/\x.kind=.atomic)\/(x.kind≠.atomic/\Own j x.loc)\/(x.kind≠.atomic/\x.write=U/\blk x.loc<H j/\¬ic x.loc/\¬Shun x.loc/\∀k,¬Own k x.loc)
def Ok0(op:MemOp):Prop:=op.g=0/\∀x,op.act.touch?=V x->x.loc.isMemory=I->(ic x.loc/\x.kind≠.plain)\/(¬ic x.loc/\¬Shun x.loc/\(∀k,¬Own k x.loc)/\(x.write=I->Z<=blk x.loc))
end
section
variable{Shun ic:Loc->Prop}{Own Own':Nat->Loc->Prop}{p0 r Z Z':Nat}{H H':Nat->Nat}{B B':Nat}{t u:Trace}
def TI.mono(h:TI Shun ic Own p0 r Z H B t)(a:B<=B'):TI Shun ic Own p0 r Z H B' t:=⟨h.clean,λop b=>MemAct.low_mono a<|h.seen op b,h.quiet,h.known,h.wk,h.over⟩
def TI.low(h:TI Shun ic Own p0 r Z H B t){i x}(d:Z2 t i=V x)(a:x.loc.isMemory=I):blk x.loc<B:=by obtain⟨op,c,b⟩:=ZF d;exact CY (h.seen op<|Z8 c) b a
def TI.grow(h:TI Shun ic Own p0 r Z H B t)(g:∀k l,Own k l->Own' k l)(f:∀k l,Own' k l->Own k l\/B<=blk l):TI Shun ic Own' p0 r Z H B t:=by
 have c:∀{i x k},Z2 t i=V x->x.loc.isMemory=I->Own' k x.loc->Own k x.loc:=λb a d=>(f _ _ d).elim id λhb=>absurd (h.low b a)<|ZO.2 hb;refine⟨h.clean,h.seen,h.quiet,λi x b a=>?_,λj e i x b a d=>h.wk j e i x b a ?_,h.over⟩;obtain k|k|⟨j,e,hg,hk,k⟩|k:=h.known i x b a
 ·grind
 grind
 grind
 grind
 grind
def nS(h:∀i g,t.g? i=V g->g≠0->(g<p0\/p0+r<=g) ->t.counts i->∃j,t.g? j=V 0/\Z1 t i j)
 (p:∀op∈u,op.g=0\/op.act.touch?=ζ\/(p0<=op.g/\op.g<p0+r)):∀i g,(t++u).g? i=V g->g≠0->(g<p0\/p0+r<=g) ->(t++u).counts i->∃j,(t++u).g? j=V 0/\Z1 (t++u) i j:=by
 intro i g e a c hc;obtain⟨op,m,b⟩:=ψ.1 e;obtain⟨hi,_⟩|⟨_,k⟩:=ZX m
 obtain⟨j,d,o⟩:=h i g (by rw[<-ω (u:=u) hi];exact e) a c<|(counts_old hi).1 hc;have n:j<t.size:=by obtain⟨z,hz,_⟩:=ψ.1 d;exact lt_size_of_getElem? hz
 exact⟨j,by rw[ω n];exact d,hb_app u o⟩;obtain h0|h0|h0:=p op k
 ·exact absurd (b.symm.trans h0) a
 obtain⟨x,s,_⟩:=hc;obtain⟨l,q,f⟩:=ZF s
 grind
 omega
def TI.appW(F:OS Shun ic Own p0 r Z H)(h:TI Shun ic Own p0 r Z H B t){j}(s:j<r)(m:∀op∈u,OkW Shun ic Own p0 H j op)(z:∀op∈u,op.act.low B):TI Shun ic Own p0 r Z H B (t++u):=by
 refine⟨λo=>?_,ZE h.seen z,λi x p hs=>?_,λi x p n=>?_,λk l i x p n f=>?_,nS h.over λop c=>.inr<|.inr ?_⟩;refine Z0 (h.clean o) (λop c=>(m op c).1) λi a y op c b hb hc=>?_;obtain⟨c1,c2,c3,A⟩:=hc;obtain⟨hs,l⟩|⟨_,f⟩|⟨_,hw,hz,hs,w,f⟩:=(m op c).2 b hb<|c1▸c2
 exfalso;have:=h.quiet i a y<|c1▸hs;obtain e|e|⟨_,_,e⟩:=A
 exact this.1 e;rw[l]at e;cases e;rw[l]at e;cases e;exact h.wk j s i a y c2<|.inl<|c1▸f;exact h.wk j s i a y c2<|.inr ⟨c3.resolve_right<|by simp[hw],c1▸hz,c1▸hs,c1▸w,by rw[c1];exact f⟩;obtain⟨hi,d⟩|⟨op,c,d,f⟩:=cc p
 ·obtain⟨q1,C⟩:=h.quiet i x d hs;exact⟨q1,λe=>by rw[ω hi];exact C e⟩
 by_cases n:x.loc.isMemory=I
 ·obtain⟨_,l⟩|⟨_,f⟩|⟨_,_,_,q,_⟩:=(m op c).2 x d n
  ·rw[l];exact⟨by simp,by simp⟩
  exact absurd hs (F.ownSh _ _ f).1;exact absurd hs q
 exact absurd (F.QS _ hs) n;obtain⟨hi,d⟩|⟨op,c,d,f⟩:=cc p
 ·obtain k|k|⟨j',hj',hg,k⟩|k:=h.known i x d n
  ·exact .inl k
  exact .inr<|.inl k;exact .inr<|.inr<|.inl ⟨j',hj',by rw[ω hi];exact hg,k⟩;exact .inr<|.inr<|.inr<|k.app u
 obtain⟨hs,_⟩|⟨l,g⟩|⟨l,hw,hz,_,_,q⟩:=(m op c).2 x d n
 ·exact .inr<|.inl hs
 exact .inr<|.inr<|.inl ⟨j,s,by simp[Trace.g?,f,(m op c).1],l,.inl g⟩;exact .inr<|.inr<|.inl ⟨j,s,by simp[Trace.g?,f,(m op c).1],l,.inr ⟨hw,Z3 hz<|F.hz j s,q⟩⟩;obtain⟨hi,d⟩|⟨op,c,d,v⟩:=cc p
 ·exact(h.wk k l i x d n f).app u
 have own:=ZH v;rw[(m op c).1]at own;obtain⟨hs,_⟩|⟨_,g⟩|⟨_,hw,_,_,_,q⟩:=(m op c).2 x d n
 obtain f|⟨_,_,o3,_,_⟩:=f
 ·exact absurd hs (F.ownSh _ _ f).1
 exact absurd hs o3;obtain f|⟨_,_,_,_,o5⟩:=f
 ·rw[F.own _ _ _ f g];exact own
 exact absurd g<|o5 j;obtain f|⟨o1,_⟩:=f
 ·exact absurd f<|q k
 rw[hw]at o1;cases o1;rw[(m op c).1];omega
def TI.app0(F:OS Shun ic Own p0 r Z H)(h:TI Shun ic Own p0 r Z H B t)(l:∀op∈u,Ok0 Shun ic Own Z op)(C:∀op∈u,op.act.low B):TI Shun ic Own p0 r Z H B (t++u):=by
 have own:∀{i:Nat} {op:MemOp},op∈u->(t++u)[i]?=V op->Knows (t++u) 0 i:=λc f=>by have:=ZH f;rwa[(l _ c).1]at this
 refine⟨λm=>?_,ZE h.seen C,λi x n hs=>?_,λi x n p=>?_,λk g i x n p f=>?_,nS h.over λop c=>.inl (l op c).1⟩;refine Z0 (h.clean m) (λop c=>(l op c).1) λi a y op c b hb hc=>?_;obtain⟨c1,c2,c3,D⟩:=hc;obtain⟨hs,g⟩|⟨hs,v,f,hw⟩:=(l op c).2 b hb<|c1▸c2
 obtain⟨q1,w⟩:=h.quiet i a y<|c1▸hs;obtain e|e|⟨_,e,_⟩:=D
 exact absurd e q1;exact absurd e g;have o:=w e;obtain⟨z,hz,q⟩:=ψ.1 o;have:=ZH hz;rwa[q]at this;obtain k|k|⟨j,hj,o,g,k⟩|k:=h.known i a y c2
 ·exact absurd (c1▸k.1) v
 exact absurd (c1▸k) hs
 grind
 exact k;obtain⟨hi,d⟩|⟨op,c,d,f⟩:=cc n
 ·obtain⟨q1,w⟩:=h.quiet i x d hs;exact⟨q1,λe=>by rw[ω hi];exact w e⟩
 obtain⟨_,g⟩|⟨s,_⟩:=(l op c).2 x d<|F.QS _ hs
 ·exact⟨g,λ_=>by simp[Trace.g?,f,(l op c).1]⟩
 exact absurd hs s;obtain⟨hi,d⟩|⟨op,c,d,f⟩:=cc n
 ·obtain k|k|⟨j',hj',o,k⟩|k:=h.known i x d p
  ·exact .inl k
  exact .inr<|.inl k;exact .inr<|.inr<|.inl ⟨j',hj',by rw[ω hi];exact o,k⟩;exact .inr<|.inr<|.inr<|k.app u
 exact .inr<|.inr<|.inr<|own c f;obtain⟨hi,d⟩|⟨op,c,d,A⟩:=cc n
 ·exact(h.wk k g i x d p f).app u
 exfalso;obtain⟨hs,_⟩|⟨_,_,s,hw⟩:=(l op c).2 x d p
 obtain f|⟨_,_,o3,_,_⟩:=f
 ·exact(F.ownSh _ _ f).1 hs
 exact o3 hs;obtain f|⟨o1,o2,_⟩:=f
 ·exact s k f
 have:=hw o1;have:=F.hz k g;omega
def TI.CZ(h:TI Shun ic Own p0 r Z H B t){g}(m:∀op∈u,op.g=g)(s:∀op∈u,op.act.touch?=ζ)(p:∀op∈u,op.act.low B):TI Shun ic Own p0 r Z H B (t++u):=by
 have old:∀{i:Nat} {x:Touch},Z2 (t++u) i=V x->i<t.size/\Z2 t i=V x:=λf=>by
  obtain h|⟨op,d,c,_⟩:=cc f
  exact h
  grind
 refine⟨λj=>Z0 (h.clean j) m λi a v op d b hb hc=>(by grind),ZE h.seen p,λi x f hs=>?_,λi x f l=>?_,λk n i x f l o=>(h.wk k n i x (old f).2 l o).app u,nS h.over λop d=>.inr<|.inl<|s op d⟩;obtain⟨hi,c⟩:=old f;obtain⟨q1,q⟩:=h.quiet i x c hs;exact⟨q1,λe=>by rw[ω hi];exact q e⟩;obtain⟨hi,c⟩:=old f;obtain k|k|⟨j',hj',m,k⟩|k:=h.known i x c l
 exact .inl k;exact .inr<|.inl k;exact .inr<|.inr<|.inl ⟨j',hj',by rw[ω hi];exact m,k⟩;exact .inr<|.inr<|.inr<|k.app u
def TI.fork(F:OS Shun ic Own p0 r Z H)(h:TI Shun ic Own p0 r Z H B t){x y}(s:x.g=0/\x.act=.go (p0+r))(q:y.g=p0+r/\y.act=.start)(h0:Deaf t 0=0)(z:Deaf t (p0+r)=0)(A:∀j,j<r->H' j=H j)(E:Z<=Z'):TI Shun ic Own p0 (r+1) Z' H' B (t++#[x,y]):=by
 have l:∀op∈#[x,y],op.act.touch?=ζ:=by
  intro op c;simp only[θ,ι,η,or_false]at c;obtain rfl|rfl:=c
  rw[s.2];rfl;rw[q.2];rfl
 have old:∀{i:Nat} {a:Touch},Z2 (t++#[x,y]) i=V a->i<t.size/\Z2 t i=V a:=λm=>by
  obtain h|⟨op,c,hx',_⟩:=cc m
  exact h;rw[l op c]at hx';cases hx'
 have e:t++#[x,y]=(t++#[x])++#[y]:=by apply Array.ext';simp
 refine⟨λn=>?_,ZE h.seen λop c=>?_,λi a m hs=>?_,λi a m v=>?_,λj G i a m v d=>?_,λi g p w C hc=>nS (u:=#[x,y]) h.over (λop c=>.inr<|.inl<|l op c) i g p w (by omega) hc⟩;rw[e];exact Z0 (g:=p0+r) (Z0 (g:=0) (h.clean n) (λop c=>by simp at c;rw[c];exact s.1) (λi a _ op c b hb _=>by rw[l op (by simp at c⊢;exact .inl c)]at hb;cases hb))
  (λop c=>by simp at c;rw[c];exact q.1) (λi a _ op c b hb _=>by rw[l op (by simp at c⊢;exact .inr c)]at hb;cases hb)
 simp only[θ,ι,η,or_false]at c;obtain rfl|rfl:=c
 rw[s.2];trivial;rw[q.2];trivial;obtain⟨hi,f⟩:=old m;obtain⟨q1,D⟩:=h.quiet i a f hs;exact⟨q1,λe=>by rw[ω hi];exact D e⟩;obtain⟨hi,f⟩:=old m;obtain k|k|⟨j',hj',p,k0,k⟩|k:=h.known i a f v
 exact .inl k;exact .inr<|.inl k;refine .inr<|.inr<|.inl ⟨j',by omega,by rw[ω hi];exact p,k0,?_⟩;obtain k|⟨k1,k2,k3⟩:=k
 exact .inl k;exact .inr ⟨k1,by omega,k3⟩;exact .inr<|.inr<|.inr<|k.app _;obtain⟨hi,f⟩:=old m;by_cases o:j<r
 rw[A j o]at d;exact(h.wk j o i a f v d).app _;obtain rfl:j=r:=by omega
 refine fork_knows s q h0 z ?_;obtain k|k|⟨j',hj',p,k0,k⟩|k:=h.known i a f v
 exfalso;obtain d|⟨_,_,_,o4,_⟩:=d
 exact(F.ownSh _ _ d).2 k.1;exact o4 k.1;exfalso;obtain d|⟨_,_,o3,_⟩:=d
 exact(F.ownSh _ _ d).1 k;exact o3 k;exfalso;obtain k|⟨k1,k2,k3⟩:=k
 obtain d|⟨_,_,_,_,o5⟩:=d
 ·have:=F.own _ _ _ k d;omega
 exact o5 _ k;obtain d|⟨o1,_⟩:=d
 ·exact k3 _ d
 rw[k1]at o1;cases o1;exact k
def TI.GZ(F:OS Shun ic Own p0 r Z H)(h:TI Shun ic Own p0 r Z H B t){a}(P:∀j,j<r->∃i,RelBy a t (p0+j) i)(S:NoRelease a t)(h0:Deaf t 0=0){y}(e:y.g=0/\y.act=.mark (.acquire a))(T:a.block<B):
 Past (λl=>Shun l\/ic l) B (t++#[y]):=by
 have d:(t++#[y])[t.size]?=V y:=by rw[Array.getElem?_append_right .refl];simp
 have A:∀op∈#[y],op.act.touch?=ζ:=by intro op b;simp only[θ,ι,η,or_false]at b;rw[b,e.2];rfl
 have v:∀op∈#[y],op.act.low B:=by intro op b;simp only[θ,ι,η,or_false]at b;rw[b,e.2];exact T
 have K:=h.CZ (u:=#[y]) (g:=0) (λop b=>by simp at b;rw[b];exact e.1) A v;have o:∀{j i:Nat},j<r->i<t.size->t.g? i=V (p0+j) ->t.counts i->Z1 (t++#[y]) i t.size:=by
  intro j i L hi m hc;obtain⟨q,C⟩:=P j L;have f:=lt_of_act? C.act;have W:=Nat.le_of_not_lt λp=>C.after i p m hc;have n:Z1 (t++#[y]) q t.size:=.single<|.inr ⟨.marked f (.inr (by rw[act?_old f];exact C.act)) (by rw[act?_of d,e.2]) (λk _ J=>by rw[act?_old J];exact S k),(heard_old f).2 C.heard,⟨0,by simp[Trace.g?,d,e.1],by rw[deaf_old .refl];exact h0⟩⟩;obtain p|s:=Nat.lt_or_ge i q
  exact .trans (.single<|.inl ⟨p,p0+j,by rw[ω hi];exact m,by rw[ω f];exact C.g⟩) n;obtain rfl:i=q:=by omega
  exact n
 refine⟨K.clean,λi x Q D=>?_,λi g m w hc=>?_,?_,K.seen⟩;obtain⟨hi,c⟩|⟨op,b,c,_⟩:=cc Q
 ·obtain k|k|⟨j,L,m,J,k⟩|k:=h.known i x c D
  ·exact .inr ⟨.inl k.1,k.2⟩
  obtain⟨q1,X⟩:=h.quiet i x c k;cases hkd:x.kind with
  |plain=>exact absurd hkd q1
  |atomic=>exact .inr ⟨.inr k,rfl⟩
  |said=>left;obtain⟨z,hz,G⟩:=ψ.1<|X hkd;have:=ZH hz;rw[G]at this;exact this.app _
  exact .inl ⟨t.size,y,d,e.1,.inr<|o L hi m ⟨x,c,D,.inl J⟩⟩;exact .inl<|k.app _
 rw[A op b]at c;cases c;by_cases N:g<p0\/p0+r<=g
 ·exact K.over i g m w N hc
 have hi:i<t.size:=by
  apply Classical.byContradiction;intro s;obtain⟨op,O,E⟩:=ψ.1 m;obtain⟨hi,_⟩|⟨_,D⟩:=ZX O
  exact s hi;simp at D;rw[D,e.1]at E;exact w E.symm
 obtain⟨j,rfl⟩:∃j,g=p0+j:=⟨g-p0,by omega⟩;exact⟨t.size,by simp[Trace.g?,d,e.1],o (j:=j) (by omega) hi (by rw[<-ω (u:=#[y]) hi];exact m)<|(counts_old hi).1 hc⟩;rw[Deaf_push];unfold deafStep;rw[e.2];exact h0
def TI.start(h:Past Shun B t)(e:∀l,ic l->B<=blk l/\l.isMemory=I)(h3:0<p0):TI Shun ic Own p0 0 Z H B t:=by
 refine⟨h.clean,h.seen,λi x b hs=>?_,λi x b c=>?_,λj n=>by omega,λi g m a _ hc=>h.over i g m a hc⟩;obtain⟨op,d,f⟩:=ZF b;have:=CY (h.seen op<|Z8 d) f (e _ hs).2
 grind
 obtain k|k:=h.known i x b c
 ·grind
 grind
end
end
end Ph
namespace Ph
open Go Go.Conc
open Go.ConcM (muA msA MuAt ShAt Eff BookOK Bk2)
open Go.ConcR (stA smA WgAt mk)
section
structure PC where
 ca:Option μ
 n:Nat
 m:Nat
 b:Bool
 c0:Z9
 cs:List Z9
 p0:Nat
 B0:Nat
 h0:Array Obj
 v0:μ
 v1:Nat->φ
 v2:Nat->φ
 ev:Nat->Int
 S:Nat->Prop
 TT:Z4->Prop
 C:Nat
namespace PC
variable(K:PC)
def E:μ:=⟨K.B0+1,0,ζ⟩
def q:MP:=⟨K.ca,K.n,K.m,⟨K.B0,0,ζ⟩,⟨K.B0+2,0,ζ⟩,muA<|K.B0+3,stA<|K.B0+4⟩
def wp(i c:Nat):WP:=K.q.wp ⟨c,0,ζ⟩ ⟨i,0,ζ⟩
def pk:PK:={B0:=K.B0,h0:=K.h0,Y:=λb=>¬K.S b,TT:=K.TT,C:=K.C}
def Fin(j:Nat)(cs1:List Z9):R:={frame:=cs1.head!.finish<|Ξ Γ<|K.ev j,callers:=cs1.tail,status:=.running,dying:=ζ}
def Entry(j:Nat)(cs1:List Z9):R:={frame:=ZZ P0 213 #[Ω (V K.v0),.agg #[K.v1 j,K.v2 j]] .normal,callers:=cs1,status:=.running,dying:=ζ}
def ic(l:Go.Loc):Prop:=∃a,l=.cell a/\(a.block=K.B0+3\/a.block=K.B0+4)
def Shun(l:Go.Loc):Prop:=gO.mT K.S l
def Own(X:Nat->Nat->Prop)(j:Nat)(l:Go.Loc):Prop:=(l=.cell ⟨K.B0+1,j,ζ⟩/\j<K.n)\/(l.isMemory=I/\X j (blk l))
end PC
structure dX(K:PC):Prop where
 MT:∀j,j<K.n->∀cs1,cs1≠[] ->∃N,PX K.pk (K.Fin j cs1) N [] [] (K.Entry j cs1)
 ads:∀j,j<K.n->(K.v1 j).oneCell'=I/\(K.v2 j).oneCell'=I
 nB:K.n<1048576
 pos:0<K.p0
 size:K.h0.size=K.B0
 data:∀j,j<K.n->∃a,K.ca=V a/\a.block<K.B0/\¬K.S a.block/\a.spot=ζ/\∃cs e f,K.h0[a.block]?=V (.cells cs e f)/\cs[a.off+j*2]?=V (K.v1 j)/\cs[a.off+j*2+1]?=V (K.v2 j)
 SB:∀b,K.S b->b<K.B0
 TT:K.TT 104/\K.TT 34/\K.TT 83/\K.TT 249/\K.TT 255/\K.TT 3/\K.TT 76
def kK:St->Nat
 |.w7=>6
 |.w8=>5
 |.pv=>4
 |.gl|.gs|.gm|.gn|.gx=>1
 |.fin=>0
 |_=>2
def cu:St->Bool
 |.u1|.uv|.ur|.ud|.u0|.uc _|.ux|.us|.uh|.ue|.gv|.gr|.gd|.ga|.gl|.gs|.gm|.gn|.gx|.fin=>I
 |_=>U
def dC:St->Bool
 |.gd|.ga|.gl|.gs|.gm|.gn|.gx|.fin=>I
 |_=>U
def C0(x):kK (hd x)=2/\cu (hd x)=U/\dC (hd x)=U/\hd x≠.w8/\hd x≠.pv/\hd x≠.fin:=by unfold hd;split<;>simp[kK,cu,dC]
def G0(o):kK (k8 o)=2/\cu (k8 o)=I/\dC (k8 o)=U/\k8 o≠.w8/\k8 o≠.pv/\k8 o≠.fin:=by unfold k8;split<;>simp[kK,cu,dC]
def ez:St->Bool
 |.e4=>I
 |_=>U
def il:St->Bool
 |.gr=>I
 |_=>U
structure NxF(s s':St):Prop where
 lv:kK s'<=kK s
 GZ:cu s'=(cu s||ez s)
 rel:dC s'=(dC s||il s)
 no8:s'≠.w8/\s'≠.pv/\(s'=.fin↔s=.gx)
def G8{s s' h h'}(a:Nx s h s' h'):NxF s s':=by
 cases s with
 |w7=>exact a.elim
 |w8=>exact a.elim
 |pv=>exact a.elim
 |fin=>exact a.elim
 |l0=>obtain⟨_,rfl,_⟩|⟨_,rfl,_⟩:=a<;>exact⟨by simp[kK],by simp[cu,ez],by simp[dC,il],by simp⟩
 |r0=>obtain⟨rfl,_⟩:=a;obtain⟨q1,e,d,b,f,c⟩:=C0 ⟨0,h.mu,0,U,U⟩;exact⟨by rw[q1];simp[kK],by rw[e];simp[cu,ez],by rw[d];simp[dC,il],b,f,by simp[c]⟩
 |sq x=>obtain⟨_,rfl|⟨_,rfl⟩⟩:=a;exact⟨by simp[kK],by simp[cu,ez],by simp[dC,il],by simp⟩;split<;>exact⟨by simp[kK],by simp[cu,ez],by simp[dC,il],by simp⟩
 |c1 x=>obtain⟨_,rfl,_⟩|⟨_,rfl,_⟩:=a<;>exact⟨by simp[kK],by simp[cu,ez],by simp[dC,il],by simp⟩
 |r1 x=>obtain⟨rfl,_⟩:=a;obtain⟨q1,e,d,b,f,c⟩:=C0 {x with old:=h.mu};exact⟨by rw[q1];simp[kK],by rw[e];simp[cu,ez],by rw[d];simp[dC,il],b,f,by simp[c]⟩
 |r3 x=>obtain⟨rfl,_⟩:=a;obtain⟨q1,e,d,b,f,c⟩:=C0 {x with old:=h.mu};exact⟨by rw[q1];simp[kK],by rw[e];simp[cu,ez],by rw[d];simp[dC,il],b,f,by simp[c]⟩
 |c2 x=>
  obtain⟨_,_,rfl⟩|⟨_,rfl,_⟩:=a
  split
  ·exact⟨by simp[kK],by simp[cu,ez],by simp[dC,il],by simp⟩
  split<;>exact⟨by simp[kK],by simp[cu,ez],by simp[dC,il],by simp⟩
  exact⟨by simp[kK],by simp[cu,ez],by simp[dC,il],by simp⟩
 |t1 x=>obtain⟨_,t,rfl⟩:=a;exact⟨by simp[kK],by simp[cu,ez],by simp[dC,il],by simp⟩
 |s1 x=>obtain⟨_,_,rfl⟩:=a;split<;>exact⟨by simp[kK],by simp[cu,ez],by simp[dC,il],by simp⟩
 |t2 x=>obtain⟨_,t,rfl⟩:=a;exact⟨by simp[kK],by simp[cu,ez],by simp[dC,il],by simp⟩
 |r2 x=>
  obtain⟨_,rfl⟩:=a;split
  exact⟨by simp[kK],by simp[cu,ez],by simp[dC,il],by simp⟩;obtain⟨q1,e,d,b,f,c⟩:=C0 {x with old:=h.mu,it:=0,aw:=I};exact⟨by rw[q1];simp[kK],by rw[e];simp[cu,ez],by rw[d];simp[dC,il],b,f,by simp[c]⟩
 |u0=>
  obtain⟨_,rfl⟩:=a;split
  exact⟨by simp[kK],by simp[cu,ez],by simp[dC,il],by simp⟩;obtain⟨q1,e,d,b,f,c⟩:=G0 {h.mu with L:=U};exact⟨by rw[q1];simp[kK],by rw[e];simp[cu,ez],by rw[d];simp[dC,il],b,f,by simp[c]⟩
 |uc o=>obtain⟨_,rfl,_⟩|⟨_,rfl,_⟩:=a<;>exact⟨by simp[kK],by simp[cu,ez],by simp[dC,il],by simp⟩
 |ux=>obtain⟨rfl,_⟩:=a;obtain⟨q1,e,d,b,f,c⟩:=G0 h.mu;exact⟨by rw[q1];simp[kK],by rw[e];simp[cu,ez],by rw[d];simp[dC,il],b,f,by simp[c]⟩
 |ga=>obtain⟨_,rfl⟩:=a;split<;>exact⟨by simp[kK],by simp[cu,ez],by simp[dC,il],by simp⟩
 |_=>obtain⟨rfl,_⟩:=a;exact⟨by simp[kK],by simp[cu,ez],by simp[dC,il],by simp⟩
def adt{s s' h h'}(a:Nx s h s' h')(b:h'.k≠h.k):kK s'<kK s\/s=.gs:=by
 cases s with
 |ga=>obtain⟨_,rfl⟩:=a;split<;>simp[kK]
 |gs=>exact .inr rfl
 |w7=>exact a.elim
 |w8=>exact a.elim
 |pv=>exact a.elim
 |fin=>exact a.elim
 |l0=>obtain⟨_,_,rfl⟩|⟨_,_,rfl⟩:=a<;>exact absurd rfl b
 |c1 x=>obtain⟨_,_,rfl⟩|⟨_,_,rfl⟩:=a<;>exact absurd rfl b
 |c2 x=>obtain⟨_,rfl,_⟩|⟨_,_,rfl⟩:=a<;>exact absurd rfl b
 |uc x=>obtain⟨_,_,rfl⟩|⟨_,_,rfl⟩:=a<;>exact absurd rfl b
 |s1 x=>obtain⟨_,rfl,_⟩:=a;exact absurd rfl b
 |sq x=>obtain⟨rfl,_⟩:=a;exact absurd rfl b
 |t1 x=>obtain⟨rfl,_⟩:=a;exact absurd rfl b
 |t2 x=>obtain⟨rfl,_⟩:=a;exact absurd rfl b
 |r2 x=>obtain⟨rfl,_⟩:=a;exact absurd rfl b
 |u0=>obtain⟨rfl,_⟩:=a;exact absurd rfl b
 |gm=>obtain⟨_,rfl⟩:=a;exact absurd rfl b
 |us=>obtain⟨_,rfl⟩:=a;exact absurd rfl b
 |uh=>obtain⟨_,rfl⟩:=a;exact absurd rfl b
 |a1 x=>obtain⟨_,rfl⟩:=a;exact absurd rfl b
 |_=>obtain⟨_,rfl⟩:=a;exact absurd rfl b
def MU{s s' h h'}(a:Nx s h s' h')(b:h.ms<h'.ms\/h.ws<h'.ws):s=.us\/s=.uh\/s=.gm:=by
 cases s with
 |us=>exact .inl rfl
 |uh=>exact .inr<|.inl rfl
 |gm=>exact .inr<|.inr rfl
 |w7=>exact a.elim
 |w8=>exact a.elim
 |pv=>exact a.elim
 |fin=>exact a.elim
 |ga=>obtain⟨rfl,_⟩:=a;exact absurd b (by simp)
 |gs=>obtain⟨_,rfl⟩:=a;exact absurd b (by simp)
 |l0=>obtain⟨_,_,rfl⟩|⟨_,_,rfl⟩:=a<;>exact absurd b (by simp)
 |c1 x=>obtain⟨_,_,rfl⟩|⟨_,_,rfl⟩:=a<;>exact absurd b (by simp)
 |c2 x=>obtain⟨_,rfl,_⟩|⟨_,_,rfl⟩:=a<;>exact absurd b (by simp)
 |uc x=>obtain⟨_,_,rfl⟩|⟨_,_,rfl⟩:=a<;>exact absurd b (by simp)
 |s1 x=>obtain⟨_,rfl,_⟩:=a;exact absurd b (by simp)
 |sq x=>obtain⟨rfl,_⟩:=a;exact absurd b (by simp)
 |t1 x=>obtain⟨rfl,_⟩:=a;exact absurd b (by simp)
 |t2 x=>obtain⟨rfl,_⟩:=a;exact absurd b (by simp)
 |r2 x=>obtain⟨rfl,_⟩:=a;exact absurd b (by simp)
 |u0=>obtain⟨rfl,_⟩:=a;exact absurd b (by simp)
 |a1 x=>obtain⟨_,rfl⟩:=a;exact absurd b (by simp)
 |_=>obtain⟨_,rfl⟩:=a;exact absurd b (by simp)
inductive WSit(K:PC)(j:Nat)(p:WP):St->(Nat->Prop) ->Nat->Nat->Nat->R->κ->Prop
 |go {s:St} {X:Nat->Prop} {k:Nat} {g g':R} {w:κ} (h:Path P0 U k g g') (hs:fh p (K.ev j) K.E K.n j s g') (h8:s≠.w8) (hp:s≠.pv) (hf:s≠.fin):WSit K j p s X (kK s) k 1 g w
 |w8 {X:Nat->Prop} {k:Nat} {g g':R} {w:κ} (h:Path P0 U k g g') (hs:bj (fW p LB [(7,Ω (V K.v0))] [aZ p]) [fB []] g'):WSit K j p .w8 X 5 k 1 g w
 |blk {x:Lc} {X:Nat->Prop} {g:R} {w:κ} (hs:bh p (K.ev j) (.s1 x) g):WSit K j p (.s1 x) X 2 0 0 {g with status:=.blocked} w
 |ap {X:Nat->Prop} {k:Nat} {g:R} {w:κ} (cs1:List Z9) (h:Path P0 U k g (K.Entry j cs1)) (h1:bj (fW p QG [] [aZ p]) [fB []] (G cs1.head! cs1.tail)) (h2:cs1≠[]):WSit K j p .pv X 4 k 1 g w
 |pv {X:Nat->Prop} {k:Nat} {g:R} {w:κ} (cs1:List Z9) (Xl:List Nat) (O:List (Nat×Obj)) (hX:X=(·∈Xl)) (h:PX K.pk (K.Fin j cs1) k Xl O g) (ha:o7 K.pk Xl O w) (h1:bj (fW p QG [] [aZ p]) [fB []] (G cs1.head! cs1.tail)) (h2:cs1≠[]):WSit K j p .pv X 3 k 1 g w
 |fin {X:Nat->Prop} {g:R} {w:κ} (h:g.status=.finished):WSit K j p .fin X 0 0 1 g w
def js{p e s g}(h:bh p e s g):g.status=.running/\g.offers=ζ:=by
 have a:∀{d:bG} {ds:List bG},bj d ds g->g.status=.running/\g.offers=ζ:=λh=>by obtain⟨F,rfl⟩:=h;exact⟨rfl,rfl⟩
 unfold bh at h;split at h
 all_goals first
  |exact a h
  |(obtain⟨_,h⟩:=h;exact a h)
  |exact a h.1
  |(obtain⟨_,_,h⟩:=h;exact a h)
  |(obtain h|h:=h<;>exact a h)
  |exact h.elim
def rK{p e E n i s g}(h:fh p e E n i s g):g.status=.running/\g.offers=ζ:=by
 have a:∀{d:bG} {ds:List bG},bj d ds g->g.status=.running/\g.offers=ζ:=λh=>by obtain⟨F,rfl⟩:=h;exact⟨rfl,rfl⟩
 unfold fh at h;split at h
 all_goals first
  |exact a h
  |(obtain⟨_,h⟩:=h;exact a h)
  |exact js h
def Path.running{P main k g g'}(h:Path P main k g g')(h':g'.status=.running):g.status=.running:=by
 cases k with
 |zero=>cases h;exact h'
 |succ k=>exact h.1
def WSit.status{K j p s X l k z g w}(h:WSit K j p s X l k z g w):(g.status=.running/\z=1)\/(g.status=.blocked/\z=0/\g.offers=ζ/\∃x,s=.s1 x)\/(g.status=.finished/\s=.fin/\z=1):=by
 cases h with
 |go h hs=>exact .inl ⟨h.running (rK hs).1,rfl⟩
 |w8 h hs=>obtain⟨F,rfl⟩:=hs;exact .inl ⟨h.running rfl,rfl⟩
 |blk hs=>exact .inr<|.inl ⟨rfl,rfl,(js hs).2,_,rfl⟩
 |ap a h=>exact .inl ⟨h.running rfl,rfl⟩
 |pv a b O c h=>exact .inl ⟨h.running,rfl⟩
 |fin h=>exact .inr<|.inr ⟨h,rfl,rfl⟩
end
section
def bM{w:κ}{b o:Nat}{cs e f}(h:w.heap[b]?=V (.cells cs e f)):w (b,o)=cs[o]?:=by simp[World.cell?,h]
def g8{w:κ}{b o:Nat}{cs e}(h:w.heap[b]?=V (.cells cs e)):w.frozen? (b,o)=U:=by simp[World.frozen?,h]
def jP{w:κ}{b o:Nat}{cs e f v}(h:w.heap[b]?=V (.cells cs e f)):(w.setCell (b,o) v).heap[b]?=V (.cells (cs.setIfInBounds o v) e f):=by simp[World.setCell,ZM,h]
def dh{w:κ}{a b v}(h:b≠a.block):(w.setCell a v).heap[b]?=w.heap[b]?:=by simp only[World.setCell,ZM];rw[if_neg (Ne.symm h)]
def cE{w:κ}{a v}:(w.setCell a v).heap.size=w:=by simp
def aP(b o n):((b,o):μ).add n=⟨b,o+n,ζ⟩:=by unfold Addr.add;simp
structure db(K:PC)(val:Nat->Int)(h:Sh)(w:κ):Prop where
 size:K.B0+5<=w
 low:∀b,b<K.B0->w.heap[b]?=K.h0[b]?
 gb:w.heap[K.B0]?=V (ZR #[Ω (V K.v0)] 104)
 er:∃cs,w.heap[K.B0+1]?=V (.cells cs 34)/\cs.size=K.n/\∀i,i<K.n->cs[i]?=V (Ξ Γ (val i))
 eb:w.heap[K.B0+2]?=V (ZR #[Δ (V K.E) K.n K.n] 83)
 sh:ShAt 249 255 (K.B0+3) (K.B0+4) w (dU h)
def uy(K:PC)(w:κ)(j i c:Nat):Prop:=w.heap[i]?=V (ZR #[Ξ Γ j] 3)/\w.heap[c]?=V (ZR #[K.v1 j,K.v2 j] 76)
structure uz(K:PC)(j:Nat)(dn:Bool)(s s':St)(X X':Nat->Prop)(h':Sh)(val:Nat->Int)(w w':κ):Prop where
 tape:w'.tape=w.tape
 output:w'.output=w.output
 os:Go.ConcM.OsLater w.os w'.os
 size:w.heap.size<=w'
 sh:ShAt 249 255 (K.B0+3) (K.B0+4) w' (dU h')
 er:∃cs,w'.heap[K.B0+1]?=V (.cells cs 34)/\cs.size=K.n/\∀i,i<K.n->cs[i]?=V (Ξ Γ (if(dn=I/\ez s=I)/\i=j then K.ev j else val i))
 others:∀x,x<w.heap.size->x≠K.B0+1->x≠K.B0+3->x≠K.B0+4->(s=.pv->¬X x) ->w'.heap[x]?=w.heap[x]?
 grow:∀x,X x->X' x
 fresh:∀x,X' x->¬X x->w.heap.size<=x/\x<w'
 full:∀x,w.heap.size<=x->x<w'->X' x
 keep:s≠.pv->X'=X
 rows:s=.pv->s'≠.pv->∀x,X' x->∃cs e f,w'.heap[x]?=V (.cells cs e f)/\K.TT e
 enum:s=.pv->s'≠.pv->∃f:Nat->Nat,∀x,X' x->∃i,i<K.C/\x=f i
structure Va(K:PC)(j i c:Nat)(dn:Bool)(s s':St)(X':Nat->Prop)(w':κ)(es:Array ZQ):Prop where
 ok:∀e∈es,∀x,(χ e).touch?=V x->x.loc.isMemory=I->(K.ic x.loc/\x.kind=.atomic)\/(x.kind≠.atomic/\(x.loc=.cell (K.B0+1,j)\/X' (blk x.loc)))\/
  (x.kind≠.atomic/\x.write=U/\((blk x.loc<K.B0/\¬K.S (blk x.loc))\/blk x.loc=K.B0\/blk x.loc=K.B0+2\/blk x.loc=i\/blk x.loc=c))
 low:∀e∈es,(χ e).low w'
 dfb:deafBehind (deaf s) es=deaf s'
 norel:∀e∈es,e.loc≠.mark (.release (stA (K.B0+4)))
 rel:dn=I->s=.gr->es=#[mk (.releaseMerge (stA (K.B0+4)))]
 after:dC s=I->∀i e,es[i]?=V e->(χ e).touch?=ζ\/((∃ad wr,e=⟨.cell ad,wr,I⟩)/\0<deafBehind (deaf s) (es.extract 0 i))
def WPg(dn:Bool)(s s':St)(h h':Sh)(l l' k k' z z':Nat)(g g':R):Prop:=
 (dn=U/\s'=s/\h'=h/\l'=l/\((k'<k/\z'=z)\/(k'=k/\z'<z/\h.ms=0/\g'.status=.blocked)))\/
 (dn=I/\Nx s h s' h'/\l=kK s/\l'=kK s'/\z'=1/\(h.ms<h'.ms\/h.ws<h'.ws->ZB P0 g=I/\g'.status=.running))\/
 (dn=U/\h'=h/\l'<l/\z'=1/\((s=.w7/\s'=.w8)\/(s=.w8/\s'=.pv)\/(s=.pv/\(s'=.pv\/s'=.ld))))
section
variable{K:PC}{j i c:Nat}{s s':St}{X X':Nat->Prop}{l k z:Nat}{h h':Sh}{val:Nat->Int}{g:R}{w w':κ}{es:Array ZQ}
def uz.refl{dn}(W:db K val h w)(d:dn=I->ez s=U)(c:s≠.pv\/s'=.pv):uz K j dn s s' X X h val w w:=⟨rfl,rfl,.refl _,.refl,W.sh,by obtain⟨cs,b,a,h3⟩:=W.er;exact⟨cs,b,a,λi hi=>by rw[if_neg λh=>by have:=d h.1.1;rw[h.1.2]at this;cases this];exact h3 i hi⟩,λ_ _ _ _ _ _=>rfl,λ_ h=>h,λx b a=>absurd b a,λx b a=>absurd a (ZO.2 b),λ_=>rfl,λb a=>c.elim (absurd b) (λh=>absurd h a),λb a=>c.elim (absurd b) (λh=>absurd h a)⟩
def qM{dn}(hd:deaf s=deaf s')(b:dn=I->s≠.gr):Va K j i c dn s s' X' w' #[]:=⟨by simp,by simp,hd,by simp,λa h=>absurd h<|b a,by simp⟩
def lR(hd:deaf s=0)(f:deaf s'=0)(m:s≠.gr)(hrel:dC s=U)(b:∀e∈es,∃a,e=⟨.cell a,U,U⟩/\(a.block=K.B0\/a.block=K.B0+2\/a.block=i\/a.block=c)/\a.block<w'):Va K j i c I s s' X' w' es:=by
 refine⟨λe d x g n=>?_,λe d=>?_,?_,λe d=>?_,λ_ h=>absurd h m,λh=>by rw[hrel]at h;cases h⟩;obtain⟨a,rfl,k,_⟩:=b e d;simp only[χ,υ,ξ]at g;subst g;exact .inr<|.inr ⟨by simp,rfl,.inr k⟩;obtain⟨a,rfl,_,l⟩:=b e d;exact l;rw[hd,f];exact ZN (λe d=>by obtain⟨a,rfl,_⟩:=b e d;simp) 0
 grind
def G9(hb:BookOK (K.B0+3) (K.B0+4) (deaf s) (deaf s') es)(l:s≠.gr)(hs:K.B0+5<=w'):Va K j i c I s s' X' w' es:=by
 obtain⟨f,k,h3⟩:=hb;refine⟨λe b x g m=>?_,λe b=>?_,k,λe b=>?_,λ_ h=>absurd h l,λ_ n e b=>?_⟩;obtain h|h|⟨a,y,rfl,ha⟩:=f e b
 ·obtain⟨loc,wr,d⟩:=e;dsimp only at h;subst h;simp[χ,υ]at g
 obtain⟨loc,wr,d⟩:=e;dsimp only at h;subst h;simp[χ,υ]at g;simp only[χ,υ,ξ]at g;subst g;exact .inl ⟨⟨a,rfl,ha⟩,by simp⟩;obtain h|h|⟨a,y,rfl,ha⟩:=f e b
 ·obtain⟨loc,wr,d⟩:=e;dsimp only at h;subst h;trivial
 obtain⟨loc,wr,d⟩:=e;dsimp only at h;subst h;trivial;show a.block<_;omega;obtain h|h|⟨a,y,rfl,ha⟩:=f e b
 ·rw[h];simp
 rw[h];simp;simp;obtain h|h:=h3 n e b
 ·exact .inl h
 obtain h'|h'|⟨a,y,rfl,ha⟩:=f e<|Z8 b
 ·left;obtain⟨loc,wr,d⟩:=e;dsimp only at h';subst h';rfl
 left;obtain⟨loc,wr,d⟩:=e;dsimp only at h';subst h';rfl;exact .inr ⟨⟨a,y,rfl⟩,h⟩
def rL{mm}(b:(mm=.acquire (muA<|K.B0+3)\/mm=.releaseMerge (muA<|K.B0+3)\/mm=.releaseMerge (stA<|K.B0+4)))(hd:deaf s=deaf s')(d:s=.gr->mm=.releaseMerge (stA<|K.B0+4))(hs:K.B0+5<=w'):Va K j i c I s s' X' w' #[mk mm]:=by
 have f:(χ<|mk mm).touch?=ζ:=by obtain rfl|rfl|rfl:=b<;>rfl
 refine⟨λe a x g _=>?_,λe a=>?_,?_,λe a=>?_,λ_ h=>by rw[d h],λ_ n e a=>.inl ?_⟩
 grind
 rw[Ψ.1 a];obtain rfl|rfl|rfl:=b
 show K.B0+3<_;omega;show K.B0+3<_;omega;show K.B0+4<_;omega;rw[<-hd];exact ZN (λe a=>by rw[Ψ.1 a];obtain rfl|rfl|rfl:=b<;>simp[mk]) _;rw[Ψ.1 a];obtain rfl|rfl|rfl:=b<;>simp[mk]
 rw[Ψ.1 (Z8 a)];exact f
def uz.lib(W:db K val h w)(f:ez s=U)(e:s≠.pv)(d:ShAt 249 255 (K.B0+3) (K.B0+4) w' (dU h'))(a:Eff (K.B0+3) (K.B0+4) w w'):uz K j I s s' X X h' val w w':=
 ⟨a.tape,a.output,a.os,Nat.le_of_eq a.size.symm,d,by
   obtain⟨cs,c,b,h3⟩:=W.er;exact⟨cs,by rw[a.block _ (by omega) (by omega)];exact c,b,λi hi=>by rw[if_neg λh=>by rw[f]at h;cases h.1.2];exact h3 i hi⟩,
   λx _ _ h3 h4 _=>a.block x h3 h4,λ_ h=>h,λx c b=>absurd c b,λx c b=>absurd b (by rw[a.size];exact ZO.2 c),λ_=>rfl,λh=>absurd h e,λh=>absurd h e⟩
def adu{p e}(hs:bh p e .us g):ZB P0 g=I:=by obtain⟨a,F,rfl⟩:=hs;kernel_rfl
def adv{p e}(hs:bh p e .uh g):ZB P0 g=I:=by obtain⟨a,F,rfl⟩:=hs;kernel_rfl
def adw{p e}(hs:bh p e .gm g):ZB P0 g=I:=by obtain⟨F,rfl⟩:=hs;kernel_rfl
def En{p e E n i}(hs:bh p e s g):fh p e E n i s g/\s≠.w8/\s≠.pv/\s≠.fin:=by cases s<;>first|exact hs.elim|exact⟨hs,by simp,by simp,by simp⟩
def Bf{p e E n i}(a:CK s=I)(hs:fh p e E n i s g):bh p e s g:=by cases s<;>first|exact hs|(cases a)
def MV(K:PC)(j i c:Nat)(s:St)(X:Nat->Prop)(l k z:Nat)(h:Sh)(val:Nat->Int)(g:R)(w:κ):Prop:=∃dn s' X' l' k' z' h' g' w' es,stepG P0 U g w=.go g' w' es/\WSit K j (K.wp i c) s' X' l' k' z' g' w'/\uz K j dn s s' X X' h' val w w'/\Va K j i c dn s s' X' w' es/\WPg dn s s' h h' l l' k k' z z' g g'/\(4<=l'->X'=X)
def vK(W:db K val h w){g1}(b:∀w,stepG P0 U g w=.go g1 w #[])(a:WSit K j (K.wp i c) s X l k z g1 w):MV K j i c s X l (k+1) z h val g w:=⟨U,s,X,l,k,z,h,g1,w,#[],b w,a,uz.refl W (λh=>by cases h)<|by grind,qM rfl<|by simp,.inl ⟨rfl,rfl,rfl,rfl,.inl ⟨by omega,rfl⟩⟩,λ_=>rfl⟩
def adx:(K.wp i c).lk=muA (K.B0+3):=rfl
def ady:(K.wp i c).wg=stA (K.B0+4):=rfl
def Vb{tM tW:Z4}(W:db K val h w)(y:CK s=I)(hs:bh (K.wp i c) (K.ev j) s g)
 (k:(∃x,s=.s1 x/\h.ms=0/\stepG P0 U g w=.go {g with status:=.blocked} w #[])\/Out 249 255 (K.B0+3) (K.B0+4) (K.wp i c) (K.ev j) s h g w):MV K j i c s X (kK s) 0 1 h val g w:=by
 obtain⟨x,rfl,o,e⟩|⟨t,A,C,u,G,m,e,r,v,d,D,z,J,a,l⟩:=k
 exact⟨U,.s1 x,X,2,0,0,h,_,w,#[],e,.blk hs,uz.refl W (λ_=>rfl)<|.inl<|by simp,qM rfl<|by simp,.inl ⟨rfl,rfl,rfl,rfl,.inr ⟨rfl,by omega,o,rfl⟩⟩,λ_=>rfl⟩;obtain⟨q1,H,B,F⟩:=En (E:=K.E) (n:=K.n) (i:=j) l;have p:ez s=U:=by cases s<;>first|rfl|cases y
 have q:s≠.pv:=by rintro rfl;cases y
 have b:K.B0+5<=u:=by rw[v.size];exact W.size
 refine⟨I,t,X,kK t,D,1,A,C,u,G,e,.go a q1 H B F,uz.lib W p q r v,?_,.inr<|.inl ⟨rfl,m,rfl,rfl,rfl,λhw=>?_⟩,λ_=>rfl⟩;cases s with
 |la f=>have:=m.1;subst this;have:=d;rw[this];exact rL (.inl rfl) rfl (by simp) b
 |ur=>have:=m.1;subst this;have:=d;rw[this];exact rL (.inr<|.inl rfl) rfl (by simp) b
 |gr=>have:=m.1;subst this;have:=d;rw[this];exact rL (.inr<|.inr rfl) rfl (λ_=>rfl) b
 |_=>exact G9 d (by simp) b
 refine⟨?_,?_⟩
 ·obtain rfl|rfl|rfl:=MU m hw
  ·exact adu hs
  exact adv hs;exact adw hs
 exact a.running (js l).1
def uz.MT(A:dX K)(W:db K val h w)(p:∀x,X x->K.B0+5<=x)(k:∀x,X' x->x<w'.heap.size)(a:yy K.B0 (λb=>¬K.S b) X X' w w' es)(c:s'≠.pv->∀x,X' x->∃cs e f,w'.heap[x]?=V (.cells cs e f)/\K.TT e)(d:s'≠.pv->∃f:Nat->Nat,∀x,X' x->∃i,i<K.C/\x=f i):uz K j U .pv s' X X' h val w w':=by
 have hs:=W.size;have m:∀x,x<K.B0+5->¬X x:=λx o n=>by have:=p x n;omega
 refine⟨a.tape,a.output,by rw[a.os];exact .refl _,a.size,W.sh.of_block (a.others _ (by omega)<|m _<|by omega)<|a.others _ (by omega)<|m _<|by omega,?_,λx o _ _ _ q=>a.others x o<|q rfl,a.grow,λx g l=>⟨a.fresh x g l,k x g⟩,a.full,λh=>absurd rfl h,λ_=>c,λ_=>d⟩;obtain⟨cs,g,l,h3⟩:=W.er;exact⟨cs,by rw[a.others _ (by omega) (m _<|by omega)];exact g,l,λi hi=>by rw[if_neg λh=>by cases h.1.1];exact h3 i hi⟩
def yG(A:dX K)(W:db K val h w)(n:∀x,X' x->x<w')(l:yy K.B0 (λb=>¬K.S b) X X' w w' es)(hd:deaf s'=0):Va K j i c U .pv s' X' w' es:=by
 have hs:=W.size;have q:=l.size;refine⟨λe k x o s=>?_,λe k=>?_,?_,λe k=>?_,by simp,by simp[dC]⟩;have d:=l.Ft e k;obtain⟨loc,wr,p⟩:=e;cases loc with
 |cell a=>
  obtain⟨f,g⟩:=d;dsimp only at f g;subst g;simp only[χ,υ,ξ]at o;subst o;obtain f|⟨f,g,h3⟩:=f
  exact .inr<|.inl ⟨by simp,.inr f⟩;exact .inr<|.inr ⟨by simp,g,.inl ⟨f,h3⟩⟩
 |obj r=>obtain⟨f,g⟩:=d;dsimp only at f g;subst g;simp only[χ,υ,ξ]at o;subst o;exact .inr<|.inl ⟨by simp,.inr f⟩
 |mark m=>cases m<;>first|exact d.elim|(simp[χ,υ]at o)
 |_=>exact d.elim
 have d:=l.Ft e k;obtain⟨loc,wr,p⟩:=e;cases loc with
 |cell a=>
  obtain f|⟨f,_⟩:=d.1
  exact n _ f;show a.block<_;have f:=f;omega
 |obj r=>have g:=d.2;subst g;cases wr<;>exact n _ d.1
 |mark m=>cases m<;>first|exact d.elim|trivial
 |_=>exact d.elim
 rw[hd];exact ZN (λe k=>by
  have d:=l.Ft e k;obtain⟨loc,wr,p⟩:=e;cases loc with
  |mark m=>cases m<;>first|exact d.elim|simp
  |_=>first|simp|exact d.elim) 0
 have d:=l.Ft e k;obtain⟨loc,wr,p⟩:=e;cases loc with
 |mark m=>cases m<;>first|exact d.elim|simp
 |_=>first|simp|exact d.elim
def Rt(A:dX K)(hj:j<K.n)(W:db K val h w)(C:∀x,X x->K.B0+5<=x){b q O N}(hl:l=4\/(l=3/\N=k))(u:X=(·∈q))(F:PX K.pk (K.Fin j b) N q O g)(ha:o7 K.pk q O w)(D:bj (fW (K.wp i c) QG [] [aZ (K.wp i c)]) [fB []] (G b.head! b.tail))(B:b≠[]):MV K j i c .pv X l k 1 h val g w:=by
 subst u;cases N with
 |zero=>exact F.elim
 |succ N=>
  obtain⟨L,s,y,m,d,f⟩|⟨S,t,Q,s,y,m,d,f,v⟩:=F.2 w ha
  obtain⟨J,rest,rfl⟩:=List.exists_cons_of_ne_nil B;have a:∀x,x∈q->x<s.heap.size:=λx r=>(f.own x r).2.1;obtain⟨T,P,g2,o,z⟩:=acj (p:=K.wp i c) (e:=K.ev j) (E:=K.E) (n:=K.n) (i:=j) (W:=J) (cs:=rest) (by exact D);refine⟨U,.ld,(·∈q),2,T,1,h,_,s,y,m,.go o z (by simp) (by simp)<|by simp,uz.MT A W C a d (λ_ x r=>(f.own x r).2.2) λ_=>⟨λi=>q.getD i 0,λx r=>?_⟩,yG A W a d rfl,.inr<|.inr ⟨rfl,rfl,?_,rfl,.inr<|.inr ⟨rfl,.inr rfl⟩⟩,λh=>absurd h<|by omega⟩;obtain⟨n,H,e⟩:=List.mem_iff_getElem.1 r;refine⟨n,Z3 H L,?_⟩;show x=q.getD n 0;rw[List.getD_eq_getElem?_getD,List.getElem?_eq_getElem H];exact e.symm;omega;have a:∀x,x∈t->x<s.heap.size:=λx r=>(f.own x r).2.1;refine⟨U,.pv,(·∈t),3,N,1,h,S,s,y,m,.pv b t Q rfl v f D B,uz.MT A W C a d (by simp)<|by simp,yG A W a d rfl,?_,λh=>absurd h<|by omega⟩;obtain rfl|⟨rfl,rfl⟩:=hl
  exact .inr<|.inr ⟨rfl,rfl,by omega,rfl,.inr<|.inr ⟨rfl,.inl rfl⟩⟩;exact .inl ⟨rfl,rfl,rfl,rfl,.inl ⟨by omega,rfl⟩⟩
def Eo(A:dX K)(Q:j<K.n)(W:db K val h w)(hX:∀x,X x->K.B0+5<=x)(r:uy K w j i c)(hi:i<w)(hc:c<w)(hX0:4<=l->X=λ_=>False)(P:WSit K j (K.wp i c) s X l k z g w)(hr:g.status=.running){RO RA RT RQ RH RU RV RC RG RL RM B y wa}(hI:pV h s RO RA RT RQ RH RU RV RC)(hL:aaA h s)(hB:rG B s)(hBB:B<1048576)(hm:h.mu.c<=B)(hms:h.ms<=1)(hW:mW wa y h (RG+nG s) (RL+nL s) (RM+nM s))(hk:h.k<1073741824)(hws:h.ws<1000):
 MV K j i c s X l k z h val g w:=by
 have hsz:=W.size;cases P with
 |@go _ _ k _ g' _ o hs h8 H hf=>
  cases k with
  |succ k=>obtain⟨_,g1,d,u⟩:=o;exact vK W d (.go u hs h8 H hf)
  |zero=>
   have:=o;subst this;by_cases T:CK s=I
   ·have J:=Bf T hs;exact Vb (tM:=249) (tW:=255) W T J (yj (B:=B) adx ady (by omega) hI hL hB hBB hm hms hW hk hws W.sh T J)
   cases s with
   |w7=>
    obtain⟨d,t,q,L,b,f⟩:=acd (p:=K.wp i c) (e:=K.ev j) (E:=K.E) (n:=K.n) (i:=j) (g0:=K.v0) (w:=w) (by show w K.B0=_;rw[bM W.gb];rfl) hs
    exact⟨U,.w8,X,5,t,1,h,_,w,_,d,.w8 b f,uz.refl W (λ_=>rfl) (.inl (by simp)),⟨(lR (K:=K) (j:=j) (i:=i) (c:=c) (s:=.w7) (s':=.w8) (X':=X) (w':=w) rfl rfl (by simp) rfl (λe m=>⟨K.B0,Ψ.1 m,.inl rfl,by show K.B0<_;omega⟩)).ok,by
     intro e m;rw[Ψ.1 m];show K.B0<_;omega,rfl,by
     intro e m;rw[Ψ.1 m];simp,by simp,by simp[dC]⟩,.inr (.inr ⟨rfl,rfl,by simp[kK],rfl,.inl ⟨rfl,rfl⟩⟩),λ_=>rfl⟩
   |w8=>exact absurd rfl h8
   |pv=>exact absurd rfl H
   |fin=>exact absurd rfl hf
   |e1=>
    obtain⟨d,t,q,L,b,f⟩:=acf (p:=K.wp i c) (e:=K.ev j) (E:=K.E) (n:=K.n) (i:=j) (w:=w) (by show w (K.B0+2:Nat)=_;rw[bM W.eb];rfl) hs
    exact⟨I,.e2,X,2,t,1,h,_,w,_,d,.go b f (by simp) (by simp) (by simp),uz.refl W (λ_=>rfl) (.inl (by simp)),
     lR rfl rfl (by simp) rfl (λe m=>⟨(K.B0+2:Nat),Ψ.1 m,.inr (.inl rfl),by show K.B0+2<_;omega⟩),.inr (.inl ⟨rfl,⟨rfl,rfl⟩,rfl,rfl,rfl,by simp⟩),λ_=>rfl⟩
   |e2=>
    obtain⟨d,t,q,L,b,f⟩:=acg (p:=K.wp i c) (e:=K.ev j) (E:=K.E) (n:=K.n) (i:=j) (w:=w) (by show w i=_;rw[bM r.1];rfl) hs
    exact⟨I,.e3,X,2,t,1,h,_,w,_,d,.go b f (by simp) (by simp) (by simp),uz.refl W (λ_=>rfl) (.inl (by simp)),
     lR rfl rfl (by simp) rfl (λe m=>⟨i,Ψ.1 m,.inr (.inr (.inl rfl)),hi⟩),.inr (.inl ⟨rfl,⟨rfl,rfl⟩,rfl,rfl,rfl,by simp⟩),λ_=>rfl⟩
   |e3=>
    obtain⟨d,t,q,L,b,f⟩:=ach (p:=K.wp i c) (e:=K.ev j) (E:=K.E) (n:=K.n) (i:=j) (w:=w) Q hs;exact⟨I,.e4,X,2,t,1,h,_,w,_,d,.go b f (by simp) (by simp) (by simp),uz.refl W (λ_=>rfl) (.inl (by simp)),
     qM rfl (by simp),.inr (.inl ⟨rfl,⟨rfl,rfl⟩,rfl,rfl,rfl,by simp⟩),λ_=>rfl⟩
   |e4=>
    obtain⟨cs,q1,F,S⟩:=W.er;have ea:(K.E.add j).add 0=⟨K.B0+1,j,ζ⟩:=by show((⟨K.B0+1,0,ζ⟩:μ).add j).add 0=_;simp only[aP,Nat.zero_add,Nat.add_zero]
    obtain⟨d,t,q,L,b,f⟩:=aci (p:=K.wp i c) (e:=K.ev j) (E:=K.E) (n:=K.n) (i:=j) (w:=w) (v:=Ξ Γ<|val j) (by rw[ea,bM q1];exact S j Q) (by rw[ea];exact g8 q1) hs;rw[ea]at d;refine⟨I,.u1,X,2,t,1,h,_,_,_,d,.go b f (by simp) (by simp)<|by simp,⟨rfl,rfl,.refl _,by rw[cE];exact Nat.le_refl _,W.sh.of_block (dh<|by simp)<|dh<|by simp,⟨_,jP q1,by simpa using F,λi' hi'=>?_⟩,λx _ o _ _ _=>dh o,λ_ h=>h,λx o h2=>absurd o h2,λx o h2=>absurd h2 (by rw[cE];omega),λ_=>rfl,(λh=>by cases h),λh=>by cases h⟩,⟨λe m x hx hm=>?_,λe m=>?_,rfl,λe m=>?_,by simp,by simp[dC]⟩,.inr<|.inl ⟨rfl,⟨rfl,rfl⟩,rfl,rfl,rfl,by simp⟩,λ_=>rfl⟩;rw[Array.getElem?_setIfInBounds];by_cases G:j=i'
    subst G;rw[if_pos rfl,if_pos<|by omega,if_pos ⟨⟨rfl,rfl⟩,rfl⟩];rw[if_neg G,if_neg λh=>G h.2.symm];exact S i' hi';rw[Ψ.1 m]at hx;simp only[χ,υ,ξ]at hx;subst hx;exact .inr<|.inl ⟨by simp,.inl rfl⟩;rw[Ψ.1 m,cE];show K.B0+1<_;omega;rw[Ψ.1 m];simp
   |gx=>exact⟨I,.fin,X,0,0,1,h,_,w,#[],QN (p:=K.wp i c) (e:=K.ev j) (w:=w) hs,.fin rfl,uz.refl W (λ_=>rfl)<|.inl<|by simp,qM rfl<|by simp,.inr<|.inl ⟨rfl,⟨rfl,rfl⟩,rfl,rfl,rfl,by simp⟩,λ_=>rfl⟩
   |_=>exact absurd rfl T
 |@w8 _ k _ g' _ o hs=>
  cases k with
  |succ k=>obtain⟨_,g1,d,u⟩:=o;exact vK W d (.w8 u hs)
  |zero=>
   have:=o;subst this;obtain⟨d,t,q,L,b,C,q1,F,S⟩:=ace (p:=K.wp i c) (g0:=K.v0) (w:=w) (v1:=K.v1 j) (v2:=K.v2 j) (by
    show w.cell? ((⟨c,0,ζ⟩:μ).add 0)=_;rw[aP,bM r.2];rfl) (by
    show w.cell? ((⟨c,0,ζ⟩:μ).add 1)=_;rw[aP,bM r.2];rfl) hs
   subst S;have hes:∀e∈(#[⟨.cell<|(K.wp i c).cb.add 0,U,U⟩,⟨.cell<|(K.wp i c).cb.add 1,U,U⟩]:Array ZQ),∃a,e=(⟨.cell a,U,U⟩:ZQ)/\(a.block=K.B0\/a.block=K.B0+2\/a.block=i\/a.block=c)/\a.block<w:=by
    intro e m;simp only[θ,ι,η,or_false]at m;obtain rfl|rfl:=m
    exact⟨(c:μ).add 0,rfl,.inr<|.inr<|.inr<|by rw[aP],by rw[aP];exact hc⟩;exact⟨(c:μ).add 1,rfl,.inr<|.inr<|.inr<|by rw[aP],by rw[aP];exact hc⟩
   have D:=lR (K:=K) (j:=j) (i:=i) (c:=c) (s:=.w8) (s':=.pv) (X':=X) (w':=w) rfl rfl (by simp) rfl hes;exact⟨U,.pv,X,4,t,1,h,_,w,_,d,.ap C b q1 F,uz.refl W (λ_=>rfl)<|.inl<|by simp,⟨D.ok,D.low,D.dfb,D.norel,by simp,by simp[dC]⟩,.inr<|.inr ⟨rfl,rfl,by omega,rfl,.inr<|.inl ⟨rfl,rfl⟩⟩,λ_=>rfl⟩
 |blk hs=>cases hr
 |@ap _ k _ _ C o q1 F=>
  cases k with
  |succ k=>obtain⟨_,g1,d,u⟩:=o;exact vK W d (.ap C u q1 F)
  |zero=>have:=o;subst this;have hX1:=hX0 .refl;subst hX1;obtain⟨N,H⟩:=A.MT j Q C F;exact Rt A Q W hX (.inl rfl) (by funext x;simp) H ⟨W.low,by show K.B0<=_;omega,by simp,by simp⟩ q1 F
 |@pv _ k _ _ C Xl O hXl H ha q1 F=>exact Rt A Q W hX (.inr ⟨rfl,rfl⟩) hXl H ha q1 F
 |fin hs=>rw[hs]at hr;cases hr
end
end
end Ph
namespace Ph
open Go Go.Conc
section
def Vd:mp P0 50 I:=λw a=>by kernel_rfl
def Ve:mp P0 23 U:=λw a=>by kernel_rfl
def adA:mp P0 22 U:=λw a=>by kernel_rfl
def Ha:dt P0 50 2:=λw a=>by kernel_rfl
def alj:P0.underlying 23=V (.slice 50):=by kernel_rfl
def z34:gp P0 34 (Ξ Γ 0):=λw a=>by kernel_rfl
def z50:gp P0 50 (.agg #[Ξ Γ 0,Ξ Γ 0]):=λw a=>by kernel_rfl
def li:bR P0 213 U:=by rfl
def yH:bR P0 167 U:=by rfl
def yI:bR P0 169 U:=by rfl
def adB:bR P0 248 U:=by rfl
def Fu(nN nO:Nat)(k N:Int):Prop:=(k=0/\-99<=N/\N<=99)\/(k=2/\N=0)\/(k=3/\0<=N/\N<nN)\/(k=4/\0<=N/\N<nO)
def Ai(k:Int)(n:Nat):Prop:=(k=0/\n<=4)\/(k=1/\n=1)\/(k=2/\n=2)
structure alk(K:PK)(v0:μ)(nN nO:Nat)(v1 v2:φ)(kd:Int)(ca:Option μ)(n m:Nat)(vk vn:Nat->Int):Prop where
 e1:v1=Ξ Γ kd
 e2:v2=.slice ca n m
 ok:Ai kd n
 new:v0.spot=ζ/\v0.block<K.B0/\K.Y v0.block/\∃cs e f oa om pa pm,K.h0[v0.block]?=V (.cells cs e f)/\cs[v0.off]?=V (.slice oa nN om)/\cs[v0.off+1]?=V (.slice pa nO pm)
 eT:∀i,i<n->Fu nN nO (vk i) (vn i)/\∃a,ca=V a/\a.spot=ζ/\a.block<K.B0/\K.Y a.block/\∃cs e f,K.h0[a.block]?=V (.cells cs e f)/\cs[a.off+i*2]?=V (Ξ Γ (vk i))/\cs[a.off+i*2+1]?=V (Ξ Γ (vn i))
section
variable{K:PK}{gE g:R}{N:Nat}{X:List Nat}{O:List (Nat×Obj)}{w:κ}
def PX.o8{n x o:Nat}{cs e t v S}(d:g.status=.running)(f:(x,.cells cs e)∈O)(m:dl g=V (bI t<|.pointer (x,o)))(l:mp P0 t U)(k:cs[o]?=V v)(j:bR P0 g.frame.fn U)(i:bZ P0 U n S (fin v g))(h:∀g',S g'->PX K gE N X O g'):PX K gE (N+n+1) X O g:=by
 by_cases a:∃w,o7 K X O w
 have b:x∈X:=by obtain⟨w,hw⟩:=a;exact(hw.known _ f).1
 refine PX.look d (λw hw=>?_) (λev c=>⟨(x,o),Ψ.1 c,.inl b⟩) i h;exact du m l (by rw[bM (hw.known _ f).2];exact k) j;exact⟨d,λw hw=>absurd ⟨w,hw⟩ a⟩
def PX.adC{n x e t v d S}(f:g.status=.running)(c:(x,ZR #[v,d] e)∈O)(m:dl g=V (bI t<|.pointer x))(l:mp P0 t I)(hs:dt P0 t 2)(k:bR P0 g.frame.fn U)(j:bZ P0 U n S (fin (.agg #[v,d]) g))(h:∀g',S g'->PX K gE N X O g'):PX K gE (N+n+1) X O g:=by
 by_cases a:∃w,o7 K X O w
 have i:x∈X:=by obtain⟨w,hw⟩:=a;exact(hw.known _ c).1
 refine PX.look (es:=#[⟨.cell<|(x:μ).add 0,U,U⟩,⟨.cell<|(x:μ).add 1,U,U⟩]) f (λw hw=>?_) (λev b=>?_) j h;exact jp m l hs (by rw[aP,bM (hw.known _ c).2];rfl) (by rw[aP,bM (hw.known _ c).2];rfl) k;simp only[aP,θ,ι,η]at b
 grind
 exact⟨f,λw hw=>absurd ⟨w,hw⟩ a⟩
def PX.adD{n b o:Nat}{cs e t f v S}(l:g.status=.running)(hb:b<K.B0)(m:K.Y b)(h0:K.h0[b]?=V (.cells cs e f))(k:dl g=V (bI t<|.pointer (b,o)))(j:mp P0 t U)(i:cs[o]?=V v)(d:bR P0 g.frame.fn U)(c:bZ P0 U n S (fin v g))(h:∀g',S g'->PX K gE N X O g'):PX K gE (N+n+1) X O g:=by refine PX.look l (λw hw=>?_) (λev a=>⟨(b,o),Ψ.1 a,.inr ⟨hb,m⟩⟩) c h;exact du k j (by rw[bM (by rw[hw.old b hb];exact h0)];exact i) d
def PX.alm{n b o cs e t f v d S}(p:g.status=.running)(hb:b<K.B0)(q:K.Y b)(h0:K.h0[b]?=V (.cells cs e f))(m:dl g=V (bI t<|.pointer (b,o)))(l:mp P0 t I)(hs:dt P0 t 2)(k:cs[o]?=V v)(a:cs[o+1]?=V d)(j:bR P0 g.frame.fn U)(i:bZ P0 U n S (fin (.agg #[v,d]) g))(h:∀g',S g'->PX K gE N X O g'):PX K gE (N+n+1) X O g:=by
 refine PX.look (es:=#[⟨.cell<|((b,o):μ).add 0,U,U⟩,⟨.cell<|((b,o):μ).add 1,U,U⟩]) p (λw hw=>?_) (λev c=>?_) i h;exact jp m l hs (by rw[aP,bM (by rw[hw.old b hb];exact h0)];exact k) (by rw[aP,bM (by rw[hw.old b hb];exact h0)];exact a) j;simp only[aP,θ,ι,η,or_false]at c
 grind
def PX.box{n t u}{S:Nat->R->Prop}(d:g.status=.running)(c:K.TT t)(b:dl g=V (mb t u))(a:∀x,bZ P0 U n (S x)<|fin (pz x) g)(h:∀x g',K.B0<=x->S x g'->PX K gE N (x::X) ((x,.cells u.cells t)::O) g'):PX K gE (N+n+1) X O g:=PX.new d c (λx=>fin (pz x) g) (λw hw=>rI b) a h
def PX.var{n t z}{S:Nat->R->Prop}(d:g.status=.running)(c:K.TT t)(b:dl g=V (zh t))(hz:gp P0 t z)(a:∀x,bZ P0 U n (S x)<|fin (pz x) g)(h:∀x g',K.B0<=x->S x g'->PX K gE N (x::X) ((x,.cells z.cells t)::O) g'):PX K gE (N+n+1) X O g:=PX.new d c (λx=>fin (pz x) g) (λw hw=>gq b hz) a h
def PX.adE{n x e t v u O' S}(l:g.status=.running)(q:(x,ZR #[v] e)∈O)(o:∀p∈O',p=(x,ZR #[u] e)\/(p∈O/\p.1≠x))(k:dl g=V (gh t (.pointer x) u))(hs:dt P0 t 1)(m:u.cells=#[u])(c:u.oneCell'=I)(i:bR P0 g.frame.fn U)(f:bZ P0 U n S (fin undef g))(h:∀g',S g'->PX K gE N X O' g'):PX K gE (N+n+1) X O g:=by refine PX.qu (cs':=#[u]) l q o (λw hw a=>?_) (λev d=>⟨x,I,Ψ.1 d,rfl⟩) f h;have b:=iS (main:=U) (w:=w) k hs m c (v:=v) (by rw[aP,bM a];rfl) (by rw[aP];exact g8 a) i;rw[aP]at b;exact⟨_,b,rfl,rfl,rfl,rfl,cE,by rw[jP a];rfl,λy j=>dh<|by exact j⟩
def PX.aln{n x e t v f u c O' S}(m:g.status=.running)(z:(x,ZR #[v,f] e)∈O)(r:∀p∈O',p=(x,ZR #[u,c] e)\/(p∈O/\p.1≠x))(l:dl g=V (gh t (.pointer x)<|.agg #[u,c]))(hs:dt P0 t 2)(q:u.oneCell'=I)(d:c.oneCell'=I)(k:bR P0 g.frame.fn U)(j:bZ P0 U n S (fin undef g))(h:∀g',S g'->PX K gE N X O' g'):PX K gE (N+n+1) X O g:=by
 refine PX.qu (cs':=#[u,c]) (es:=#[⟨.cell x,I,U⟩,⟨.cell (x,1),I,U⟩]) m z r (λw hw a=>?_) (λev s=>?_) j h;have e1:=jP (o:=0) (v:=u) a;have b:=ut (P:=P0) (main:=U) (w:=w) l hs q d (v:=v) (v2:=f) (by rw[aP,bM a];rfl) (by rw[aP];exact g8 a) (by rw[aP,aP,bM e1];rfl) (by rw[aP,aP];exact g8 e1) k;rw[aP,aP]at b;exact⟨_,b,rfl,rfl,rfl,rfl,by rw[cE,cE],by rw[(jP (o:=1) (v:=c) e1)];rfl,λy i=>by rw[dh (by exact i),dh<|by exact i]⟩
 grind
end
end
end Ph
