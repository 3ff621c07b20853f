/- A part of the proof of GcKnown; no conditions. -/
import Derived.Test.YtbnmpafbfoaggaaGreatDoorQ10
import Derived.Conc.WgArith
import Derived.Conc.AppendWalk
set_option linter.unusedVariables false
set_option linter.unusedSimpArgs false
set_option maxRecDepth 100000
set_option maxHeartbeats 16000000
noncomputable section
open Bool renaming false->Ω,true->ψ,false_eq_true->χ,false_and->ZV,not_true->ZU,false_or->ZT
open Go.Value renaming pointer->Ψ,int->Δ,slice->φ
open Option renaming some->Ξ,map_eq_some_iff->θ,none->Z0
open Go renaming Goroutine->Θ,callFunc->ω,Value->ο,Addr->μ,TypeId->ζ,Program->ε,World->Z4,Event->ZW
open Go.IntKind renaming wrap->Γ,u64->υ,i64->ξ,i32->κ,wrap_u32->Z2,wrap_u64->Z1
open Go.Result renaming andThen->ι,evThen->Z8
open Go.Sem renaming runT_eq->η
open Int renaming fdiv_eq_ediv_of_nonneg->Z9,toNat_natCast->ZX
open Go.ConcN renaming st_waiters->Z7,st_flag->Z3
open List renaming zipWith->ZZ
open Go.Conc renaming seen_none->ZY
namespace Go.Proofs.YtbnmpafbfoaggaaGreatDoor
namespace Ph
open Go Go.Conc
open Go.ConcM (muA msA MuAt ShAt Eff BookOK book_nil book_dis book_en book_one book_rw book_sem)
open Go.ConcR (stA smA WgAt mk)
section
def dU(h:Sh):Go.ConcM.Sh:={mu:=h.mu.z,ms:=(h.ms:Int),wg:=(h.k:Int)*4294967296+(h.wt:Int),ws:=(h.ws:Int)}
def deaf:St->Nat
 |.l0|.r0|.sq _|.c1 _|.ds _|.r1 _|.c2 _|.r3 _|.t1 _|.s1 _|.t2 _|.r2 _|.a1 _|.le _=>1
 |.u0|.uc _|.ux|.us|.uh|.ue=>1
 |.ga|.gl|.gs|.gm|.gn=>1
 |_=>0
def EvS(Mu Wg:Nat)(s s':St)(es:Array ZW):Prop:=
 match s with
 |.la _=>es=#[mk (.acquire (muA Mu))]
 |.ur=>es=#[mk (.releaseMerge (muA Mu))]
 |.gr=>es=#[mk (.releaseMerge (stA Wg))]
 |_=>BookOK Mu Wg (deaf s) (deaf s') es
def Out(tM tW:ζ)(Mu Wg:Nat)(p:WP)(e:Int)(s:St)(h:Sh)(g:Θ)(w:Z4):Prop:=∃s' h' g' w' es,Nx s h s' h'/\stepG P0 Ω g w=.go g' w' es/\ShAt tM tW Mu Wg w' (dU h')/\Eff Mu Wg w w'/\EvS Mu Wg s s' es/\ak P0 Ω 2000 (bh p e s') g'
theorem qK(x:Lc):deaf (hd x)=1:=by unfold hd;split<;>rfl
theorem yd(o:Wd):deaf (k8 o)=1:=by unfold k8;split<;>rfl
theorem abw:bR P0 251 ψ:=by unfold bR;kernel_rfl
theorem CH:bR P0 272 ψ:=by unfold bR;kernel_rfl
theorem abx:bR P0 274 ψ:=by unfold bR;kernel_rfl
theorem akT:ei P0 21 Ω:=fun w a=>by kernel_rfl
theorem bj.cg{d:bG}{ds:List bG}{g:Θ}(h:bj d ds g):g.frame.fn=d.fn:=by obtain⟨F,rfl⟩:=h;rfl
theorem bj.ye{p:WP}{T:List Item}{l l':List (Nat×ο)}{ds:List bG}{g:Θ}(hl:∀F:Nat->ο,∀q∈l',cO l F q.1=q.2)(h:bj (fS p T l) ds g):bj (fS p T l') ds g:=by
 obtain⟨F,rfl⟩:=h;refine⟨fun i=>match i with|0=>cO l (F 0)|i+1=>F (i+1),?_⟩;unfold SG fS bG.fr;dsimp only;rw[rB l' _ (hl (F 0))]
section
variable{tM tW:ζ}{Mu Wg:Nat}{p:WP}{e:Int}{s:St}{h:Sh}{g:Θ}{w:Z4}{x:Lc}
theorem aby(hw:ShAt tM tW Mu Wg w (dU h))(hs:bh p e .ld g):Out tM tW Mu Wg p e .ld h g w:=by have a:au g=Ξ (ω 236 #[]):=bj.head (fun F=>by kernel_rfl) g hs;exact⟨.l0,h,_,w,_,⟨rfl,rfl⟩,mC .disable (fun g h=>by cases h) F2 a,hw,Eff.refl w,book_dis 0,(abd p e g hs).le (by omega)⟩
theorem abz(hlk:p.lk=muA Mu)(hne:Mu≠Wg)(hw:ShAt tM tW Mu Wg w (dU h))(hs:bh p e .l0 g):Out tM tW Mu Wg p e .l0 h g w:=by
 have a:au g=Ξ (ω 271 #[Ψ (Ξ p.lk),Δ κ 0,Δ κ 1]):=bj.head (fun F=>by kernel_rfl) g hs;by_cases hz:h.mu=Wd.zero
 ·have hc:w.cell? p.lk=Ξ (Δ κ 0):=by rw[hlk,hw.1.cellSt];show Ξ (Δ IntKind.i32 h.mu.z)=_;rw[hz];rfl
  refine⟨.le ψ,{h with mu:=⟨ψ,Ω,Ω,0⟩},_,_,_,.inl ⟨hz,rfl,rfl⟩,nJ xV a hc (by rw[hlk];exact hw.1.thaw 0),?_,Eff.set _ _ (.inl (by rw[hlk];rfl)),?_,(akN p e g hs).le (by omega)⟩
  ·rw[hlk];exact hw.setMu hne 1
  ·exact book_rw 0 _ (.inl (by rw[hlk];rfl))
 ·have hc:w.cell? p.lk=Ξ (Δ κ h.mu.z):=by rw[hlk,hw.1.cellSt];rfl
  refine⟨.r0,h,_,_,_,.inr ⟨hz,rfl,rfl⟩,kY xV a hc (by rw[hlk];exact hw.1.thaw 0) (fun b=>hz (Wd.CE (by rw[b];rfl))),hw,Eff.refl w,?_,(akO p e g hs).le (by omega)⟩;exact book_one 0 _ _ (.inl (by rw[hlk];rfl))
theorem look{f:FuncId}(hlk:p.lk=muA Mu)(hw:ShAt tM tW Mu Wg w (dU h))(hh:au g=Ξ (bI 21 (Ψ (Ξ p.lk))))(hq:bR P0 f ψ)(hf:g.frame.fn=f):stepG P0 Ω g w=.go (fin (Δ κ h.mu.z) g) w #[]:=by
 have hc:w.cell? p.lk=Ξ (Δ κ h.mu.z):=by rw[hlk,hw.1.cellSt];rfl
 exact du hh akT hc (by rw[hf];exact hq)
theorem abA(hlk:p.lk=muA Mu)(hb:h.mu.c+2<268435455)(hw:ShAt tM tW Mu Wg w (dU h))(hs:bh p e .r0 g):Out tM tW Mu Wg p e .r0 h g w:=by
 have b:au g=Ξ (bI 21 (Ψ (Ξ p.lk))):=bj.head (fun F=>by kernel_rfl) g hs;refine⟨_,h,_,w,_,⟨rfl,rfl⟩,look hlk hw b CH (bj.cg hs),hw,Eff.refl w,?_,?_⟩
 ·show BookOK Mu Wg 1 (deaf (hd _)) _;rw[qK];exact book_nil 1
 ·exact ak.le (ak.trans (n:=150) (k:=1850) (fN (fun cs g d=>Lh p.lk h.mu.z cs g d) hs) fun g a=>ak.le (qJ (x:=⟨0,h.mu,0,Ω,Ω⟩) hb (by simp) a) (by omega)) (by omega)
theorem abB(hb:x.old.c+2<268435455)(hL:aaA h (.sq x))(hw:ShAt tM tW Mu Wg w (dU h))(hs:bh p e (.sq x) g):Out tM tW Mu Wg p e (.sq x) h g w:=by
 obtain⟨y,u,s,v,A,t⟩:=hL;have ir:x.old.ok:=by unfold Wd.ok;omega
 have q:au g=Ξ (ω 280 #[Δ ξ x.it]):=bj.head (fun F=>by kernel_rfl) g hs;obtain⟨b,l,f,m,o⟩:=D7 (P:=P0) (main:=Ω) (w:=w) akH q;have j:ShAt tM tW Mu Wg l (dU h)/\Eff Mu Wg w l:=by
  rcases m with rfl|rfl
  ·exact⟨hw,Eff.refl _⟩
  ·exact⟨hw,Eff.asked _⟩
 have d:bj (fS p xW (iv 18 x.it::bv 17 ψ::KX p x)) (SL p e) g:=hs;cases b with
 |false=>refine⟨.c2 x,h,_,l,_,⟨rfl,.inl rfl⟩,f,j.1,j.2,book_nil 1,?_⟩;refine ak.le (ak.trans (n:=150) (k:=600) (fN (fun cs g h=>Sj p.lk x.aV x.old.z x.it x.sv x.aw cs g h) d) fun g a=>?_) (by omega);rw[Wd.A7 ir]at a;exact CG hb s a
 |true=>
  have hi:x.it<4:=by apply Classical.byContradiction;intro h;exact absurd (o (by omega)) (by simp)
  refine⟨_,h,_,l,_,⟨rfl,.inr ⟨hi,rfl⟩⟩,f,j.1,j.2,?_,?_⟩
  ·show BookOK Mu Wg 1 (deaf (if _ then _ else _)) _;split<;>exact book_nil 1
  ·cases ha:x.aw with
   |true=>simp only[ZU,ZV,χ,if_false];have eq:=d;unfold KX at eq;rw[ha]at eq;show ak P0 Ω 2000 (bj (fS p qq (KX p x)) (SL p e)) _;unfold KX;rw[ha];exact ak.le (fN (fun cs g h=>Lj p.lk x.aV x.old.z x.it x.sv cs g h) eq) (by omega)
   |false=>
    have eq:=d;unfold KX at eq;rw[ha]at eq;refine ak.le (ak.trans (n:=150) (k:=450) (fN (fun cs g h=>Lk p.lk x.aV x.old.z x.it x.sv cs g h) eq) fun g a=>?_) (by omega);rw[Wd.Gt ir]at a;have i:∀g,bj (fS p qq (K p.lk x.aV x.old.z x.it x.sv Ω)) (SL p e) g->bh p e (.ds x) g:=by intro g a;show bj (fS p qq (KX p x)) (SL p e) g;unfold KX;rw[ha];exact a
    cases hW:x.old.W with
    |true=>rw[hW]at a;simp only[ZU,Bool.and_false,ZV,χ,if_false];exact ak.mono (lift (fun cs g h=>Sk p.lk x.aV x.old.z x.it x.sv cs g h) a) (by omega) fun g a=>i g a
    |false=>
     rw[hW]at a;refine ak.le (ak.trans (n:=150) (k:=150) (lift (fun cs g h=>Sl p.lk x.aV x.old.z x.it x.sv cs g h) a) fun g a=>?_) (by omega);rw[Wd.LZ]at a;have r:((x.old.c:Int) !=0)=decide (x.old.c≠0):=by
      by_cases hc:x.old.c=0
      ·simp[hc]
      ·have:¬((x.old.c:Int)=0):=by omega
       simp[hc,this]
     rw[r]at a;simp only[Bool.not_false,Bool.true_and];cases hc:decide (x.old.c≠0)with
     |true=>rw[hc]at a;simp only[if_true];show ak P0 Ω 150 (bj (fS p A2 (bv 33 ψ::pv 36 p.lk::jv 37 x.old.z::jv 39 (bits .or κ x.old.z 2)::KX p x)) (SL p e)) _;unfold KX;rw[ha];exact lift (fun cs g h=>So p.lk x.aV x.old.z x.it x.sv cs g h) a
     |false=>rw[hc]at a;simp only[χ,if_false];exact ak.mono (lift (fun cs g h=>Sn p.lk x.aV x.old.z x.it x.sv cs g h) a) (by omega) fun g a=>i g a
theorem abC(hlk:p.lk=muA Mu)(hne:Mu≠Wg)(hb:x.old.c+2<268435455)(hL:aaA h (.c1 x))(hw:ShAt tM tW Mu Wg w (dU h))(hs:bh p e (.c1 x) g):Out tM tW Mu Wg p e (.c1 x) h g w:=by
 obtain⟨m,l,r,i,o,k,n⟩:=hL;have ir:x.old.ok:=by unfold Wd.ok;omega
 have j:au g=Ξ (ω 271 #[Ψ (Ξ p.lk),Δ κ x.old.z,Δ κ (bits .or κ x.old.z 2)]):=bj.head (fun F=>by kernel_rfl) g hs;have a:bj (fS p A2 (bv 33 ψ::pv 36 p.lk::jv 37 x.old.z::jv 39 (bits .or κ x.old.z 2)::KX p x)) (SL p e) g:=hs;have hc:w.cell? p.lk=Ξ (Δ κ h.mu.z):=by rw[hlk,hw.1.cellSt];rfl
 have hz:w.frozen? p.lk=Ω:=by rw[hlk];exact hw.1.thaw 0
 unfold KX at a;rw[i]at a;replace a:bj (fS p A2 (bv 33 ψ::K p.lk x.aV x.old.z x.it x.sv Ω)) (SL p e) g:=bj.ye (fun F q f=>by simp only[K,List.mem_cons,List.not_mem_nil,or_false]at f;rcases f with rfl|rfl|rfl|rfl|rfl|rfl|rfl<;>rfl) a
 by_cases d:h.mu=x.old
 ·rw[d]at hc;have b:=nJ (P:=P0) (main:=Ω) xV j hc hz;rw[Wd.or2 ir]at b;refine⟨.ds {x with aw:=ψ},{h with mu:={x.old with W:=ψ}},_,_,_,.inl ⟨d,rfl,rfl⟩,b,?_,Eff.set _ _ (.inl (by rw[hlk];rfl)),book_rw 0 _ (.inl (by rw[hlk];rfl)),?_⟩
  ·rw[hlk];exact hw.setMu hne _
  ·exact ak.le (fN (fun cs g h=>Sp p.lk x.aV x.old.z x.it x.sv cs g h) a) (by omega)
 ·refine⟨.ds x,h,_,_,_,.inr ⟨d,rfl,rfl⟩,kY xV j hc hz (fun f=>d (Wd.CE f)),hw,Eff.refl w,book_one 0 _ _ (.inl (by rw[hlk];rfl)),?_⟩;show ak P0 Ω 2000 (bj (fS p qq (KX p x)) (SL p e)) _;unfold KX;rw[i];exact ak.le (fN (fun cs g h=>Sq p.lk x.aV x.old.z x.it x.sv cs g h) a) (by omega)
theorem abD(hL:aaA h (.ds x))(hw:ShAt tM tW Mu Wg w (dU h))(hs:bh p e (.ds x) g):Out tM tW Mu Wg p e (.ds x) h g w:=by
 obtain⟨d,c,f⟩:=hL;have b:au g=Ξ (ω 281 #[]):=bj.head (fun F=>by kernel_rfl) g hs;refine⟨.r1 {x with it:=x.it+1},h,_,w,_,⟨rfl,rfl⟩,vz akI b,hw,Eff.refl w,book_nil 1,?_⟩;have e1:Γ ξ (x.it+1)=x.it+1:=by rw[IntKind.wrap_i64];omega
 have a:=fN (fun cs g h=>Ll p.lk x.aV x.old.z x.it x.sv x.aw cs g h) hs;rw[e1]at a;exact ak.le a (by omega)
theorem abE(hlk:p.lk=muA Mu)(hb:h.mu.c+2<268435455)(ha:x.aw=ψ->h.mu.W=ψ)(hw:ShAt tM tW Mu Wg w (dU h))(hs:bh p e (.r1 x) g):Out tM tW Mu Wg p e (.r1 x) h g w:=by
 have b:au g=Ξ (bI 21 (Ψ (Ξ p.lk))):=bj.head (fun F=>by kernel_rfl) g hs;refine⟨_,h,_,w,_,⟨rfl,rfl⟩,look hlk hw b CH (bj.cg hs),hw,Eff.refl w,?_,?_⟩
 ·show BookOK Mu Wg 1 (deaf (hd _)) _;rw[qK];exact book_nil 1
 ·exact ak.le (ak.trans (n:=150) (k:=1850) (fN (fun cs g d=>Lm p.lk x.aV x.old.z x.it h.mu.z x.sv x.aw cs g d) hs) fun g a=>ak.le (qJ (x:={x with old:=h.mu}) hb ha a) (by omega)) (by omega)
theorem abF(hlk:p.lk=muA Mu)(hb:h.mu.c+2<268435455)(ha:x.aw=ψ->h.mu.W=ψ)(hw:ShAt tM tW Mu Wg w (dU h))(hs:bh p e (.r3 x) g):Out tM tW Mu Wg p e (.r3 x) h g w:=by
 have b:au g=Ξ (bI 21 (Ψ (Ξ p.lk))):=bj.head (fun F=>by kernel_rfl) g hs;refine⟨_,h,_,w,_,⟨rfl,rfl⟩,look hlk hw b CH (bj.cg hs),hw,Eff.refl w,?_,?_⟩
 ·show BookOK Mu Wg 1 (deaf (hd _)) _;rw[qK];exact book_nil 1
 ·exact ak.le (ak.trans (n:=150) (k:=1850) (fN (fun cs g d=>Ge p.lk x.aV x.old.z x.it h.mu.z x.sv x.aw cs g d) hs) fun g a=>ak.le (qJ (x:={x with old:=h.mu}) hb ha a) (by omega)) (by omega)
theorem abG(hlk:p.lk=muA Mu)(hne:Mu≠Wg)(hb:x.old.c+2<268435455)(hw:ShAt tM tW Mu Wg w (dU h))(hs:bh p e (.c2 x) g):Out tM tW Mu Wg p e (.c2 x) h g w:=by
 have ir:x.old.ok:=by unfold Wd.ok;omega
 have f:au g=Ξ (ω 271 #[Ψ (Ξ p.lk),Δ κ x.old.z,Δ κ (iT x).z]):=bj.head (fun F=>by kernel_rfl) g hs;have hc:w.cell? p.lk=Ξ (Δ κ h.mu.z):=by rw[hlk,hw.1.cellSt];rfl
 have hz:w.frozen? p.lk=Ω:=by rw[hlk];exact hw.1.thaw 0
 by_cases d:h.mu=x.old
 ·rw[d]at hc;refine⟨_,{h with mu:=iT x},_,_,_,.inl ⟨d,rfl,rfl⟩,nJ xV f hc hz,?_,Eff.set _ _ (.inl (by rw[hlk];rfl)),?_,?_⟩
  ·rw[hlk];exact hw.setMu hne _
  ·show BookOK Mu Wg 1 (deaf (if _ then _ else _)) _;split
   ·exact book_rw 0 _ (.inl (by rw[hlk];rfl))
   ·split<;>exact book_rw 0 _ (.inl (by rw[hlk];rfl))
  ·refine ak.le (ak.trans (n:=150) (k:=300) (fN (fun cs g h=>Sw p.lk x.aV x.old.z x.it (iT x).z x.sv x.aw cs g h) hs) fun g a=>?_) (by omega);rw[Wd.Tm ir]at a;cases hf:(!x.old.L&&!x.old.S)with
   |true=>rw[hf]at a;simp only[if_true];exact ak.mono (lift (fun cs g h=>Sy p.lk x.aV x.old.z x.it x.sv x.aw cs g h) a) (by omega) fun g a=>⟨x,a⟩
   |false=>
    rw[hf]at a;simp only[χ,if_false];refine ak.trans (n:=150) (k:=150) (lift (fun cs g h=>Sz p.lk x.aV x.old.z x.it x.sv x.aw cs g h) a) fun g a=>?_
    by_cases b:x.aV=0
    ·rw[if_pos b];have e1:decide (x.aV=0)=ψ:=by simp[b]
     rw[e1]at a;exact ak.mono (lift (fun cs g h=>SA p.lk x.aV x.old.z x.it x.sv x.aw (x.aV !=0) cs g h) a) (by omega) fun g a=>⟨_,a⟩
    ·rw[if_neg b];have e1:decide (x.aV=0)=Ω:=by simp[b]
     rw[e1]at a;exact ak.mono (lift (fun cs g h=>SD p.lk x.aV x.old.z x.it x.sv x.aw (x.aV !=0) cs g h) a) (by omega) fun g a=>⟨_,a⟩
 ·refine⟨.r3 x,h,_,_,_,.inr ⟨d,rfl,rfl⟩,kY xV f hc hz (fun i=>d (Wd.CE i)),hw,Eff.refl w,book_one 0 _ _ (.inl (by rw[hlk];rfl)),?_⟩;exact ak.le (fN (fun cs g h=>Sx p.lk x.aV x.old.z x.it (iT x).z x.sv x.aw cs g h) hs) (by omega)
theorem abH(hw:ShAt tM tW Mu Wg w (dU h))(hs:bh p e (.t1 x) g):Out tM tW Mu Wg p e (.t1 x) h g w:=by obtain⟨a,hs⟩:=hs;have c:au g=Ξ (ω 283 #[]):=bj.head (fun F=>by kernel_rfl) g hs;refine⟨_,h,_,_,_,⟨rfl,((w.os.mono+w.tick:Nat):Int),rfl⟩,uk aa3 c,hw,Eff.later w,book_nil 1,?_⟩;exact ak.mono (fN (fun cs g h=>Lt p.lk x.aV x.old.z x.it ((w.os.mono+w.tick:Nat):Int) x.sv x.aw a cs g h) hs) (by omega) fun g b=>⟨a,b⟩
theorem A8(hlk:p.lk=muA Mu)(h0:h.ms=0)(hw:ShAt tM tW Mu Wg w (dU h))(hs:bh p e (.s1 x) g):stepG P0 Ω g w=.go {g with status:=.blocked} w #[]:=by
 obtain⟨a,hs⟩:=hs;have b:au g=Ξ (ω 284 #[Ψ (Ξ (p.lk.add 1)),.bool a,Δ ξ 2]):=bj.head (fun F=>by kernel_rfl) g hs;have e1:p.lk.add 1=msA Mu:=by rw[hlk];rfl
 refine xU aa4 b rfl ?_;rw[e1,hw.1.cellSm];show Ξ (Δ IntKind.u32 (h.ms:Int))=_;rw[h0];rfl
theorem abI(hlk:p.lk=muA Mu)(hne:Mu≠Wg)(h0:0<h.ms)(hw:ShAt tM tW Mu Wg w (dU h))(hs:bh p e (.s1 x) g):Out tM tW Mu Wg p e (.s1 x) h g w:=by
 obtain⟨b,hs⟩:=hs;have d:au g=Ξ (ω 284 #[Ψ (Ξ (p.lk.add 1)),.bool b,Δ ξ 2]):=bj.head (fun F=>by kernel_rfl) g hs;have e1:p.lk.add 1=msA Mu:=by rw[hlk];rfl
 have hc:w.cell? (p.lk.add 1)=Ξ (Δ .u32 (h.ms:Int)):=by rw[e1,hw.1.cellSm];rfl
 have a:=xT (P:=P0) (main:=Ω) aa4 d rfl hc (by omega) (by rw[e1];exact hw.1.thaw 1);refine⟨_,{h with ms:=h.ms-1},_,_,_,⟨h0,rfl,rfl⟩,a,?_,Eff.set _ _ (.inl (by rw[e1];rfl)),?_,?_⟩
 ·rw[e1];have:=hw.setMs hne ((h.ms:Int) -1);have e2:(h.ms:Int) -1=((h.ms-1:Nat):Int):=by omega
  unfold dU at this⊢;dsimp only at this⊢;rw[<-e2];exact this
 ·show BookOK Mu Wg 1 (deaf (if _ then _ else _)) _;split<;>exact book_sem 0 _ (.inl (by rw[e1];rfl))
 ·cases hsv:x.sv with
  |true=>simp only[if_true];unfold KX at hs;rw[hsv]at hs;show ak P0 Ω 2000 (bj (fS p ul (pv 103 p.lk::KX p x)) (SL p e)) _;unfold KX;rw[hsv];exact ak.le (fN (fun cs g h=>SF p.lk x.aV x.old.z x.it x.aw b cs g h) hs) (by omega)
  |false=>
   simp only[χ,if_false];unfold KX at hs;rw[hsv]at hs;refine ak.mono (fN (fun cs g h=>SE p.lk x.aV x.old.z x.it x.aw b cs g h) hs) (by omega) fun g c=>⟨?_,hsv⟩
   unfold KX;rw[hsv];exact c
theorem abJ(hw:ShAt tM tW Mu Wg w (dU h))(hs:bh p e (.t2 x) g):Out tM tW Mu Wg p e (.t2 x) h g w:=by obtain⟨hs,a⟩:=hs;have b:au g=Ξ (ω 283 #[]):=bj.head (fun F=>by kernel_rfl) g hs;refine⟨_,h,_,_,_,⟨rfl,decide (Γ ξ (((w.os.mono+w.tick:Nat):Int) -x.aV)>1000000),rfl⟩,uk aa3 b,hw,Eff.later w,book_nil 1,?_⟩;unfold KX at hs;rw[a]at hs;exact ak.le (fN (fun cs g h=>Lu p.lk x.aV x.old.z x.it ((w.os.mono+w.tick:Nat):Int) x.aw cs g h) hs) (by omega)
theorem abK(hlk:p.lk=muA Mu)(hb:h.mu.c+2<268435455)(h1:h.mu.S=Ω->h.mu.W=ψ)(h2:h.mu.S=ψ->h.mu.L=Ω/\h.mu.W=Ω/\0<h.mu.c)(hw:ShAt tM tW Mu Wg w (dU h))(hs:bh p e (.r2 x) g):Out tM tW Mu Wg p e (.r2 x) h g w:=by
 have ir:h.mu.ok:=by unfold Wd.ok;omega
 have i:au g=Ξ (bI 21 (Ψ (Ξ p.lk))):=bj.head (fun F=>by kernel_rfl) g hs;refine⟨_,h,_,w,_,⟨rfl,rfl⟩,look hlk hw i CH (bj.cg hs),hw,Eff.refl w,?_,?_⟩
 ·show BookOK Mu Wg 1 (deaf (if _ then _ else _)) _;split
  ·exact book_nil 1
  ·rw[qK];exact book_nil 1
 ·refine ak.le (ak.trans (n:=150) (k:=1200) (fN (fun cs g b=>Gf p.lk x.aV x.old.z x.it h.mu.z x.sv x.aw cs g b) hs) fun g a=>?_) (by omega);rw[Wd.To ir]at a;cases hS:h.mu.S with
  |false=>rw[hS]at a;simp only[χ,if_false];refine ak.le (ak.trans (n:=150) (k:=900) (lift (fun cs g b=>Lv p.lk x.aV h.mu.z x.it x.sv x.aw cs g b) a) fun g a=>?_) (by omega);exact qJ (x:={x with old:=h.mu,it:=0,aw:=ψ}) hb (fun _=>h1 hS) a
  |true=>
   obtain⟨j,d,hc⟩:=h2 hS;rw[hS]at a;simp only[if_true];refine ak.le (ak.trans (n:=150) (k:=600) (lift (fun cs g b=>Lw p.lk x.aV h.mu.z x.it x.sv x.aw cs g b) a) fun g a=>?_) (by omega);have e3:(bits .and κ h.mu.z 3 !=0)=Ω:=by rw[Wd.Tp ir,j,d];rfl
   rw[e3]at a;refine ak.le (ak.trans (n:=150) (k:=300) (lift (fun cs g b=>Lx p.lk x.aV h.mu.z x.it x.sv x.aw cs g b) a) fun g a=>?_) (by omega);have e4:decide (h.mu.z.fdiv 8=0)=Ω:=by rw[Wd.LZ];simp;omega
   rw[e4]at a;show ak P0 Ω 300 (bj (fS p um (pv 128 p.lk::jv 129 (delta {x with old:=h.mu})::KX p {x with old:=h.mu})) (SL p e)) g;unfold KX delta;dsimp only;cases hsv:x.sv with
   |false=>rw[hsv]at a;simp only[Bool.not_false,Bool.true_or,if_true];exact ak.le (lift (fun cs g b=>Gg p.lk x.aV h.mu.z x.it x.aw cs g b) a) (by omega)
   |true=>
    rw[hsv]at a;refine ak.le (ak.trans (n:=150) (k:=150) (lift (fun cs g b=>Gh p.lk x.aV h.mu.z x.it x.aw cs g b) a) fun g a=>?_) (by omega);have f:decide (h.mu.z.fdiv 8=1)=decide (h.mu.c=1):=by rw[Wd.LZ,decide_eq_decide];omega
    rw[f]at a;simp only[ZU,ZT];cases hc1:decide (h.mu.c=1)with
    |true=>rw[hc1]at a;exact lift (fun cs g b=>Ly p.lk x.aV h.mu.z x.it ψ x.aw cs g b) a
    |false=>rw[hc1]at a;exact lift (fun cs g b=>Lz p.lk x.aV h.mu.z x.it ψ x.aw cs g b) a
theorem abL(hlk:p.lk=muA Mu)(hne:Mu≠Wg)(hb:h.mu.c+2<268435455)(h1:h.mu.L=Ω)(h2:h.mu.S=ψ)(h3:0<h.mu.c)(hw:ShAt tM tW Mu Wg w (dU h))(hs:bh p e (.a1 x) g):Out tM tW Mu Wg p e (.a1 x) h g w:=by
 have ir:h.mu.ok:=by unfold Wd.ok;omega
 have d:au g=Ξ (ω 273 #[Ψ (Ξ p.lk),Δ κ (delta x)]):=bj.head (fun F=>by kernel_rfl) g hs;have hc:w.cell? p.lk=Ξ (Δ κ h.mu.z):=by rw[hlk,hw.1.cellSt];rfl
 have a:=qF (P:=P0) (main:=Ω) aa2 d hc (by rw[hlk];exact hw.1.thaw 0);have e1:Γ κ (h.mu.z+delta x)=(oY x h.mu).z:=by
  unfold delta oY;split
  ·rw[Wd.L0 ir h1 h2 h3]
  ·rw[Wd.Ts ir h1 h3]
 rw[e1]at a;refine⟨.le Ω,{h with mu:=oY x h.mu},_,_,_,⟨rfl,rfl⟩,a,?_,Eff.set _ _ (.inl (by rw[hlk];rfl)),book_rw 0 _ (.inl (by rw[hlk];rfl)),?_⟩
 ·rw[hlk];exact hw.setMu hne _
 ·exact ak.mono (fN (fun cs g f=>Gi p.lk x.aV x.old.z x.it (oY x h.mu).z (delta x) x.sv x.aw cs g f) hs) (by omega) fun g b=>⟨x,b⟩
end
end
section
theorem abM:P0.underlying 323=Ξ (.pointer 247):=by kernel_rfl
theorem yf:P0.underlying 219=Ξ .unsafePointer:=by kernel_rfl
theorem QL:P0.underlying 288=Ξ (.pointer 255):=by kernel_rfl
theorem abN:(P0.info? 247).map (fun i=>decide (i.size=0))=Ξ Ω:=by kernel_rfl
theorem QM:(P0.info? 255).map (fun i=>decide (i.size=0))=Ξ Ω:=by kernel_rfl
theorem Gz(p:WP)(g:Θ)(h:bj (fAr p tgr []) [fD p vC,kz p kA [],fB []] g):ak P0 Ω 200 (bj (fB []) []) g:=bj.QF never 200 (fun F=>by kernel_rfl) (fun F=>by kernel_rfl) (fun F=>by kernel_rfl) g h
theorem CJ(p:WP)(g:Θ)(h:bj (fAr p Tb []) [fD p vC,kz p kA [],fB []] g):ak P0 Ω 200 (bj (fB []) []) g:=bj.QF never 200 (fun F=>by kernel_rfl) (fun F=>by kernel_rfl) (fun F=>by kernel_rfl) g h
section
variable{tM tW:ζ}{Mu Wg:Nat}{p:WP}{e:Int}{s:St}{h:Sh}{g:Θ}{w:Z4}{x:Lc}{f:Bool}
theorem abO(hw:ShAt tM tW Mu Wg w (dU h))(hs:bh p e (.le f) g):Out tM tW Mu Wg p e (.le f) h g w:=by
 cases f with
 |true=>have a:au g=Ξ (ω 237 #[]):=bj.head (fun F=>by kernel_rfl) g hs;exact⟨.cv ψ,h,_,w,_,⟨rfl,rfl⟩,mC .enable (fun g h=>by cases h) tw a,hw,Eff.refl w,book_en 0,(abe p e g hs).le (by omega)⟩
 |false=>obtain⟨x,hs⟩:=hs;have a:au g=Ξ (ω 237 #[]):=bj.head (fun F=>by kernel_rfl) g hs;refine⟨.cv Ω,h,_,w,_,⟨rfl,rfl⟩,mC .enable (fun g h=>by cases h) tw a,hw,Eff.refl w,book_en 0,?_⟩;exact ak.mono (fN (fun cs g h=>Gj p.lk x.aV x.old.z x.it x.sv x.aw cs g h) hs) (by omega) fun g b=>⟨x,b⟩
theorem vI(hlk:p.lk=muA Mu)(hw:ShAt tM tW Mu Wg w (dU h))(hh:au g=Ξ (iC 323 219 (Ψ (Ξ p.lk)))):stepG P0 Ω g w=.go (fin (Ψ (Ξ p.lk)) g) w #[]:=iD hh abM yf abN (by rw[hlk];exact hw.1.cellSt)
theorem abP(hlk:p.lk=muA Mu)(hw:ShAt tM tW Mu Wg w (dU h))(hs:bh p e (.cv f) g):Out tM tW Mu Wg p e (.cv f) h g w:=by
 cases f with
 |true=>have a:au g=Ξ (iC 323 219 (Ψ (Ξ p.lk))):=bj.head (fun F=>by kernel_rfl) g hs;exact⟨.la ψ,h,_,w,_,⟨rfl,rfl⟩,vI hlk hw a,hw,Eff.refl w,book_nil 0,(abf p e g hs).le (by omega)⟩
 |false=>obtain⟨x,hs⟩:=hs;have a:au g=Ξ (iC 323 219 (Ψ (Ξ p.lk))):=bj.head (fun F=>by kernel_rfl) g hs;refine⟨.la Ω,h,_,w,_,⟨rfl,rfl⟩,vI hlk hw a,hw,Eff.refl w,book_nil 0,?_⟩;exact ak.mono (fN (fun cs g h=>Gk p.lk x.aV x.old.z x.it x.sv x.aw cs g h) hs) (by omega) fun g b=>⟨x,b⟩
theorem abQ(hlk:p.lk=muA Mu)(hw:ShAt tM tW Mu Wg w (dU h))(hs:bh p e (.la f) g):Out tM tW Mu Wg p e (.la f) h g w:=by
 have a:(#[⟨.mark (.acquire p.lk),Ω,ψ⟩]:Array ZW)=#[mk (.acquire (muA Mu))]:=by rw[hlk];rfl
 cases f with
 |true=>have b:au g=Ξ (ω 252 #[Ψ (Ξ p.lk)]):=bj.head (fun F=>by kernel_rfl) g hs;exact⟨.e1,h,_,w,_,⟨rfl,rfl⟩,kZ .acquire (fun _ g h=>by cases h) La b,hw,Eff.refl w,a,(SQ p e g hs).le (by omega)⟩
 |false=>obtain⟨x,hs⟩:=hs;have b:au g=Ξ (ω 252 #[Ψ (Ξ p.lk)]):=bj.head (fun F=>by kernel_rfl) g hs;exact⟨.e1,h,_,w,_,⟨rfl,rfl⟩,kZ .acquire (fun _ g h=>by cases h) La b,hw,Eff.refl w,a,(LL p e _ g hs).le (by omega)⟩
theorem abR(hlk:p.lk=muA Mu)(hw:ShAt tM tW Mu Wg w (dU h))(hs:bh p e .u1 g):Out tM tW Mu Wg p e .u1 h g w:=by have a:au g=Ξ (bI 21 (Ψ (Ξ p.lk))):=bj.head (fun F=>by kernel_rfl) g hs;exact⟨.uv,h,_,w,_,⟨rfl,rfl⟩,look hlk hw a abw (bj.cg hs),hw,Eff.refl w,book_nil 0,(abg p _ g hs).le (by omega)⟩
theorem abS(hlk:p.lk=muA Mu)(hw:ShAt tM tW Mu Wg w (dU h))(hs:bh p e .uv g):Out tM tW Mu Wg p e .uv h g w:=by have a:au g=Ξ (iC 323 219 (Ψ (Ξ p.lk))):=bj.head (fun F=>by kernel_rfl) g hs;exact⟨.ur,h,_,w,_,⟨rfl,rfl⟩,vI hlk hw a,hw,Eff.refl w,book_nil 0,(abh p g hs).le (by omega)⟩
theorem abT(hlk:p.lk=muA Mu)(hw:ShAt tM tW Mu Wg w (dU h))(hs:bh p e .ur g):Out tM tW Mu Wg p e .ur h g w:=by
 have b:au g=Ξ (ω 235 #[Ψ (Ξ p.lk)]):=bj.head (fun F=>by kernel_rfl) g hs;have a:(#[⟨.mark (.releaseMerge p.lk),Ω,ψ⟩]:Array ZW)=#[mk (.releaseMerge (muA Mu))]:=by rw[hlk];rfl
 exact⟨.ud,h,_,w,_,⟨rfl,rfl⟩,kZ .releaseMerge (fun _ g h=>by cases h) aa1 b,hw,Eff.refl w,a,(abi p g hs).le (by omega)⟩
theorem abU(hw:ShAt tM tW Mu Wg w (dU h))(hs:bh p e .ud g):Out tM tW Mu Wg p e .ud h g w:=by have a:au g=Ξ (ω 236 #[]):=bj.head (fun F=>by kernel_rfl) g hs;exact⟨.u0,h,_,w,_,⟨rfl,rfl⟩,mC .disable (fun g h=>by cases h) F2 a,hw,Eff.refl w,book_dis 0,(SV p g hs).le (by omega)⟩
theorem yh{o:Wd}{v:Int}(hb:o.c+2<268435455)(hs:bj (fV p Gn [jv 4 o.z] v) (US p) g):ak P0 Ω 600 (bh p e (k8 o)) g:=by
 have ir:o.ok:=by unfold Wd.ok;omega
 refine ak.trans (n:=200) (k:=400) (SZ p v o.z g hs) fun g a=>?_
 have e1:decide (o.z.fdiv 8=0)=decide (o.c=0):=by rw[Wd.LZ,decide_eq_decide];omega
 rw[e1]at a;unfold k8;cases hc:decide (o.c=0)with
 |true=>rw[hc]at a;simp only[Bool.true_or,if_true];exact ak.trans (n:=200) (k:=200) (abk p v o.z g a) fun g a=>Gp p v o.z g a
 |false=>
  rw[hc]at a;simp only[ZT];refine ak.trans (n:=200) (k:=200) (abl p v o.z g a) fun g a=>?_
  rw[Wd.Tq ir]at a;cases hf:(o.L||o.W||o.S)with
  |true=>rw[hf]at a;simp only[if_true];exact Gp p v o.z g a
  |false=>rw[hf]at a;simp only[χ,if_false];exact ak.mono (S1 p v o.z g a) (Nat.le_refl _) fun g a=>⟨_,rfl,a⟩
theorem abV(hlk:p.lk=muA Mu)(hne:Mu≠Wg)(hb:h.mu.c+2<268435455)(hL:h.mu.L=ψ)(hw:ShAt tM tW Mu Wg w (dU h))(hs:bh p e .u0 g):Out tM tW Mu Wg p e .u0 h g w:=by
 have ir:h.mu.ok:=by unfold Wd.ok;omega
 have l:au g=Ξ (ω 273 #[Ψ (Ξ p.lk),Δ κ (-1)]):=bj.head (fun F=>by kernel_rfl) g hs;have hc:w.cell? p.lk=Ξ (Δ κ h.mu.z):=by rw[hlk,hw.1.cellSt];rfl
 have i:=qF (P:=P0) (main:=Ω) aa2 l hc (by rw[hlk];exact hw.1.thaw 0);rw[Wd.Gv ir hL]at i;refine⟨_,{h with mu:={h.mu with L:=Ω}},_,_,_,⟨rfl,rfl⟩,i,?_,Eff.set _ _ (.inl (by rw[hlk];rfl)),?_,?_⟩
 ·rw[hlk];exact hw.setMu hne _
 ·show BookOK Mu Wg 1 (deaf (if _ then _ else _)) _;split
  ·exact book_rw 0 _ (.inl (by rw[hlk];rfl))
  ·rw[yd];exact book_rw 0 _ (.inl (by rw[hlk];rfl))
 ·have j:({h.mu with L:=Ω}:Wd).ok:=ir;refine ak.le (ak.trans (n:=200) (k:=1400) (SW p ({h.mu with L:=Ω}:Wd).z g hs) fun g a=>?_) (by omega);rw[Wd.Tt]at a;cases hf:(Ω||h.mu.W||h.mu.S||decide (h.mu.c≠0))with
  |false=>
   have f:bj (fJ p SK [bv 16 Ω,(2,Δ κ ({h.mu with L:=Ω}:Wd).z)]) (UL p) g:=by have:(({h.mu with L:=Ω}:Wd).L||({h.mu with L:=Ω}:Wd).W||({h.mu with L:=Ω}:Wd).S||decide (({h.mu with L:=Ω}:Wd).c≠0))=Ω:=hf;rw[this]at a;exact a
   simp only[ZT,Bool.or_eq_false_iff,decide_eq_false_iff_not,Decidable.not_not]at hf;rw[hf.1.2];simp only[χ,if_false];have e1:k8 {h.mu with L:=Ω}=.ue:=by
    unfold k8;have:decide (({h.mu with L:=Ω}:Wd).c=0)=ψ:=by simpa using hf.2
    rw[this];rfl
   rw[e1];exact ak.le (akP p _ g f) (by omega)
  |true=>
   have f:bj (fJ p SK [bv 16 ψ,(2,Δ κ ({h.mu with L:=Ω}:Wd).z)]) (UL p) g:=by have:(({h.mu with L:=Ω}:Wd).L||({h.mu with L:=Ω}:Wd).W||({h.mu with L:=Ω}:Wd).S||decide (({h.mu with L:=Ω}:Wd).c≠0))=ψ:=hf;rw[this]at a;exact a
   refine ak.trans (n:=200) (k:=1200) (akQ p _ g f) fun g a=>?_
   have e1:Γ κ (({h.mu with L:=Ω}:Wd).z+1)=h.mu.z:=by have a1:=Wd.Gv ir hL;have q:=Wd.lN ir;rw[wrap_small (by omega) (by omega)]at a1;rw[<-a1,wrap_small (by omega) (by omega)];omega
   have e2:decide (bits .and κ h.mu.z 1=0)=Ω:=by have:=Wd.Gu ir;rw[hL]at this;simpa using this
   rw[e1,e2]at a;refine ak.trans (n:=200) (k:=1000) (abj p _ g a) fun g a=>?_
   rw[Wd.A7 j]at a;have b:bj (fV p un [bv 12 (!h.mu.S)] ({h.mu with L:=Ω}:Wd).z) (US p) g:=a;cases hS:h.mu.S with
   |true=>rw[hS]at b;simp only[if_true];have d:=SX p _ g b;exact ak.mono d (by omega) fun g a=>⟨_,a⟩
   |false=>have m:({h.mu with L:=Ω}:Wd).z=({h.mu with L:=Ω}:Wd).z:=rfl;rw[hS]at b;simp only[χ,if_false];have d:=SY p _ g b;refine ak.le (ak.trans (n:=200) (k:=600) d fun g a=>?_) (by omega);have:=yh (e:=e) (o:=(⟨Ω,h.mu.W,h.mu.S,h.mu.c⟩:Wd)) hb a;exact this
theorem abW{o:Wd}(hlk:p.lk=muA Mu)(hne:Mu≠Wg)(hb:o.c+2<268435455)(hL:aaA h (.uc o))(hw:ShAt tM tW Mu Wg w (dU h))(hs:bh p e (.uc o) g):Out tM tW Mu Wg p e (.uc o) h g w:=by
 obtain⟨q,n,r,m⟩:=hL;have ir:o.ok:=by unfold Wd.ok;omega
 have b:({o with c:=o.c-1}:Wd).ok:=by unfold Wd.ok;dsimp only;omega
 obtain⟨a,f,hs⟩:=hs;have i:a=({o with W:=ψ,c:=o.c-1}:Wd).z:=by rw[f,Wd.Tr ir m,Wd.or2 b]
 have k:au g=Ξ (ω 271 #[Ψ (Ξ p.lk),Δ κ o.z,Δ κ a]):=bj.head (fun F=>by kernel_rfl) g hs;have hc:w.cell? p.lk=Ξ (Δ κ h.mu.z):=by rw[hlk,hw.1.cellSt];rfl
 have hz:w.frozen? p.lk=Ω:=by rw[hlk];exact hw.1.thaw 0
 by_cases d:h.mu=o
 ·rw[d]at hc;refine⟨.us,{h with mu:={o with W:=ψ,c:=o.c-1}},_,_,_,.inl ⟨d,rfl,rfl⟩,nJ xV k hc hz,?_,Eff.set _ _ (.inl (by rw[hlk];rfl)),book_rw 0 _ (.inl (by rw[hlk];rfl)),?_⟩
  ·rw[hlk,i];exact hw.setMu hne _
  ·exact ak.mono (abm p o.z a g hs) (by omega) fun g j=>⟨a,j⟩
 ·refine⟨.ux,h,_,_,_,.inr ⟨d,rfl,rfl⟩,kY xV k hc hz (fun l=>d (Wd.CE l)),hw,Eff.refl w,book_one 0 _ _ (.inl (by rw[hlk];rfl)),?_⟩;exact ak.mono (abn p o.z a g hs) (by omega) fun g j=>⟨a,j⟩
theorem abX(hlk:p.lk=muA Mu)(hb:h.mu.c+2<268435455)(hw:ShAt tM tW Mu Wg w (dU h))(hs:bh p e .ux g):Out tM tW Mu Wg p e .ux h g w:=by
 obtain⟨b,hs⟩:=hs;have d:au g=Ξ (bI 21 (Ψ (Ξ p.lk))):=bj.head (fun F=>by kernel_rfl) g hs;refine⟨_,h,_,w,_,⟨rfl,rfl⟩,look hlk hw d abx (bj.cg hs),hw,Eff.refl w,?_,?_⟩
 ·show BookOK Mu Wg 1 (deaf (k8 _)) _;rw[yd];exact book_nil 1
 ·exact ak.le (ak.trans (n:=200) (k:=600) (S5 p b h.mu.z g hs) fun g a=>yh hb a) (by omega)
theorem GA(hlk:p.lk=muA Mu)(hne:Mu≠Wg)(hm:h.ms<1000)(hw:ShAt tM tW Mu Wg w (dU h)):ShAt tM tW Mu Wg (w.setCell (p.lk.add 1) (Δ .u32 (IntKind.u32.wrap ((h.ms:Int)+1)))) (dU {h with ms:=h.ms+1}):=by
 have e1:p.lk.add 1=msA Mu:=by rw[hlk];rfl
 have e2:IntKind.u32.wrap ((h.ms:Int)+1)=((h.ms+1:Nat):Int):=by rw[Z2];omega
 rw[e1,e2];exact hw.setMs hne _
theorem abY(hlk:p.lk=muA Mu)(hne:Mu≠Wg)(hm:h.ms<1000)(hw:ShAt tM tW Mu Wg w (dU h))(hs:bh p e .us g):Out tM tW Mu Wg p e .us h g w:=by
 obtain⟨a,hs⟩:=hs;have e1:p.lk.add 1=msA Mu:=by rw[hlk];rfl
 have b:au g=Ξ (ω 286 #[Ψ (Ξ (p.lk.add 1)),.bool Ω,Δ ξ 2]):=bj.head (fun F=>by kernel_rfl) g hs;have hc:w.cell? (p.lk.add 1)=Ξ (Δ .u32 (h.ms:Int)):=by rw[e1,hw.1.cellSm];rfl
 exact⟨.ue,{h with ms:=h.ms+1},_,_,_,⟨rfl,rfl⟩,vy aa5 b rfl hc (by rw[e1];exact hw.1.thaw 1),GA hlk hne hm hw,Eff.set _ _ (.inl (by rw[e1];rfl)),book_sem 0 _ (.inl (by rw[e1];rfl)),(S7 p a g hs).le (by omega)⟩
theorem abZ(hlk:p.lk=muA Mu)(hne:Mu≠Wg)(hm:h.ms<1000)(hw:ShAt tM tW Mu Wg w (dU h))(hs:bh p e .uh g):Out tM tW Mu Wg p e .uh h g w:=by
 obtain⟨a,hs⟩:=hs;have e1:p.lk.add 1=msA Mu:=by rw[hlk];rfl
 have b:au g=Ξ (ω 286 #[Ψ (Ξ (p.lk.add 1)),.bool ψ,Δ ξ 2]):=bj.head (fun F=>by kernel_rfl) g hs;have hc:w.cell? (p.lk.add 1)=Ξ (Δ .u32 (h.ms:Int)):=by rw[e1,hw.1.cellSm];rfl
 exact⟨.ue,{h with ms:=h.ms+1},_,_,_,⟨rfl,rfl⟩,vy aa5 b rfl hc (by rw[e1];exact hw.1.thaw 1),GA hlk hne hm hw,Eff.set _ _ (.inl (by rw[e1];rfl)),book_sem 0 _ (.inl (by rw[e1];rfl)),(S9 p a g hs).le (by omega)⟩
theorem ab0(hw:ShAt tM tW Mu Wg w (dU h))(hs:bh p e .ue g):Out tM tW Mu Wg p e .ue h g w:=by have a:au g=Ξ (ω 237 #[]):=bj.head (fun F=>by kernel_rfl) g hs;exact⟨.gv,h,_,w,_,⟨rfl,rfl⟩,mC .enable (fun g h=>by cases h) tw a,hw,Eff.refl w,book_en 0,(Tc p g hs).le (by omega)⟩
theorem ab1(hwg:p.wg=stA Wg)(hw:ShAt tM tW Mu Wg w (dU h))(hs:bh p e .gv g):Out tM tW Mu Wg p e .gv h g w:=by have a:au g=Ξ (iC 288 219 (Ψ (Ξ p.wg))):=bj.head (fun F=>by kernel_rfl) g hs;exact⟨.gr,h,_,w,_,⟨rfl,rfl⟩,iD a QL yf QM (by rw[hwg];exact hw.2.cellSt),hw,Eff.refl w,book_nil 0,(Td p g hs).le (by omega)⟩
theorem ab2(hwg:p.wg=stA Wg)(hw:ShAt tM tW Mu Wg w (dU h))(hs:bh p e .gr g):Out tM tW Mu Wg p e .gr h g w:=by
 have b:au g=Ξ (ω 235 #[Ψ (Ξ p.wg)]):=bj.head (fun F=>by kernel_rfl) g hs;have a:(#[⟨.mark (.releaseMerge p.wg),Ω,ψ⟩]:Array ZW)=#[mk (.releaseMerge (stA Wg))]:=by rw[hwg];rfl
 exact⟨.gd,h,_,w,_,⟨rfl,rfl⟩,kZ .releaseMerge (fun _ g h=>by cases h) aa1 b,hw,Eff.refl w,a,(Te p g hs).le (by omega)⟩
theorem ab3(hw:ShAt tM tW Mu Wg w (dU h))(hs:bh p e .gd g):Out tM tW Mu Wg p e .gd h g w:=by have a:au g=Ξ (ω 236 #[]):=bj.head (fun F=>by kernel_rfl) g hs;exact⟨.ga,h,_,w,_,⟨rfl,rfl⟩,mC .disable (fun g h=>by cases h) F2 a,hw,Eff.refl w,book_dis 0,(Tf p g hs).le (by omega)⟩
theorem ab4(hwg:p.wg=stA Wg)(hne:Mu≠Wg)(hk:0<h.k)(hk2:h.k<1073741824)(hwt:h.wt<=1)(hw:ShAt tM tW Mu Wg w (dU h))(hs:bh p e .ga g):Out tM tW Mu Wg p e .ga h g w:=by
 have q:au g=Ξ (ω 268 #[Ψ (Ξ p.wg),Δ υ 18446744069414584320]):=bj.head (fun F=>by kernel_rfl) g hs;have hc:w.cell? p.wg=Ξ (Δ υ ((h.k:Int)*4294967296+(h.wt:Int))):=by rw[hwg,hw.2.cellSt];rfl
 have b:=qF (P:=P0) (main:=Ω) aa6 q hc (by rw[hwg];exact hw.2.thaw 0);have ev:IntKind.u64.wrap ((h.k:Int)*4294967296+(h.wt:Int)+18446744069414584320)=((h.k-1:Nat):Int)*4294967296+(h.wt:Int):=by rw[Z1];omega
 rw[ev]at b;refine⟨_,{h with k:=h.k-1},_,_,_,⟨rfl,rfl⟩,b,?_,Eff.set _ _ (.inr (by rw[hwg];rfl)),?_,?_⟩
 ·rw[hwg];exact hw.setWg hne _
 ·show BookOK Mu Wg 1 (deaf (if _ then _ else _)) _;split<;>exact book_rw 0 _ (.inr (by rw[hwg];rfl))
 ·refine ak.le (ak.trans (n:=200) (k:=1200) (LR p _ g hs) fun g a=>?_) (by omega);have o:=Z3 (h.k-1) h.wt (by omega) hwt;have j:=Z7 (h.k-1) h.wt (by omega) hwt;have r:(((h.k-1:Nat):Int)*4294967296+(h.wt:Int)).fdiv 4294967296=((h.k-1:Nat):Int):=by rw[Z9 _ (by decide)];omega
  have m:Γ κ ((h.k-1:Nat):Int)=((h.k-1:Nat):Int):=wrap_small (by omega) (by omega);have s:Γ .u32 (h.wt:Int)=(h.wt:Int):=by rw[Z2];omega
  rw[o]at a;refine ak.trans (n:=200) (k:=1000) (abp p _ g a) fun g a=>?_
  rw[r,m,j,s]at a;have e1:decide (((h.k-1:Nat):Int)<0)=Ω:=decide_eq_false (by omega);rw[e1]at a;refine ak.trans (n:=200) (k:=800) (Tg p _ _ _ g a) fun g a=>?_
  have i:ak P0 Ω 200 (bj (fA p Eb [bv 91 (decide (((h.k-1:Nat):Int)>0)),(6,Δ υ (((h.k-1:Nat):Int)*4294967296+(h.wt:Int))),bv 4 Ω,jv 7 ((h.k-1:Nat):Int),(8,Δ .u32 (h.wt:Int))] [dK]) (DK p)) g:=by
   cases hq:((h.wt:Int) !=0)with
   |true=>rw[hq]at a;exact abq p _ _ _ g a
   |false=>rw[hq]at a;exact abr p _ _ _ g a
  refine ak.trans (n:=200) (k:=600) i fun g a=>?_
  by_cases d:h.k=1
  ·have e2:decide (((h.k-1:Nat):Int)>0)=Ω:=decide_eq_false (by omega);rw[e2]at a;refine ak.trans (n:=200) (k:=400) (abt p _ _ _ g a) fun g a=>?_
   by_cases f:h.wt=1
   ·rw[if_pos ⟨d,f⟩];have e3:decide ((h.wt:Int)=0)=Ω:=decide_eq_false (by omega);rw[e3]at a;have c:=Th p _ _ _ g a;have e4:((h.k-1:Nat):Int)*4294967296+(h.wt:Int)=1:=by omega
    have l:(h.wt:Int)=1:=by omega
    rw[e4,l]at c;exact ak.le c (by omega)
   ·rw[if_neg (fun h=>f h.2)];have e3:decide ((h.wt:Int)=0)=ψ:=decide_eq_true (by omega);rw[e3]at a;exact ak.mono (Gs p _ _ _ g a) (by omega) fun g a=>.inl a
  ·rw[if_neg (fun h=>d h.1)];have e2:decide (((h.k-1:Nat):Int)>0)=ψ:=decide_eq_true (by omega);rw[e2]at a;refine ak.le (ak.trans (n:=200) (k:=200) (abs p _ _ _ g a) fun g a=>?_) (by omega);exact ak.mono (Gs p _ _ _ g a) (by omega) fun g a=>.inl a
theorem ab5(hwg:p.wg=stA Wg)(hk:h.k=0)(hwt:h.wt=1)(hw:ShAt tM tW Mu Wg w (dU h))(hs:bh p e .gl g):Out tM tW Mu Wg p e .gl h g w:=by
 have b:au g=Ξ (ω 269 #[Ψ (Ξ p.wg)]):=bj.head (fun F=>by kernel_rfl) g hs;have hc:w.cell? p.wg=Ξ (Δ υ 1):=by rw[hwg,hw.2.cellSt];show Ξ (Δ υ ((h.k:Int)*4294967296+(h.wt:Int)))=_;rw[hk,hwt];rfl
 refine⟨.gs,h,_,w,_,⟨rfl,rfl⟩,rD Sa b hc,hw,Eff.refl w,book_one 0 _ _ (.inr (by rw[hwg];rfl)),?_⟩;exact ak.le (ak.trans (n:=200) (k:=200) (LS p 1 1 1 g hs) fun g a=>LT p 1 g a) (by omega)
theorem ab6(hwg:p.wg=stA Wg)(hne:Mu≠Wg)(hw:ShAt tM tW Mu Wg w (dU h))(hs:bh p e .gs g):Out tM tW Mu Wg p e .gs h g w:=by
 have c:au g=Ξ (ω 270 #[Ψ (Ξ p.wg),Δ υ 0]):=bj.head (fun F=>by kernel_rfl) g hs;have hc:=hw.2.cellSt;rw[<-hwg]at hc;refine⟨.gm,{h with k:=0,wt:=0},_,_,_,⟨rfl,rfl⟩,D6 akJ c hc (by rw[hwg];exact hw.2.thaw 0),?_,Eff.set _ _ (.inr (by rw[hwg];rfl)),book_one 0 _ _ (.inr (by rw[hwg];rfl)),?_⟩
 ·have b:dU {h with k:=0,wt:=0}={dU h with wg:=0}:=by unfold dU;simp
  rw[hwg,b];exact hw.setWg hne 0
 ·exact ak.le (ak.trans (n:=200) (k:=200) (LU p 1 g hs) fun g a=>LX p 1 g a) (by omega)
theorem ab7(hwg:p.wg=stA Wg)(hne:Mu≠Wg)(hm:h.ws<1000)(hw:ShAt tM tW Mu Wg w (dU h))(hs:bh p e .gm g):Out tM tW Mu Wg p e .gm h g w:=by
 have e1:p.wg.add 1=smA Wg:=by rw[hwg];rfl
 have b:au g=Ξ (ω 247 #[Ψ (Ξ (p.wg.add 1)),.bool Ω,Δ ξ 0]):=bj.head (fun F=>by kernel_rfl) g hs;have hc:w.cell? (p.wg.add 1)=Ξ (Δ .u32 (h.ws:Int)):=by rw[e1,hw.2.cellSm];rfl
 have e2:IntKind.u32.wrap ((h.ws:Int)+1)=((h.ws+1:Nat):Int):=by rw[Z2];omega
 refine⟨.gn,{h with ws:=h.ws+1},_,_,_,⟨rfl,rfl⟩,vy akK b rfl hc (by rw[e1];exact hw.2.thaw 1),?_,Eff.set _ _ (.inr (by rw[e1];rfl)),book_sem 0 _ (.inr (by rw[e1];rfl)),?_⟩
 ·rw[e1,e2];exact hw.setWs hne _
 ·refine ak.le (ak.trans (n:=200) (k:=200) (LY p 1 g hs) fun g a=>?_) (by omega);have e3:Γ .u32 ((1:Int) -1)=0:=by decide
  rw[e3]at a;exact ak.mono (LW p 0 g a) (by omega) fun g a=>.inr a
theorem ab8(hw:ShAt tM tW Mu Wg w (dU h))(hs:bh p e .gn g):Out tM tW Mu Wg p e .gn h g w:=by
 rcases hs with hs|hs
 ·obtain⟨F,rfl⟩:=hs;exact⟨.gx,h,_,w,_,⟨rfl,rfl⟩,g6 .enable (fun g h=>by cases h) tw rfl rfl,hw,Eff.refl w,book_en 0,(Gz p _ ⟨F,rfl⟩).le (by omega)⟩
 ·obtain⟨F,rfl⟩:=hs;exact⟨.gx,h,_,w,_,⟨rfl,rfl⟩,g6 .enable (fun g h=>by cases h) tw rfl rfl,hw,Eff.refl w,book_en 0,(CJ p _ ⟨F,rfl⟩).le (by omega)⟩
theorem QN(hs:bh p e .gx g):stepG P0 Ω g w=.go {g with status:=.finished} w #[]:=by obtain⟨F,rfl⟩:=hs;exact Ed (by kernel_rfl) rfl rfl rfl
end
end
end Ph
namespace Ph
open Go Go.Conc
open Go.ConcN (sumTo upd sumTo_upd)
open Go.ConcM (muA msA MuAt ShAt Eff)
open Go.ConcR (stA smA WgAt mk)
section
def rG(B:Nat):St->Prop
 |.sq x|.c1 x|.c2 x=>x.old.c<=B
 |.uc o=>o.c<=B
 |_=>True
theorem qL{B:Nat}{x:Lc}(h:x.old.c<=B):rG B (hd x):=by unfold hd;split<;>exact h
theorem yi{B:Nat}{o:Wd}(h:o.c<=B):rG B (k8 o):=by unfold k8;split<;>first|trivial|exact h
theorem Nx.akU{B:Nat}{s s':St}{h h':Sh}(hx:Nx s h s' h')(hm:h.mu.c<=B)(hb:rG B s):rG B s':=by
 cases s with
 |w7=>exact hx.elim
 |w8=>exact hx.elim
 |pv=>exact hx.elim
 |fin=>exact hx.elim
 |l0=>rcases hx with⟨_,rfl,_⟩|⟨_,rfl,_⟩<;>trivial
 |r0=>obtain⟨rfl,_⟩:=hx;exact qL hm
 |sq x=>
  obtain⟨_,rfl|⟨_,rfl⟩⟩:=hx
  ·exact hb
  ·split
   ·exact hb
   ·trivial
 |c1 x=>rcases hx with⟨_,rfl,_⟩|⟨_,rfl,_⟩<;>trivial
 |r1 x=>obtain⟨rfl,_⟩:=hx;exact qL hm
 |r3 x=>obtain⟨rfl,_⟩:=hx;exact qL hm
 |c2 x=>
  rcases hx with⟨_,_,rfl⟩|⟨_,rfl,_⟩
  ·split
   ·trivial
   ·split<;>trivial
  ·trivial
 |t1 x=>obtain⟨_,t,rfl⟩:=hx;trivial
 |s1 x=>obtain⟨_,_,rfl⟩:=hx;split<;>trivial
 |t2 x=>obtain⟨_,t,rfl⟩:=hx;trivial
 |r2 x=>
  obtain⟨_,rfl⟩:=hx;split
  ·trivial
  ·exact qL hm
 |u0=>
  obtain⟨_,rfl⟩:=hx;split
  ·trivial
  ·exact yi hm
 |uc o=>rcases hx with⟨_,rfl,_⟩|⟨_,rfl,_⟩<;>trivial
 |ux=>obtain⟨rfl,_⟩:=hx;exact yi hm
 |ga=>obtain⟨_,rfl⟩:=hx;split<;>trivial
 |_=>obtain⟨rfl,_⟩:=hx;trivial
theorem vJ{F F':St->Nat}{st:Nat->St}:∀{n:Nat},cnt n (fun s=>F s+F' s) st=cnt n F st+cnt n F' st
 |0=>rfl
 |n+1=>by have e1:cnt (n+1) (fun s=>F s+F' s) st=cnt n (fun s=>F s+F' s) st+(F (st n)+F' (st n)):=rfl;have e2:cnt (n+1) F st=cnt n F st+F (st n):=rfl;have e3:cnt (n+1) F' st=cnt n F' st+F' (st n):=rfl;rw[e1,e2,e3,vJ (n:=n)];omega
theorem GI.wW{n:Nat}{st:Nat->St}{h:Sh}(G:GI n st h):h.mu.c<=n/\h.ms<=1:=by
 have b:cnt n (fun s=>nQ s+nT s+nH s) st<=n*1:=mV fun i hi=>by show nQ (st i)+nT (st i)+nH (st i)<=1;cases st i<;>simp[nQ,nT,nH]
 have e1:cnt n (fun s=>nQ s+nT s+nH s) st=cnt n nQ st+cnt n nT st+cnt n nH st:=by rw[vJ (F:=fun s=>nQ s+nT s) (F':=nH),vJ]
 have a:=G.Ee;obtain⟨⟨L,W,S,c⟩,ms,k,wt,ws⟩:=h;unfold ia at a;dsimp only at a⊢;cases L<;>cases W<;>cases S<;>simp at a<;>omega
def nM:St->Nat
 |.gm=>1
 |_=>0
structure mW(wa:Bool)(x:Nat)(h:Sh)(G L M:Nat):Prop where
 k:h.k=G+x
 wt:h.wt<=1
 idle:wa=Ω->h.wt=0/\h.ws=0/\L=0/\M=0
 wait:wa=ψ->x=0/\h.wt+M+h.ws=1/\((L=1/\h.wt=1/\h.k=0)\/(L=0/\(h.wt=1->0<h.k)/\(h.wt=0->h.k=0)))
theorem mW.core{wa:Bool}{x:Nat}{h h':Sh}{s s':St}{RG RL RM:Nat}(hI:mW wa x h (RG+nG s) (RL+nL s) (RM+nM s))(hx:Nx s h s' h'):mW wa x h' (RG+nG s') (RL+nL s') (RM+nM s'):=by
 have same:∀{c:Sh},c.k=h.k->c.wt=h.wt->c.ws=h.ws->nG s'=nG s->nL s'=nL s->nM s'=nM s->mW wa x c (RG+nG s') (RL+nL s') (RM+nM s'):=by
  intro c e1 e2 e3 e4 i j;refine⟨by rw[e1,e4];exact hI.k,by rw[e2];exact hI.wt,fun hw=>?_,fun hw=>?_⟩
  ·rw[e2,e3,i,j];exact hI.idle hw
  ·rw[e1,e2,e3,i,j];exact hI.wait hw
 have a:∀y,nG (hd y)=1/\nL (hd y)=0/\nM (hd y)=0:=fun y=>by unfold hd;split<;>exact⟨rfl,rfl,rfl⟩
 have b:∀y,nG (k8 y)=1/\nL (k8 y)=0/\nM (k8 y)=0:=fun y=>by unfold k8;split<;>exact⟨rfl,rfl,rfl⟩
 cases s with
 |w7=>exact hx.elim
 |w8=>exact hx.elim
 |pv=>exact hx.elim
 |fin=>exact hx.elim
 |l0=>rcases hx with⟨_,rfl,rfl⟩|⟨_,rfl,rfl⟩<;>exact same rfl rfl rfl rfl rfl rfl
 |r0=>obtain⟨rfl,rfl⟩:=hx;exact same rfl rfl rfl (a _).1 (a _).2.1 (a _).2.2
 |sq y=>
  obtain⟨rfl,rfl|⟨_,rfl⟩⟩:=hx
  ·exact same rfl rfl rfl rfl rfl rfl
  ·split<;>rename_i hc<;>simp only[hc]at same<;>exact same rfl rfl rfl rfl rfl rfl
 |c1 y=>rcases hx with⟨_,rfl,rfl⟩|⟨_,rfl,rfl⟩<;>exact same rfl rfl rfl rfl rfl rfl
 |r1 y=>obtain⟨rfl,rfl⟩:=hx;exact same rfl rfl rfl (a _).1 (a _).2.1 (a _).2.2
 |r3 y=>obtain⟨rfl,rfl⟩:=hx;exact same rfl rfl rfl (a _).1 (a _).2.1 (a _).2.2
 |c2 y=>
  rcases hx with⟨_,rfl,rfl⟩|⟨_,rfl,rfl⟩
  ·refine same rfl rfl rfl ?_ ?_ ?_<;>(split<;>(try split)<;>rfl)
  ·exact same rfl rfl rfl rfl rfl rfl
 |t1 y=>obtain⟨rfl,t,rfl⟩:=hx;exact same rfl rfl rfl rfl rfl rfl
 |s1 y=>obtain⟨_,rfl,rfl⟩:=hx;refine same rfl rfl rfl ?_ ?_ ?_<;>(split<;>rfl)
 |t2 y=>obtain⟨rfl,t,rfl⟩:=hx;exact same rfl rfl rfl rfl rfl rfl
 |r2 y=>obtain⟨rfl,rfl⟩:=hx;refine same rfl rfl rfl ?_ ?_ ?_<;>(split<;>first|rfl|exact(a _).1|exact(a _).2.1|exact(a _).2.2)
 |a1 y=>obtain⟨rfl,rfl⟩:=hx;exact same rfl rfl rfl rfl rfl rfl
 |u0=>obtain⟨rfl,rfl⟩:=hx;refine same rfl rfl rfl ?_ ?_ ?_<;>(split<;>first|rfl|exact(b _).1|exact(b _).2.1|exact(b _).2.2)
 |uc o=>rcases hx with⟨_,rfl,rfl⟩|⟨_,rfl,rfl⟩<;>exact same rfl rfl rfl rfl rfl rfl
 |ux=>obtain⟨rfl,rfl⟩:=hx;exact same rfl rfl rfl (b _).1 (b _).2.1 (b _).2.2
 |ga=>
  obtain⟨rfl,rfl⟩:=hx;obtain⟨g,f,e,d⟩:=hI;simp only[nG,nL,nM]at g e d;split
  ·rename_i hc;refine⟨by simp only[nG];(try dsimp only);omega,f,fun hw=>?_,fun hw=>?_⟩
   ·have:=e hw;omega
   ·have:=d hw;simp only[nL,nM]
    (try dsimp only)
    omega
  ·rename_i hc;refine⟨by simp only[nG];(try dsimp only);omega,f,fun hw=>?_,fun hw=>?_⟩
   ·have:=e hw;simp only[nL,nM];(try dsimp only);omega
   ·have:=d hw;simp only[nL,nM]
    (try dsimp only)
    omega
 |gs=>
  obtain⟨rfl,rfl⟩:=hx;obtain⟨g,f,e,d⟩:=hI;simp only[nG,nL,nM]at g e d;refine⟨?_,by(try dsimp only);omega,fun hw=>?_,fun hw=>?_⟩
  ·simp only[nG];cases wa with
   |false=>have:=e rfl;omega
   |true=>have:=d rfl;(try dsimp only);omega
  ·have:=e hw;(try dsimp only);simp only[nL,nM];omega
  ·have:=d hw;refine⟨this.1,?_,.inr ⟨?_,fun h=>absurd h (show ¬(0=1) by decide),fun _=>rfl⟩⟩
   ·show 0+(RM+1)+h.ws=1;omega
   ·show RL+0=0;omega
 |gm=>
  obtain⟨rfl,rfl⟩:=hx;obtain⟨g,f,e,d⟩:=hI;simp only[nG,nL,nM]at g e d;refine⟨?_,f,fun hw=>?_,fun hw=>?_⟩
  ·simp only[nG];(try dsimp only);omega
  ·have:=e hw;omega
  ·have:=d hw;simp only[nL,nM]
   (try dsimp only)
   omega
 |us=>obtain⟨rfl,rfl⟩:=hx;exact same rfl rfl rfl rfl rfl rfl
 |uh=>obtain⟨rfl,rfl⟩:=hx;exact same rfl rfl rfl rfl rfl rfl
 |_=>obtain⟨rfl,rfl⟩:=hx;exact same rfl rfl rfl rfl rfl rfl
def CK:St->Bool
 |.w7|.w8|.pv|.e1|.e2|.e3|.e4|.gx|.fin=>Ω
 |_=>ψ
section
variable{tM tW:ζ}{Mu Wg:Nat}{p:WP}{e:Int}{s:St}{h:Sh}{g:Θ}{w:Z4}{x:Lc}{wa:Bool}{y:Nat}{RO RA RT RQ RH RU RV RC RG RL RM B:Nat}
theorem yj(hlk:p.lk=muA Mu)(hwg:p.wg=stA Wg)(hne:Mu≠Wg)(hI:ff h s RO RA RT RQ RH RU RV RC)(hL:aaA h s)(hB:rG B s)(hBB:B<1048576)(hm:h.mu.c<=B)(hms:h.ms<=1)(hW:mW wa y h (RG+nG s) (RL+nL s) (RM+nM s))(hk:h.k<1073741824)(hws:h.ws<1000)
 (hw:ShAt tM tW Mu Wg w (dU h)) (hl:CK s=ψ) (hs:bh p e s g):
 (∃x,s=.s1 x/\h.ms=0/\stepG P0 Ω g w=.go {g with status:=.blocked} w #[])\/Out tM tW Mu Wg p e s h g w:=by
 have hb:h.mu.c+2<268435455:=by omega
 have d:∀{x:Lc},nA s=(if x.aw then 1 else 0) ->x.aw=ψ->h.mu.W=ψ:=by intro x a u;rw[if_pos u]at a;exact(hI.woken (by omega)).1
 cases s with
 |w7=>cases hl
 |w8=>cases hl
 |pv=>cases hl
 |e1=>cases hl
 |e2=>cases hl
 |e3=>cases hl
 |e4=>cases hl
 |gx=>cases hl
 |fin=>cases hl
 |ld=>exact .inr (aby hw hs)
 |l0=>exact .inr (abz hlk hne hw hs)
 |r0=>exact .inr (abA hlk hb hw hs)
 |sq x=>exact .inr (abB (by have:x.old.c<=B:=hB;omega) hL hw hs)
 |c1 x=>exact .inr (abC hlk hne (by have:x.old.c<=B:=hB;omega) hL hw hs)
 |ds x=>exact .inr (abD hL hw hs)
 |r1 x=>exact .inr (abE hlk hb (d rfl) hw hs)
 |r3 x=>exact .inr (abF hlk hb (d rfl) hw hs)
 |c2 x=>exact .inr (abG hlk hne (by have:x.old.c<=B:=hB;omega) hw hs)
 |t1 x=>exact .inr (abH hw hs)
 |s1 x=>
  by_cases h0:h.ms=0
  ·exact .inl ⟨x,rfl,h0,A8 hlk h0 hw hs⟩
  ·exact .inr (abI hlk hne (by omega) hw hs)
 |t2 x=>exact .inr (abJ hw hs)
 |r2 x=>
  refine .inr (abK hlk hb (fun l=>?_) (fun l=>?_) hw hs)
  ·obtain⟨_,_,i,_⟩:=hI;obtain⟨i,_⟩:=i l;cases hW':h.mu.W with
   |true=>rfl
   |false=>rw[hW']at i;simp[nT]at i
  ·obtain⟨a,_,_,j⟩:=hI;obtain⟨m,q,v,t,r,b⟩:=j l;have:nT (.r2 x)=1:=rfl;refine⟨?_,m,b⟩;cases hL':h.mu.L with
   |false=>rfl
   |true=>rw[hL']at a;simp at a;omega
 |a1 x=>
  obtain⟨a,_,_,j⟩:=hI;obtain⟨m,q,v,t,r,b⟩:=j hL.1;have:nH (.a1 x)=1:=rfl;refine .inr (abL hlk hne hb ?_ hL.1 b hw hs);cases hL':h.mu.L with
  |false=>rfl
  |true=>rw[hL']at a;simp at a;omega
 |le f=>exact .inr (abO hw hs)
 |cv f=>exact .inr (abP hlk hw hs)
 |la f=>exact .inr (abQ hlk hw hs)
 |u1=>exact .inr (abR hlk hw hs)
 |uv=>exact .inr (abS hlk hw hs)
 |ur=>exact .inr (abT hlk hw hs)
 |ud=>exact .inr (abU hw hs)
 |u0=>
  refine .inr (abV hlk hne hb ?_ hw hs);have a:=hI.1;cases hL':h.mu.L with
  |true=>rfl
  |false=>rw[hL']at a;simp[nO]at a
 |uc o=>exact .inr (abW hlk hne (by have:o.c<=B:=hB;omega) hL hw hs)
 |ux=>exact .inr (abX hlk hb hw hs)
 |us=>exact .inr (abY hlk hne (by omega) hw hs)
 |uh=>exact .inr (abZ hlk hne (by omega) hw hs)
 |ue=>exact .inr (ab0 hw hs)
 |gv=>exact .inr (ab1 hwg hw hs)
 |gr=>exact .inr (ab2 hwg hw hs)
 |gd=>exact .inr (ab3 hw hs)
 |ga=>refine .inr (ab4 hwg hne ?_ hk hW.wt hw hs);have a:=hW.k;have:nG .ga=1:=rfl;omega
 |gl=>
  have:nL .gl=1:=rfl;have n:h.wt=1/\h.k=0:=by
   cases wa with
   |false=>have:=hW.idle rfl;omega
   |true=>have:=(hW.wait rfl).2.2;omega
  exact .inr (ab5 hwg n.2 n.1 hw hs)
 |gs=>exact .inr (ab6 hwg hne hw hs)
 |gm=>exact .inr (ab7 hwg hne hws hw hs)
 |gn=>exact .inr (ab8 hw hs)
end
end
end Ph
namespace Ph
open Go Go.Conc
section
theorem ab9:ei P0 83 Ω:=fun w a=>by kernel_rfl
theorem GB:ei P0 3 Ω:=fun w a=>by kernel_rfl
theorem Tv:ei P0 34 Ω:=fun w a=>by kernel_rfl
theorem aca:ei P0 104 Ω:=fun w a=>by kernel_rfl
theorem acb:ei P0 76 ψ:=fun w a=>by kernel_rfl
theorem L7:dt P0 76 2:=fun w a=>by kernel_rfl
theorem GC:dt P0 34 1:=fun w a=>by kernel_rfl
theorem L8:P0.underlying 83=Ξ (.slice 34):=by kernel_rfl
theorem yk:bR P0 211 Ω:=by unfold bR;kernel_rfl
def fh(p:WP)(e:Int)(E:μ)(n i:Nat)(s:St)(g:Θ):Prop:=
 match s with
 |.w7=>bj (fW p tw7 [] [aZ p]) [fB []] g
 |.w8=>∃g0,bj (fW p LB [pv 7 g0] [aZ p]) [fB []] g
 |.e2=>bj (fW p LD [(11,φ (Ξ E) n n),iv 6 e] [cT p,aZ p]) [fB []] g
 |.e3=>bj (fW p LE [(11,φ (Ξ E) n n),iv 12 i,iv 13 e] [cT p,aZ p]) [fB []] g
 |.e4=>bj (fW p Gm [pv 14 (E.add i),iv 13 e] [cT p,aZ p]) [fB []] g
 |s=>bh p e s g
section
variable{p:WP}{e:Int}{E:μ}{n i:Nat}{g:Θ}{w:Z4}
theorem acd{g0:μ}(hc:w.cell? p.gb=Ξ (Ψ (Ξ g0)))(hs:fh p e E n i .w7 g):stepG P0 Ω g w=.go (fin (Ψ (Ξ g0)) g) w #[⟨.cell p.gb,Ω,Ω⟩]/\
 ak P0 Ω 200 (bj (fW p LB [pv 7 g0] [aZ p]) [fB []]) (fin (Ψ (Ξ g0)) g):=by
 have a:au g=Ξ (bI 104 (Ψ (Ξ p.gb))):=bj.head (fun F=>by kernel_rfl) g hs;exact⟨du (q:=Ω) a aca hc (by rw[bj.cg hs];exact yk),aba p g0 g hs⟩
theorem ace{g0:μ}{v1 v2:ο}(hc:w.cell? (p.cb.add 0)=Ξ v1)(hc2:w.cell? (p.cb.add 1)=Ξ v2)(hs:bj (fW p LB [pv 7 g0] [aZ p]) [fB []] g):
 stepG P0 Ω g w=.go (fin (.agg #[v1,v2]) g) w #[⟨.cell (p.cb.add 0),Ω,Ω⟩,⟨.cell (p.cb.add 1),Ω,Ω⟩]/\
 ak P0 Ω 200 (fun g'=>∃cs1,bj (fW p QG [] [aZ p]) [fB []] (G cs1.head! cs1.tail)/\cs1≠[]/\g'={frame:=Frame.enter P0 213 #[Ψ (Ξ g0),.agg #[v1,v2]] .normal,callers:=cs1,status:=.running,dying:=Z0}) (fin (.agg #[v1,v2]) g):=by
 have a:au g=Ξ (bI 76 (Ψ (Ξ p.cb))):=bj.head (fun F=>by kernel_rfl) g hs;exact⟨jp a acb L7 hc hc2 (by rw[bj.cg hs];exact yk),abb p g0 _ g hs⟩
theorem acf(hc:w.cell? p.eb=Ξ (φ (Ξ E) n n))(hs:fh p e E n i .e1 g):stepG P0 Ω g w=.go (fin (φ (Ξ E) n n) g) w #[⟨.cell p.eb,Ω,Ω⟩]/\
 ak P0 Ω 200 (fh p e E n i .e2) (fin (φ (Ξ E) n n) g):=by
 have a:bj (fW p D9 [iv 6 e] [cT p,aZ p]) [fB []] g:=hs;have b:au g=Ξ (bI 83 (Ψ (Ξ p.eb))):=bj.head (fun F=>by kernel_rfl) g a;exact⟨du (q:=Ω) b ab9 hc (by rw[bj.cg a];exact yk),SR p e _ g a⟩
theorem acg(hc:w.cell? p.ib=Ξ (Δ ξ i))(hs:fh p e E n i .e2 g):stepG P0 Ω g w=.go (fin (Δ ξ i) g) w #[⟨.cell p.ib,Ω,Ω⟩]/\
 ak P0 Ω 200 (fh p e E n i .e3) (fin (Δ ξ i) g):=by
 have a:au g=Ξ (bI 3 (Ψ (Ξ p.ib))):=bj.head (fun F=>by kernel_rfl) g hs;exact⟨du (q:=Ω) a GB hc (by rw[bj.cg hs];exact yk),SS p e i _ g hs⟩
theorem ach(hi:i<n)(hs:fh p e E n i .e3 g):stepG P0 Ω g w=.go (fin (Ψ (Ξ (E.add i))) g) w #[]/\
 ak P0 Ω 200 (fh p e E n i .e4) (fin (Ψ (Ξ (E.add i))) g):=by
 have a:au g=Ξ (l9 83 (φ (Ξ E) n n) (Δ ξ i)):=bj.head (fun F=>by kernel_rfl) g hs;exact⟨Ec a L8 GC hi,ST p e _ _ _ g hs⟩
theorem aci{v:ο}(hc:w.cell? ((E.add i).add 0)=Ξ v)(hz:w.frozen? ((E.add i).add 0)=Ω)(hs:fh p e E n i .e4 g):
 stepG P0 Ω g w=.go (fin undef g) (w.setCell ((E.add i).add 0) (Δ ξ e)) #[⟨.cell ((E.add i).add 0),ψ,Ω⟩]/\
 ak P0 Ω 200 (fh p e E n i .u1) (fin undef g):=by
 have a:bj (fW p Gm [pv 14 (E.add i),iv 13 e] [cT p,aZ p]) [fB []] g:=hs;have b:au g=Ξ (gh 34 (Ψ (Ξ (E.add i))) (Δ ξ e)):=bj.head (fun F=>by kernel_rfl) g a;exact⟨iS b GC rfl rfl hc hz (by rw[bj.cg a];exact yk),SU p e _ g a⟩
theorem acj{W:Frame}{cs:List Frame}(hs:bj (fW p QG [] [aZ p]) [fB []] (G W cs)):ak P0 Ω 200 (fh p e E n i .ld) {frame:=W.finish (Δ ξ e),callers:=cs,status:=.running,dying:=Z0}:=abc p e (G W cs) hs
end
end
section
def SC(d:bG)(ds:List bG)(cs:List Frame)(F:Nat->Nat->ο):Θ:=G (d.fr (l7 d.n (cO d.l (F 0)))) (KN ds (fun i=>F (i+1))++cs)
def aQ(d:bG)(ds:List bG)(cs:List Frame)(g:Θ):Prop:=∃F,g=SC d ds cs F
theorem jN:∀(ds:List bG) (qH:List Frame),ck ds qH=ck ds (qH.take ds.length)
 |[],qH=>by cases qH<;>simp[ck]
 |d::ds,[]=>by simp[ck]
 |d::ds,fr::qH=>by simp[ck,<-jN ds qH]
theorem lg:∀(ds:List bG) (qH:List Frame),(ck ds qH).length=min ds.length qH.length
 |[],qH=>by cases qH<;>simp[ck]
 |d::ds,[]=>by simp[ck]
 |d::ds,fr::qH=>by simp only[ck,List.length_cons,lg ds qH];omega
section
variable{P:ε}{main:Bool}{g:Θ}
theorem aQ.of{d:bG}{ds:List bG}{cs:List Frame}{r:Θ}(h1:r=G (d.fr r.frame.tmps) (ck ds r.callers++cs))(h2:(r.frame::r.callers.take ds.length).map (fun fr=>fr.tmps.size)=(d::ds).map (·.n))
 (h3:ZZ (fun(d:bG) (fr:Frame)=>d.l.map fun p=>fr.tmps.getD p.1 undef) (d::ds) (r.frame::r.callers.take ds.length)=(d::ds).map (fun d=>d.l.map Prod.snd)):aQ d ds cs r:=by
 have e1:=congrArg Goroutine.frame h1;have e2:=congrArg Goroutine.callers h1;dsimp only[G]at e1 e2;have e:=congrArg List.length h2;simp only[List.map_cons,List.length_cons,List.length_map]at e;have b:ds.length<=r.callers.length:=by
  have:(r.callers.take ds.length).length=ds.length:=by omega
  rw[List.length_take]at this;omega
 have a:r.callers.take ds.length=ck ds (r.callers.take ds.length):=by
  rw[<-jN];have c:(ck ds r.callers).length=ds.length:=by rw[lg];omega
  have:=congrArg (List.take ds.length) e2;rw[List.take_append_of_le_length (by omega)]at this;rw[this,List.take_of_length_le (by omega)]
 obtain⟨F,hF⟩:=A4 (d::ds) (r.frame::r.callers.take ds.length) (by simp only[ck];rw[<-a,<-e1]) h2 h3
 refine⟨F,?_⟩;simp only[KN,List.cons.injEq]at hF;unfold SC;rw[<-hF.1,<-hF.2,a,<-jN,<-e2];rw[h1];rw[<-e1,<-e2];rfl
theorem aQ.QF{d d':bG}{ds ds':List bG}{cs:List Frame}(stop:Θ->Bool)(k:Nat)(h1:∀F,bN P main stop k (SC d ds cs F)=G (d'.fr (bN P main stop k (SC d ds cs F)).frame.tmps) (ck ds' (bN P main stop k (SC d ds cs F)).callers++cs))
 (h2:∀F,((bN P main stop k (SC d ds cs F)).frame::(bN P main stop k (SC d ds cs F)).callers.take ds'.length).map (fun fr=>fr.tmps.size)=(d'::ds').map (·.n))
 (h3:∀F,ZZ (fun(d:bG) (fr:Frame)=>d.l.map fun p=>fr.tmps.getD p.1 undef) (d'::ds') ((bN P main stop k (SC d ds cs F)).frame::(bN P main stop k (SC d ds cs F)).callers.take ds'.length)=(d'::ds').map (fun d=>d.l.map Prod.snd))
 (g:Θ) (h:aQ d ds cs g):ak P main k (aQ d' ds' cs) g:=by
 obtain⟨F,rfl⟩:=h;exact ak.run stop k (aQ.of (h1 F) (h2 F) (h3 F))
theorem aQ.F3{d d':bG}{ds ds':List bG}{cs:List Frame}(v:ο)(stop:Θ->Bool)(k:Nat)(h1:∀F,bN P main stop k (fin v (SC d ds cs F))=G (d'.fr (bN P main stop k (fin v (SC d ds cs F))).frame.tmps) (ck ds' (bN P main stop k (fin v (SC d ds cs F))).callers++cs))
 (h2:∀F,((bN P main stop k (fin v (SC d ds cs F))).frame::(bN P main stop k (fin v (SC d ds cs F))).callers.take ds'.length).map (fun fr=>fr.tmps.size)=(d'::ds').map (·.n))
 (h3:∀F,ZZ (fun(d:bG) (fr:Frame)=>d.l.map fun p=>fr.tmps.getD p.1 undef) (d'::ds') ((bN P main stop k (fin v (SC d ds cs F))).frame::(bN P main stop k (fin v (SC d ds cs F))).callers.take ds'.length)=(d'::ds').map (fun d=>d.l.map Prod.snd))
 (g:Θ) (h:aQ d ds cs g):ak P main k (aQ d' ds' cs) (fin v g):=by
 obtain⟨F,rfl⟩:=h;exact ak.run stop k (aQ.of (h1 F) (h2 F) (h3 F))
theorem aQ.head{d:bG}{ds:List bG}{cs:List Frame}{s:Sem Next}(h:∀F,au (SC d ds cs F)=Ξ s)(g:Θ)(hg:aQ d ds cs g):au g=Ξ s:=by obtain⟨F,rfl⟩:=hg;exact h F
theorem aQ.cg{d:bG}{ds:List bG}{cs:List Frame}{g:Θ}(h:aQ d ds cs g):g.frame.fn=d.fn:=by obtain⟨F,rfl⟩:=h;rfl
end
def cz3(ds:List bG)(r:Θ):Θ×List Nat×List (List ο):=(r,(r.frame::r.callers.take ds.length.pred).map (fun fr=>fr.tmps.size),ZZ (fun(d:bG) (fr:Frame)=>d.l.map fun p=>fr.tmps.getD p.1 undef) ds (r.frame::r.callers.take ds.length.pred))
def cg3(d:bG)(ds:List bG)(cs:List Frame)(r:Θ):Θ×List Nat×List (List ο):=(G (d.fr r.frame.tmps) (ck ds r.callers++cs),(d::ds).map (·.n),(d::ds).map (fun d=>d.l.map Prod.snd))
def Xg(P:ε)(m:Bool)(k:Nat)(d:bG)(ds:List bG)(d':bG)(ds':List bG):Prop:=∀cs g,aQ d ds cs g->ak P m k (aQ d' ds' cs) g
def Xf(P:ε)(m:Bool)(k:Nat)(v:ο)(d:bG)(ds:List bG)(d':bG)(ds':List bG):Prop:=∀cs g,aQ d ds cs g->ak P m k (aQ d' ds' cs) (fin v g)
def Cg(P:ε)(k:Nat)(d:bG)(ds:List bG)(d':bG)(ds':List bG):Prop:=∀cs c0 g,aQ d ds (c0::cs) g->ak P ψ k (aQ d' ds' (c0::cs)) g
def Cf(P:ε)(k:Nat)(v:ο)(d:bG)(ds:List bG)(d':bG)(ds':List bG):Prop:=∀cs c0 g,aQ d ds (c0::cs) g->ak P ψ k (aQ d' ds' (c0::cs)) (fin v g)
theorem bJ{P:ε}{m:Bool}{k:Nat}{d d':bG}{ds ds':List bG}{cs:List Frame}(stop:Θ->Bool)(h:∀F,cz3 (d'::ds') (bN P m stop k (SC d ds cs F))=cg3 d' ds' cs (bN P m stop k (SC d ds cs F)))(g:Θ)(hg:aQ d ds cs g):ak P m k (aQ d' ds' cs) g:=aQ.QF stop k (fun f=>(wV.three (h f)).1) (fun f=>(wV.three (h f)).2.1) (fun f=>(wV.three (h f)).2.2) g hg
theorem aR{P:ε}{m:Bool}{k:Nat}{v:ο}{d d':bG}{ds ds':List bG}{cs:List Frame}(stop:Θ->Bool)(h:∀F,cz3 (d'::ds') (bN P m stop k (fin v (SC d ds cs F)))=cg3 d' ds' cs (bN P m stop k (fin v (SC d ds cs F))))(g:Θ)(hg:aQ d ds cs g):ak P m k (aQ d' ds' cs) (fin v g):=aQ.F3 v stop k (fun f=>(wV.three (h f)).1) (fun f=>(wV.three (h f)).2.1) (fun f=>(wV.three (h f)).2.2) g hg
def o6(d:bG)(ds:List bG)(s:Sem Next):Prop:=∀cs g,aQ d ds cs g->au g=Ξ s
def CL(d:bG)(ds:List bG)(s:Sem Next):Prop:=∀cs c0 g,aQ d ds (c0::cs) g->au g=Ξ s
end
section
abbrev up:=Cg P0 300
abbrev lP:=Cf P0 300
def jq:Bool->CallKind
 |true=>.deferred
 |false=>.normal
def fK(b:Bool)(T:List Item)(l:List (Nat×ο)):bG:={fn:=166,n:=43,T,l,kind:=jq b}
def fF(T:List Item)(b:Bool)(k:Int):bG:={fn:=84,n:=8,T,l:=[bv 0 b,iv 1 k]}
def kH(d:bG)(ds:List bG)(stop:Θ->Bool):Θ:=bN P0 ψ stop 300 (SC d ds [default] fun _ _=>undef)
def c8(d:bG)(ds:List bG)(v:ο)(stop:Θ->Bool):Θ:=bN P0 ψ stop 300 (fin v (SC d ds [default] fun _ _=>undef))
def ack(f:FuncId)(g:Θ):Bool:=
 g.frame.fn==f&&match g.frame.mode,g.frame.todo with
 |.run,.inRegion ops (i::_)::_=>match((ops[i]?).map (·.op):Option Op)with
  |some (.go ..)=>ψ
  |_=>Ω
 |_,_=>Ω
def CM(f:FuncId)(g:Θ):Bool:=
 g.frame.fn==f&&match g.frame.mode,g.frame.todo with
 |.run,.inRegion ops (i::_)::_=>match((ops[i]?).map (·.op):Option Op)with
  |some (.panic ..)=>ψ
  |_=>Ω
 |_,_=>Ω
def lQ(f:FuncId)(g:Θ):Bool:=g.frame.fn==f&&rE g
def gC0:=bN P0 ψ (ah 166 3) 300 {frame:=Frame.enter P0 166 #[Ψ (Ξ a0),φ (Ξ a0) 1 1,Δ ξ 5] .normal,callers:=[default],status:=.running,dying:=Z0}
def tk3:=aK gC0
def gC1:=c8 (fK Ω tk3 [pv 0 a0,(1,φ (Ξ a0) 1 1),iv 2 5]) [] (Ψ (Ξ a0)) (aC 84 4)
def Tw:=aK gC1
def L9:=cH 0 gC1
def tfp:=aK (kH {fF Tw ψ 6 with l:=[bv 4 ψ,bv 0 ψ,iv 1 6]} [fK Ω L9 [pv 0 a0,(1,φ (Ξ a0) 1 1),iv 2 5]] (CM 84))
def L':=aK (kH {fF Tw Ω 6 with l:=[bv 4 Ω,bv 0 Ω,iv 1 6]} [fK Ω L9 [pv 0 a0,(1,φ (Ξ a0) 1 1),iv 2 5]] (ah 166 20))
def tk6:=aK (c8 (fK Ω L' [pv 0 a0,(1,φ (Ξ a0) 1 1),iv 2 5,iv 19 1]) [] (φ (Ξ a0) 1 1) (ah 166 6))
def CO:=aK (c8 (fK Ω tk6 [pv 0 a0,(1,φ (Ξ a0) 1 1),iv 2 5,(20,φ (Ξ a0) 1 1)]) [] (Ψ (Ξ a0)) (eh 166))
def tk7:=aK (c8 (fK Ω CO [pv 0 a0,(1,φ (Ξ a0) 1 1),iv 2 5,(20,φ (Ξ a0) 1 1)]) [] undef (ah 166 7))
def tk8:=aK (c8 (fK Ω tk7 [pv 0 a0,(1,φ (Ξ a0) 1 1),iv 2 5]) [] (Ψ (Ξ a0)) (ah 166 8))
def uq:=aK (c8 (fK Ω tk8 [pv 0 a0,(1,φ (Ξ a0) 1 1),iv 2 5]) [] (Ψ (Ξ a0)) (aC 166 24))
def GD:=aK (kH (fK Ω uq [bv 24 ψ,(21,φ (Ξ a0) 1 1),iv 22 1,iv 23 0,pv 3 a0,pv 6 a0,pv 7 a0,pv 8 a0]) [] (ah 166 26))
structure MP where
 ca:Option μ
 n:Nat
 m:Nat
 gb:μ
 eb:μ
 lk:μ
 wg:μ
variable(b:Bool)(q:MP)(v0:ο)(i v:Int)(E ib:μ)(k:Int)(ce:μ)(w:Int)(cb:μ)
def MP.l(q:MP):List (Nat×ο):=[pv 3 q.gb,pv 6 q.eb,pv 7 q.lk,pv 8 q.wg,(21,.slice q.ca q.n q.m),iv 22 q.n]
def MP.wp(q:MP)(cb ib:μ):WP:=⟨q.wg,q.gb,cb,q.lk,q.eb,ib⟩
def eu:MP:=⟨Ξ a0,1,1,a0,a0,a0,a0⟩
def b6(b:Bool)(q:MP)(T:List Item)(ex:List (Nat×ο)):bG:=fK b T (ex++q.l)
def gA(q:MP)(T:List Item)(ex:List (Nat×ο))(ds:List Deferred):bG:={fn:=210,n:=117,T,l:=ex++[pv 0 q.wg,iv 1 1],defers:=ds}
def gAr(T:List Item)(ds:List Deferred):bG:={fn:=210,n:=117,T,l:=[],defers:=ds,mode:=.returning}
def gM(q:MP)(f:FuncId)(n:Nat)(T:List Item)(ex:List (Nat×ο)):bG:={fn:=f,n,T,l:=ex++[pv 0 q.wg]}
def gQ(q:MP)(T:List Item)(ex:List (Nat×ο)):bG:={fn:=216,n:=84,T,l:=ex++[pv 0 q.wg]}
def GE:=aK (c8 (b6 Ω eu GD [iv 23 0]) [] (Ψ (Ξ a0)) (ah 166 27))
def tk9:=aK (c8 (b6 Ω eu GE [iv 23 0]) [] (.agg #[]) (ah 166 9))
def GF:=aK (c8 (b6 Ω eu tk9 [iv 23 0]) [] (Ψ (Ξ a0)) (ah 166 10))
def yl:=aK (c8 (b6 Ω eu GF [iv 23 0]) [] (Ψ (Ξ a0)) (eh 166))
def ym:=aK (c8 (b6 Ω eu yl [iv 23 0]) [] undef (eh 166))
def gC2:=c8 (b6 Ω eu ym [iv 23 0]) [] undef (ah 210 14)
def Mb:=aK gC2
def qs:=cH 0 gC2
def gC3:=c8 (gA eu Mb [] []) [(b6 Ω eu qs [iv 23 0,pv 9 a0,pv 10 a0])] (.tuple #[]) (ah 242 9)
def CP:=aK gC3
def Mc:=cH 0 gC3
def Tx:=aK (c8 (gM eu 242 10 CP []) [gA eu Mc [bv 4 Ω] [dK],(b6 Ω eu qs [iv 23 0,pv 9 a0,pv 10 a0])] (Δ υ 0) (ah 210 48))
def CQ:=aK (kH (gA eu Tx [bv 47 Ω,(6,Δ υ 0),bv 4 Ω] [dK]) [(b6 Ω eu qs [iv 23 0,pv 9 a0,pv 10 a0])] (aC 210 67))
def Me:=aK (kH (gA eu CQ [bv 67 ψ,(6,Δ υ 0),bv 4 Ω,jv 7 0,(8,Δ .u32 0)] [dK]) [(b6 Ω eu qs [iv 23 0,pv 9 a0,pv 10 a0])] (ah 210 71))
def Mf:=aK (c8 (gA eu Me [(6,Δ υ 0),bv 4 Ω,jv 7 0,(8,Δ .u32 0)] [dK]) [(b6 Ω eu qs [iv 23 0,pv 9 a0,pv 10 a0])] (Ψ (Ξ a0)) (ah 210 72))
def yn:=aK (c8 (gA eu Mf [(6,Δ υ 0),bv 4 Ω,jv 7 0,(8,Δ .u32 0)] [dK]) [(b6 Ω eu qs [iv 23 0,pv 9 a0,pv 10 a0])] (.tuple #[]) (aC 210 74))
def Ty:=aK (kH (gA eu yn [bv 74 Ω,(6,Δ υ 0),bv 4 Ω,jv 7 0,(8,Δ .u32 0)] [dK]) [(b6 Ω eu qs [iv 23 0,pv 9 a0,pv 10 a0])] (ah 210 79))
def Tz:=aK (kH (gA eu Ty [bv 78 Ω,(6,Δ υ 0),bv 4 Ω,jv 7 0,(8,Δ .u32 0)] [dK]) [(b6 Ω eu qs [iv 23 0,pv 9 a0,pv 10 a0])] (ah 210 92))
def tar:=aK (kH (gA eu Tz [bv 91 ψ,(6,Δ υ 0),bv 4 Ω,jv 7 0,(8,Δ .u32 0)] [dK]) [(b6 Ω eu qs [iv 23 0,pv 9 a0,pv 10 a0])] rE)
def Mg:=aK (kH (gAr tar []) [(b6 Ω eu qs [iv 23 0,pv 9 a0,pv 10 a0])] (ack 166))
def gC4:=kH (b6 Ω eu uq [bv 24 Ω,iv 23 0]) [] (ah 216 7)
def tq7:=aK gC4
def cC:=cH 0 gC4
def gC5:=c8 (gQ eu tq7 []) [(b6 Ω eu cC [])] (.tuple #[]) (ah 244 6)
def nP:=aK gC5
def GJ:=cH 0 gC5
def yo:=aK (c8 (gM eu 244 7 nP []) [gQ eu GJ [],(b6 Ω eu cC [])] (Δ υ 0) (aC 216 19))
def Mh:=aK (kH (gQ eu yo [bv 19 ψ,(2,Δ υ 0),jv 3 0,(4,Δ .u32 0)]) [(b6 Ω eu cC [])] (ah 216 20))
def Mi:=aK (c8 (gQ eu Mh [(2,Δ υ 0),jv 3 0,(4,Δ .u32 0)]) [(b6 Ω eu cC [])] (.tuple #[]) (ah 216 22))
def Mj:=aK (c8 (gQ eu Mi [(2,Δ υ 0),jv 3 0,(4,Δ .u32 0)]) [(b6 Ω eu cC [])] (Ψ (Ξ a0)) (ah 216 23))
def TA:=aK (c8 (gQ eu Mj [(2,Δ υ 0),jv 3 0,(4,Δ .u32 0)]) [(b6 Ω eu cC [])] (.tuple #[]) (ah 216 27))
def TB:=aK (kH (gQ eu TA [bv 26 ψ,(2,Δ υ 0),jv 3 0,(4,Δ .u32 0)]) [(b6 Ω eu cC [])] (ah 216 32))
def A9:=aK (kH (gQ eu TB [bv 31 Ω,(2,Δ υ 0),jv 3 0,(4,Δ .u32 0)]) [(b6 Ω eu cC [])] (ah 166 32))
def gC6:=kH (gQ eu yo [bv 19 Ω,(2,Δ υ 0),jv 3 0,(4,Δ .u32 0)]) [(b6 Ω eu cC [])] (ah 254 12)
def yp:=aK gC6
def GK:=cH 0 gC6
def GL:=aK (c8 (gM eu 254 13 yp []) [gQ eu GK [(2,Δ υ 0),jv 3 0,(4,Δ .u32 0)],(b6 Ω eu cC [])] (.bool ψ) (aC 216 52))
def Mk:=aK (kH (gQ eu GL [bv 52 ψ,(2,Δ υ 0),jv 3 0,(4,Δ .u32 0)]) [(b6 Ω eu cC [])] (ah 216 56))
def Ml:=aK (c8 (gQ eu Mk [(2,Δ υ 0),jv 3 0,(4,Δ .u32 0)]) [(b6 Ω eu cC [])] (Ψ (Ξ a0)) (ah 216 57))
def TD:=aK (c8 (gQ eu Ml [(2,Δ υ 0),jv 3 0,(4,Δ .u32 0)]) [(b6 Ω eu cC [])] (.tuple #[]) (ah 216 62))
def Mm:=aK (kH (gQ eu TD [bv 61 Ω,bv 5 Ω]) [(b6 Ω eu cC [])] (ah 216 72))
def gC7:=c8 (gQ eu Mm []) [(b6 Ω eu cC [])] (.tuple #[]) (ah 244 6)
def Mn:=cH 0 gC7
def Mo:=aK (c8 (gM eu 244 7 nP []) [gQ eu Mn [],(b6 Ω eu cC [])] (Δ υ 0) (ah 216 78))
def Mp:=aK (c8 (gQ eu Mo []) [(b6 Ω eu cC [])] (.tuple #[]) (ah 216 80))
def TE:=aK (c8 (gQ eu Mp []) [(b6 Ω eu cC [])] (Ψ (Ξ a0)) (ah 216 81))
def rH:=aK (c8 (b6 Ω eu A9 []) [] (φ (Ξ a0) 1 1) (aC 166 35))
def Mr:=aK (kH (b6 Ω eu rH [bv 35 ψ,(32,φ (Ξ a0) 1 1),iv 33 1,iv 34 0]) [] (ah 166 36))
def Ms:=aK (c8 (b6 Ω eu Mr [(32,φ (Ξ a0) 1 1),iv 33 1,iv 34 0]) [] (Ψ (Ξ a0)) (ah 166 37))
def gC8:=c8 (b6 Ω eu Ms [(32,φ (Ξ a0) 1 1),iv 33 1,iv 34 0]) [] (Δ ξ 0) (aC 84 4)
def Mt:=cH 0 gC8
abbrev qt(v:Int)(k:Int)(w:Int):List (Nat×ο):=[(2,Δ υ v),jv 3 k,(4,Δ .u32 w)]
abbrev tz(v:Int)(k:Int)(w:Int):List (Nat×ο):=[(6,Δ υ v),bv 4 Ω,jv 7 k,(8,Δ .u32 w)]
abbrev iI(b:Bool)(q:MP)(cb:μ)(ib:μ)(i:Int):List bG:=[(b6 b q qs [pv 10 cb,pv 9 ib,iv 23 i])]
abbrev aaz(E:μ)(n:Nat)(i:Int):List (Nat×ο):=[(32,φ (Ξ E) n n),iv 33 n,iv 34 i]
abbrev aay(gb:μ)(v0:ο)(ca:Option μ)(n:Nat)(m:Nat)(room:Int):List (Nat×ο):=[pv 3 gb,(0,v0),(1,.slice ca n m),iv 2 room]
theorem acn(ca:Option μ)(n m:Nat)(room:Int)(gb:μ):lP (Ψ (Ξ gb)) (fK b tk3 [(0,v0),(1,.slice ca n m),iv 2 room]) [] {fF Tw (decide ((n:Int)>room)) 6 with l:=[bv 4 (decide ((n:Int)>room)),bv 0 (decide ((n:Int)>room)),iv 1 6]} [fK b L9 (aay gb v0 ca n m room)]:=by cases b<;>exact fun _ _=>aR (aC 84 4) fun _=>by kernel_rfl
theorem akV(ca:Option μ)(n m:Nat)(room:Int)(gb:μ):up {fF Tw (Ω) 6 with l:=[bv 4 (Ω),bv 0 (Ω),iv 1 6]} [fK b L9 (aay gb v0 ca n m room)] (fK b L' (iv 19 n::aay gb v0 ca n m room)) []:=by cases b<;>exact fun _ _=>bJ (ah 166 20) fun _=>by kernel_rfl
theorem TF(ca:Option μ)(n m:Nat)(room:Int)(gb E:μ):lP (φ (Ξ E) n n) (fK b L' (iv 19 n::aay gb v0 ca n m room)) [] (fK b tk6 ((20,φ (Ξ E) n n)::aay gb v0 ca n m room)) []:=by cases b<;>exact fun _ _=>aR (ah 166 6) fun _=>by kernel_rfl
theorem aco(ca:Option μ)(n m:Nat)(room:Int)(gb eb E:μ):lP (Ψ (Ξ eb)) (fK b tk6 ((20,φ (Ξ E) n n)::aay gb v0 ca n m room)) [] (fK b CO ((20,φ (Ξ E) n n)::pv 6 eb::aay gb v0 ca n m room)) []:=by cases b<;>exact fun _ _=>aR (eh 166) fun _=>by kernel_rfl
theorem Mv(ca:Option μ)(n m:Nat)(room:Int)(gb eb E:μ):lP (undef) (fK b CO ((20,φ (Ξ E) n n)::pv 6 eb::aay gb v0 ca n m room)) [] (fK b tk7 (pv 6 eb::aay gb v0 ca n m room)) []:=by cases b<;>exact fun _ _=>aR (ah 166 7) fun _=>by kernel_rfl
theorem acp(ca:Option μ)(n m:Nat)(room:Int)(gb eb lk:μ):lP (Ψ (Ξ lk)) (fK b tk7 (pv 6 eb::aay gb v0 ca n m room)) [] (fK b tk8 (pv 7 lk::pv 6 eb::aay gb v0 ca n m room)) []:=by cases b<;>exact fun _ _=>aR (ah 166 8) fun _=>by kernel_rfl
theorem acr(ca:Option μ)(n m:Nat)(room:Int)(gb eb lk wg:μ):lP (Ψ (Ξ wg)) (fK b tk8 (pv 7 lk::pv 6 eb::aay gb v0 ca n m room)) [] (b6 b ⟨ca,n,m,gb,eb,lk,wg⟩ uq [bv 24 (decide ((0:Int)<n)),iv 23 0]) []:=by cases b<;>exact fun _ _=>aR (aC 166 24) fun _=>by kernel_rfl
theorem GM:up (b6 b q uq [bv 24 ψ,iv 23 i]) [] (b6 b q GD [iv 25 i,iv 23 i]) []:=by cases b<;>exact fun _ _=>bJ (ah 166 26) fun _=>by kernel_rfl
theorem TG:lP (Ψ (Ξ ce)) (b6 b q GD [iv 25 i,iv 23 i]) [] (b6 b q GE [pv 26 ce,iv 25 i,iv 23 i]) []:=by cases b<;>exact fun _ _=>aR (ah 166 27) fun _=>by kernel_rfl
theorem TH(v:ο):lP (v) (b6 b q GE [pv 26 ce,iv 25 i,iv 23 i]) [] (b6 b q tk9 [(27,v),iv 25 i,iv 23 i]) []:=by cases b<;>exact fun _ _=>aR (ah 166 9) fun _=>by kernel_rfl
theorem acs(v:ο):lP (Ψ (Ξ ib)) (b6 b q tk9 [(27,v),iv 25 i,iv 23 i]) [] (b6 b q GF [pv 9 ib,(27,v),iv 25 i,iv 23 i]) []:=by cases b<;>exact fun _ _=>aR (ah 166 10) fun _=>by kernel_rfl
theorem TJ(v:ο):lP (Ψ (Ξ cb)) (b6 b q GF [pv 9 ib,(27,v),iv 25 i,iv 23 i]) [] (b6 b q yl [pv 10 cb,pv 9 ib,(27,v),iv 25 i,iv 23 i]) []:=by cases b<;>exact fun _ _=>aR (eh 166) fun _=>by kernel_rfl
theorem Mw(v:ο):lP (undef) (b6 b q yl [pv 10 cb,pv 9 ib,(27,v),iv 25 i,iv 23 i]) [] (b6 b q ym [pv 10 cb,pv 9 ib,(27,v),iv 23 i]) []:=by cases b<;>exact fun _ _=>aR (eh 166) fun _=>by kernel_rfl
theorem My(v:ο):lP (undef) (b6 b q ym [pv 10 cb,pv 9 ib,(27,v),iv 23 i]) [] (gA q Mb [] []) (iI b q cb ib i):=by cases b<;>exact fun _ _=>aR (ah 210 14) fun _=>by kernel_rfl
theorem TK:lP (.tuple #[]) (gA q Mb [] []) (iI b q cb ib i) (gM q 242 10 CP [pv 7 q.wg,(8,Δ υ 4294967296)]) (gA q Mc [bv 4 Ω] [dK]::iI b q cb ib i):=by cases b<;>exact fun _ _=>aR (ah 242 9) fun _=>by kernel_rfl
theorem Mz(v:Int):lP (Δ υ v) (gM q 242 10 CP [pv 7 q.wg,(8,Δ υ 4294967296)]) (gA q Mc [bv 4 Ω] [dK]::iI b q cb ib i) (gA q Tx [bv 47 (bits .and υ v 2147483648 !=0),(6,Δ υ v),bv 4 Ω] [dK]) (iI b q cb ib i):=by cases b<;>exact fun _ _=>aR (ah 210 48) fun _=>by kernel_rfl
theorem acu(v:Int):up (gA q Tx [bv 47 Ω,(6,Δ υ v),bv 4 Ω] [dK]) (iI b q cb ib i) (gA q CQ [bv 67 (decide (Γ κ (v.fdiv 4294967296)=1)),(6,Δ υ v),bv 4 Ω,jv 7 (Γ κ (v.fdiv 4294967296)),(8,Δ .u32 (Γ .u32 (bits .and υ v 2147483647)))] [dK]) (iI b q cb ib i):=by cases b<;>exact fun _ _=>bJ (aC 210 67) fun _=>by kernel_rfl
theorem TL(v k w:Int):up (gA q CQ (bv 67 ψ::tz v k w) [dK]) (iI b q cb ib i) (gA q Me (pv 70 (q.wg.add 1)::tz v k w) [dK]) (iI b q cb ib i):=by cases b<;>exact fun _ _=>bJ (ah 210 71) fun _=>by kernel_rfl
theorem TM(v k w:Int):lP (Ψ (Ξ (q.wg.add 1))) (gA q Me (pv 70 (q.wg.add 1)::tz v k w) [dK]) (iI b q cb ib i) (gA q Mf (pv 71 (q.wg.add 1)::tz v k w) [dK]) (iI b q cb ib i):=by cases b<;>exact fun _ _=>aR (ah 210 72) fun _=>by kernel_rfl
theorem TN(v k w:Int):lP (.tuple #[]) (gA q Mf (pv 71 (q.wg.add 1)::tz v k w) [dK]) (iI b q cb ib i) (gA q yn (bv 74 (decide (k<0))::tz v k w) [dK]) (iI b q cb ib i):=by cases b<;>exact fun _ _=>aR (aC 210 74) fun _=>by kernel_rfl
theorem TO(v k w:Int):up (gA q CQ (bv 67 Ω::tz v k w) [dK]) (iI b q cb ib i) (gA q yn (bv 74 (decide (k<0))::tz v k w) [dK]) (iI b q cb ib i):=by cases b<;>exact fun _ _=>bJ (aC 210 74) fun _=>by kernel_rfl
theorem TP(v k w:Int):up (gA q yn (bv 74 Ω::tz v k w) [dK]) (iI b q cb ib i) (gA q Ty (bv 78 (w !=0)::tz v k w) [dK]) (iI b q cb ib i):=by cases b<;>exact fun _ _=>bJ (ah 210 79) fun _=>by kernel_rfl
theorem TQ(v k w:Int):up (gA q Ty (bv 78 Ω::tz v k w) [dK]) (iI b q cb ib i) (gA q Tz (bv 91 (decide (k>0))::tz v k w) [dK]) (iI b q cb ib i):=by cases b<;>exact fun _ _=>bJ (ah 210 92) fun _=>by kernel_rfl
theorem acv(v k w:Int):up (gA q Tz (bv 91 ψ::tz v k w) [dK]) (iI b q cb ib i) (gAr tar [dK]) (iI b q cb ib i):=by cases b<;>exact fun _ _=>bJ (rE) fun _=>by kernel_rfl
theorem acw:up (gAr tar []) (iI b q cb ib i) (b6 b q Mg [(29,.func (.func 211) #[] (q.wp cb ib).tx),iv 23 i]) []:=by cases b<;>exact fun _ _=>bJ (ack 166) fun _=>by kernel_rfl
theorem TR(fv:ο):lP (undef) (b6 b q Mg [(29,fv),iv 23 i]) [] (b6 b q uq [bv 24 (decide (Γ ξ (i+1)<q.n)),iv 23 (Γ ξ (i+1))]) []:=by cases b<;>exact fun _ _=>aR (aC 166 24) fun _=>by kernel_rfl
theorem GN:up (b6 b q uq [bv 24 Ω,iv 23 i]) [] (gQ q tq7 []) [(b6 b q cC [])]:=by cases b<;>exact fun _ _=>bJ (ah 216 7) fun _=>by kernel_rfl
theorem acx:lP (.tuple #[]) (gQ q tq7 []) [(b6 b q cC [])] (gM q 244 7 nP [pv 5 q.wg]) [gQ q GJ [],(b6 b q cC [])]:=by cases b<;>exact fun _ _=>aR (ah 244 6) fun _=>by kernel_rfl
theorem MA:lP (Δ υ v) (gM q 244 7 nP [pv 5 q.wg]) [gQ q GJ [],(b6 b q cC [])] (gQ q yo [bv 19 (decide (Γ κ (v.fdiv 4294967296)=0)),(2,Δ υ v),jv 3 (Γ κ (v.fdiv 4294967296)),(4,Δ .u32 (Γ .u32 (bits .and υ v 2147483647)))]) [(b6 b q cC [])]:=by cases b<;>exact fun _ _=>aR (aC 216 19) fun _=>by kernel_rfl
theorem TS:up (gQ q yo (bv 19 ψ::qt v k w)) [(b6 b q cC [])] (gQ q Mh (qt v k w)) [(b6 b q cC [])]:=by cases b<;>exact fun _ _=>bJ (ah 216 20) fun _=>by kernel_rfl
theorem TU:lP (.tuple #[]) (gQ q Mh (qt v k w)) [(b6 b q cC [])] (gQ q Mi (pv 21 q.wg::qt v k w)) [(b6 b q cC [])]:=by cases b<;>exact fun _ _=>aR (ah 216 22) fun _=>by kernel_rfl
theorem TV:lP (Ψ (Ξ q.wg)) (gQ q Mi (pv 21 q.wg::qt v k w)) [(b6 b q cC [])] (gQ q Mj (pv 22 q.wg::qt v k w)) [(b6 b q cC [])]:=by cases b<;>exact fun _ _=>aR (ah 216 23) fun _=>by kernel_rfl
theorem TW:lP (.tuple #[]) (gQ q Mj (pv 22 q.wg::qt v k w)) [(b6 b q cC [])] (gQ q TA (bv 26 (decide (w=0))::qt v k w)) [(b6 b q cC [])]:=by cases b<;>exact fun _ _=>aR (ah 216 27) fun _=>by kernel_rfl
theorem acy:up (gQ q TA (bv 26 ψ::qt v k w)) [(b6 b q cC [])] (gQ q TB (bv 31 (bits .and υ v 2147483648 !=0)::qt v k w)) [(b6 b q cC [])]:=by cases b<;>exact fun _ _=>bJ (ah 216 32) fun _=>by kernel_rfl
theorem acz:up (gQ q TB (bv 31 Ω::qt v k w)) [(b6 b q cC [])] (b6 b q A9 []) []:=by cases b<;>exact fun _ _=>bJ (ah 166 32) fun _=>by kernel_rfl
theorem TX:up (gQ q yo (bv 19 Ω::qt v k w)) [(b6 b q cC [])] (gM q 254 13 yp [pv 9 q.wg,(10,Δ υ v),(11,Δ υ (Γ υ (v+1)))]) [gQ q GK (qt v k w),(b6 b q cC [])]:=by cases b<;>exact fun _ _=>bJ (ah 254 12) fun _=>by kernel_rfl
theorem TY:lP (.bool ψ) (gM q 254 13 yp [pv 9 q.wg,(10,Δ υ v),(11,Δ υ (Γ υ (v+1)))]) [gQ q GK (qt v k w),(b6 b q cC [])] (gQ q GL (bv 52 (decide (w=0))::qt v k w)) [(b6 b q cC [])]:=by cases b<;>exact fun _ _=>aR (aC 216 52) fun _=>by kernel_rfl
theorem TZ:lP (.bool Ω) (gM q 254 13 yp [pv 9 q.wg,(10,Δ υ v),(11,Δ υ (Γ υ (v+1)))]) [gQ q GK (qt v k w),(b6 b q cC [])] (gM q 244 7 nP [pv 5 q.wg]) [gQ q GJ [],(b6 b q cC [])]:=by cases b<;>exact fun _ _=>aR (ah 244 6) fun _=>by kernel_rfl
theorem T1:up (gQ q GL (bv 52 ψ::qt v k w)) [(b6 b q cC [])] (gQ q Mk (pv 55 (q.wg.add 1)::qt v k w)) [(b6 b q cC [])]:=by cases b<;>exact fun _ _=>bJ (ah 216 56) fun _=>by kernel_rfl
theorem T2:lP (Ψ (Ξ (q.wg.add 1))) (gQ q Mk (pv 55 (q.wg.add 1)::qt v k w)) [(b6 b q cC [])] (gQ q Ml (pv 56 (q.wg.add 1)::qt v k w)) [(b6 b q cC [])]:=by cases b<;>exact fun _ _=>aR (ah 216 57) fun _=>by kernel_rfl
theorem T3:lP (.tuple #[]) (gQ q Ml (pv 56 (q.wg.add 1)::qt v k w)) [(b6 b q cC [])] (gQ q TD [bv 61 (bits .and υ v 2147483648 !=0),bv 5 Ω]) [(b6 b q cC [])]:=by cases b<;>exact fun _ _=>aR (ah 216 62) fun _=>by kernel_rfl
theorem acA:up (gQ q TD [bv 61 Ω,bv 5 Ω]) [(b6 b q cC [])] (gQ q Mm [pv 70 (q.wg.add 1),bv 71 Ω]) [(b6 b q cC [])]:=by cases b<;>exact fun _ _=>bJ (ah 216 72) fun _=>by kernel_rfl
theorem T4:lP (.tuple #[]) (gQ q Mm [pv 70 (q.wg.add 1),bv 71 Ω]) [(b6 b q cC [])] (gM q 244 7 nP [pv 5 q.wg]) [gQ q Mn [],(b6 b q cC [])]:=by cases b<;>exact fun _ _=>aR (ah 244 6) fun _=>by kernel_rfl
theorem GO:lP (Δ υ v) (gM q 244 7 nP [pv 5 q.wg]) [gQ q Mn [],(b6 b q cC [])] (gQ q Mo [bv 6 (v !=0)]) [(b6 b q cC [])]:=by cases b<;>exact fun _ _=>aR (ah 216 78) fun _=>by kernel_rfl
theorem T5:lP (.tuple #[]) (gQ q Mo [bv 6 Ω]) [(b6 b q cC [])] (gQ q Mp [pv 79 q.wg,bv 6 Ω]) [(b6 b q cC [])]:=by cases b<;>exact fun _ _=>aR (ah 216 80) fun _=>by kernel_rfl
theorem T6:lP (Ψ (Ξ q.wg)) (gQ q Mp [pv 79 q.wg,bv 6 Ω]) [(b6 b q cC [])] (gQ q TE [pv 80 q.wg,bv 6 Ω]) [(b6 b q cC [])]:=by cases b<;>exact fun _ _=>aR (ah 216 81) fun _=>by kernel_rfl
theorem T7:lP (.tuple #[]) (gQ q TE [pv 80 q.wg,bv 6 Ω]) [(b6 b q cC [])] (b6 b q A9 []) []:=by cases b<;>exact fun _ _=>aR (ah 166 32) fun _=>by kernel_rfl
theorem T8(n:Nat):lP (φ (Ξ E) n n) (b6 b q A9 []) [] (b6 b q rH [bv 35 (decide ((0:Int)<n)),(32,φ (Ξ E) n n),iv 33 n,iv 34 0]) []:=by cases b<;>exact fun _ _=>aR (aC 166 35) fun _=>by kernel_rfl
theorem T9(n:Nat)(i:Int):up (b6 b q rH (bv 35 ψ::aaz E n i)) [] (b6 b q Mr (aaz E n i)) []:=by cases b<;>exact fun _ _=>bJ (ah 166 36) fun _=>by kernel_rfl
theorem Ua(n:Nat)(i:Int):lP (Ψ (Ξ ce)) (b6 b q Mr (aaz E n i)) [] (b6 b q Ms (pv 36 ce::aaz E n i)) []:=by cases b<;>exact fun _ _=>aR (ah 166 37) fun _=>by kernel_rfl
theorem Ub(n:Nat)(i e:Int):lP (Δ ξ e) (b6 b q Ms (pv 36 ce::aaz E n i)) [] {fF Tw (e !=0) e with l:=[bv 4 (e !=0),bv 0 (e !=0),iv 1 e]} [(b6 b q Mt (aaz E n i))]:=by cases b<;>exact fun _ _=>aR (aC 84 4) fun _=>by kernel_rfl
theorem acB(n:Nat)(i e:Int):up {fF Tw Ω e with l:=[bv 4 Ω,bv 0 Ω,iv 1 e]} [(b6 b q Mt (aaz E n i))] (b6 b q rH [bv 35 (decide (Γ ξ (i+1)<n)),(32,φ (Ξ E) n n),iv 33 n,iv 34 (Γ ξ (i+1))]) []:=by cases b<;>exact fun _ _=>bJ (aC 166 35) fun _=>by kernel_rfl
theorem acC(n:Nat)(i e:Int):up {fF Tw ψ e with l:=[bv 4 ψ,bv 0 ψ,iv 1 e]} [(b6 b q Mt (aaz E n i))] {fF tfp ψ e with l:=[(7,.iface 177 (.agg #[Δ ξ e]))]} [(b6 b q Mt (aaz E n i))]:=by cases b<;>exact fun _ _=>bJ (CM 84) fun _=>by kernel_rfl
def tkr:=aK (kH (b6 Ω eu rH [bv 35 Ω,(32,φ (Ξ a0) 1 1),iv 33 1,iv 34 0]) [] (lQ 166))
theorem Uc(n:Nat)(i:Int):up (b6 b q rH (bv 35 Ω::aaz E n i)) [] {fn:=166,n:=43,T:=tkr,l:=[],mode:=.returning,kind:=jq b} []:=by cases b<;>exact fun _ _=>bJ (lQ 166) fun _=>by kernel_rfl
end
section
def i9(t:ζ):Sem Next:=do pure (.value (<-Instr.alloc t ψ (.tuple #[])))
def mb(t:ζ)(x:ο):Sem Next:=do pure (.value (<-Instr.box t x))
def mkS(t:ζ)(a b:ο):Sem Next:=do pure (.value (<-Instr.makeSlice t a b))
def gp(P:ε)(t:ζ)(z:ο):Prop:=∀w es,(zeroValue t).runT P w es=(.ok z w,es)
section
variable{P:ε}{main:Bool}{g:Θ}{t:ζ}{w w':Z4}{ad:μ}{v u z:ο}{q:Bool}
theorem gp.run(h:gp P t z)(w:Z4):(zeroValue t).run P w=.ok z w:=by have:=h w #[];rw[η]at this;exact congrArg Prod.fst this
theorem gp.events(h:gp P t z)(w:Z4)(es:Array ZW):(zeroValue t).events P w es=es:=by have:=h w es;rw[η]at this;exact congrArg Prod.snd this
theorem gq(h:au g=Ξ (i9 t))(hz:gp P t z):stepG P main g w=.go (fin (Ψ (Ξ ⟨w.heap.size,0,Z0⟩)) g) (w.alloc (.cells z.cells t)) #[]:=by obtain⟨_,_,_,k,_⟩:=bU (P:=P) (main:=main) (w:=w) (w':=w.alloc (.cells z.cells t)) (es:=#[]) h;rw[k (Ψ (Ξ ⟨w.heap.size,0,Z0⟩)),ZY];rw[η];unfold i9 Instr.alloc newVar newRow;simp[hz.run,hz.events,ι,Z8]
theorem rI(h:au g=Ξ (mb t u)):stepG P main g w=.go (fin (Ψ (Ξ ⟨w.heap.size,0,Z0⟩)) g) (w.alloc (.cells u.cells t)) #[]:=by obtain⟨_,_,_,k,_⟩:=bU (P:=P) (main:=main) (w:=w) (w':=w.alloc (.cells u.cells t)) (es:=#[]) h;rw[k (Ψ (Ξ ⟨w.heap.size,0,Z0⟩)),ZY];rw[η];unfold mb Instr.box newVar newRow;simp[ι,Z8]
theorem ut{x y v2:ο}(h:au g=Ξ (gh t (Ψ (Ξ ad)) (.agg #[x,y])))(hs:dt P t 2)(hx1:x.oneCell'=ψ)(hy1:y.oneCell'=ψ)(hc:w.cell? (ad.add 0)=Ξ v)(hz:w.frozen? (ad.add 0)=Ω)
 (hc2:(w.setCell (ad.add 0) x).cell? (ad.add 1)=Ξ v2) (hz2:(w.setCell (ad.add 0) x).frozen? (ad.add 1)=Ω) (hq:bR P g.frame.fn Ω):
 stepG P main g w=.go (fin undef g) ((w.setCell (ad.add 0) x).setCell (ad.add 1) y) #[⟨.cell (ad.add 0),ψ,Ω⟩,⟨.cell (ad.add 1),ψ,Ω⟩]:=by
 obtain⟨_,_,_,_,k,_⟩:=bU (P:=P) (main:=main) (w:=w) (w':=(w.setCell (ad.add 0) x).setCell (ad.add 1) y) (es:=#[⟨.cell (ad.add 0),ψ,Ω⟩,⟨.cell (ad.add 1),ψ,Ω⟩]) h;rw[k]
 ·rw[seen_def];unfold bR at hq;simp[seenStep,hq]
 ·rw[η];unfold gh Instr.storeAt Instr.sureAddr storeVar;have a:(Value.agg #[x,y]).cells=#[x,y]:=rfl;simp[hs.run,hs.events,a,storeCells,hc,hz,hc2,hz2,ι,Z8,events_store P _ _ _ x .plain hx1,run_store P _ _ x .plain hx1,events_store P _ _ _ y .plain hy1,run_store P _ _ y .plain hy1]
theorem Ba{f:Fn}{tx:Array ο}(h:au g=Ξ (pure (.spawn {target:=.fn f tx,args:=#[]}))):
 stepG P main g w=.spawn (fin undef g) {frame:={(default:Frame)with fn:=P.funcs.size,defers:=[{target:=.fn f tx,args:=#[]}],mode:=.panicking [goexitEntry]},callers:=[],status:=.running,dying:=Z0} w #[]:=by
 unfold au at h;by_cases d:d9 g=ψ
 ·rw[if_pos d]at h;obtain⟨fr,cs,st,j,off⟩:=g;obtain⟨fn,b,todo,defers,mode,kind,l⟩:=fr;obtain⟨o,a,e⟩:=θ.1 h;obtain⟨rfl,rfl,rfl,rfl,k⟩:st=.running/\j=Z0/\off=Z0/\l=Z0/\(kind==.early)=Ω:=by unfold d9 at d;dsimp only at d;split at d<;>first|(cases d;done)|exact⟨rfl,rfl,rfl,rfl,rfl⟩
  unfold rC at a;dsimp only at a e;cases mode with
  |run=>
   cases todo with
   |nil=>cases a
   |cons i rest=>
    cases i with
    |inRegion c todo=>
     cases todo with
     |nil=>cases a
     |cons i n=>
      dsimp only at a;by_cases hw:(((c[i]?).map (Region.wanted · (yielded c b))).getD Ω)=ψ
      ·rw[if_pos hw]at a;unfold stepG;dsimp only;unfold stepG.exec;dsimp only;simp only[if_pos hw];unfold stepG.oper;simp only[Frame.oper?,a];unfold stepG.apply;have m:(execOp (Frame.eval {fn:=fn,tmps:=b,todo:=.inRegion c (i::n)::rest,defers:=defers,mode:=.run,kind:=kind,roundOf:=Z0}) o).runT P w #[]=(.ok (.spawn {target:=.fn f tx,args:=#[]}) w,#[]):=by rw[e];rfl
       simp only[if_true,m,k,χ,if_false,ZY];simp only[Bool.and_false,ZV,χ,if_false,GStep.after];rfl
      ·rw[if_neg hw]at a;cases a
    |_=>cases a
  |_=>cases a
 ·rw[if_neg d]at h;cases h
end
theorem z83:gp P0 83 (φ Z0 0 0):=fun w a=>by kernel_rfl
theorem akX:gp P0 249 (.agg #[Δ κ 0,Δ .u32 0]):=fun w a=>by kernel_rfl
theorem akY:gp P0 255 (.agg #[Δ υ 0,Δ .u32 0]):=fun w a=>by kernel_rfl
theorem z3:gp P0 3 (Δ ξ 0):=fun w a=>by kernel_rfl
theorem z76:∃v,gp P0 76 (.agg #[Δ ξ 0,v]):=⟨φ Z0 0 0,fun w a=>by kernel_rfl⟩
theorem GP(b:Bool)(q:MP)(i:Int)(cb ib:μ)(cs:List Frame)(c0:Frame)(g:Θ)(h:aQ (b6 b q Mg [(29,.func (.func 211) #[] (q.wp cb ib).tx),iv 23 i]) [] (c0::cs) g):au g=Ξ (pure (.spawn (vA (q.wp cb ib)))):=by cases b<;>exact aQ.head (fun F=>by kernel_rfl) g h
end
section
theorem akZ:∃i:TypeInfo,P0.info? 34=Ξ i/\i.zero=Ξ (Δ ξ 0)/\i.size=1/\i.bytes<=8:=by
 have b:(P0.info? 34).map (fun i=>(i.zero,i.size,decide (i.bytes<=8)))=Ξ (Ξ (Δ ξ 0),1,ψ):=by kernel_rfl
 obtain⟨i,hi,a⟩:=θ.1 b;simp only[Prod.mk.injEq,decide_eq_true_eq]at a;exact⟨i,hi,a.1,a.2.1,a.2.2⟩
def bP(n:Nat):Array ο:=Array.replicate n (Δ ξ 0)
theorem Bb(n:Nat):madeCells #[Δ ξ 0] n=bP n:=by
 unfold madeCells bP;apply Array.ext
 ·simp
 ·intro i a b;simp[Nat.mod_one]
section
variable{main:Bool}{g:Θ}{w:Z4}{n:Nat}
theorem Ef(hn:n<1048576)(h:au g=Ξ (mkS 83 (Δ ξ n) (Δ ξ n))):stepG P0 main g w=.go (fin (φ (Ξ ⟨w.heap.size,0,Z0⟩) n n) g) (w.alloc (.cells (bP n) 34)) #[]:=by
 obtain⟨i,hi,hz,hs,hb⟩:=akZ;have d:(i.bytes:Int)*(n:Int)<=281474976710656:=by
  have:i.bytes*n<=8*1048576:=Nat.mul_le_mul hb (by omega);have:((i.bytes*n:Nat):Int)<=281474976710656:=by omega
  rwa[Int.natCast_mul]at this
 have e:(n:Int).toNat*i.bytes<=140737488355328:=by have:i.bytes*n<=8*1048576:=Nat.mul_le_mul hb (by omega);rw[ZX,Nat.mul_comm];omega
 have f:(n:Int).toNat*i.size<=16777216:=by rw[ZX,hs];omega
 have a:=run_makeSlice (P:=P0) w 83 34 i _ L8 hi hz ξ ξ n n (by omega) (Int.le_refl _) f d (by omega);have c:=events_make (P:=P0) w 83 34 i _ L8 hi hz ξ ξ n n (by omega) (Int.le_refl _) d (by omega) e #[];have b:(Δ IntKind.i64 0).cells=#[Δ ξ 0]:=rfl;rw[ZX,hs,Nat.mul_one,b,Bb]at a;obtain⟨_,_,_,k,_⟩:=bU (P:=P0) (main:=main) (w:=w) (w':=w.alloc (.cells (bP n) 34)) (es:=#[]) h;rw[k (φ (Ξ ⟨w.heap.size,0,Z0⟩) n n),ZY];rw[η];unfold mkS;simp[a,c,ι,Z8]
theorem Bc{P:ε}{s:Sem Next}{v:ο}(h:au g=Ξ s)(hr:s.runT P w #[]=(.halt (.panic v) w,#[])):stepG P main g w=.go {g with frame:=g.frame.raise [{v,recovered:=Ω}]} w #[]:=by
 unfold au at h;by_cases b:d9 g=ψ
 ·rw[if_pos b]at h;obtain⟨fr,cs,st,e,off⟩:=g;obtain⟨fn,d,todo,defers,mode,kind,j⟩:=fr;obtain⟨o,a,rfl⟩:=θ.1 h;obtain⟨rfl,rfl,rfl,rfl,f⟩:st=.running/\e=Z0/\off=Z0/\j=Z0/\(kind==.early)=Ω:=by unfold d9 at b;dsimp only at b;split at b<;>first|(cases b;done)|exact⟨rfl,rfl,rfl,rfl,rfl⟩
  unfold rC at a;dsimp only at a hr;cases mode with
  |run=>
   cases todo with
   |nil=>cases a
   |cons i rest=>
    cases i with
    |inRegion c todo=>
     cases todo with
     |nil=>cases a
     |cons i k=>
      dsimp only at a;by_cases hw:(((c[i]?).map (Region.wanted · (yielded c d))).getD Ω)=ψ
      ·rw[if_pos hw]at a;unfold stepG;dsimp only;unfold stepG.exec;dsimp only;simp only[if_pos hw];unfold stepG.oper;simp only[Frame.oper?,a];unfold stepG.apply;simp only[if_true,hr,f,χ,if_false,ZY,GStep.after];rfl
      ·rw[if_neg hw]at a;cases a
    |_=>cases a
  |_=>cases a
 ·rw[if_neg b]at h;cases h
theorem uu{P:ε}{fr c:Frame}{cs:List Frame}{ch:List PanicEntry}(hm:fr.mode=.panicking ch)(hd:fr.defers=[])(hc:fr.catches P=Ω):stepG P main (G fr (c::cs)) w=.go (G (c.raise ch) cs) w #[]:=by obtain⟨fn,a,todo,defers,mode,kind,b⟩:=fr;dsimp only at hm hd;subst hm hd;unfold stepG G;dsimp only;unfold unwind;dsimp only;rw[hc];simp only[χ,if_false]
end
end
end Ph
namespace Ph
open Go Go.Conc
open Go.ConcM (muA msA MuAt ShAt Eff BookOK book_nil book_dis book_en book_one book_rw book_sem)
open Go.ConcR (stA smA WgAt mk)
section
inductive Mq where
 |q7|ql|qc (k0:Nat)|QO|KO|Bd|GQ|Eg|rJ|qm|MB|Eh|yq|kI
def Mx(s:Mq)(h:Sh)(s':Mq)(h':Sh):Prop:=
 match s with
 |.q7=>s'=.ql/\h'=h
 |.ql=>h'=h/\s'=if h.k=0 then .QO else .qc h.k
 |.qc k0=>(h.k=k0/\h'={h with wt:=1}/\s'=.GQ)\/(h.k≠k0/\h'=h/\s'=.ql)
 |.QO=>s'=.KO/\h'=h
 |.KO=>s'=.Bd/\h'=h
 |.Bd=>s'=.kI/\h'=h
 |.GQ=>s'=.Eg/\h'=h
 |.Eg=>s'=.rJ/\h'=h
 |.rJ=>0<h.ws/\h'={h with ws:=h.ws-1}/\s'=.qm
 |.qm=>s'=.MB/\h'=h
 |.MB=>s'=.Eh/\h'=h
 |.Eh=>s'=.yq/\h'=h
 |.yq=>s'=.kI/\h'=h
 |.kI=>False
def CR:Mq->Nat
 |.q7|.KO|.Bd|.Eh|.yq|.kI=>0
 |_=>1
def EvQ(Mu Wg:Nat)(s s':Mq)(es:Array ZW):Prop:=
 match s with
 |.Bd|.yq=>es=#[mk (.acquire (stA Wg))]
 |.Eg=>es=#[mk (.write (smA Wg))]
 |_=>BookOK Mu Wg (CR s) (CR s') es
def wv(k wt:Nat):Int:=(k:Int)*4294967296+(wt:Int)
def qG(k0:Nat):List (Nat×ο):=[(2,Δ υ (wv k0 0)),jv 3 (k0:Int),(4,Δ .u32 0)]
def Ei(b:Bool)(q:MP):bG:=b6 b q cC []
def ey(b:Bool)(q:MP)(cs:List Frame)(s:Mq)(g:Θ):Prop:=
 match s with
 |.q7=>aQ (gQ q tq7 []) [Ei b q] cs g
 |.ql=>aQ (gM q 244 7 nP [pv 5 q.wg]) [gQ q GJ [],Ei b q] cs g
 |.qc k0=>aQ (gM q 254 13 yp [pv 9 q.wg,(10,Δ υ (wv k0 0)),(11,Δ υ (Γ υ (wv k0 0+1)))]) [gQ q GK (qG k0),Ei b q] cs g/\k0<1073741824
 |.QO=>aQ (gQ q Mh (qG 0)) [Ei b q] cs g
 |.KO=>aQ (gQ q Mi (pv 21 q.wg::qG 0)) [Ei b q] cs g
 |.Bd=>aQ (gQ q Mj (pv 22 q.wg::qG 0)) [Ei b q] cs g
 |.GQ=>∃k0,aQ (gQ q Mk (pv 55 (q.wg.add 1)::qG k0)) [Ei b q] cs g/\k0<1073741824
 |.Eg=>∃k0,aQ (gQ q Ml (pv 56 (q.wg.add 1)::qG k0)) [Ei b q] cs g/\k0<1073741824
 |.rJ=>aQ (gQ q Mm [pv 70 (q.wg.add 1),bv 71 Ω]) [Ei b q] cs g
 |.qm=>aQ (gM q 244 7 nP [pv 5 q.wg]) [gQ q Mn [],Ei b q] cs g
 |.MB=>aQ (gQ q Mo [bv 6 Ω]) [Ei b q] cs g
 |.Eh=>aQ (gQ q Mp [pv 79 q.wg,bv 6 Ω]) [Ei b q] cs g
 |.yq=>aQ (gQ q TE [pv 80 q.wg,bv 6 Ω]) [Ei b q] cs g
 |.kI=>aQ (b6 b q A9 []) [] cs g
def nR(tM tW:ζ)(Mu Wg:Nat)(b:Bool)(q:MP)(cs:List Frame)(s:Mq)(h:Sh)(g:Θ)(w:Z4):Prop:=∃s' h' g' w' es,Mx s h s' h'/\stepG P0 ψ g w=.go g' w' es/\ShAt tM tW Mu Wg w' (dU h')/\Eff Mu Wg w w'/\EvQ Mu Wg s s' es/\ak P0 ψ 2000 (ey b q cs s') g'
theorem QP:P0.underlying 294=Ξ (.pointer 245):=by kernel_rfl
theorem QQ:(P0.info? 245).map (fun i=>decide (i.size=0))=Ξ Ω:=by kernel_rfl
section
variable{tM tW:ζ}{Mu Wg:Nat}{b:Bool}{q:MP}{cs:List Frame}{c0:Frame}{h:Sh}{g:Θ}{w:Z4}
theorem acD(hw:ShAt tM tW Mu Wg w (dU h))(hs:ey b q (c0::cs) .q7 g):nR tM tW Mu Wg b q (c0::cs) .q7 h g w:=by
 have a:au g=Ξ (ω 236 #[]):=by cases b<;>exact aQ.head (fun F=>by kernel_rfl) g hs
 exact⟨.ql,h,_,w,_,⟨rfl,rfl⟩,mC .disable (fun g h=>by cases h) F2 a,hw,Eff.refl w,book_dis 0,(acx b q cs c0 g hs).le (by omega)⟩
theorem acE(hwg:q.wg=stA Wg)(hk:h.k<1073741824)(h0:h.wt=0)(hw:ShAt tM tW Mu Wg w (dU h))(hs:ey b q (c0::cs) .ql g):nR tM tW Mu Wg b q (c0::cs) .ql h g w:=by
 have j:au g=Ξ (ω 269 #[Ψ (Ξ q.wg)]):=by cases b<;>exact aQ.head (fun F=>by kernel_rfl) g hs
 have hc:w.cell? q.wg=Ξ (Δ υ (wv h.k 0)):=by rw[hwg,hw.2.cellSt];show Ξ (Δ υ ((h.k:Int)*4294967296+(h.wt:Int)))=_;rw[h0];rfl
 refine⟨_,h,_,w,_,⟨rfl,rfl⟩,rD Sa j hc,hw,Eff.refl w,?_,?_⟩
 ·show BookOK Mu Wg 1 (CR (if _ then _ else _)) _;split<;>exact book_one 0 _ _ (.inr (by rw[hwg];rfl))
 ·refine ak.le (ak.trans (n:=300) (k:=300) (MA b q (wv h.k 0) cs c0 g hs) fun g c=>?_) (by omega);have e:=Z7 h.k 0 (by omega) (by omega);have i:(wv h.k 0).fdiv 4294967296=(h.k:Int):=by unfold wv;rw[Z9 _ (by decide)];omega
  have f:Γ κ (h.k:Int)=(h.k:Int):=wrap_small (by omega) (by omega);have l:Γ .u32 (bits .and υ (wv h.k 0) 2147483647)=0:=by
   unfold wv;rw[e]
   decide
  rw[i,f,l]at c;by_cases a:h.k=0
  ·rw[if_pos a];have e1:decide ((h.k:Int)=0)=ψ:=decide_eq_true (by omega);rw[e1]at c;have d:=TS b q _ _ _ cs c0 g c;rw[a]at d;exact d
  ·rw[if_neg a];have e1:decide ((h.k:Int)=0)=Ω:=decide_eq_false (by omega);rw[e1]at c;exact ak.mono (TX b q _ _ _ cs c0 g c) (Nat.le_refl _) fun g c=>⟨c,hk⟩
theorem acF{k0:Nat}(hwg:q.wg=stA Wg)(hne:Mu≠Wg)(hk:h.k<1073741824)(h0:h.wt=0)(hw:ShAt tM tW Mu Wg w (dU h))(hs:ey b q (c0::cs) (.qc k0) g):nR tM tW Mu Wg b q (c0::cs) (.qc k0) h g w:=by
 obtain⟨hs,c⟩:=hs;have e1:Γ υ (wv k0 0+1)=wv k0 1:=by unfold wv;rw[Z1];omega
 have e:au g=Ξ (ω 275 #[Ψ (Ξ q.wg),Δ υ (wv k0 0),Δ υ (Γ υ (wv k0 0+1))]):=by cases b<;>exact aQ.head (fun F=>by kernel_rfl) g hs
 have hc:w.cell? q.wg=Ξ (Δ υ (wv h.k 0)):=by rw[hwg,hw.2.cellSt];show Ξ (Δ υ ((h.k:Int)*4294967296+(h.wt:Int)))=_;rw[h0];rfl
 have hz:w.frozen? q.wg=Ω:=by rw[hwg];exact hw.2.thaw 0
 by_cases a:h.k=k0
 ·rw[a]at hc;refine⟨.GQ,{h with wt:=1},_,_,_,.inl ⟨a,rfl,rfl⟩,nJ aa7 e hc hz,?_,Eff.set _ _ (.inr (by rw[hwg];rfl)),book_rw 0 _ (.inr (by rw[hwg];rfl)),?_⟩
  ·rw[hwg,e1,<-a];exact hw.setWg hne _
  ·refine ak.le (ak.trans (n:=300) (k:=300) (TY b q _ _ _ cs c0 g hs) fun g d=>?_) (by omega);exact ak.mono (T1 b q _ _ _ cs c0 g d) (Nat.le_refl _) fun g d=>⟨k0,d,c⟩
 ·refine⟨.ql,h,_,_,_,.inr ⟨a,rfl,rfl⟩,kY aa7 e hc hz (fun f=>a (by unfold wv at f;omega)),hw,Eff.refl w,book_one 0 _ _ (.inr (by rw[hwg];rfl)),(TZ b q _ _ _ cs c0 g hs).le (by omega)⟩
theorem Ud(hw:ShAt tM tW Mu Wg w (dU h))(hs:ey b q (c0::cs) .QO g):nR tM tW Mu Wg b q (c0::cs) .QO h g w:=by
 have a:au g=Ξ (ω 237 #[]):=by cases b<;>exact aQ.head (fun F=>by kernel_rfl) g hs
 exact⟨.KO,h,_,w,_,⟨rfl,rfl⟩,mC .enable (fun g h=>by cases h) tw a,hw,Eff.refl w,book_en 0,(TU b q _ _ _ cs c0 g hs).le (by omega)⟩
theorem CS(hwg:q.wg=stA Wg)(hw:ShAt tM tW Mu Wg w (dU h))(hh:au g=Ξ (iC 288 219 (Ψ (Ξ q.wg)))):stepG P0 ψ g w=.go (fin (Ψ (Ξ q.wg)) g) w #[]:=iD hh QL yf QM (by rw[hwg];exact hw.2.cellSt)
theorem Ue(hwg:q.wg=stA Wg)(hw:ShAt tM tW Mu Wg w (dU h))(hs:ey b q (c0::cs) .KO g):nR tM tW Mu Wg b q (c0::cs) .KO h g w:=by
 have a:au g=Ξ (iC 288 219 (Ψ (Ξ q.wg))):=by cases b<;>exact aQ.head (fun F=>by kernel_rfl) g hs
 exact⟨.Bd,h,_,w,_,⟨rfl,rfl⟩,CS hwg hw a,hw,Eff.refl w,book_nil 0,(TV b q _ _ _ cs c0 g hs).le (by omega)⟩
theorem Uf(hwg:q.wg=stA Wg)(hw:ShAt tM tW Mu Wg w (dU h))(hs:ey b q (c0::cs) .Bd g):nR tM tW Mu Wg b q (c0::cs) .Bd h g w:=by
 have e:au g=Ξ (ω 252 #[Ψ (Ξ q.wg)]):=by cases b<;>exact aQ.head (fun F=>by kernel_rfl) g hs
 have c:(#[⟨.mark (.acquire q.wg),Ω,ψ⟩]:Array ZW)=#[mk (.acquire (stA Wg))]:=by rw[hwg];rfl
 refine⟨.kI,h,_,w,_,⟨rfl,rfl⟩,kZ .acquire (fun _ g h=>by cases h) La e,hw,Eff.refl w,c,?_⟩;refine ak.le (ak.trans (n:=300) (k:=600) (TW b q _ _ _ cs c0 g hs) fun g a=>?_) (by omega);refine ak.trans (n:=300) (k:=300) (acy b q _ _ _ cs c0 g a) fun g a=>?_
 have d:(bits .and υ (wv 0 0) 2147483648 !=0)=Ω:=by decide
 rw[d]at a;exact acz b q _ _ _ cs c0 g a
theorem Ug(hwg:q.wg=stA Wg)(hw:ShAt tM tW Mu Wg w (dU h))(hs:ey b q (c0::cs) .GQ g):nR tM tW Mu Wg b q (c0::cs) .GQ h g w:=by
 obtain⟨e,hs,c⟩:=hs;have d:au g=Ξ (iC 294 219 (Ψ (Ξ (q.wg.add 1)))):=by cases b<;>exact aQ.head (fun F=>by kernel_rfl) g hs
 have e1:q.wg.add 1=smA Wg:=by rw[hwg];rfl
 have a:=iD (P:=P0) (main:=ψ) d QP yf QQ (by rw[e1];exact hw.2.cellSm);exact⟨.Eg,h,_,w,_,⟨rfl,rfl⟩,a,hw,Eff.refl w,book_nil 1,ak.mono (T2 b q _ _ _ cs c0 g hs) (by omega) fun g f=>⟨e,f,c⟩⟩
theorem Uh(hwg:q.wg=stA Wg)(hw:ShAt tM tW Mu Wg w (dU h))(hs:ey b q (c0::cs) .Eg g):nR tM tW Mu Wg b q (c0::cs) .Eg h g w:=by
 obtain⟨c,hs,i⟩:=hs;have e1:q.wg.add 1=smA Wg:=by rw[hwg];rfl
 have j:au g=Ξ (ω 255 #[Ψ (Ξ (q.wg.add 1))]):=by cases b<;>exact aQ.head (fun F=>by kernel_rfl) g hs
 have a:(#[⟨.mark (.write (q.wg.add 1)),Ω,ψ⟩]:Array ZW)=#[mk (.write (smA Wg))]:=by rw[e1];rfl
 refine⟨.rJ,h,_,w,_,⟨rfl,rfl⟩,kZ .write (fun _ g h=>by cases h) akM j,hw,Eff.refl w,a,?_⟩;refine ak.le (ak.trans (n:=300) (k:=300) (T3 b q _ _ _ cs c0 g hs) fun g d=>?_) (by omega);have f:=Z3 c 0 (by omega) (by omega);have e:(bits .and υ (wv c 0) 2147483648 !=0)=Ω:=by unfold wv;rw[f];rfl
 rw[e]at d;exact acA b q cs c0 g d
theorem yr(hwg:q.wg=stA Wg)(h0:h.ws=0)(hw:ShAt tM tW Mu Wg w (dU h))(hs:ey b q (c0::cs) .rJ g):stepG P0 ψ g w=.go {g with status:=.blocked} w #[]:=by
 have a:au g=Ξ (ω 256 #[Ψ (Ξ (q.wg.add 1)),.bool Ω]):=by cases b<;>exact aQ.head (fun F=>by kernel_rfl) g hs
 have e1:q.wg.add 1=smA Wg:=by rw[hwg];rfl
 refine xU aa8 a rfl ?_;rw[e1,hw.2.cellSm];show Ξ (Δ IntKind.u32 (h.ws:Int))=_;rw[h0];rfl
theorem Ui(hwg:q.wg=stA Wg)(hne:Mu≠Wg)(h0:0<h.ws)(hw:ShAt tM tW Mu Wg w (dU h))(hs:ey b q (c0::cs) .rJ g):nR tM tW Mu Wg b q (c0::cs) .rJ h g w:=by
 have c:au g=Ξ (ω 256 #[Ψ (Ξ (q.wg.add 1)),.bool Ω]):=by cases b<;>exact aQ.head (fun F=>by kernel_rfl) g hs
 have e1:q.wg.add 1=smA Wg:=by rw[hwg];rfl
 have hc:w.cell? (q.wg.add 1)=Ξ (Δ .u32 (h.ws:Int)):=by rw[e1,hw.2.cellSm];rfl
 have a:=xT (P:=P0) (main:=ψ) aa8 c rfl hc (by omega) (by rw[e1];exact hw.2.thaw 1);refine⟨.qm,{h with ws:=h.ws-1},_,_,_,⟨h0,rfl,rfl⟩,a,?_,Eff.set _ _ (.inr (by rw[e1];rfl)),book_sem 0 _ (.inr (by rw[e1];rfl)),(T4 b q cs c0 g hs).le (by omega)⟩;rw[e1];have:=hw.setWs hne ((h.ws:Int) -1);have e2:(h.ws:Int) -1=((h.ws-1:Nat):Int):=by omega
 unfold dU at this⊢;dsimp only at this⊢;rw[<-e2];exact this
theorem acG(hwg:q.wg=stA Wg)(hk:h.k=0)(h0:h.wt=0)(hw:ShAt tM tW Mu Wg w (dU h))(hs:ey b q (c0::cs) .qm g):nR tM tW Mu Wg b q (c0::cs) .qm h g w:=by
 have a:au g=Ξ (ω 269 #[Ψ (Ξ q.wg)]):=by cases b<;>exact aQ.head (fun F=>by kernel_rfl) g hs
 have hc:w.cell? q.wg=Ξ (Δ υ 0):=by rw[hwg,hw.2.cellSt];show Ξ (Δ υ ((h.k:Int)*4294967296+(h.wt:Int)))=_;rw[h0,hk];rfl
 exact⟨.MB,h,_,w,_,⟨rfl,rfl⟩,rD Sa a hc,hw,Eff.refl w,book_one 0 _ _ (.inr (by rw[hwg];rfl)),(GO b q 0 cs c0 g hs).le (by omega)⟩
theorem Uj(hw:ShAt tM tW Mu Wg w (dU h))(hs:ey b q (c0::cs) .MB g):nR tM tW Mu Wg b q (c0::cs) .MB h g w:=by
 have a:au g=Ξ (ω 237 #[]):=by cases b<;>exact aQ.head (fun F=>by kernel_rfl) g hs
 exact⟨.Eh,h,_,w,_,⟨rfl,rfl⟩,mC .enable (fun g h=>by cases h) tw a,hw,Eff.refl w,book_en 0,(T5 b q cs c0 g hs).le (by omega)⟩
theorem Uk(hwg:q.wg=stA Wg)(hw:ShAt tM tW Mu Wg w (dU h))(hs:ey b q (c0::cs) .Eh g):nR tM tW Mu Wg b q (c0::cs) .Eh h g w:=by
 have a:au g=Ξ (iC 288 219 (Ψ (Ξ q.wg))):=by cases b<;>exact aQ.head (fun F=>by kernel_rfl) g hs
 exact⟨.yq,h,_,w,_,⟨rfl,rfl⟩,CS hwg hw a,hw,Eff.refl w,book_nil 0,(T6 b q cs c0 g hs).le (by omega)⟩
theorem Ul(hwg:q.wg=stA Wg)(hw:ShAt tM tW Mu Wg w (dU h))(hs:ey b q (c0::cs) .yq g):nR tM tW Mu Wg b q (c0::cs) .yq h g w:=by
 have c:au g=Ξ (ω 252 #[Ψ (Ξ q.wg)]):=by cases b<;>exact aQ.head (fun F=>by kernel_rfl) g hs
 have a:(#[⟨.mark (.acquire q.wg),Ω,ψ⟩]:Array ZW)=#[mk (.acquire (stA Wg))]:=by rw[hwg];rfl
 exact⟨.kI,h,_,w,_,⟨rfl,rfl⟩,kZ .acquire (fun _ g h=>by cases h) La c,hw,Eff.refl w,a,(T7 b q cs c0 g hs).le (by omega)⟩
end
end
section
inductive Ma where
 |GR|tA|QR|GS|ar|yt
def Ax(s:Ma)(h:Sh)(s':Ma)(h':Sh):Prop:=
 match s with
 |.GR=>s'=.tA/\h'=h
 |.tA=>h'={h with k:=h.k+1}/\s'=if h.k=0 then .QR else .ar
 |.QR=>s'=.GS/\h'=h
 |.GS=>s'=.ar/\h'=h
 |.ar=>s'=.yt/\h'=h
 |.yt=>False
def CU:Ma->Nat
 |.GR|.yt=>0
 |_=>1
def EvA(Mu Wg:Nat)(s s':Ma)(es:Array ZW):Prop:=
 match s with
 |.GS=>es=#[mk (.read (smA Wg))]
 |_=>BookOK Mu Wg (CU s) (CU s') es
def K28(b:Bool)(q:MP)(i:Int)(ib cb:μ):bG:=b6 b q qs [pv 10 cb,pv 9 ib,iv 23 i]
def aG(k:Nat):List (Nat×ο):=[(6,Δ υ (wv k 0)),bv 4 Ω,jv 7 (k:Int),(8,Δ .u32 0)]
def jO(b:Bool)(q:MP)(i:Int)(ib cb:μ)(cs:List Frame)(s:Ma)(g:Θ):Prop:=
 match s with
 |.GR=>aQ (gA q Mb [] []) [K28 b q i ib cb] cs g
 |.tA=>aQ (gM q 242 10 CP [pv 7 q.wg,(8,Δ υ 4294967296)]) [gA q Mc [bv 4 Ω] [dK],K28 b q i ib cb] cs g
 |.QR=>aQ (gA q Me (pv 70 (q.wg.add 1)::aG 1) [dK]) [K28 b q i ib cb] cs g
 |.GS=>aQ (gA q Mf (pv 71 (q.wg.add 1)::aG 1) [dK]) [K28 b q i ib cb] cs g
 |.ar=>aQ (gAr tar [dK]) [K28 b q i ib cb] cs g
 |.yt=>aQ (b6 b q Mg [(29,.func (.func 211) #[] (q.wp cb ib).tx),iv 23 i]) [] cs g
def Ej(tM tW:ζ)(Mu Wg:Nat)(b:Bool)(q:MP)(i:Int)(ib cb:μ)(cs:List Frame)(s:Ma)(h:Sh)(g:Θ)(w:Z4):Prop:=∃s' h' g' w' es,Ax s h s' h'/\stepG P0 ψ g w=.go g' w' es/\ShAt tM tW Mu Wg w' (dU h')/\Eff Mu Wg w w'/\EvA Mu Wg s s' es/\ak P0 ψ 2000 (jO b q i ib cb cs s') g'
section
variable{tM tW:ζ}{Mu Wg:Nat}{b:Bool}{q:MP}{i:Int}{ib cb:μ}{cs:List Frame}{c0:Frame}{h:Sh}{g:Θ}{w:Z4}
theorem Um(hw:ShAt tM tW Mu Wg w (dU h))(hs:jO b q i ib cb (c0::cs) .GR g):Ej tM tW Mu Wg b q i ib cb (c0::cs) .GR h g w:=by
 have a:au g=Ξ (ω 236 #[]):=by cases b<;>exact aQ.head (fun F=>by kernel_rfl) g hs
 exact⟨.tA,h,_,w,_,⟨rfl,rfl⟩,mC .disable (fun g h=>by cases h) F2 a,hw,Eff.refl w,book_dis 0,(TK b q i ib cb cs c0 g hs).le (by omega)⟩
theorem yu{k:Nat}(hk:0<k)(hs:aQ (gA q yn (bv 74 (decide ((k:Int)<0))::aG k) [dK]) [K28 b q i ib cb] (c0::cs) g):ak P0 ψ 900 (jO b q i ib cb (c0::cs) .ar) g:=by
 have e1:decide ((k:Int)<0)=Ω:=decide_eq_false (by omega);rw[e1]at hs;refine ak.trans (n:=300) (k:=600) (TP b q i ib cb _ _ _ cs c0 g hs) fun g a=>?_
 have e2:((0:Int) !=0)=Ω:=rfl;rw[e2]at a;refine ak.trans (n:=300) (k:=300) (TQ b q i ib cb _ _ _ cs c0 g a) fun g a=>?_
 have e3:decide ((k:Int)>0)=ψ:=decide_eq_true (by omega);rw[e3]at a;exact acv b q i ib cb _ _ _ cs c0 g a
theorem MC(hwg:q.wg=stA Wg)(hne:Mu≠Wg)(hk:h.k<1073741823)(h0:h.wt=0)(hw:ShAt tM tW Mu Wg w (dU h))(hs:jO b q i ib cb (c0::cs) .tA g):Ej tM tW Mu Wg b q i ib cb (c0::cs) .tA h g w:=by
 have r:au g=Ξ (ω 268 #[Ψ (Ξ q.wg),Δ υ 4294967296]):=by cases b<;>exact aQ.head (fun F=>by kernel_rfl) g hs
 have hc:w.cell? q.wg=Ξ (Δ υ (wv h.k 0)):=by rw[hwg,hw.2.cellSt];show Ξ (Δ υ ((h.k:Int)*4294967296+(h.wt:Int)))=_;rw[h0];rfl
 have e:=qF (P:=P0) (main:=ψ) aa6 r hc (by rw[hwg];exact hw.2.thaw 0);have ev:IntKind.u64.wrap (wv h.k 0+4294967296)=wv (h.k+1) 0:=by unfold wv;rw[Z1];omega
 rw[ev]at e;refine⟨_,{h with k:=h.k+1},_,_,_,⟨rfl,rfl⟩,e,?_,Eff.set _ _ (.inr (by rw[hwg];rfl)),?_,?_⟩
 ·have l:dU {h with k:=h.k+1}={dU h with wg:=wv (h.k+1) 0}:=by unfold dU wv;dsimp only;rw[h0]
  rw[hwg,l];exact hw.setWg hne _
 ·show BookOK Mu Wg 1 (CU (if _ then _ else _)) _;split<;>exact book_rw 0 _ (.inr (by rw[hwg];rfl))
 ·refine ak.le (ak.trans (n:=300) (k:=1500) (Mz b q i ib cb (wv (h.k+1) 0) cs c0 g hs) fun g a=>?_) (by omega);have o:=Z3 (h.k+1) 0 (by omega) (by omega);have j:=Z7 (h.k+1) 0 (by omega) (by omega);have f:(bits .and υ (wv (h.k+1) 0) 2147483648 !=0)=Ω:=by unfold wv;rw[o];rfl
  have p:(wv (h.k+1) 0).fdiv 4294967296=((h.k+1:Nat):Int):=by unfold wv;rw[Z9 _ (by decide)];omega
  have m:Γ κ ((h.k+1:Nat):Int)=((h.k+1:Nat):Int):=wrap_small (by omega) (by omega);have s:Γ .u32 (bits .and υ (wv (h.k+1) 0) 2147483647)=0:=by
   unfold wv;rw[j]
   decide
  rw[f]at a;refine ak.trans (n:=300) (k:=1200) (acu b q i ib cb _ cs c0 g a) fun g a=>?_
  rw[p,m,s]at a;by_cases c:h.k=0
  ·rw[if_pos c];have e1:decide (((h.k+1:Nat):Int)=1)=ψ:=decide_eq_true (by omega);rw[e1]at a;have d:=TL b q i ib cb _ _ _ cs c0 g a;rw[c]at d;exact d.le (by omega)
  ·rw[if_neg c];have e1:decide (((h.k+1:Nat):Int)=1)=Ω:=decide_eq_false (by omega);rw[e1]at a;exact ak.le (ak.trans (n:=300) (k:=900) (TO b q i ib cb _ _ _ cs c0 g a) fun g a=>yu (by omega) a) (by omega)
theorem Un(hwg:q.wg=stA Wg)(hw:ShAt tM tW Mu Wg w (dU h))(hs:jO b q i ib cb (c0::cs) .QR g):Ej tM tW Mu Wg b q i ib cb (c0::cs) .QR h g w:=by
 have c:au g=Ξ (iC 294 219 (Ψ (Ξ (q.wg.add 1)))):=by cases b<;>exact aQ.head (fun F=>by kernel_rfl) g hs
 have e1:q.wg.add 1=smA Wg:=by rw[hwg];rfl
 have a:=iD (P:=P0) (main:=ψ) c QP yf QQ (by rw[e1];exact hw.2.cellSm);exact⟨.GS,h,_,w,_,⟨rfl,rfl⟩,a,hw,Eff.refl w,book_nil 1,(TM b q i ib cb _ _ _ cs c0 g hs).le (by omega)⟩
theorem Uo(hwg:q.wg=stA Wg)(hw:ShAt tM tW Mu Wg w (dU h))(hs:jO b q i ib cb (c0::cs) .GS g):Ej tM tW Mu Wg b q i ib cb (c0::cs) .GS h g w:=by
 have e1:q.wg.add 1=smA Wg:=by rw[hwg];rfl
 have d:au g=Ξ (ω 243 #[Ψ (Ξ (q.wg.add 1))]):=by cases b<;>exact aQ.head (fun F=>by kernel_rfl) g hs
 have a:(#[⟨.mark (.read (q.wg.add 1)),Ω,ψ⟩]:Array ZW)=#[mk (.read (smA Wg))]:=by rw[e1];rfl
 refine⟨.ar,h,_,w,_,⟨rfl,rfl⟩,kZ .read (fun _ g h=>by cases h) akL d,hw,Eff.refl w,a,?_⟩;exact ak.le (ak.trans (n:=300) (k:=900) (TN b q i ib cb _ _ _ cs c0 g hs) fun g c=>yu (k:=1) (by omega) c) (by omega)
theorem acH(hw:ShAt tM tW Mu Wg w (dU h))(hs:jO b q i ib cb (c0::cs) .ar g):Ej tM tW Mu Wg b q i ib cb (c0::cs) .ar h g w:=by obtain⟨F,rfl⟩:=hs;exact⟨.yt,h,_,w,_,⟨rfl,rfl⟩,g6 .enable (fun g h=>by cases h) tw rfl rfl,hw,Eff.refl w,book_en 0,(acw b q i ib cb cs c0 _ ⟨F,rfl⟩).le (by omega)⟩
end
end
end Ph
namespace Ph
open Go Go.Conc
section
section
variable(b:Bool)(v0:ο)(ca:Option μ)(n m:Nat)(room:Int)(gb eb lk wg E ce ib cb:μ)(q:MP)(i e:Int)(v:ο)(cs:List Frame)(c0:Frame)(g:Θ)
theorem acI(h:aQ (fK b tk3 [(0,v0),(1,.slice ca n m),iv 2 room]) [] (c0::cs) g):au g=Ξ (mb 104 v0):=by cases b<;>exact aQ.head (fun F=>by kernel_rfl) g h
theorem Up(h:aQ (fK b L' [iv 19 n,pv 3 gb,(0,v0),(1,.slice ca n m),iv 2 room]) [] (c0::cs) g):au g=Ξ (mkS 83 (Δ ξ n) (Δ ξ n)):=by cases b<;>exact aQ.head (fun F=>by kernel_rfl) g h
theorem acJ(h:aQ (fK b tk6 [(20,φ (Ξ E) n n),pv 3 gb,(0,v0),(1,.slice ca n m),iv 2 room]) [] (c0::cs) g):au g=Ξ (i9 83):=by cases b<;>exact aQ.head (fun F=>by kernel_rfl) g h
theorem MD(h:aQ (fK b CO [(20,φ (Ξ E) n n),pv 6 eb,pv 3 gb,(0,v0),(1,.slice ca n m),iv 2 room]) [] (c0::cs) g):au g=Ξ (gh 83 (Ψ (Ξ eb)) (φ (Ξ E) n n)):=by cases b<;>exact aQ.head (fun F=>by kernel_rfl) g h
theorem acK(h:aQ (fK b tk7 [pv 6 eb,pv 3 gb,(0,v0),(1,.slice ca n m),iv 2 room]) [] (c0::cs) g):au g=Ξ (i9 249):=by cases b<;>exact aQ.head (fun F=>by kernel_rfl) g h
theorem acL(h:aQ (fK b tk8 [pv 7 lk,pv 6 eb,pv 3 gb,(0,v0),(1,.slice ca n m),iv 2 room]) [] (c0::cs) g):au g=Ξ (i9 255):=by cases b<;>exact aQ.head (fun F=>by kernel_rfl) g h
theorem Uq(h:aQ (b6 b q GD [iv 25 i,iv 23 i]) [] (c0::cs) g):au g=Ξ (l9 22 (.slice q.ca q.n q.m) (Δ ξ i)):=by cases b<;>exact aQ.head (fun F=>by kernel_rfl) g h
theorem Ur(h:aQ (b6 b q GE [pv 26 ce,iv 25 i,iv 23 i]) [] (c0::cs) g):au g=Ξ (bI 76 (Ψ (Ξ ce))):=by cases b<;>exact aQ.head (fun F=>by kernel_rfl) g h
theorem acM(h:aQ (b6 b q tk9 [(27,v),iv 25 i,iv 23 i]) [] (c0::cs) g):au g=Ξ (i9 3):=by cases b<;>exact aQ.head (fun F=>by kernel_rfl) g h
theorem Us(h:aQ (b6 b q GF [pv 9 ib,(27,v),iv 25 i,iv 23 i]) [] (c0::cs) g):au g=Ξ (i9 76):=by cases b<;>exact aQ.head (fun F=>by kernel_rfl) g h
theorem ME(h:aQ (b6 b q yl [pv 10 cb,pv 9 ib,(27,v),iv 25 i,iv 23 i]) [] (c0::cs) g):au g=Ξ (gh 3 (Ψ (Ξ ib)) (Δ ξ i)):=by cases b<;>exact aQ.head (fun F=>by kernel_rfl) g h
theorem MF(h:aQ (b6 b q ym [pv 10 cb,pv 9 ib,(27,v),iv 23 i]) [] (c0::cs) g):au g=Ξ (gh 76 (Ψ (Ξ cb)) v):=by cases b<;>exact aQ.head (fun F=>by kernel_rfl) g h
theorem Ut(h:aQ (b6 b q A9 []) [] (c0::cs) g):au g=Ξ (bI 83 (Ψ (Ξ q.eb))):=by cases b<;>exact aQ.head (fun F=>by kernel_rfl) g h
theorem Uu(h:aQ (b6 b q Mr [(32,φ (Ξ E) n n),iv 33 n,iv 34 i]) [] (c0::cs) g):au g=Ξ (l9 83 (φ (Ξ E) n n) (Δ ξ i)):=by cases b<;>exact aQ.head (fun F=>by kernel_rfl) g h
theorem Uv(h:aQ (b6 b q Ms [pv 36 ce,(32,φ (Ξ E) n n),iv 33 n,iv 34 i]) [] (c0::cs) g):au g=Ξ (bI 34 (Ψ (Ξ ce))):=by cases b<;>exact aQ.head (fun F=>by kernel_rfl) g h
theorem ak6:P0.underlying 22=Ξ (.slice 76):=by kernel_rfl
theorem si3:dt P0 3 1:=fun w a=>by kernel_rfl
theorem ak7:dt P0 83 1:=fun w a=>by kernel_rfl
theorem uw:bR P0 166 Ω:=by unfold bR;kernel_rfl
theorem Uw(T:List Item)(l l':List (Nat×ο))(h:aQ {fF tfp ψ e with l:=(7,.iface 177 (.agg #[Δ ξ e]))::l} [b6 b q T l'] (c0::cs) g)(w:Z4):∃s,au g=Ξ s/\s.runT P0 w #[]=(.halt (.panic (.iface 177 (.agg #[Δ ξ e]))) w,#[]):=by
 have a:(au g).map (fun s=>s.runT P0 w #[])=Ξ (.halt (.panic (.iface 177 (.agg #[Δ ξ e]))) w,#[]):=by obtain⟨F,rfl⟩:=h;cases b<;>kernel_rfl
 obtain⟨s,d,c⟩:=θ.1 a;exact⟨s,d,c⟩
end
section
variable{P:ε}{main:Bool}{g:Θ}{t:ζ}{w:Z4}{ad:μ}
theorem jr{k:IntKind}{e:ζ}{i n m z:Nat}(h:au g=Ξ (l9 t (φ (Ξ ad) n m) (.int k i)))(ht:P.underlying t=Ξ (.slice e))(hs:dt P e z)(hi:i<n):
 stepG P main g w=.go (fin (Ψ (Ξ (ad.add (i*z)))) g) w #[]:=by
 obtain⟨_,_,_,b,_⟩:=bU (P:=P) (main:=main) (w:=w) (w':=w) (es:=(l9 t (φ (Ξ ad) n m) (.int k i)).events P w #[]) h;have a:(l9 t (φ (Ξ ad) n m) (.int k i)).events P w #[]=#[]:=by
  unfold l9 Instr.indexAt;simp[asIntOf,run_underlying ht,hi,hs.run,ι,Z8]
  try (intro h;omega)
 rw[b (Ψ (Ξ (ad.add (i*z)))),a,ZY];rw[η];unfold l9 Instr.indexAt;simp[asIntOf,run_underlying ht,hi,hs.run,ι]
end
end
end Ph
