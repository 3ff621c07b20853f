/- A part of the proof of GcKnown; no conditions. -/
import Derived.Test.YtbnmpafbfoaggaaGreatDoorQ12
set_option linter.unusedVariables false
set_option linter.unusedSimpArgs false
set_option maxRecDepth 100000
set_option maxHeartbeats 16000000
noncomputable section
open Go renaming Goroutine->Ω,World->η,Frame->Z4,Event->ZT,Value->ZP
open Go.Conc renaming mem_ofEvents->Ψ,Deaf_other->Z0,QuitsD->ZX,Deaf->ZU,awake_of->ZR,runT_crowd_go->ZL
open Go.MemOp renaming ofEvents->Ξ
open Go.Obj renaming cells->Θ
open Go.Value renaming pointer->Δ,int->υ,slice->Z8,agg->Z7
open Option renaming some->Γ,map_eq_some_iff->ο,none->μ
open Bool renaming false->ω,true->ψ
open Go.MemAct renaming ofEvent->χ
open Array renaming size_setIfInBounds->φ,getElem?_push->ι,size_push->ε,getElem?_eq_getElem->Z9,getElem?_push_lt->Z2,mem_of_getElem?->Z1,mem_singleton->ZZ,getElem?_setIfInBounds_ne->ZW,size_map->ZS,getElem?_eq_some_iff->ZQ,getElem?_push_size->ZO,mem_iff_getElem?->ZM
open Go.IntKind renaming i64->ξ,wrap->Z3,wrap_i64->ZY
open Classical renaming byContradiction->κ
open List renaming mem_cons_self->θ,mem_cons_of_mem->ζ,not_mem_nil->ZV,mem_cons->ZN
namespace Go.Proofs.YtbnmpafbfoaggaaGreatDoor
namespace Ph
open Go Go.Conc
open Go.ConcN (sumTo upd sumTo_upd upd_ne upd_same RelBy)
open Go.ConcM (muA msA MuAt ShAt Eff BookOK Bk2)
open Go.ConcR (stA smA WgAt mk)
theorem alp{s s':St}{h h':Sh}(hx:Nx s h s' h'):h'.k<=h.k:=by
 cases s with
 |w7=>exact hx.elim
 |w8=>exact hx.elim
 |pv=>exact hx.elim
 |fin=>exact hx.elim
 |ga=>obtain⟨rfl,_⟩:=hx;exact Nat.sub_le _ _
 |gs=>obtain⟨_,rfl⟩:=hx;exact Nat.zero_le _
 |l0=>rcases hx with⟨_,_,rfl⟩|⟨_,_,rfl⟩<;>exact Nat.le_refl _
 |c1 x=>rcases hx with⟨_,_,rfl⟩|⟨_,_,rfl⟩<;>exact Nat.le_refl _
 |c2 x=>rcases hx with⟨_,rfl,_⟩|⟨_,_,rfl⟩<;>exact Nat.le_refl _
 |uc x=>rcases hx with⟨_,_,rfl⟩|⟨_,_,rfl⟩<;>exact Nat.le_refl _
 |s1 x=>obtain⟨_,rfl,_⟩:=hx;exact Nat.le_refl _
 |sq x=>obtain⟨rfl,_⟩:=hx;exact Nat.le_refl _
 |t1 x=>obtain⟨rfl,_⟩:=hx;exact Nat.le_refl _
 |t2 x=>obtain⟨rfl,_⟩:=hx;exact Nat.le_refl _
 |r2 x=>obtain⟨rfl,_⟩:=hx;exact Nat.le_refl _
 |u0=>obtain⟨rfl,_⟩:=hx;exact Nat.le_refl _
 |gm=>obtain⟨_,rfl⟩:=hx;exact Nat.le_refl _
 |us=>obtain⟨_,rfl⟩:=hx;exact Nat.le_refl _
 |uh=>obtain⟨_,rfl⟩:=hx;exact Nat.le_refl _
 |a1 x=>obtain⟨_,rfl⟩:=hx;exact Nat.le_refl _
 |_=>obtain⟨_,rfl⟩:=hx;exact Nat.le_refl _
def early:St->Bool
 |.w7|.w8|.pv|.ld=>ψ
 |_=>ω
theorem rO{s:St}(h:early s=ψ):nO s=0/\nA s=0/\nT s=0/\nQ s=0/\nH s=0/\nU s=0/\nV s=0/\nC s=0/\nG s=1/\nL s=0/\nM s=0/\cu s=ω/\dC s=ω/\ez s=ω/\il s=ω:=by cases s<;>first|(cases h;done)|exact⟨rfl,rfl,rfl,rfl,rfl,rfl,rfl,rfl,rfl,rfl,rfl,rfl,rfl,rfl,rfl⟩
theorem Ep{s:St}{h:Sh}{B:Nat}(he:early s=ψ):aaA h s/\rG B s:=by cases s<;>first|(cases he;done)|exact⟨trivial,trivial⟩
structure PgF(K:PC)(D:CD)(j:Nat)(dn:Bool)(s':St)(h':Sh)(l' k' z':Nat)(g g':Ω):Prop where
 gi:GI D.r (upd D.st j s') h'
 wg:mW (wa D.s) (xa D.s) h' (cnt D.r nG (upd D.st j s')) (cnt D.r nL (upd D.st j s')) (cnt D.r nM (upd D.st j s'))
 vM:rG K.n s'
 GZ:cu s'=(cu (D.st j)||(dn&&ez (D.st j)))
 rel:dC s'=(dC (D.st j)||(dn&&il (D.st j)))
 le:l'<=D.l j
 k:h'.k<=D.h.k
 wake:dY g g'=ω->h'.ms<=D.h.ms/\h'.ws<=D.h.ws
 z:z'=0->h'.ms=0
 low:(l'<D.l j)\/(l'=D.l j/\h'.k=D.h.k/\meas D.r (upd D.st j s') h'<meas D.r D.st D.h)\/(l'=D.l j/\s'=D.st j/\h'=D.h/\(k'<D.kk j\/(k'=D.kk j/\z'<D.zz j/\dY g g'=ω)))
theorem He{K:PC}{D:CD}{j:Nat}{dn:Bool}{s':St}{h':Sh}{l' k' z':Nat}{g g':Ω}(C:CN K D)(hj:j<D.r)(pg:WPg dn (D.st j) s' D.h h' (D.l j) l' (D.kk j) k' (D.zz j) z' g g')(hg':g'.status≠.waiting):PgF K D j dn s' h' l' k' z' g g':=by
 have m:=C.vM j hj;rcases pg with⟨rfl,rfl,rfl,rfl,N⟩|⟨rfl,c,p,q,hz,A⟩|⟨rfl,rfl,p,hz,hs⟩
 ·rw[<-n6 D.st j]at m;refine⟨by rw[n6];exact C.gi,by rw[n6];exact C.wg,C.vM j hj,by simp,by simp,Nat.le_refl _,Nat.le_refl _,fun _=>⟨Nat.le_refl _,Nat.le_refl _⟩,fun h0=>?_,.inr (.inr ⟨rfl,rfl,rfl,?_⟩)⟩
  ·rcases N with⟨_,h⟩|⟨_,h,a,_⟩
   ·exact C.zw j hj (by rw[<-h];exact h0)
   ·exact a
  ·rcases N with⟨h,_⟩|⟨a,M,_,X⟩
   ·exact .inl h
   ·refine .inr ⟨a,M,?_⟩;unfold dY;rw[X];simp
 ·have t:=G8 c;have W:=C.wg;have e:∀F:St->Nat,cnt D.r F D.st-F (D.st j)+F (D.st j)=cnt D.r F D.st:=fun F=>Nat.sub_add_cancel (gj hj)
  have y:∀F:St->Nat,cnt D.r F (upd D.st j s')=cnt D.r F D.st-F (D.st j)+F s':=fun F=>by have a:=lO (F:=F) (st:=D.st) hj s';have M:=gj (F:=F) (st:=D.st) hj;omega
  have b:mW (wa D.s) (xa D.s) D.h ((cnt D.r nG D.st-nG (D.st j))+nG (D.st j)) ((cnt D.r nL D.st-nL (D.st j))+nL (D.st j)) ((cnt D.r nM D.st-nM (D.st j))+nM (D.st j)):=by rw[e,e,e];exact W
  have G:=b.core c;refine⟨C.gi.step hj c,by rw[y,y,y];exact G,c.akU (Nat.le_trans C.gi.wW.1 C.rn) m,by rw[t.GZ];simp,by rw[t.rel];simp,by rw[q,p];exact t.lv,alp c,fun hw=>?_,fun h0=>by omega,?_⟩
  ·apply κ;intro hn;have a:D.h.ms<h'.ms\/D.h.ws<h'.ws:=by omega
   obtain⟨q1,q2⟩:=A a;unfold dY at hw;rw[q1,q2]at hw;cases hw
  ·rcases Nat.lt_or_ge l' (D.l j)with h|h
   ·exact .inl h
   ·right;left;have u:l'=D.l j:=Nat.le_antisymm (by rw[q,p];exact t.lv) h;refine⟨u,?_,C.gi.lower hj c⟩;apply κ;intro o;rcases adt c o with a|a
    ·omega
    ·have f:=c;rw[a]at f b;obtain⟨_,rfl⟩:=f;have n1:nL .gs=1:=rfl;cases hwa:wa D.s with
     |false=>have:=(b.idle hwa).2.2.1;omega
     |true=>have:=(b.wait hwa).2.2;apply o;show 0=D.h.k;omega
 ·have d:early (D.st j)=ψ/\early s'=ψ:=by rcases hs with⟨a,rfl⟩|⟨a,rfl⟩|⟨a,rfl|rfl⟩<;>rw[a]<;>exact⟨rfl,rfl⟩
  obtain⟨a1,a2,Y,a4,Z,a6,T,P,a9,z,E,J,L,GR,H⟩:=rO d.1;obtain⟨R,b2,V,b4,S,U,b7,b8,b9,w,v,I,x,Q,b15⟩:=rO d.2;have O:=Ep (h:=D.h) (B:=K.n) d.2;refine⟨⟨?_,fun i hi=>?_⟩,?_,O.2,by rw[I,J,GR];rfl,by rw[x,L,H];rfl,Nat.le_of_lt p,Nat.le_refl _,fun _=>⟨Nat.le_refl _,Nat.le_refl _⟩,fun h0=>by omega,.inl p⟩
  ·rw[eA hj (by rw[R,a1]),eA hj (by rw[b2,a2]),eA hj (by rw[V,Y]),eA hj (by rw[b4,a4]),eA hj (by rw[S,Z]),eA hj (by rw[U,a6]),eA hj (by rw[b7,T]),eA hj (by rw[b8,P])];exact C.gi.Ee
  ·simp only[upd];split
   ·exact O.1
   ·exact C.gi.loc i hi
  ·rw[eA hj (by rw[b9,a9]),eA hj (by rw[w,z]),eA hj (by rw[v,E])];exact C.wg
theorem MZ{K:PC}{r i c:Nat}{s:cZ}{w w':η}(h:tD K r i c s w)(hi:nW s=ψ->w'.heap[i]?=w.heap[i]?)(hc:pc s=ψ->w'.heap[c]?=w.heap[c]?):tD K r i c s w':=by
 cases s with
 |vL=>show w'.heap[i]?=_;rw[hi rfl];exact h
 |iJ=>obtain⟨b,u,v,a⟩:=h;exact⟨by rw[hi rfl];exact b,u,v,by rw[hc rfl];exact a⟩
 |iK=>obtain⟨b,u,v,a⟩:=h;exact⟨by rw[hi rfl];exact b,u,v,by rw[hc rfl];exact a⟩
 |ad t=>obtain⟨b,a⟩:=h;exact⟨by rw[hi rfl];exact b,by rw[hc rfl];exact a⟩
 |_=>trivial
theorem adK{h h':Sh}{s:cZ}(hk:h'.k=h.k):rM h' s=rM h s:=by
 cases s with
 |mq t=>cases t<;>simp[rM,hk]
 |ad t=>cases t<;>rfl
 |_=>rfl
theorem Er{Sh:Go.Loc->Prop}{B g:Nat}{t:Trace}{fn:FuncId}{pos:String}{es:Array ZT}(h:Past Sh B t)(hg:g≠0)(hq:∀i x,touchAt t i=Γ x->(∃e∈es,∃y,(χ e).touch?=Γ y/\y.loc=x.loc) ->x.loc.isMemory=ψ->x.kind≠.plain)
 (hes:∀(i:Nat) (e:ZT),es[i]?=Γ e->(χ e).touch?=μ\/((∃ad wr,e=⟨.cell ad,wr,ψ⟩)/\0<deafBehind (ZU t g) (es.extract 0 i)))
 (hsh:∀e∈es,∀x,(χ e).touch?=Γ x->x.loc.isMemory=ψ->Sh x.loc/\x.kind=.atomic) (hl:∀e∈es,(χ e).low B):Past Sh B (t++Ξ g fn pos es):=by
 have n:∀e∈es,∀x,(χ e).touch?=Γ x->x.loc.isMemory=ψ:=by
  intro e d x m;obtain⟨i,hi⟩:=ZM.1 d;rcases hes i e hi with h0|⟨⟨ad,wr,rfl⟩,_⟩
  ·rw[h0]at m;cases m
  ·simp only[χ,MemAct.touch?,Option.some.injEq]at m;subst m;rfl
 refine⟨fun o=>noRace_append (g:=g) (h.clean o) gu fun i a I op f b hb hc=>?_,fun i a I v=>?_,fun i s p C hc=>?_,?_,seen_app h.seen fun op f=>?_⟩
 ·exfalso;obtain⟨e,d,rfl⟩:=Ψ f;obtain⟨c1,c2,c3,P⟩:=hc;obtain⟨hs,k⟩:=hsh e d b hb (n e d b hb);rcases P with e1|e1|⟨_,_,e1⟩
  ·exact hq i a I ⟨e,d,b,hb,c1.symm⟩ c2 e1
  ·rw[k]at e1;cases e1
  ·rw[k]at e1;cases e1
 ·rcases cc I with⟨hi,c⟩|⟨op,f,c,l⟩
  ·exact(h.known i a c v).imp (·.app _) id
  ·obtain⟨e,d,rfl⟩:=Ψ f;exact .inr (hsh e d a c v)
 ·obtain⟨op,l,J⟩:=ο.1 p;rcases getElem?_append_cases l with⟨hi,_⟩|⟨A,v⟩
  ·obtain⟨j,M,N⟩:=h.over i s (by rw[<-Go.Conc.g?_old (u:=Ξ g fn pos es) hi];exact p) C ((counts_old hi).1 hc);have w:j<t.size:=by obtain⟨z,hz,_⟩:=ο.1 M;exact lt_size_of_getElem? hz
   exact⟨j,by rw[Go.Conc.g?_old w];exact M,hb_app _ N⟩
  ·exfalso;have H:s=g:=by rw[<-J];exact gu op v
   subst H;obtain⟨x,m,_,k⟩:=hc;obtain⟨O,r,c⟩:=touch_of m;rw[l]at r;cases r
   have w:(Ξ s fn pos es)[i-t.size]?=Γ op:=by rw[Array.getElem?_append]at l;simpa[Nat.not_lt.2 A]using l
   rw[ofEvents_eq,Array.getElem?_map]at w;obtain⟨e,d,rfl⟩:=ο.1 w;have D:i-t.size<=es.size:=by
    rcases Nat.lt_or_ge (i-t.size) es.size with K|K
    ·omega
    ·rw[Array.getElem?_eq_none K]at d;cases d
   rcases hes _ e d with h0|⟨⟨ad,wr,rfl⟩,hd⟩
   ·simp only at c;rw[h0]at c;cases c
   ·have G:x.kind=.atomic:=(hsh _ (Z1 d) x c (n _ (Z1 d) x c)).2;rcases k with k|⟨L,q,E⟩
    ·exact k G
    ·have F:L=s:=by simp[Trace.g?,l]at q;exact q.symm
     subst F;have:=deaf_inside t L fn pos es (i-t.size) D;rw[show t.size+(i-t.size)=i by omega,E]at this;omega
 ·rw[Z0 t hg _ gu];exact h.hears
 ·obtain⟨e,d,rfl⟩:=Ψ f;exact hl e d
section
def CD.qu(D:CD)(j:Nat)(s':St)(X':Nat->Prop)(l' k' z':Nat)(h':Sh)(wk:Bool)(f':Nat->Nat):CD:={D with st:=upd D.st j s',X:=upd D.X j X',l:=upd D.l j l',kk:=upd D.kk j k',zz:=upd (fun a=>if wk then 1 else D.zz a) j z',z:=if wk then 1 else D.z,h:=h',f:=upd D.f j f'}
section
variable{K:PC}{w0 w w':η}{D:CD}{gs:Array Ω}{t:Trace}{j:Nat}{dn:Bool}{s':St}{X':Nat->Prop}{l' k' z':Nat}{h':Sh}{g g':Ω}{es:Array ZT}{f':Nat->Nat}
theorem Bk(hj:j<D.r){wk:Bool}(hp:cu s'=(cu (D.st j)||(dn&&ez (D.st j))))(i:Nat):(if(dn=ψ/\ez (D.st j)=ψ)/\i=j then K.ev j else valOf K D i)=valOf K (D.qu j s' X' l' k' z' h' wk f') i:=by
 show(if(dn=ψ/\ez (D.st j)=ψ)/\i=j then K.ev j else if i<D.r/\cu (D.st i)=ψ then K.ev i else 0)=(if i<D.r/\cu (upd D.st j s' i)=ψ then K.ev i else 0);by_cases a:i=j
 ·subst a;simp only[upd_same,hp];by_cases b:dn=ψ/\ez (D.st i)=ψ
  ·rw[if_pos ⟨b,trivial⟩,if_pos ⟨hj,by rw[b.1,b.2];simp⟩]
  ·rw[if_neg (fun h=>b h.1)];have:(dn&&ez (D.st i))=ω:=by cases dn<;>cases h2:ez (D.st i)<;>simp_all
   simp only[this,Bool.or_false]
 ·rw[if_neg (fun h=>a h.2)];simp only[upd_ne _ _ a]
theorem M0(A:dX K)(C:CW K w0 D w)(hj:j<D.r){wk:Bool}(F:uz K j dn (D.st j) s' (D.X j) X' h' (valOf K D) w w')(hp:cu s'=(cu (D.st j)||(dn&&ez (D.st j))))(hl:l'<=D.l j)(h4:4<=l'->X'=D.X j)(hf1:D.st j=.pv->s'≠.pv->(∀x,X' x->∃i,i<K.C/\x=f' i)/\l'<=2)(hf2:¬(D.st j=.pv/\s'≠.pv) ->f'=D.f j)(hpl:D.st j=.pv->2<D.l j):CW K w0 (D.qu j s' X' l' k' z' h' wk f') w':=by
 have W:=C.at_;have hsz:=W.size;have H:∀x,D.X j x->K.B0+5<=x:=fun x t=>(C.xr j x t).2.1
 have keep:∀x,x<w.heap.size->x≠K.B0+1->x≠K.B0+3->x≠K.B0+4->¬D.X j x->w'.heap[x]?=w.heap[x]?:=fun x B z T h4 h5=>F.others x B z T h4 fun _=>h5
 have u:∀x,x<w.heap.size->(∀k,¬D.X k x) ->∀k,¬upd D.X j X' k x:=by
  intro x t Y k n;by_cases d:k=j
  ·subst d;rw[upd_same]at n;have:=(F.fresh x n (Y k)).1;omega
  ·rw[upd_ne _ _ d]at n;exact Y k n
 have O:=C.zs;refine⟨F.tape.trans C.tape,F.output.trans C.output,C.os.trans F.os,⟨by have:=F.size;omega,fun b hb=>?_,?_,?_,?_,F.sh⟩,fun k n=>?_,?_,C.hz,⟨O.1,by have:=F.size;exact Nat.le_trans O.2 this⟩,fun k n=>?_,fun h=>?_,fun h=>?_,fun k x t=>?_,fun k J x B z=>?_,fun k n y=>?_,fun x I G=>?_,fun x I G=>?_⟩
 ·rw[keep b (by omega) (by omega) (by omega) (by omega) fun h=>by have:=H b h;omega];exact W.low b hb
 ·rw[keep K.B0 (by omega) (by omega) (by omega) (by omega) fun h=>by have:=H K.B0 h;omega];exact W.gb
 ·obtain⟨cs,B,z,T⟩:=F.er;exact⟨cs,B,z,fun i hi=>by rw[T i hi,Bk hj hp]⟩
 ·rw[keep (K.B0+2) (by omega) (by omega) (by omega) (by omega) fun h=>by have:=H (K.B0+2) h;omega];exact W.eb
 ·obtain⟨Z,b2⟩:=C.box k n;obtain⟨q1,p,v,S,q5⟩:=C.hz k n;obtain⟨n1,n2⟩:=C.Bj k n j;exact⟨by show w'.heap[D.ib k]?=_;rw[keep (D.ib k) (by omega) (by omega) (by omega) (by omega) n1];exact Z,by show w'.heap[D.cb k]?=_;rw[keep (D.cb k) (by omega) (by omega) (by omega) (by omega) n2];exact b2⟩
 ·refine MZ C.Hd (fun h=>?_) fun h=>?_
  ·obtain⟨q1,p,v⟩:=C.hi h;exact keep D.i (by omega) (by omega) (by omega) (by omega) (v j)
  ·obtain⟨q1,p,_,v⟩:=C.hc h;exact keep D.c (by omega) (by omega) (by omega) (by omega) (v j)
 ·obtain⟨q1,p,v,S,q5⟩:=C.hz k n;have hb:=C.Bj k n;exact fun J=>⟨u _ (by show D.ib k<_;omega) (fun m=>(hb m).1) J,u _ (by show D.cb k<_;omega) (fun m=>(hb m).2) J⟩
 ·obtain⟨q1,p,v⟩:=C.hi h;exact⟨q1,Nat.lt_of_lt_of_le p F.size,u _ p v⟩
 ·obtain⟨q1,p,v,S⟩:=C.hc h;exact⟨q1,Nat.lt_of_lt_of_le p F.size,v,u _ p S⟩
 ·have t:upd D.X j X' k x:=t;by_cases d:k=j
  ·subst d;rw[upd_same]at t;by_cases N:D.X k x
   ·obtain⟨q1,p,v⟩:=C.xr k x N;exact⟨q1,p,Nat.lt_of_lt_of_le v F.size⟩
   ·obtain⟨q1,p⟩:=F.fresh x t N;exact⟨hj,by omega,p⟩
  ·rw[upd_ne _ _ d]at t;obtain⟨q1,p,v⟩:=C.xr k x t;exact⟨q1,p,Nat.lt_of_lt_of_le v F.size⟩
 ·have B:upd D.X j X' k x:=B;have z:upd D.X j X' J x:=z;have M:∀{a b:Nat},a=j->b≠j->upd D.X j X' a x->upd D.X j X' b x->a=b:=by
   intro a b ha hb V Q;subst ha;rw[upd_same]at V;rw[upd_ne _ _ hb]at Q;by_cases N:D.X a x
   ·exact C.xd _ _ _ N Q
   ·have:=(F.fresh x V N).1;have:=(C.xr _ _ Q).2.2;omega
  by_cases e1:k=j<;>by_cases e2:J=j
  ·rw[e1,e2]
  ·exact M e1 e2 B z
  ·exact(M e2 e1 z B).symm
  ·rw[upd_ne _ _ e1]at B;rw[upd_ne _ _ e2]at z;exact C.xd _ _ _ B z
 ·have y:4<=upd D.l j l' k:=y;show upd D.X j X' k=_;by_cases d:k=j
  ·subst d;rw[upd_same]at y⊢;rw[h4 y];exact C.x4 k n (by omega)
  ·rw[upd_ne _ _ d]at y⊢;exact C.x4 k n y
 ·show(∃k,k<D.r/\upd D.st j s' k=.pv/\upd D.X j X' k x)\/_;have o:D.st j=.pv->X' x->(∃k,k<D.r/\upd D.st j s' k=.pv/\upd D.X j X' k x)\/∃cs e f,w'.heap[x]?=Γ (.cells cs e f)/\K.TT e:=by
   intro g t;by_cases hs:s'=.pv
   ·exact .inl ⟨j,hj,by rw[upd_same];exact hs,by rw[upd_same];exact t⟩
   ·exact .inr (F.rows g hs x t)
  by_cases E:x<w.heap.size
  ·rcases C.rows x I E with⟨k,n,g,L⟩|⟨cs,e,f,hc,hT⟩
   ·by_cases d:k=j
    ·subst d;exact o g (F.grow x L)
    ·exact .inl ⟨k,n,by rw[upd_ne _ _ d];exact g,by rw[upd_ne _ _ d];exact L⟩
   ·by_cases U:D.st j=.pv/\D.X j x
    ·exact o U.1 (F.grow x U.2)
    ·exact .inr ⟨cs,e,f,by rw[F.others x E (by omega) (by omega) (by omega) fun B z=>U ⟨B,z⟩];exact hc,hT⟩
  ·have q:=F.full x (by omega) G;by_cases g:D.st j=.pv
   ·exact o g q
   ·rw[F.keep g]at q;have:=(C.xr _ _ q).2.2;omega
 ·show(∃k,k<D.r/\upd D.st j s' k=.pv/\upd D.X j X' k x)\/(∃k,k<D.r/\upd D.l j l' k<=2/\∃i,i<K.C/\x=upd D.f j f' k i)\/(∃k,k<D.r/\(x=D.ib k\/x=D.cb k))\/(nW D.s=ψ/\x=D.i)\/(pc D.s=ψ/\x=D.c);have o:D.st j=.pv->X' x->(∃k,k<D.r/\upd D.st j s' k=.pv/\upd D.X j X' k x)\/(∃k,k<D.r/\upd D.l j l' k<=2/\∃i,i<K.C/\x=upd D.f j f' k i)\/(∃k,k<D.r/\(x=D.ib k\/x=D.cb k))\/(nW D.s=ψ/\x=D.i)\/(pc D.s=ψ/\x=D.c):=by
   intro g t;by_cases hs:s'=.pv
   ·exact .inl ⟨j,hj,by rw[upd_same];exact hs,by rw[upd_same];exact t⟩
   ·obtain⟨q1,p⟩:=hf1 g hs;exact .inr (.inl ⟨j,hj,by rw[upd_same];exact p,by rw[upd_same];exact q1 x t⟩)
  by_cases E:x<w.heap.size
  ·rcases C.who x I E with⟨k,n,g,L⟩|⟨k,n,R,i,hi,P⟩|h
   ·by_cases d:k=j
    ·subst d;exact o g (F.grow x L)
    ·exact .inl ⟨k,n,by rw[upd_ne _ _ d];exact g,by rw[upd_ne _ _ d];exact L⟩
   ·refine .inr (.inl ⟨k,n,?_,i,hi,?_⟩)
    ·by_cases d:k=j
     ·subst d;rw[upd_same];omega
     ·rw[upd_ne _ _ d];exact R
    ·by_cases d:k=j
     ·subst d;rw[upd_same,hf2 (fun h=>by have:=hpl h.1;omega)];exact P
     ·rw[upd_ne _ _ d];exact P
   ·exact .inr (.inr h)
  ·have q:=F.full x (by omega) G;by_cases g:D.st j=.pv
   ·exact o g q
   ·rw[F.keep g]at q;have:=(C.xr _ _ q).2.2;omega
theorem M2(A:dX K)(C:CN K D)(hj:j<D.r){wk:Bool}(P:PgF K D j dn s' h' l' k' z' g g')(hw:wk=dY g g'):CN K (D.qu j s' X' l' k' z' h' wk f'):=by
 refine⟨C.rn,C.inr,C.out,P.gi,fun k c=>?_,P.wg,C.mf,fun h=>?_,fun h=>?_,fun k c h=>?_⟩
 ·show rG K.n (upd D.st j s' k);simp only[upd];split
  ·exact P.vM
  ·exact C.vM k c
 ·have:=C.gone h;have:=P.k;show h'.k=0;omega
 ·have h:(if wk then 1 else D.z)=0:=h;cases hwk:wk with
  |true=>rw[hwk]at h;cases h
  |false=>rw[hwk]at h hw;have:=C.zs h;have:=(P.wake hw.symm).2;show h'.ws=0;omega
 ·have h:upd (fun a=>if wk then 1 else D.zz a) j z' k=0:=h;show h'.ms=0;by_cases b:k=j
  ·subst b;rw[upd_same]at h;exact P.z h
  ·rw[upd_ne _ _ b]at h;cases hwk:wk with
   |true=>rw[hwk]at h;cases h
   |false=>rw[hwk]at h hw;have:=C.zw k c h;have:=(P.wake hw.symm).1;omega
theorem ll(C:CN K D)(h:D.s=.mq .kI)(hj:j<D.r):D.st j=.gn\/D.st j=.gx\/D.st j=.fin:=by
 have e:=C.gone (by rw[h];rfl);have a:=C.wg;have d:nG (D.st j)=0:=by have:=a.k;have:=gj (F:=nG) (st:=D.st) hj;omega
 have hi:=a.idle (by rw[h];rfl);have c:=gj (F:=nL) (st:=D.st) hj;have b:=gj (F:=nM) (st:=D.st) hj;cases hs:D.st j<;>rw[hs]at d c b<;>first|(simp[nG]at d;done)|(simp[nL]at c;omega)|(simp[nM]at b;omega)|simp
theorem M3(A:dX K)(C:CI K w0 D gs w t)(hj:j<D.r){wk:Bool}(F:uz K j dn (D.st j) s' (D.X j) X' h' (valOf K D) w w')(E:Va K j (D.ib j) (D.cb j) dn (D.st j) s' X' w' es)(P:PgF K D j dn s' h' l' k' z' g g')(C':CW K w0 (D.qu j s' X' l' k' z' h' wk f') w')(fn:FuncId)(pos:String):
 CT K (D.qu j s' X' l' k' z' h' wk f') w'.heap.size (t++Ξ (K.p0+j) fn pos es):=by
 have hpos:=A.pos;have L:=C.ct;have u:∀k,k≠K.p0+j->ZU (t++Ξ (K.p0+j) fn pos es) k=ZU t k:=fun k z=>Z0 t (Ne.symm z) _ gu
 have U:=L.dw j hj;have own:ZU (t++Ξ (K.p0+j) fn pos es) (K.p0+j)=deaf s':=by rw[Deaf_own,U];exact E.dfb
 have fm:=fam A C';have M:∀op∈Ξ (K.p0+j) fn pos es,op.act.low w'.heap.size:=fun op q=>by obtain⟨e,d,rfl⟩:=Ψ q;exact E.low e d
 obtain⟨z1,z2,z3,z4,z5⟩:=C.cw.hz j hj;have hzs:=C.cw.zs;have N:=C'.Bj j hj;have V:=C'.xr;have W:∀op∈Ξ (K.p0+j) fn pos es,OkW K.Shun K.ic (K.Own (D.qu j s' X' l' k' z' h' wk f').X) K.p0 D.H j op:=by
  intro op q;obtain⟨e,d,rfl⟩:=Ψ q;refine⟨rfl,fun x o f=>?_⟩;rcases E.ok e d x o f with v|⟨v,J⟩|⟨v,J,b⟩
  ·exact .inl v
  ·refine .inr (.inl ⟨v,?_⟩);rcases J with J|J
   ·exact .inl ⟨J,Nat.lt_of_lt_of_le hj C.cn.rn⟩
   ·refine .inr ⟨f,?_⟩;show upd D.X j X' j _;rw[upd_same];exact J
  ·refine .inr (.inr ⟨v,J,?_,fun hs=>?_,fun hs=>?_,fun k z=>?_⟩)
   ·rcases b with⟨b,_⟩|b|b|b|b<;>omega
   ·obtain⟨a,ha,hb⟩:=hs;rw[ha]at b;simp only[blk]at b;rcases b with⟨b,_⟩|b|b|b|b<;>omega
   ·have O:K.S (blk x.loc):=by
     cases hl:x.loc with
     |cell a=>rw[hl]at hs;exact hs
     |obj r=>rw[hl]at hs;exact hs
     |_=>rw[hl]at hs;exact hs.elim
    have:=A.SB _ O;rcases b with⟨_,b⟩|b|b|b|b
    ·exact b O
    ·omega
    ·omega
    ·omega
    ·omega
   ·rcases gw z with e1|e1
    ·rw[e1]at b;simp only[blk]at b;rcases b with⟨b,_⟩|b|b|b|b<;>omega
    ·have hx5:=(V k _ e1).2.1;rcases b with⟨b,_⟩|b|b|b|b
     ·omega
     ·omega
     ·omega
     ·rw[b]at e1;exact(N k).1 e1
     ·rw[b]at e1;exact(N k).2 e1
 refine⟨?_,fun k z=>?_,fun k z=>?_,fun hs=>?_,fun hs=>?_⟩
 ·rw[u 0 (by omega)];exact L.d0
 ·show _=deaf (upd D.st j s' k);by_cases c:k=j
  ·subst c;rw[upd_same];exact own
  ·rw[u _ (by omega),upd_ne _ _ c];exact L.dw k z
 ·have z:K.p0+D.r<=k:=z;rw[u _ (by omega)];exact L.dz k z
 ·obtain⟨t1,t2,t3⟩:=L.ti hs;refine⟨?_,fun k z G=>?_,t3.app fun op q f=>?_⟩
  ·have g1:TI K.Shun K.ic (K.Own (D.qu j s' X' l' k' z' h' wk f').X) K.p0 D.r D.Z D.H w.heap.size t:=by
    refine t1.grow (fun k l p=>?_) fun k l p=>?_
    ·refine p.imp id fun p=>⟨p.1,?_⟩
     show upd D.X j X' k _;by_cases c:k=j
     ·subst c;rw[upd_same];exact F.grow _ p.2
     ·rw[upd_ne _ _ c];exact p.2
    ·rcases p with p|⟨f,p⟩
     ·exact .inl (.inl p)
     ·have p:upd D.X j X' k (blk l):=p;by_cases c:k=j
      ·subst c;rw[upd_same]at p;by_cases o:D.X k (blk l)
       ·exact .inl (.inr ⟨f,o⟩)
       ·exact .inr (F.fresh _ p o).1
      ·rw[upd_ne _ _ c]at p;exact .inl (.inr ⟨f,p⟩)
   exact(g1.mono F.size).appW fm hj W M
  ·have G:dC (upd D.st j s' k)=ψ:=G;by_cases c:k=j
   ·subst c;rw[upd_same,P.rel]at G;cases v:dC (D.st k)with
    |true=>obtain⟨i,hi⟩:=t2 k z v;exact⟨i,hi.appOwn fn pos es fun n e d=>by rw[U];exact E.after v n e d⟩
    |false=>
     rw[v]at G;simp only[Bool.false_or,Bool.and_eq_true]at G;have hg:D.st k=.gr:=by have:=G.2;cases hs:D.st k<;>rw[hs]at this<;>first|rfl|cases this
     have d:=E.rel G.1 hg;rw[d];exact⟨_,RelBy.new (by rw[U,hg];rfl) fn pos⟩
   ·rw[upd_ne _ _ c]at G;obtain⟨i,hi⟩:=t2 k z G;exact⟨i,hi.appOther gu (by omega)⟩
  ·obtain⟨e,d,rfl⟩:=Ψ q;refine E.norel e d ?_;obtain⟨loc,wr,sy⟩:=e;cases loc with
   |mark m=>simp only[χ,MemAct.mark.injEq]at f;rw[f]
   |obj r=>cases wr<;>cases sy<;>cases f
   |_=>first|cases f|(simp[χ]at f)
 ·obtain⟨t1,t2⟩:=L.pa hs;have hs:D.s=.mq .kI:=hs;have hrel:dC (D.st j)=ψ:=by rcases ll C.cn hs hj with h|h|h<;>rw[h]<;>rfl
  have T:=E.after hrel;have B:∀e∈es,∀x,(χ e).touch?=Γ x->x.loc.isMemory=ψ->K.ic x.loc/\x.kind=.atomic:=by
   intro e d x o f;rcases E.ok e d x o f with v|⟨v,_⟩|⟨v,_⟩
   ·exact v
   all_goals
    exfalso;obtain⟨n,hn⟩:=ZM.1 d;rcases T n e hn with h0|⟨⟨ad,wr,rfl⟩,_⟩
    ·rw[h0]at o;cases o
    ·simp only[χ,MemAct.touch?,Option.some.injEq]at o;subst o;exact v rfl
  have Y:ZU t (K.p0+j)=deaf (D.st j):=U;refine⟨?_,fun i x o R=>?_⟩
  ·refine Er (g:=K.p0+j) (t1.mono F.size) (by omega) (fun i x o d f=>?_) (by rw[Y];exact T) (fun e d x o f=>⟨.inr (B e d x o f).1,(B e d x o f).2⟩) E.low;obtain⟨e,d,y,hy,Q⟩:=d;exact t2 i x o (Q▸(B e d y hy (Q▸f)).1)
  ·rcases cc o with⟨_,I⟩|⟨op,q,I,_⟩
   ·exact t2 i x I R
   ·obtain⟨e,d,rfl⟩:=Ψ q;obtain⟨a,ha,_⟩:=R;rw[(B e d x I (by rw[ha];rfl)).2];simp
theorem M4(hj:j<D.r){wk:Bool}(P:PgF K D j dn s' h' l' k' z' g g')(hw:wk=dY g g'):vN (mu K (D.qu j s' X' l' k' z' h' wk f')) (mu K D):=by
 have e:∀(f:Nat->Nat) (x:Nat),sumTo D.r (upd f j x)+f j=sumTo D.r f+x:=fun f x=>C8 hj
 refine .inr ⟨rfl,?_⟩;show sumTo D.r (upd D.l j l')<_\/(sumTo D.r (upd D.l j l')=_/\(meas D.r (upd D.st j s') h'+rM h' D.s<_\/(meas D.r (upd D.st j s') h'+rM h' D.s=_/\(sumTo D.r (upd D.kk j k')+D.k+sumTo K.p0 D.q<_\/(sumTo D.r (upd D.kk j k')+D.k+sumTo K.p0 D.q=_/\sumTo D.r (upd (fun a=>if wk then 1 else D.zz a) j z')+(if wk then 1 else D.z)<_)))));have o:=e D.l l';have p:=e D.kk k';show _<sumTo D.r D.l\/(_=sumTo D.r D.l/\(_<meas D.r D.st D.h+rM D.h D.s\/(_=meas D.r D.st D.h+rM D.h D.s/\(_<sumTo D.r D.kk+D.k+sumTo K.p0 D.q\/(_=sumTo D.r D.kk+D.k+sumTo K.p0 D.q/\_<sumTo D.r D.zz+D.z)))));rcases P.low with i|⟨i,b,m⟩|⟨i,b,m,c⟩
 ·exact .inl (by omega)
 ·rw[adK b];exact .inr ⟨by omega,.inl (by omega)⟩
 ·subst b m;rw[n6];refine .inr ⟨by omega,.inr ⟨rfl,?_⟩⟩;rcases c with c|⟨c,t,d⟩
  ·exact .inl (by omega)
  ·rw[<-hw]at d;subst d;have n:=e D.zz z';refine .inr ⟨by omega,?_⟩;show sumTo D.r (upd (fun a=>D.zz a) j z')+D.z<_;show sumTo D.r (upd D.zz j z')+D.z<_;omega
theorem yM(A:dX K)(C:CI K w0 D gs w t)(hj:j<D.r)(hg:gs[K.p0+j]?=Γ g)(hr:g.status=.running)(d:Nat):
 ∃D' g' w' es,stepG P0 ω g (w.at d)=.go g' w' es/\CI K w0 D' ((gs.map (woken P0 g g' w')).setIfInBounds (K.p0+j) g') w' (t++Ξ (K.p0+j) g.frame.fn g.frame.place es)/\vN (mu K D') (mu K D):=by
 obtain⟨g1,L,u⟩:=C.wk j hj;rw[hg]at L;cases L
 have hpos:=A.pos;have m:=C.cw.at d;have hzj:=C.cw.hz j hj;have hzs:=C.cw.zs;have wW:=C.cn.gi.wW;have H:=C.cn.rn;have Y:=A.nB;have N:=C.cn.wg;have e:∀F:St->Nat,cnt D.r F D.st-F (D.st j)+F (D.st j)=cnt D.r F D.st:=fun F=>Nat.sub_add_cancel (gj hj)
 have hk:D.h.k<1073741824:=by
  have o:=N.k;have p:cnt D.r nG D.st<=D.r*1:=mV fun i hi=>by cases D.st i<;>simp[nG]
  have h3:xa D.s<=1:=by cases D.s with
   |ad t=>cases t<;>simp[xa]
   |_=>simp[xa]
  omega
 have Q:D.h.ws<1000:=by
  cases hwa:wa D.s with
  |false=>have:=N.idle hwa;omega
  |true=>have:=N.wait hwa;omega
 obtain⟨dn,v,M,O,J,I,h',g',w',es,R,c,F,E,pg,h4⟩:=Eo A (Nat.lt_of_lt_of_le hj H) m.at_ (fun x n=>(C.cw.xr j x n).2.1) (m.box j hj) (show D.ib j<w.heap.size by omega) (show D.cb j<w.heap.size by omega) (fun h=>C.cw.x4 j hj h) (u.at d) hr
  (C.cn.gi.inv hj) (C.cn.gi.loc j hj) (C.cn.vM j hj) Y (Nat.le_trans wW.1 H) wW.2 (by rw[e nG,e nL,e nM];exact N) hk Q
 have V:g'.status≠.waiting:=by
  rcases c.status with h|h|h
  ·rw[h.1];simp
  ·rw[h.1];simp
  ·rw[h.1];simp
 have P:=He C.cn hj pg V;have hf:∃G:Nat->Nat,(D.st j=.pv->v≠.pv->∀x,M x->∃i,i<K.C/\x=G i)/\(¬(D.st j=.pv/\v≠.pv) ->G=D.f j):=by
  by_cases h:D.st j=.pv/\v≠.pv
  ·obtain⟨G,U⟩:=F.enum h.1 h.2;exact⟨G,fun _ _=>U,fun hn=>absurd h hn⟩
  ·exact⟨D.f j,fun o p=>absurd ⟨o,p⟩ h,fun _=>rfl⟩
 obtain⟨G,Z,W⟩:=hf;have S:D.st j=.pv->v≠.pv->O<=2:=by
  intro o p;rcases pg with⟨_,h,_⟩|⟨_,n,_⟩|⟨_,_,_,_,h|h|⟨_,h⟩⟩
  ·exact absurd (h.trans o) p
  ·rw[o]at n;exact n.elim
  ·rw[o]at h;cases h.1
  ·rw[o]at h;cases h.1
  ·rcases h with h|h
   ·exact absurd h p
   ·rw[c.lv3.2 h];exact Nat.le_refl _
 have q:=M0 (wk:=dY g g') (k':=J) (z':=I) A m hj F P.GZ P.le h4 (fun o p=>⟨Z o p,S o p⟩) W u.lv3.1;refine⟨D.qu j v M O J I h' (dY g g') G,g',w',es,R,⟨?_,?_,fun i x h0 hi n=>?_,fun i hi=>?_,q,M2 A C.cn hj P rfl,M3 (w:=w.at d) A ⟨C.size,C.g0,C.old,fun i hi=>?_,m,C.cn,C.ct⟩ hj F E P q _ _⟩,M4 hj P rfl⟩
 ·simp only[φ,ZS];exact C.size
 ·obtain⟨g0,h0,T⟩:=C.g0;exact⟨_,by rw[fw (by omega),h0];rfl,T.woken⟩
 ·rw[fw (by omega)]at n;obtain⟨y,hy,rfl⟩:=ο.1 n;have hq:=C.old i y h0 hi hy;rw[woken_quitsD hq,Z0 t (show K.p0+j≠i by omega) _ gu];exact hq
 ·have hi:i<D.r:=hi;by_cases z:i=j
  ·subst z;refine⟨g',pd (by rw[C.size];omega),?_⟩;show WSit K i (K.wp (D.ib i) (D.cb i)) (upd D.st i v i) (upd D.X i M i) (upd D.l i O i) (upd D.kk i J i) (upd (fun a=>if dY g g' then 1 else D.zz a) i I i) g' w';simp only[upd_same];exact c
  ·obtain⟨x,n,B⟩:=C.wk i hi;refine⟨_,by rw[fw (by omega),n];rfl,?_⟩;show WSit K i (K.wp (D.ib i) (D.cb i)) (upd D.st j v i) (upd D.X j M i) (upd D.l j O i) (upd D.kk j J i) (upd (fun a=>if dY g g' then 1 else D.zz a) j I i) (Go.Conc.woken P0 g g' w' x) w';simp only[upd_ne _ _ z];refine((B.at d).woken (a:=g) (a':=g') (w':=w')).others F.size (fun b hb=>?_) fun hp b hb=>?_
   ·have hsz:=m.at_.size;exact F.others b (by omega) (by omega) (by omega) (by omega) fun _ h=>by have:=(C.cw.xr _ _ h).2.1;omega
   ·obtain⟨q1,q2,q3⟩:=C.cw.xr _ _ hb;exact F.others b q3 (by omega) (by omega) (by omega) fun _ h=>z (C.cw.xd _ _ _ hb h)
 ·obtain⟨x,n,B⟩:=C.wk i hi;exact⟨x,n,B.at d⟩
end
end
section
def CD.tick(D:CD)(s':cZ)(i' c' k' z':Nat)(h':Sh)(wk:Bool):CD:={D with s:=s',i:=i',c:=c',k:=k',z:=z',h:=h',zz:=fun a=>if wk then 1 else D.zz a}
section
variable{K:PC}{w0 w w':η}{D:CD}{gs:Array Ω}{t:Trace}{dn:Bool}{s':cZ}{i' c' k' z':Nat}{h':Sh}{g g':Ω}{es:Array ZT}{wk:Bool}
theorem Hf{s s':cZ}{h h':Sh}(hx:QT s h s' h')(hi:nW s'=ψ):nW s=ψ\/s=.k9:=by
 cases s with
 |k9=>exact .inr rfl
 |vL=>exact .inl rfl
 |iJ=>exact .inl rfl
 |iK=>exact .inl rfl
 |ad t=>exact .inl rfl
 |mq t=>obtain⟨a,rfl,_⟩:=hx;cases hi
 |s7=>obtain⟨rfl,_⟩:=hx;cases hi
 |KQ=>obtain⟨rfl,_⟩:=hx;cases hi
theorem Hg{s s':cZ}{h h':Sh}(hx:QT s h s' h')(hi:pc s'=ψ):pc s=ψ\/s=.vL:=by
 cases s with
 |k9=>obtain⟨rfl,_⟩:=hx;cases hi
 |vL=>exact .inr rfl
 |iJ=>exact .inl rfl
 |iK=>exact .inl rfl
 |ad t=>exact .inl rfl
 |mq t=>obtain⟨a,rfl,_⟩:=hx;cases hi
 |s7=>obtain⟨rfl,_⟩:=hx;cases hi
 |KQ=>obtain⟨rfl,_⟩:=hx;cases hi
theorem Es{s s':cZ}{h h':Sh}(hx:QT s h s' h')(hi:nW s=ψ):nW s'=ψ:=by
 cases s with
 |vL=>obtain⟨rfl,_⟩:=hx;rfl
 |iJ=>obtain⟨rfl,_⟩:=hx;rfl
 |iK=>obtain⟨rfl,_⟩:=hx;rfl
 |ad t=>obtain⟨a,rfl,_⟩:=hx;rfl
 |_=>cases hi
theorem Et{s s':cZ}{h h':Sh}(hx:QT s h s' h')(hi:pc s=ψ):pc s'=ψ:=by
 cases s with
 |iJ=>obtain⟨rfl,_⟩:=hx;rfl
 |iK=>obtain⟨rfl,_⟩:=hx;rfl
 |ad t=>obtain⟨a,rfl,_⟩:=hx;rfl
 |_=>cases hi
theorem C9(pg:SPg dn D.s s' D.h h' D.i i' D.c c' D.k k' D.z z' g'):h'.mu=D.h.mu/\h'.ms=D.h.ms/\Au s'=Au D.s/\h'.ws<=D.h.ws/\(iE D.s->iE s')/\(s'=.mq .kI->D.s=.mq .kI\/(dn=ψ/\∃t,D.s=.mq t/\(t=.Bd\/t=.yq)))/\
 (dn=ω->s'=D.s/\h'=D.h/\i'=D.i/\c'=D.c)/\(dn=ψ->QT D.s D.h s' h'/\z'=1):=by
 rcases pg with⟨rfl,rfl,rfl,rfl,rfl,_⟩|⟨rfl,a,rfl⟩
 ·exact⟨rfl,rfl,rfl,Nat.le_refl _,id,.inl,fun _=>⟨rfl,rfl,rfl,rfl⟩,fun h=>by cases h⟩
 ·obtain⟨q1,j,m,d,l,e,q7⟩:=pb a;refine⟨q1,j,d,l,e,fun h=>.inr ⟨rfl,?_⟩,(fun h=>by cases h),fun _=>⟨a,rfl⟩⟩;subst h;cases hs:D.s with
  |mq t=>rw[hs]at a;obtain⟨f,b,a⟩:=a;exact⟨t,rfl,Hb a (cZ.mq.inj b).symm⟩
  |ad t=>rw[hs]at a;obtain⟨f,b,a⟩:=a;cases b
  |_=>rw[hs]at a;obtain⟨g,_⟩:=a;cases g
theorem M5(A:dX K)(C:CW K w0 D w)(F:SFx K D.r D.i D.c i' c' dn D.s s' h' w w')(pg:SPg dn D.s s' D.h h' D.i i' D.c c' D.k k' D.z z' g'):CW K w0 (D.tick s' i' c' k' z' h' wk) w':=by
 have W:=C.at_;have O:=W.size;obtain⟨p1,U,R,T,S,V,B,v⟩:=C9 pg;have l:=C.zs;have Q:D.s=.iJ->D.Z<=D.i:=fun h=>(C.hi (by rw[h];rfl)).1
 have L:D.s=.iK->D.Z<=D.c:=fun h=>(C.hc (by rw[h];rfl)).1
 have keep:∀x,x<D.Z->x≠K.B0+3->x≠K.B0+4->w'.heap[x]?=w.heap[x]?:=fun x t m I=>F.others x (by omega) m I (fun _ h=>by have:=Q h;omega) (fun _ h=>by have:=L h;omega)
 refine⟨F.tape.trans C.tape,F.output.trans C.output,C.os.trans F.os,⟨by have:=F.size;omega,fun b hb=>?_,?_,?_,?_,F.sh⟩,fun k d=>?_,F.box,C.hz,⟨l.1,Nat.le_trans l.2 F.size⟩,C.Bj,fun h=>?_,fun h=>?_,fun k x g=>?_,C.xd,C.x4,fun x o u=>?_,fun x o u=>?_⟩
 ·rw[keep b (by omega) (by omega) (by omega)];exact W.low b hb
 ·rw[keep K.B0 (by omega) (by omega) (by omega)];exact W.gb
 ·obtain⟨cs,t,m,I⟩:=W.er;exact⟨cs,by rw[keep (K.B0+1) (by omega) (by omega) (by omega)];exact t,m,I⟩
 ·rw[keep (K.B0+2) (by omega) (by omega) (by omega)];exact W.eb
 ·obtain⟨M,P⟩:=C.box k d;obtain⟨q1,q,n,J,Y⟩:=C.hz k d;exact⟨by show w'.heap[D.ib k]?=_;rw[keep _ (by omega) (by omega) (by omega)];exact M,by show w'.heap[D.cb k]?=_;rw[keep _ (by omega) (by omega) (by omega)];exact P⟩
 ·have h:nW s'=ψ:=h;show D.Z<=i'/\i'<w'.heap.size/\∀k,¬D.X k i';rcases F.bi with⟨rfl,p⟩|⟨hd,d,rfl,hs⟩
  ·have H:nW D.s=ψ:=by
    cases hd:dn with
    |false=>rw[(B hd).1]at h;exact h
    |true=>exact(Hf (v hd).1 h).resolve_right (p hd)
   obtain⟨q1,q,n⟩:=C.hi H;exact⟨q1,Nat.lt_of_lt_of_le q F.size,n⟩
  ·exact⟨l.2,by omega,fun k d=>by have:=(C.xr _ _ d).2.2;omega⟩
 ·have h:pc s'=ψ:=h;show D.Z<=c'/\c'<w'.heap.size/\i'≠c'/\∀k,¬D.X k c';rcases F.bc with⟨rfl,p⟩|⟨hd,d,rfl,hs⟩
  ·have E:pc D.s=ψ:=by
    cases hd:dn with
    |false=>rw[(B hd).1]at h;exact h
    |true=>exact(Hg (v hd).1 h).resolve_right (p hd)
   obtain⟨q1,q,n,J⟩:=C.hc E;refine⟨q1,Nat.lt_of_lt_of_le q F.size,?_,J⟩;rcases F.bi with⟨e,_⟩|⟨_,d,_⟩
   ·rw[e];exact n
   ·rw[d]at E;cases E
  ·have H:nW D.s=ψ:=by rw[d];rfl
   obtain⟨q1,q,n⟩:=C.hi H;refine⟨l.2,by omega,?_,fun k d=>by have:=(C.xr _ _ d).2.2;omega⟩;rcases F.bi with⟨e,_⟩|⟨_,G,_⟩
   ·omega
   ·rw[G]at d;cases d
 ·obtain⟨q1,q,n⟩:=C.xr k x g;exact⟨q1,q,Nat.lt_of_lt_of_le n F.size⟩
 ·by_cases j:x<w.heap.size
  ·by_cases t:dn=ψ/\D.s=.iJ/\x=D.i
   ·exact .inr (F.adG x t.1 (.inl t.2))
   ·by_cases m:dn=ψ/\D.s=.iK/\x=D.c
    ·exact .inr (F.adG x m.1 (.inr m.2))
    ·rcases C.rows x o j with h|⟨cs,e,f,hc,N⟩
     ·exact .inl h
     ·exact .inr ⟨cs,e,f,by rw[F.others x j (by omega) (by omega) (fun a b g=>t ⟨a,b,g⟩) (fun a b g=>m ⟨a,b,g⟩)];exact hc,N⟩
  ·exact .inr (F.rows x (by omega) u)
 ·show _\/_\/_\/(nW s'=ψ/\x=i')\/(pc s'=ψ/\x=c');have y:dn=ω\/dn=ψ:=by cases dn<;>simp
  by_cases j:x<w.heap.size
  ·rcases C.who x o j with h|h|h|⟨h,g⟩|⟨h,g⟩
   ·exact .inl h
   ·exact .inr (.inl h)
   ·exact .inr (.inr (.inl h))
   ·refine .inr (.inr (.inr (.inl ?_)));rcases F.bi with⟨e,_⟩|⟨_,d,_⟩
    ·refine⟨?_,by rw[e];exact g⟩;rcases y with hd|hd
     ·rw[(B hd).1];exact h
     ·exact Es (v hd).1 h
    ·rw[d]at h;cases h
   ·refine .inr (.inr (.inr (.inr ?_)));rcases F.bc with⟨e,_⟩|⟨_,d,_⟩
    ·refine⟨?_,by rw[e];exact g⟩;rcases y with hd|hd
     ·rw[(B hd).1];exact h
     ·exact Et (v hd).1 h
    ·rw[d]at h;cases h
  ·obtain⟨hd,d⟩:=F.only (by omega);have g:=(v hd).1;rcases d with d|d
   ·refine .inr (.inr (.inr (.inl ?_)));rcases F.bi with⟨_,p⟩|⟨_,_,e1,e2⟩
    ·exact absurd d (p hd)
    ·rw[d]at g;obtain⟨rfl,_⟩:=g;exact⟨rfl,by omega⟩
   ·refine .inr (.inr (.inr (.inr ?_)));rcases F.bc with⟨_,p⟩|⟨_,_,e1,e2⟩
    ·exact absurd d (p hd)
    ·rw[d]at g;obtain⟨rfl,_⟩:=g;exact⟨rfl,by omega⟩
theorem Vh{h h':Sh}(e:h'.mu=h.mu){s:St}(hl:aaA h s):aaA h' s:=by
 cases s with
 |a1 x=>unfold aaA at hl⊢;rw[e];exact hl
 |_=>exact hl
theorem M6{n:Nat}{st:Nat->St}{h h':Sh}(e1:h'.mu=h.mu)(e2:h'.ms=h.ms):meas n st h'=meas n st h:=by unfold meas;rw[e1,e2]
theorem M7(C:CN K D)(pg:SPg dn D.s s' D.h h' D.i i' D.c c' D.k k' D.z z' g')(hw:wk=dY g g'):CN K (D.tick s' i' c' k' z' h' wk):=by
 obtain⟨e,f,d,n,l,o,j,b⟩:=C9 pg;have hd:dn=ω\/dn=ψ:=by cases dn<;>simp
 refine⟨C.rn,fun h=>C.inr (by rw[<-d];exact h),fun h=>C.out (by rw[<-d];exact h),⟨?_,fun i hi=>Vh e (C.gi.loc i hi)⟩,C.vM,?_,l C.mf,fun h=>?_,fun h=>?_,fun k m h=>?_⟩
 ·show ia h'.mu h'.ms _ _ _ _ _ _ _ _;rw[e,f];exact C.gi.Ee
 ·show mW (wa s') (xa s') h' _ _ _;rcases hd with hd|hd
  ·obtain⟨rfl,rfl,_⟩:=j hd;exact C.wg
  ·exact(C6 (b hd).1 C.mf C.wg).1
 ·have h:gone s'=ψ:=h;show h'.k=0;rcases hd with hd|hd
  ·obtain⟨rfl,rfl,_⟩:=j hd;exact C.gone h
  ·rcases(C6 (b hd).1 C.mf C.wg).2 h with a|a
   ·exact((pb (b hd).1).2.2.2.2.2.2 a (C.gone a)).2
   ·exact a
 ·have h:z'=0:=h;show h'.ws=0;rcases pg with⟨_,_,rfl,_,_,⟨_,hz⟩|⟨_,_,hz,_⟩⟩|⟨_,_,hz⟩
  ·exact C.zs (by omega)
  ·exact hz
  ·omega
 ·have h:(if wk then 1 else D.zz k)=0:=h;show h'.ms=0;rw[f];cases wk with
  |true=>cases h
  |false=>exact C.zw k m h
theorem M8(A:dX K)(C:CI K w0 D gs w t)(F:SFx K D.r D.i D.c i' c' dn D.s s' h' w w')(E:SEv K D.i D.c D.s s' w' es)(pg:SPg dn D.s s' D.h h' D.i i' D.c c' D.k k' D.z z' g')(fn:FuncId)(pos:String):
 CT K (D.tick s' i' c' k' z' h' wk) w'.heap.size (t++Ξ 0 fn pos es):=by
 have hpos:=A.pos;have M:=C.ct;obtain⟨p1,p2,p3,p4,p5,p6,p7,p8⟩:=C9 pg;have B:∀k,k≠0->ZU (t++Ξ 0 fn pos es) k=ZU t k:=fun k q=>Z0 t (Ne.symm q) _ gu
 have own:ZU (t++Ξ 0 fn pos es) 0=mE s':=by rw[Deaf_own,M.d0];exact E.dfb
 have fm:=fam A C.cw;have L:∀op∈Ξ 0 fn pos es,op.act.low w'.heap.size:=fun op d=>by obtain⟨e,v,rfl⟩:=Ψ d;exact E.low e v
 have hzs:=C.cw.zs;have U:=C.cw.xr;have H:∀x:Touch,x.loc.isMemory=ψ->blk x.loc<K.B0->¬K.S (blk x.loc) ->¬K.ic x.loc/\¬K.Shun x.loc:=by
  intro x y n o;refine⟨fun hs=>?_,fun hs=>?_⟩
  ·obtain⟨a,ha,hb⟩:=hs;rw[ha]at n;simp only[blk]at n;omega
  ·cases G:x.loc with
   |cell a=>rw[G]at hs o;exact o hs
   |obj r=>rw[G]at hs o;exact o hs
   |_=>rw[G]at hs;exact hs.elim
 have Y:∀op∈Ξ 0 fn pos es,Ok0 K.Shun K.ic (K.Own D.X) D.Z op:=by
  intro op d;obtain⟨e,v,rfl⟩:=Ψ d;refine⟨rfl,fun x u y=>?_⟩;have box:∀b,D.Z<=b->(∀k,¬D.X k b) ->blk x.loc=b->(¬K.ic x.loc/\¬K.Shun x.loc/\(∀k,¬K.Own D.X k x.loc)/\(x.write=ψ->D.Z<=blk x.loc)):=by
   intro b n o J;refine⟨fun hs=>?_,fun hs=>?_,fun k q=>?_,fun _=>by omega⟩
   ·obtain⟨a,ha,hb⟩:=hs;rw[ha]at J;simp only[blk]at J;omega
   ·have V:K.S (blk x.loc):=by
     cases G:x.loc with
     |cell a=>rw[G]at hs;exact hs
     |obj r=>rw[G]at hs;exact hs
     |_=>rw[G]at hs;exact hs.elim
    have:=A.SB _ V;omega
   ·rcases gw q with e1|e1
    ·rw[e1]at J;simp only[blk]at J;omega
    ·rw[J]at e1;exact o k e1
  rcases E.ok e v x u y with n|⟨n,o,J⟩|⟨n,o⟩|⟨n,o⟩
  ·exact .inl n
  ·obtain⟨q1,P⟩:=H x y o J;refine .inr ⟨q1,P,fun k q=>?_,fun hw=>by rw[n]at hw;cases hw⟩;rcases gw q with e1|e1
   ·rw[e1]at o;simp only[blk]at o;omega
   ·have:=(U k _ e1).2.1;omega
  ·obtain⟨q1,P,W⟩:=C.cw.hi (by rw[n];rfl);exact .inr (box _ q1 W o)
  ·obtain⟨q1,P,q4,W⟩:=C.cw.hc (by rw[n];rfl);exact .inr (box _ q1 W o)
 refine⟨own,fun k q=>?_,fun k q=>?_,fun hs=>?_,fun hs=>?_⟩
 ·rw[B _ (by omega)];exact M.dw k q
 ·have q:K.p0+D.r<=k:=q;rw[B _ (by omega)];exact M.dz k q
 ·have hs:s'≠.mq .kI:=hs;have I:D.s≠.mq .kI:=by
   intro h;cases hd:dn with
   |false=>exact hs ((p7 hd).1.trans h)
   |true=>have u:=(p8 hd).1;rw[h]at u;obtain⟨t',_,u⟩:=u;exact u
  obtain⟨t1,t2,R⟩:=M.ti I;refine⟨(t1.mono F.size).app0 fm Y L,fun k q hr=>?_,R.app fun op d y=>?_⟩
  ·obtain⟨i,hi⟩:=t2 k q hr;exact⟨i,hi.appOther gu (by omega)⟩
  ·obtain⟨e,v,rfl⟩:=Ψ d;refine E.norel e v ?_;obtain⟨loc,wr,sy⟩:=e;cases loc with
   |mark m=>simp only[χ,MemAct.mark.injEq]at y;rw[y]
   |obj r=>cases wr<;>cases sy<;>cases y
   |_=>first|cases y|(simp[χ]at y)
 ·have hs:s'=.mq .kI:=hs;rcases p6 hs with h0|⟨hd,t',T,N⟩
  ·obtain⟨t1,t2⟩:=M.pa h0;have O:∀e∈es,∀x,(χ e).touch?=Γ x->x.loc.isMemory=ψ->(K.Shun x.loc\/K.ic x.loc) ->x.kind≠.plain:=by
    intro e v x u y f;rcases E.ok e v x u y with n|⟨n,o,J⟩|⟨n,o⟩|⟨n,o⟩
    ·exact n.2
    ·obtain⟨q1,P⟩:=H x y o J;exact absurd f (fun h=>h.elim P q1)
    ·rw[h0]at n;cases n
    ·rw[h0]at n;cases n
   have mem:∀l,(K.Shun l\/K.ic l) ->l.isMemory=ψ:=by
    intro l G;rcases G with G|⟨a,rfl,_⟩
    ·cases l with
     |cell a=>rfl
     |obj r=>rfl
     |_=>exact G.elim
    ·rfl
   refine⟨(t1.mono F.size).app0 gu (fun op d x u f=>?_) (by rw[own,M.d0,h0,hs]) L,fun i x u f=>?_⟩
   ·obtain⟨e,v,rfl⟩:=Ψ d;exact O e v x u (mem _ f) f
   ·rcases cc u with⟨_,p⟩|⟨op,d,p,_⟩
    ·exact t2 i x p f
    ·obtain⟨e,v,rfl⟩:=Ψ d;exact O e v x p (mem _ (.inr f)) (.inr f)
  ·have I:D.s≠.mq .kI:=by rw[T];rcases N with rfl|rfl<;>simp
   obtain⟨t1,t2,R⟩:=M.ti I;have v:=E.acq hs I;subst v;have q:=C.cn.gone (by rw[T];rcases N with rfl|rfl<;>rfl);have hrel:∀j,j<D.r->dC (D.st j)=ψ:=by
    intro j Q;have hG:=gj (F:=nG) (st:=D.st) Q;have hW:=C.cn.wg.k;have:nG (D.st j)=0:=by omega
    cases hst:D.st j<;>rw[hst]at this<;>first|rfl|cases this
   have e1:Ξ 0 fn pos #[mk (.acquire (stA (K.B0+4)))]=#[{g:=0,fn,pos,act:=.mark (.acquire (stA (K.B0+4)))}]:=by rw[ofEvents_eq];simp[Go.ConcR.ofEvent_mk]
   rw[e1];have hsz:=C.cw.at_.size;refine⟨(t1.GZ fm (a:=stA (K.B0+4)) (fun j Q=>t2 j Q (hrel j Q)) R (by rw[M.d0,T];rcases N with rfl|rfl<;>rfl) ⟨rfl,rfl⟩ (show K.B0+4<_ by omega)).mono F.size,fun i x u f=>?_⟩;rcases cc u with⟨_,p⟩|⟨op,d,p,_⟩
   ·exact(t1.quiet i x p f).1
   ·simp only[List.mem_toArray,ZN,ZV,or_false]at d;subst d;cases p
theorem M9(pg:SPg dn D.s s' D.h h' D.i i' D.c c' D.k k' D.z z' g')(hw:wk=dY g g'):vN (mu K (D.tick s' i' c' k' z' h' wk)) (mu K D):=by
 obtain⟨b,f,m,o,n,p,v,u⟩:=C9 pg;refine .inr ⟨rfl,.inr ⟨rfl,?_⟩⟩;show meas D.r D.st h'+rM h' s'<meas D.r D.st D.h+rM D.h D.s\/(meas D.r D.st h'+rM h' s'=meas D.r D.st D.h+rM D.h D.s/\(sumTo D.r D.kk+k'+sumTo K.p0 D.q<sumTo D.r D.kk+D.k+sumTo K.p0 D.q\/(sumTo D.r D.kk+k'+sumTo K.p0 D.q=sumTo D.r D.kk+D.k+sumTo K.p0 D.q/\sumTo D.r (fun a=>if wk then 1 else D.zz a)+z'<sumTo D.r D.zz+D.z)));rw[M6 b f];rcases pg with⟨_,rfl,rfl,_,_,⟨j,d⟩|⟨j,d,t,e⟩⟩|⟨_,l,_⟩
 ·exact .inr ⟨rfl,.inl (by omega)⟩
 ·have:wk=ω:=by rw[hw];unfold dY;rw[e];simp
  subst this;refine .inr ⟨rfl,.inr ⟨by omega,?_⟩⟩;show sumTo D.r (fun a=>D.zz a)+z'<_;show sumTo D.r D.zz+z'<_;omega
 ·have:=(pb l).2.2.1;exact .inl (by omega)
theorem vO(A:dX K)(C:CI K w0 D gs w t)(hg:gs[0]?=Γ g)(hr:g.status=.running)(d:Nat)(hgo:D.s=.ad .yt->0<D.k)(hend:D.s=.mq .kI->0<D.k):
 ∃D' g' w' es,stepG P0 ψ g (w.at d)=.go g' w' es/\CI K w0 D' ((gs.map (woken P0 g g' w')).setIfInBounds 0 g') w' (t++Ξ 0 g.frame.fn g.frame.place es)/\vN (mu K D') (mu K D):=by
 obtain⟨Z,n,o⟩:=C.g0;rw[hg]at n;cases n
 have G:=A.pos;have c:=C.cw.at d;have R:=C.cw.zs;have H:=C.cn.rn;have S:=A.nB;have z:=C.cn.wg;have M:D.h.k<1073741823:=by
  have V:=z.k;have U:cnt D.r nG D.st<=D.r*1:=mV fun i hi=>by cases D.st i<;>simp[nG]
  have h3:xa D.s<=1:=by cases D.s with
   |ad t=>cases t<;>simp[xa]
   |_=>simp[xa]
  omega
 obtain⟨Y,I,O,L,N,T,J,g',w',es,v,f,F,E,q⟩:=Bi A C.cn.inr c.at_ c.Hd (fun h=>by
  obtain⟨q1,u,p⟩:=C.cw.hi h;exact⟨by omega,u⟩) (fun h=>by
  obtain⟨q1,u,p,q4⟩:=C.cw.hc h;exact⟨by omega,u,p⟩) o hr hgo hend M z C.cn.gone
 have m:=M5 (wk:=dY g g') A c F q;refine⟨D.tick I T J O L N (dY g g'),g',w',es,v,⟨?_,⟨g',?_,f⟩,fun i x h0 hi e=>?_,fun i hi=>?_,m,M7 C.cn q rfl,M8 (w:=w.at d) A ⟨C.size,C.g0,C.old,fun i hi=>?_,c,C.cn,C.ct⟩ F E q _ _⟩,M9 q rfl⟩
 ·simp only[φ,ZS];exact C.size
 ·exact pd (by rw[C.size];omega)
 ·rw[fw (by omega)]at e;obtain⟨y,Q,rfl⟩:=ο.1 e;have B:=C.old i y h0 hi Q;rw[woken_quitsD B,Z0 t (show 0≠i by omega) _ gu];exact B
 ·have hi:i<D.r:=hi;obtain⟨x,e,j⟩:=C.wk i hi;refine⟨_,by rw[fw (by omega),e];rfl,?_⟩;show WSit K i (K.wp (D.ib i) (D.cb i)) (D.st i) (D.X i) (D.l i) (D.kk i) (if dY g g' then 1 else D.zz i) _ w';refine((j.at d).woken (a:=g) (a':=g') (w':=w')).others F.size (fun b hb=>?_) fun W b hb=>?_
  ·have P:=c.at_.size;exact F.others b (by omega) (by omega) (by omega) (fun _ h=>by have:=(C.cw.hi (by rw[h];rfl)).1;omega) (fun _ h=>by have:=(C.cw.hc (by rw[h];rfl)).1;omega)
  ·obtain⟨q1,u,p⟩:=C.cw.xr _ _ hb;exact F.others b p (by omega) (by omega) (fun _ h e=>(C.cw.hi (by rw[h];rfl)).2.2 i (e▸hb)) (fun _ h e=>(C.cw.hc (by rw[h];rfl)).2.2.2 i (e▸hb))
 ·obtain⟨x,e,j⟩:=C.wk i hi;exact⟨x,e,j.at d⟩
end
end
section
theorem Na(f:Nat->Nat)(x:Nat):∀{n r:Nat},n<=r->sumTo n (upd f r x)=sumTo n f
 |0,_,_=>rfl
 |n+1,r,h=>by have:=Na f x (n:=n) (r:=r) (by omega);simp only[sumTo];rw[this,upd_ne _ _ (by omega)]
theorem Da(F:St->Nat)(st:Nat->St)(s:St):∀{n r:Nat},n<=r->cnt n F (upd st r s)=cnt n F st
 |0,_,_=>rfl
 |n+1,r,h=>by
  have:=Da F st s (n:=n) (r:=r) (by omega);have e:∀st,cnt (n+1) F st=cnt n F st+F (st n):=fun _=>rfl
  rw[e,e,this,upd_ne _ _ (by omega)]
theorem Hh(F:St->Nat)(st:Nat->St)(s:St)(r:Nat):cnt (r+1) F (upd st r s)=cnt r F st+F s:=by
 have e:∀st,cnt (r+1) F st=cnt r F st+F (st r):=fun _=>rfl
 rw[e,Da F st s (Nat.le_refl _),upd_same]
def CD.fork(D:CD)(n k' k'' B:Nat):CD:={D with r:=D.r+1,s:=if D.r+1<n then .s7 else .mq .q7,k:=k',z:=1,st:=upd D.st D.r .w7,l:=upd D.l D.r 6,kk:=upd D.kk D.r k'',zz:=upd D.zz D.r 1,ib:=upd D.ib D.r D.i,cb:=upd D.cb D.r D.c,H:=upd D.H D.r B,Z:=B}
section
variable{K:PC}{w0 w w':η}{D:CD}{gs:Array Ω}{t:Trace}{g:Ω}{k' k'':Nat}
theorem Bl(D:CD)(n k' k'' B:Nat):(D.fork n k' k'' B).s=.s7\/(D.fork n k' k'' B).s=.mq .q7:=by
 show(if D.r+1<n then cZ.s7 else cZ.mq .q7)=.s7\/_;split
 ·exact .inl rfl
 ·exact .inr (by show(if D.r+1<n then cZ.s7 else cZ.mq .q7)=_;rename_i h;rw[if_neg h])
theorem Nb(A:dX K)(C:CW K w0 D w)(hk:D.s=.ad .yt):CW K w0 (D.fork K.n k' k'' w.heap.size) w:=by
 have W:=C.at_;have q:=W.size;have E:=C.zs;obtain⟨L,G,y⟩:=C.hi (by rw[hk];rfl);obtain⟨c1,c2,c3,F⟩:=C.hc (by rw[hk];rfl);have hb:uy K w D.r D.i D.c:=by have:=C.Hd;rw[hk]at this;exact this
 have hs:=Bl D K.n k' k'' w.heap.size;refine⟨C.tape,C.output,C.os,⟨W.size,W.low,W.gb,?_,W.eb,W.sh⟩,fun j b=>?_,?_,fun j b=>?_,⟨q,Nat.le_refl _⟩,fun j b k=>?_,fun h=>?_,fun h=>?_,fun k x B=>?_,C.xd,fun j b p=>?_,fun x m e=>?_,fun x m e=>?_⟩
 ·obtain⟨cs,d,g,z⟩:=W.er;refine⟨cs,d,g,fun i hi=>?_⟩;rw[z i hi];unfold valOf;show Γ (υ ξ (if i<D.r/\cu (D.st i)=ψ then K.ev i else 0))=Γ (υ ξ (if i<D.r+1/\cu (upd D.st D.r .w7 i)=ψ then K.ev i else 0));by_cases o:i=D.r
  ·subst o;rw[upd_same,if_neg (fun h=>absurd h.1 (by omega)),if_neg (fun h=>by cases h.2)]
  ·rw[upd_ne _ _ o];by_cases h:i<D.r
   ·simp only[h,show i<D.r+1 from by omega,true_and]
   ·rw[if_neg (fun t=>h t.1),if_neg (fun t=>h (by omega))]
 ·have b:j<D.r+1:=b;show uy K w j (upd D.ib D.r D.i j) (upd D.cb D.r D.c j);by_cases a:j=D.r
  ·subst a;rw[upd_same,upd_same];exact hb
  ·rw[upd_ne _ _ a,upd_ne _ _ a];exact C.box j (by omega)
 ·rcases hs with hs|hs<;>rw[hs]<;>trivial
 ·have b:j<D.r+1:=b;show K.B0+5<=upd D.ib D.r D.i j/\upd D.ib D.r D.i j<upd D.H D.r w.heap.size j/\K.B0+5<=upd D.cb D.r D.c j/\upd D.cb D.r D.c j<upd D.H D.r w.heap.size j/\upd D.H D.r w.heap.size j<=w.heap.size;by_cases a:j=D.r
  ·subst a;simp only[upd_same];omega
  ·simp only[upd_ne _ _ a];obtain⟨q1,v,u,J,I⟩:=C.hz j (by omega);omega
 ·have b:j<D.r+1:=b;show ¬D.X k (upd D.ib D.r D.i j)/\¬D.X k (upd D.cb D.r D.c j);by_cases a:j=D.r
  ·subst a;rw[upd_same,upd_same];exact⟨y k,F k⟩
  ·rw[upd_ne _ _ a,upd_ne _ _ a];exact C.Bj j (by omega) k
 ·rcases hs with hs|hs<;>rw[hs]at h<;>cases h
 ·rcases hs with hs|hs<;>rw[hs]at h<;>cases h
 ·obtain⟨q1,v,u⟩:=C.xr k x B;exact⟨Nat.lt_succ_of_lt q1,v,u⟩
 ·have b:j<D.r+1:=b;show D.X j=_;by_cases a:j=D.r
  ·subst a
   funext x
   exact propext ⟨fun h=>by have:=(C.xr _ _ h).1;omega,fun h=>h.elim⟩
  ·have p:4<=upd D.l D.r 6 j:=p;rw[upd_ne _ _ a]at p;exact C.x4 j (by omega) p
 ·rcases C.rows x m e with⟨j,b,d,g⟩|h
  ·exact .inl ⟨j,Nat.lt_succ_of_lt b,by show upd D.st D.r .w7 j=_;rw[upd_ne _ _ (by omega)];exact d,g⟩
  ·exact .inr h
 ·show(∃j,j<D.r+1/\upd D.st D.r .w7 j=.pv/\D.X j x)\/(∃j,j<D.r+1/\upd D.l D.r 6 j<=2/\∃i,i<K.C/\x=D.f j i)\/(∃j,j<D.r+1/\(x=upd D.ib D.r D.i j\/x=upd D.cb D.r D.c j))\/_;rcases C.who x m e with⟨j,b,d,g⟩|⟨j,b,d,g⟩|⟨j,b,d⟩|⟨_,d⟩|⟨_,d⟩
  ·exact .inl ⟨j,Nat.lt_succ_of_lt b,by rw[upd_ne _ _ (by omega)];exact d,g⟩
  ·exact .inr (.inl ⟨j,Nat.lt_succ_of_lt b,by rw[upd_ne _ _ (by omega)];exact d,g⟩)
  ·exact .inr (.inr (.inl ⟨j,Nat.lt_succ_of_lt b,by rw[upd_ne _ _ (by omega),upd_ne _ _ (by omega)];exact d⟩))
  ·exact .inr (.inr (.inl ⟨D.r,Nat.lt_succ_self _,.inl (by rw[upd_same];exact d)⟩))
  ·exact .inr (.inr (.inl ⟨D.r,Nat.lt_succ_self _,.inr (by rw[upd_same];exact d)⟩))
theorem Nc(A:dX K)(C:CN K D)(hk:D.s=.ad .yt)(B:Nat):CN K (D.fork K.n k' k'' B):=by
 have o:=C.inr (by rw[hk];rfl);have hs:=Bl D K.n k' k'' B;have hd:(D.fork K.n k' k'' B).s=if D.r+1<K.n then cZ.s7 else cZ.mq .q7:=rfl
 have e:∀F:St->Nat,cnt (D.r+1) F (upd D.st D.r .w7)=cnt D.r F D.st+F .w7:=fun F=>Hh F D.st .w7 D.r
 refine⟨o,fun h=>?_,fun h=>?_,⟨?_,fun i hi=>?_⟩,fun j c=>?_,?_,?_,fun h=>?_,fun h=>?_,fun j c h=>?_⟩
 ·show D.r+1<K.n;rw[hd]at h;split at h
  ·assumption
  ·cases h
 ·show D.r+1=K.n;rw[hd]at h;split at h
  ·cases h
  ·omega
 ·show ia D.h.mu D.h.ms (cnt (D.r+1) nO (upd D.st D.r .w7)) (cnt (D.r+1) nA (upd D.st D.r .w7)) (cnt (D.r+1) nT (upd D.st D.r .w7)) (cnt (D.r+1) nQ (upd D.st D.r .w7)) (cnt (D.r+1) nH (upd D.st D.r .w7)) (cnt (D.r+1) nU (upd D.st D.r .w7)) (cnt (D.r+1) nV (upd D.st D.r .w7)) (cnt (D.r+1) nC (upd D.st D.r .w7));rw[e,e,e,e,e,e,e,e];exact C.gi.Ee
 ·show aaA D.h (upd D.st D.r .w7 i);have hi:i<D.r+1:=hi;by_cases b:i=D.r
  ·subst b;rw[upd_same];trivial
  ·rw[upd_ne _ _ b];exact C.gi.loc i (by omega)
 ·show rG K.n (upd D.st D.r .w7 j);have c:j<D.r+1:=c;by_cases a:j=D.r
  ·subst a;rw[upd_same];trivial
  ·rw[upd_ne _ _ a];exact C.vM j (by omega)
 ·show mW (wa (D.fork K.n k' k'' B).s) (xa (D.fork K.n k' k'' B).s) D.h (cnt (D.r+1) nG (upd D.st D.r .w7)) (cnt (D.r+1) nL (upd D.st D.r .w7)) (cnt (D.r+1) nM (upd D.st D.r .w7));rw[e,e,e];have f:=C.wg;rw[hk]at f;obtain⟨p,g,d,m⟩:=f;simp only[wa,xa]at p d m;have l:nG .w7=1:=rfl;have k:nL .w7=0:=rfl;have q:nM .w7=0:=rfl;rw[l,k,q];rcases hs with hs|hs<;>rw[hs]
  ·exact⟨by simp only[xa];omega,g,fun _=>by have:=d trivial;omega,fun h=>by cases h⟩
  ·exact⟨by simp only[xa];omega,g,fun _=>by have:=d trivial;omega,fun h=>by cases h⟩
 ·rcases hs with hs|hs<;>rw[hs]<;>trivial
 ·rcases hs with hs|hs<;>rw[hs]at h<;>cases h
 ·cases h
 ·have h:upd D.zz D.r 1 j=0:=h;have c:j<D.r+1:=c;by_cases a:j=D.r
  ·subst a;rw[upd_same]at h;cases h
  ·rw[upd_ne _ _ a]at h;exact C.zw j (by omega) h
theorem rP(t:Trace){x y:MemOp}{a b:MemAct}(hx:x.act=a)(hy:y.act=b)(ha:∀m,a≠.mark m)(hb:∀m,b≠.mark m)(k:Nat):ZU (t++#[x,y]) k=ZU t k:=by
 have e:t++#[x,y]=(t++#[x])++#[y]:=by apply Array.ext';simp
 rw[e,Deaf_push,Deaf_push];have f:∀{z:MemOp} {c:MemAct} (d:Nat),z.act=c->(∀m,c≠.mark m) ->deafStep k d z=d:=by
  intro z c d hz hc;unfold deafStep;rw[hz];cases c with
  |mark m=>exact absurd rfl (hc m)
  |_=>rfl
 rw[f _ hy hb,f _ hx ha]
theorem Nd(A:dX K)(C:CI K w0 D gs w t)(hk:D.s=.ad .yt)(fn fn':FuncId)(pos pos':String):
 CT K (D.fork K.n k' k'' w.heap.size) w.heap.size (t++#[{g:=0,fn,pos,act:=.go (K.p0+D.r)},{g:=K.p0+D.r,fn:=fn',pos:=pos',act:=.start}]):=by
 have l:=A.pos;have d:=C.ct;have hs:=Bl D K.n k' k'' w.heap.size;have hd:∀k,ZU (t++#[({g:=0,fn,pos,act:=.go (K.p0+D.r)}:MemOp),{g:=K.p0+D.r,fn:=fn',pos:=pos',act:=.start}]) k=ZU t k:=fun k=>rP t rfl rfl (by simp) (by simp) k
 have h0:ZU t 0=0:=by rw[d.d0,hk];rfl
 have o:=fam A C.cw;refine⟨?_,fun j c=>?_,fun j c=>?_,fun _=>?_,fun h=>?_⟩
 ·rw[hd,h0];rcases hs with hs|hs<;>rw[hs]<;>rfl
 ·rw[hd];show _=deaf (upd D.st D.r .w7 j);have c:j<D.r+1:=c;by_cases b:j=D.r
  ·subst b;rw[upd_same];exact d.dz _ (Nat.le_refl _)
  ·rw[upd_ne _ _ b];exact d.dw j (by omega)
 ·rw[hd];have c:K.p0+(D.r+1)<=j:=c;exact d.dz j (by omega)
 ·obtain⟨t1,t2,m⟩:=d.ti (by rw[hk];simp);refine⟨t1.fork (H':=upd D.H D.r w.heap.size) (Z':=w.heap.size) o ⟨rfl,rfl⟩ ⟨rfl,rfl⟩ h0 (d.dz _ (Nat.le_refl _)) (fun j c=>upd_ne _ _ (by omega)) C.cw.zs.2,fun j c f=>?_,m.app fun op a=>?_⟩
  ·have c:j<D.r+1:=c;have f:dC (upd D.st D.r .w7 j)=ψ:=f;by_cases b:j=D.r
   ·subst b;rw[upd_same]at f;cases f
   ·rw[upd_ne _ _ b]at f;obtain⟨i,hi⟩:=t2 j (by omega) f;refine⟨i,?_⟩;have e:t++#[({g:=0,fn,pos,act:=.go (K.p0+D.r)}:MemOp),{g:=K.p0+D.r,fn:=fn',pos:=pos',act:=.start}]=(t++#[{g:=0,fn,pos,act:=.go (K.p0+D.r)}])++#[{g:=K.p0+D.r,fn:=fn',pos:=pos',act:=.start}]:=by apply Array.ext';simp
    rw[e];refine(hi.appOther (g:=0) (fun op a=>?_) (by omega)).appOther (g:=K.p0+D.r) (fun op a=>?_) (by omega)
    ·simp at a;rw[a]
    ·simp at a;rw[a]
  ·simp only[List.mem_toArray,ZN,ZV,or_false]at a;rcases a with rfl|rfl<;>simp
 ·rcases hs with hs|hs<;>rw[hs]at h<;>cases h
theorem o9.here{r i c:Nat}{s:cZ}{k z:Nat}(h:o9 K r i c s k z g)(hk:k=0)(hr:g.status=.running):lj K r i c s g:=by
 cases h with
 |go h hs=>subst hk;have:_=g:=h;subst this;exact hs
 |blk hs=>cases hr
theorem Eu(A:dX K)(C:CI K w0 D gs w t)(hg:gs[0]?=Γ g)(hr:g.status=.running)(d:Nat)(hk:D.s=.ad .yt)(hk0:D.k=0):
 ∃D' g' child,stepG P0 ψ g (w.at d)=.spawn g' child (w.at d) #[]/\CI K w0 D' ((gs.setIfInBounds 0 g').push child) (w.at d) (t++#[{g:=0,fn:=g.frame.fn,pos:=g.frame.place,act:=.go gs.size},{g:=gs.size,fn:=child.frame.fn,pos:=g.frame.place,act:=.start}])/\vN (mu K D') (mu K D):=by
 obtain⟨Q,u,j⟩:=C.g0;rw[hg]at u;cases u
 have J:=A.pos;have L:=C.cn.inr (by rw[hk];rfl);have O:=A.nB;have F:=C.cw.at d;rw[hk]at j;have hs:=j.here hk0 hr
 ·have N:=GP K.b K.q D.r ⟨D.c,0,μ⟩ ⟨D.i,0,μ⟩ K.cs K.c0 _ hs;have G:=Ba (P:=P0) (main:=ψ) (w:=w.at d) (f:=.func 211) (tx:=(K.wp D.i D.c).tx) N;have a:=TR K.b K.q D.r _ K.cs K.c0 _ hs;have M:Z3 ξ ((D.r:Int)+1)=((D.r+1:Nat):Int):=by
   rw[ZY]
   push_cast
   omega
  rw[M]at a;have h:∃o,∃e,Path P0 ψ o (fin undef g) e/\lj K (D.r+1) D.i D.c (if D.r+1<K.n then .s7 else .mq .q7) e:=by
   by_cases p:D.r+1<K.n
   ·rw[show decide (((D.r+1:Nat):Int)<(K.q.n:Int))=ψ from decide_eq_true (by show((D.r+1:Nat):Int)<(K.n:Int);omega)]at a;obtain⟨o,_,e,y,eq⟩:=a.trans fun e E=>GM K.b K.q ((D.r+1:Nat):Int) K.cs K.c0 e E
    exact⟨o,e,y,by rw[if_pos p];exact eq⟩
   ·rw[show decide (((D.r+1:Nat):Int)<(K.q.n:Int))=ω from decide_eq_false (by show ¬((D.r+1:Nat):Int)<(K.n:Int);omega)]at a;obtain⟨o,_,e,y,eq⟩:=a.trans fun e E=>GN K.b K.q ((D.r+1:Nat):Int) K.cs K.c0 e E
    exact⟨o,e,y,by rw[if_neg p];exact eq⟩
  obtain⟨o,e,y,eq⟩:=h;obtain⟨m,_,R,H,B⟩:=LJ (K.wp D.i D.c) {frame:={(default:Z4)with fn:=P0.funcs.size,defers:=[vA (K.wp D.i D.c)],mode:=.panicking [goexitEntry]},callers:=[],status:=.running,dying:=μ} ⟨fun _ _=>undef,rfl⟩;refine⟨D.fork K.n o m w.heap.size,_,_,G,⟨?_,⟨_,?_,.go y eq⟩,fun i x h0 hi z=>?_,fun i hi=>?_,Nb A F hk,Nc A C.cn hk _,?_⟩,?_⟩
  ·simp only[ε,φ];show _=K.p0+(D.r+1);rw[C.size];omega
  ·rw[Z2 (by simp only[φ];rw[C.size];omega),<-Z9,Array.getElem?_setIfInBounds_self_of_lt (by rw[C.size];omega)]
  ·have hi:i<K.p0:=hi;rw[Z2 (by simp only[φ];rw[C.size];omega),<-Z9,ZW (by omega)]at z;rw[rP t rfl rfl (by simp) (by simp)];exact C.old i x h0 hi z
  ·have hi:i<D.r+1:=hi;by_cases v:i=D.r
   ·subst v;refine⟨_,by rw[<-C.size,<-φ (xs:=gs) (i:=0),ZO],?_⟩;show WSit K D.r (K.wp (upd D.ib D.r D.i D.r) (upd D.cb D.r D.c D.r)) (upd D.st D.r .w7 D.r) (D.X D.r) (upd D.l D.r 6 D.r) (upd D.kk D.r m D.r) (upd D.zz D.r 1 D.r) _ (w.at d);simp only[upd_same];exact .go (s:=.w7) H B (by simp) (by simp) (by simp)
   ·obtain⟨x,z,I⟩:=C.wk i (by omega);refine⟨x,?_,?_⟩
    ·rw[Z2 (by simp only[φ];rw[C.size];omega),<-Z9,ZW (by omega)];exact z
    ·show WSit K i (K.wp (upd D.ib D.r D.i i) (upd D.cb D.r D.c i)) (upd D.st D.r .w7 i) (D.X i) (upd D.l D.r 6 i) (upd D.kk D.r m i) (upd D.zz D.r 1 i) _ (w.at d);simp only[upd_ne _ _ v];exact I.at d
  ·rw[C.size];exact Nd A C hk _ _ _ _
  ·left;show K.n-(D.r+1)<K.n-D.r;omega
theorem yN(A:dX K)(C:CI K w0 D gs w t){i:Nat}(h0:0<i)(hi:i<K.p0)(hg:gs[i]?=Γ g)(hr:g.status=.running)(d:Nat):
 ∃D' g' es,stepG P0 ω g (w.at d)=.go g' (w.at d) es/\CI K w0 D' ((gs.map (woken P0 g g' (w.at d))).setIfInBounds i g') (w.at d) (t++Ξ i g.frame.fn g.frame.place es)/\vN (mu K D') (mu K D):=by
 have H:=C.old i g h0 hi hg;cases hqi:D.q i with
 |zero=>rw[hqi]at H;rw[H.1]at hr;cases hr
 |succ k=>
  rw[hqi]at H;rcases H with⟨T,_⟩|⟨_,g',es,I,J,M⟩
  ·rw[T]at hr;cases hr
  have b:=C.cw.at d;have E:=C.ct;have c:∀k,k≠i->ZU (t++Ξ i g.frame.fn g.frame.place es) k=ZU t k:=fun k S=>Z0 t (Ne.symm S) _ gu
  have B:∀op∈Ξ i g.frame.fn g.frame.place es,op.act.touch?=μ:=fun op l=>by obtain⟨e,G,rfl⟩:=Ψ l;exact touch_mute (I e G)
  have v:∀op∈Ξ i g.frame.fn g.frame.place es,op.act.low w.heap.size:=fun op l=>by obtain⟨e,G,rfl⟩:=Ψ l;exact low_mute (I e G) _
  refine⟨{D with q:=upd D.q i k,z:=if dY g g' then 1 else D.z,zz:=fun a=>if dY g g' then 1 else D.zz a},g',es,J _,⟨?_,?_,fun j x O o p=>?_,fun j o=>?_,?_,?_,?_⟩,?_⟩
  ·simp only[φ,ZS];exact C.size
  ·obtain⟨x,p,L⟩:=C.g0;exact⟨_,by rw[fw (by omega),p];rfl,L.woken⟩
  ·by_cases u:j=i
   ·subst u;rw[pd (by rw[C.size];have:j<K.p0:=o;omega)]at p;cases p
    rw[Deaf_own];show ZX P0 (upd D.q j k j) _ _;rw[upd_same];exact M
   ·rw[fw (fun h=>u h.symm)]at p;obtain⟨y,U,rfl⟩:=ο.1 p;have F:=C.old j y O o U;rw[woken_quitsD F,c j u];show ZX P0 (upd D.q i k j) _ _;rw[upd_ne _ _ u];exact F
  ·obtain⟨x,p,Q⟩:=C.wk j o;exact⟨_,by rw[fw (by omega),p];rfl,(Q.at d).woken⟩
  ·exact⟨b.tape,b.output,b.os,b.at_,b.box,b.Hd,b.hz,b.zs,b.Bj,b.hi,b.hc,b.xr,b.xd,b.x4,b.rows,b.who⟩
  ·have N:=C.cn;refine⟨N.rn,N.inr,N.out,N.gi,N.vM,N.wg,N.mf,N.gone,fun h=>?_,fun j o h=>?_⟩
   ·have h:(if dY g g' then 1 else D.z)=0:=h;split at h
    ·cases h
    ·exact N.zs h
   ·have h:(if dY g g' then 1 else D.zz j)=0:=h;split at h
    ·cases h
    ·exact N.zw j o h
  ·refine⟨by rw[c 0 (by omega)];exact E.d0,fun j o=>by rw[c _ (by omega)];exact E.dw j o,fun j o=>by rw[c _ (by have:K.p0+D.r<=j:=o;omega)];exact E.dz j o,fun hs=>?_,fun hs=>?_⟩
   ·obtain⟨t1,t2,R⟩:=E.ti hs;refine⟨t1.CZ (g:=i) gu B v,fun j o hr=>?_,R.app fun op l=>?_⟩
    ·obtain⟨n,V⟩:=t2 j o hr;exact⟨n,V.appOther gu (by omega)⟩
    ·obtain⟨e,G,rfl⟩:=Ψ l;have:=I e G;obtain⟨loc,wr,W⟩:=e;cases loc with
     |mark m=>cases m<;>first|(simp[χ];done)|cases this
     |_=>cases this
   ·obtain⟨t1,t2⟩:=E.pa hs;refine⟨t1.mute (by omega) I,fun n x p P=>?_⟩;rcases cc p with⟨_,s⟩|⟨op,l,s,_⟩
    ·exact t2 n x s P
    ·rw[B op l]at s;cases s
  ·refine .inr ⟨rfl,.inr ⟨rfl,.inr ⟨rfl,.inl ?_⟩⟩⟩;show sumTo D.r D.kk+D.k+sumTo K.p0 (upd D.q i k)<sumTo D.r D.kk+D.k+sumTo K.p0 D.q;have:=C8 (f:=D.q) (x:=k) hi;omega
theorem Hi(A:dX K)(C:CI K w0 D gs w t):∃(i:Nat) (g:Ω),gs[i]?=Γ g/\g.status=.running:=by
 apply κ;intro l;have u:∀(i:Nat) (g:Ω),gs[i]?=Γ g->g.status≠.running:=fun i g m v=>l ⟨i,g,m,v⟩
 obtain⟨g0,s,p⟩:=C.g0;rcases p.status with⟨h,_⟩|⟨_,hz,_,hs⟩
 ·exact u _ _ s h
 have z:=C.cn.zs hz;have wk:∀j,j<D.r->(∃x,D.st j=.s1 x/\D.h.ms=0)\/D.st j=.fin:=by
  intro j d;obtain⟨g,m,f⟩:=C.wk j d;rcases f.status with⟨h,_⟩|⟨_,hz,_,x,a⟩|⟨_,h,_⟩
  ·exact absurd h (u _ _ m)
  ·exact .inl ⟨x,a,C.cn.zw j d hz⟩
  ·exact .inr h
 have zero:∀F:St->Nat,(∀x,F (.s1 x)=0) ->F .fin=0->cnt D.r F D.st=0:=by
  intro F G B;have:=mV (n:=D.r) (F:=F) (st:=D.st) (c:=0) fun j d=>by
   rcases wk j d with⟨x,a,_⟩|a<;>rw[a]
   ·rw[G];exact Nat.le_refl _
   ·rw[B];exact Nat.le_refl _
  omega
 have o:=C.cn.wg;rw[hs,zero nL (fun _=>rfl) rfl,zero nM (fun _=>rfl) rfl]at o;have N:=o.wait rfl;have M:=o.k;have L:0<D.h.k:=by omega
 have I:xa (.mq .rJ)=0:=rfl;have H:cnt D.r nG D.st≠0:=by omega
 have E:cnt D.r nG D.st=cnt D.r nQ D.st:=by
  have q:∀r,r<=D.r->cnt r nG D.st=cnt r nQ D.st:=by
   intro r
   induction r with
   |zero=>intro _;rfl
   |succ r J=>
    intro v;have e:∀F:St->Nat,cnt (r+1) F D.st=cnt r F D.st+F (D.st r):=fun _=>rfl
    rw[e,e,J (by omega)];rcases wk r (by omega)with⟨x,a,_⟩|a<;>rw[a]<;>rfl
  exact q D.r (Nat.le_refl _)
 have b:D.h.ms=0:=by
  apply κ;intro b;apply H;have:=mV (n:=D.r) (F:=nG) (st:=D.st) (c:=0) fun j d=>by
   rcases wk j d with⟨x,_,h⟩|a
   ·exact absurd h b
   ·rw[a];exact Nat.le_refl _
  omega
 have y:=C.cn.gi.Ee;rw[b,zero nO (fun _=>rfl) rfl,zero nA (fun _=>rfl) rfl,zero nT (fun _=>rfl) rfl,zero nH (fun _=>rfl) rfl,zero nU (fun _=>rfl) rfl,zero nV (fun _=>rfl) rfl,zero nC (fun _=>rfl) rfl]at y;have:=Gw y;omega
theorem all_awake(C:CI K w0 D gs w t):∀g∈gs,awake g:=by
 intro g e;obtain⟨i,hi,rfl⟩:=Array.mem_iff_getElem.1 e;have a:gs[i]?=Γ gs[i]:=Z9 hi;rcases Nat.eq_zero_or_pos i with rfl|c
 ·obtain⟨g0,d,f⟩:=C.g0;rw[a]at d;cases d
  rcases f.status with h|h
  ·exact ZR (.inl h.1)
  ·exact ZR (.inr (.inl h.1))
 ·by_cases j:i<K.p0
  ·exact ZR ((C.old i _ c j a).status.elim .inl fun x=>.inr (.inr x))
  ·have hs:=C.size;obtain⟨g,e,b⟩:=C.wk (i-K.p0) (by omega);rw[show K.p0+(i-K.p0)=i by omega,a]at e;cases e
   rcases b.status with h|h|h
   ·exact ZR (.inl h.1)
   ·exact ZR (.inr (.inl h.1))
   ·exact ZR (.inr (.inr h.1))
theorem crowd_step(A:dX K)(C:CI K w0 D gs w t)(sl:Option (Nat×Nat))(hend:¬(D.s=.mq .kI/\D.k=0)):
 ∃D' gs' w' sl' ops,stepT P0 (crowd gs w sl)=(.next (crowd gs' w' sl'),ops)/\CI K w0 D' gs' w' (t++ops)/\vN (mu K D') (mu K D):=by
 have y:=A.pos;obtain⟨i,g,d,sl',hi,l,c⟩:=crowd_pick (P:=P0) (w:=w) (sl:=sl) (all_awake C) (Hi A C);rcases Nat.eq_zero_or_pos i with rfl|u
 ·by_cases q:D.s=.ad .yt/\D.k=0
  ·obtain⟨D',x,v,f,m,n⟩:=Eu A C hi l d q.1 q.2;have o:=runT_crowd_spawn (P:=P0) (sl:=sl') (i:=0) hi f;refine⟨D',_,_,_,_,c.trans o,?_,n⟩;have e:∀a b:MemOp,((Ξ 0 g.frame.fn g.frame.place #[]).push a).push b=#[a,b]:=fun a b=>by rw[ofEvents_eq];simp
   rw[e];exact m
  ·obtain⟨D',x,w',z,f,m,n⟩:=vO A C hi l d (fun h=>Nat.pos_of_ne_zero fun h0=>q ⟨h,h0⟩) (fun h=>Nat.pos_of_ne_zero fun h0=>hend ⟨h,h0⟩);exact⟨D',_,_,_,_,c.trans (ZL (P:=P0) (sl:=sl') (i:=0) hi f),m,n⟩
 ·have p:(i==0)=ω:=by simp;omega
  by_cases r:i<K.p0
  ·obtain⟨D',x,z,f,m,n⟩:=yN A C u r hi l d;exact⟨D',_,_,_,_,c.trans (ZL (P:=P0) (sl:=sl') (i:=i) hi (by rw[p];exact f)),m,n⟩
  ·have hs:=C.size;have B:i<gs.size:=(ZQ.1 hi).1;obtain⟨j,rfl⟩:∃j,i=K.p0+j:=⟨i-K.p0,by omega⟩;obtain⟨D',x,w',z,f,m,n⟩:=yM A C (by omega) hi l d;exact⟨D',_,_,_,_,c.trans (ZL (P:=P0) (sl:=sl') (i:=K.p0+j) hi (by rw[p];exact f)),m,n⟩
theorem Ev(A:dX K):∀(D:CD) (gs:Array Ω) (w:η) (t:Trace) (sl:Option (Nat×Nat)),CI K w0 D gs w t->
 ∃N D' gs' w' sl' t',runNT P0 N (crowd gs w sl) t=(.next (crowd gs' w' sl'),t')/\CI K w0 D' gs' w' t'/\D'.s=.mq .kI/\D'.k=0:=by
 intro D;generalize f:mu K D=m
 induction m using MX.induction generalizing D with
 |_ m j=>
  intro gs w t sl C;subst f;by_cases a:D.s=.mq .kI/\D.k=0
  ·exact⟨0,D,gs,w,sl,t,rfl,C,a⟩
  ·obtain⟨o,d,g,e,i,c,q,l⟩:=crowd_step A C sl a;obtain⟨N,D',gs',w',sl',t',b,h,p,n⟩:=j _ l o rfl d g _ e q;exact⟨N+1,D',gs',w',sl',t',by rw[runNT];simp only[c];exact b,h,p,n⟩
end
end
end Ph
namespace Ph
open Go Go.Conc
open Go.ConcM (muA msA MuAt ShAt Eff BookOK Bk2)
open Go.ConcR (stA smA WgAt mk)
section
def hw(w:η)(H:Array Obj):η:={w with heap:=H}
def bA(w:η)(D:η->η->Array ZT->Prop)(Stop:Ω->η->Prop)(g:Ω)(H:Array Obj):Prop:=∃n,∀d,Goes P0 ψ AtRel D Stop n g ((hw w H).at d)
section
variable{w:η}{D:η->η->Array ZT->Prop}{Stop:Ω->η->Prop}{g g':Ω}{H H':Array Obj}{S:Ω->Prop}
theorem bA.stop(h:∀d,Stop g ((hw w H).at d)):bA w D Stop g H:=⟨0,fun d c a=>by obtain⟨b,rfl⟩:=a;exact h b⟩
theorem bA.step{es:Array ZT}(hr:g.status=.running)(h:∀d,stepG P0 ψ g ((hw w H).at d)=.go g' ((hw w H').at d) es)(hD:∀d,D ((hw w H).at d) ((hw w H').at d) es)(hg:bA w D Stop g' H'):bA w D Stop g H:=by obtain⟨n,c⟩:=hg;refine⟨n+1,fun d=>Goes.step hr fun e b=>?_⟩;obtain⟨a,rfl⟩:=b;show(stepG P0 ψ g ((hw w H).at a)).goes _;rw[h a];exact⟨hD a,c a⟩
theorem bA.path{k:Nat}(hD:∀d,D ((hw w H).at d) ((hw w H).at d) #[])(hg:bA w D Stop g' H):∀{k:Nat} {g:Ω},Path P0 ψ k g g'->bA w D Stop g H
 |0,g,h=>by have:g'=g:=h;rw[<-this];exact hg
 |k+1,g,h=>by obtain⟨hr,g1,hst,h1⟩:=h;exact bA.step hr (fun d=>hst _) hD (bA.path (k:=k) hD hg h1)
theorem bA.to{k:Nat}(hD:∀d,D ((hw w H).at d) ((hw w H).at d) #[])(h:ak P0 ψ k S g)(hg:∀g',S g'->bA w D Stop g' H):bA w D Stop g H:=by obtain⟨b,_,g',a,hs⟩:=h;exact bA.path (k:=b) hD (hg g' hs) a
end
theorem aH{d:bG}{ds:List bG}{cs:List Z4}{g:Ω}(h:aQ d ds cs g):g.status=.running:=by obtain⟨F,rfl⟩:=h;rfl
def mZ(kd:CallKind)(c0:Z4):Z4:=
 match kd with
 |.normal|.wrapped=>c0.finish (.tuple #[])
 |.early=>c0
 |_=>match c0.mode with
  |.panicking ({recovered:=ψ,..}::older)=>
   match older.dropWhile (!·.goexit)with
   |[]=>{c0 with mode:=.returning}
   |rest=>{c0 with mode:=.panicking rest}
  |_=>c0
theorem Vi(b:Bool)(tmps:Array ZP)(T:List Item)(c0:Z4)(cs:List Z4)(w:η):stepG P0 ψ (G {fn:=166,tmps,todo:=T,defers:=[],mode:=.returning,kind:=jq b} (c0::cs)) w=.go (G (mZ (jq b) c0) cs) w #[]:=by cases b<;>kernel_rfl
def Db(e:Int):List PanicEntry:=[{v:=.iface 177 (.agg #[υ ξ e]),recovered:=ω}]
theorem alq(fr:Z4)(h:fr.fn=84):fr.catches P0=ω:=by obtain⟨fn,a,todo,defers,mode,kind,b⟩:=fr;dsimp only at h;subst h;kernel_rfl
theorem adL(fr:Z4)(h:fr.fn=166):fr.catches P0=ω:=by obtain⟨fn,a,todo,defers,mode,kind,b⟩:=fr;dsimp only at h;subst h;kernel_rfl
def rQ(b:Bool)(c0:Z4)(cs:List Z4):Option Int->Ω
 |none=>G (mZ (jq b) c0) cs
 |some e=>G (c0.raise (Db e)) cs
section
variable{w:η}{D:η->η->Array ZT->Prop}{Stop:Ω->η->Prop}{H:Array Obj}
theorem yO(hD:∀d,D ((hw w H).at d) ((hw w H).at d) #[])(b:Bool)(e:Int)(T:List Item)(l l':List (Nat×ZP))(c0:Z4)(cs:List Z4)(g:Ω)(h:aQ {fF tfp ψ e with l:=(7,.iface 177 (.agg #[υ ξ e]))::l} [fK b T l'] (c0::cs) g)
 (hh:∀w,∃s,au g=Γ s/\s.runT P0 w #[]=(.halt (.panic (.iface 177 (.agg #[υ ξ e]))) w,#[])) (hs:bA w D Stop (rQ b c0 cs (Γ e)) H):bA w D Stop g H:=by
 obtain⟨F,rfl⟩:=h;have s1:∀d,stepG P0 ψ (SC {fF tfp ψ e with l:=(7,.iface 177 (.agg #[υ ξ e]))::l} [fK b T l'] (c0::cs) F) ((hw w H).at d)=.go (G ((({fF tfp ψ e with l:=(7,.iface 177 (.agg #[υ ξ e]))::l}:bG).fr (l7 8 (cO ((7,.iface 177 (.agg #[υ ξ e]))::l) (F 0)))).raise (Db e)) (((fK b T l').fr (l7 43 (cO l' (F 1))))::c0::cs)) ((hw w H).at d) #[]:=fun d=>by obtain⟨s,a,c⟩:=hh ((hw w H).at d);exact Bc a c
 refine bA.step rfl s1 hD (bA.step rfl (fun d=>uu (ch:=Db e) rfl rfl (alq _ rfl)) hD (bA.step rfl (fun d=>uu (ch:=Db e) rfl rfl (adL _ rfl)) hD hs))
end
def tk0:List Item:=(Frame.enter P0 166 #[] .normal).todo
theorem Hj(b:Bool)(v0:ZP)(ca:Option Addr)(n m:Nat)(room:Int)(cs:List Z4)(c0:Z4)(g:Ω)(h:aQ (fK b tk0 [(0,v0),(1,.slice ca n m),iv 2 room]) [] (c0::cs) g):ak P0 ψ 300 (aQ (fK b tk3 [(0,v0),(1,.slice ca n m),iv 2 room]) [] (c0::cs)) g:=by cases b<;>exact aQ.QF (ah 166 3) 300 (fun F=>by kernel_rfl) (fun F=>by kernel_rfl) (fun F=>by kernel_rfl) g h
def H5(h0:Array Obj)(B0 n:Nat)(v0:ZP):Array Obj:=((((h0.push (Θ #[v0] 104)).push (.cells (bP n) 34)).push (Θ #[Z8 (Γ ⟨B0+1,0,μ⟩) n n] 83)).push (Θ #[υ .i32 0,υ .u32 0] 249)).push (Θ #[υ .u64 0,υ .u32 0] 255)
theorem Hk{w:η}{H:Array Obj}{d:Nat}{cs:Array ZP}{e:TypeId}{f:Nat×Nat}{o:Nat}{v:ZP}{B:Nat}(hB:H.size=B):((hw w (H.push (.cells cs e f))).at d).setCell ⟨B,o,μ⟩ v=(hw w (H.push (.cells (cs.setIfInBounds o v) e f))).at d:=by
 have:(H.push (.cells cs e f)).modify B (fun a=>match a with
  |.cells cs e f=>.cells (cs.setIfInBounds o v) e f
  |a=>a)=H.push (.cells (cs.setIfInBounds o v) e f):=by
  apply Array.ext_getElem?;intro i;rw[Array.getElem?_modify];by_cases hi:B=i
  ·subst hi;subst hB;simp
  ·rw[if_neg hi,ι,ι];rw[if_neg (by omega),if_neg (by omega)]
 unfold World.setCell;exact congrArg (fun x=>({(hw w (H.push (.cells cs e f))).at d with heap:=x}:η)) this
section
variable{w:η}{D:η->η->Array ZT->Prop}{Stop:Ω->η->Prop}
theorem yP(K:PC)(hn:K.n<1048576)(hs:K.h0.size=K.B0)(hD0:∀a b,D a b #[])(hD1:∀a b,D a b #[⟨.cell ⟨K.B0+2,0,μ⟩,ψ,ω⟩])(room:Int)(hroom:¬((K.n:Int)>room))
 (hstop:∀g,lj K 0 0 0 (if 0<K.n then .s7 else .mq .q7) g->bA w D Stop g (H5 K.h0 K.B0 K.n (Δ (Γ K.v0)))):
 ∀g,aQ (fK K.b tk0 [pv 0 K.v0,(1,.slice K.ca K.n K.m),iv 2 room]) [] (K.c0::K.cs) g->bA w D Stop g K.h0:=by
 intro g f;have s1:(K.h0.push (Θ #[Δ (Γ K.v0)] 104)).size=K.B0+1:=by simp[hs]
 have e:((K.h0.push (Θ #[Δ (Γ K.v0)] 104)).push (.cells (bP K.n) 34)).size=K.B0+2:=by simp[hs]
 have j:∀o,(((K.h0.push (Θ #[Δ (Γ K.v0)] 104)).push (.cells (bP K.n) 34)).push o).size=K.B0+3:=fun o=>by simp[hs]
 have k:∀o i,((((K.h0.push (Θ #[Δ (Γ K.v0)] 104)).push (.cells (bP K.n) 34)).push o).push i).size=K.B0+4:=fun o i=>by simp[hs]
 refine bA.to (fun d=>hD0 _ _) (Hj K.b (Δ (Γ K.v0)) K.ca K.n K.m room K.cs K.c0 g f) fun g h=>?_
 refine bA.step (aH h) (fun d=>?_) (fun d=>hD0 _ _) (bA.to (H:=K.h0.push (Θ #[Δ (Γ K.v0)] 104)) (fun d=>hD0 _ _) (acn K.b (Δ (Γ K.v0)) K.ca K.n K.m room ⟨K.B0,0,μ⟩ K.cs K.c0 g h) fun g h=>?_)
 ·have:=rI (P:=P0) (main:=ψ) (w:=(hw w K.h0).at d) (acI (h:=h));rw[show((hw w K.h0).at d).heap.size=K.B0 from hs]at this;exact this
 rw[decide_eq_false hroom]at h;refine bA.to (fun d=>hD0 _ _) (akV K.b (Δ (Γ K.v0)) K.ca K.n K.m room ⟨K.B0,0,μ⟩ K.cs K.c0 g h) fun g h=>?_
 refine bA.step (aH h) (fun d=>?_) (fun d=>hD0 _ _) (bA.to (H:=(K.h0.push (Θ #[Δ (Γ K.v0)] 104)).push (.cells (bP K.n) 34)) (fun d=>hD0 _ _) (TF K.b (Δ (Γ K.v0)) K.ca K.n K.m room ⟨K.B0,0,μ⟩ ⟨K.B0+1,0,μ⟩ K.cs K.c0 g h) fun g h=>?_)
 ·have:=Ef (main:=ψ) (w:=(hw w (K.h0.push (Θ #[Δ (Γ K.v0)] 104))).at d) hn (Up (h:=h));rw[show((hw w (K.h0.push (Θ #[Δ (Γ K.v0)] 104))).at d).heap.size=K.B0+1 from s1]at this;exact this
 refine bA.step (aH h) (fun d=>?_) (fun d=>hD0 _ _) (bA.to (H:=((K.h0.push (Θ #[Δ (Γ K.v0)] 104)).push (.cells (bP K.n) 34)).push (Θ #[Z8 μ 0 0] 83)) (fun d=>hD0 _ _) (aco K.b (Δ (Γ K.v0)) K.ca K.n K.m room ⟨K.B0,0,μ⟩ ⟨K.B0+2,0,μ⟩ ⟨K.B0+1,0,μ⟩ K.cs K.c0 g h) fun g h=>?_)
 ·have:=gq (P:=P0) (main:=ψ) (w:=(hw w ((K.h0.push (Θ #[Δ (Γ K.v0)] 104)).push (.cells (bP K.n) 34))).at d) (acJ (h:=h)) z83;rw[show((hw w ((K.h0.push (Θ #[Δ (Γ K.v0)] 104)).push (.cells (bP K.n) 34))).at d).heap.size=K.B0+2 from e]at this;exact this
 refine bA.step (es:=#[⟨.cell ⟨K.B0+2,0,μ⟩,ψ,ω⟩]) (aH h) (fun d=>?_) (fun d=>hD1 _ _) (bA.to (H:=((K.h0.push (Θ #[Δ (Γ K.v0)] 104)).push (.cells (bP K.n) 34)).push (Θ #[Z8 (Γ ⟨K.B0+1,0,μ⟩) K.n K.n] 83)) (fun d=>hD0 _ _) (Mv K.b (Δ (Γ K.v0)) K.ca K.n K.m room ⟨K.B0,0,μ⟩ ⟨K.B0+2,0,μ⟩ ⟨K.B0+1,0,μ⟩ K.cs K.c0 g h) fun g h=>?_)
 ·have c:((hw w (((K.h0.push (Θ #[Δ (Γ K.v0)] 104)).push (.cells (bP K.n) 34)).push (Θ #[Z8 μ 0 0] 83))).at d).heap[K.B0+2]?=Γ (Θ #[Z8 μ 0 0] 83):=by show(((K.h0.push (Θ #[Δ (Γ K.v0)] 104)).push (.cells (bP K.n) 34)).push (Θ #[Z8 μ 0 0] 83))[K.B0+2]?=_;rw[<-e,ZO]
  have:=iS (P:=P0) (main:=ψ) (w:=(hw w (((K.h0.push (Θ #[Δ (Γ K.v0)] 104)).push (.cells (bP K.n) 34)).push (Θ #[Z8 μ 0 0] 83))).at d) (MD (h:=h)) ak7 rfl rfl (v:=Z8 μ 0 0) (by rw[aP,bM c];rfl) (by rw[aP];exact g8 c) (by rw[aQ.cg h];exact uw);rw[aP,Hk e]at this;exact this
 refine bA.step (aH h) (fun d=>?_) (fun d=>hD0 _ _) (bA.to (H:=(((K.h0.push (Θ #[Δ (Γ K.v0)] 104)).push (.cells (bP K.n) 34)).push (Θ #[Z8 (Γ ⟨K.B0+1,0,μ⟩) K.n K.n] 83)).push (Θ #[υ .i32 0,υ .u32 0] 249)) (fun d=>hD0 _ _) (acp K.b (Δ (Γ K.v0)) K.ca K.n K.m room ⟨K.B0,0,μ⟩ ⟨K.B0+2,0,μ⟩ ⟨K.B0+3,0,μ⟩ K.cs K.c0 g h) fun g h=>?_)
 ·have:=gq (P:=P0) (main:=ψ) (w:=(hw w (((K.h0.push (Θ #[Δ (Γ K.v0)] 104)).push (.cells (bP K.n) 34)).push (Θ #[Z8 (Γ ⟨K.B0+1,0,μ⟩) K.n K.n] 83))).at d) (acK (h:=h)) akX;rw[show((hw w (((K.h0.push (Θ #[Δ (Γ K.v0)] 104)).push (.cells (bP K.n) 34)).push (Θ #[Z8 (Γ ⟨K.B0+1,0,μ⟩) K.n K.n] 83))).at d).heap.size=K.B0+3 from j _]at this;exact this
 refine bA.step (aH h) (fun d=>?_) (fun d=>hD0 _ _) (bA.to (H:=H5 K.h0 K.B0 K.n (Δ (Γ K.v0))) (fun d=>hD0 _ _) (acr K.b (Δ (Γ K.v0)) K.ca K.n K.m room ⟨K.B0,0,μ⟩ ⟨K.B0+2,0,μ⟩ ⟨K.B0+3,0,μ⟩ ⟨K.B0+4,0,μ⟩ K.cs K.c0 g h) fun g h=>?_)
 ·have:=gq (P:=P0) (main:=ψ) (w:=(hw w ((((K.h0.push (Θ #[Δ (Γ K.v0)] 104)).push (.cells (bP K.n) 34)).push (Θ #[Z8 (Γ ⟨K.B0+1,0,μ⟩) K.n K.n] 83)).push (Θ #[υ .i32 0,υ .u32 0] 249))).at d) (acL (h:=h)) akY;rw[show((hw w ((((K.h0.push (Θ #[Δ (Γ K.v0)] 104)).push (.cells (bP K.n) 34)).push (Θ #[Z8 (Γ ⟨K.B0+1,0,μ⟩) K.n K.n] 83)).push (Θ #[υ .i32 0,υ .u32 0] 249))).at d).heap.size=K.B0+4 from k _ _]at this;exact this
 by_cases h0:0<K.n
 ·rw[show decide ((0:Int)<(K.n:Int))=ψ from decide_eq_true (by omega)]at h;refine bA.to (fun d=>hD0 _ _) (GM K.b K.q 0 K.cs K.c0 g h) fun g h=>?_
  exact hstop g (by rw[if_pos h0];exact h)
 ·rw[show decide ((0:Int)<(K.n:Int))=ω from decide_eq_false (by omega)]at h;refine bA.to (fun d=>hD0 _ _) (GN K.b K.q 0 K.cs K.c0 g h) fun g h=>?_
  exact hstop g (by rw[if_neg h0];exact h)
def cU(ev:Nat->Int):Nat->Nat->Option Int
 |0,_=>μ
 |k+1,i=>if ev i≠0 then Γ (ev i)else cU ev k (i+1)
theorem rR(K:PC)(hn:K.n<1048576)(H:Array Obj)(hD0:∀a b,D a b #[])(hD1:∀a b i,i<K.n->D a b #[⟨.cell ⟨K.B0+1,i,μ⟩,ω,ω⟩]){cs:Array ZP}(he:H[K.B0+1]?=Γ (.cells cs 34))(hcs:∀i,i<K.n->cs[i]?=Γ (υ ξ (K.ev i))):
 ∀(k i:Nat),k+i=K.n->bA w D Stop (rQ K.b K.c0 K.cs (cU K.ev k i)) H->∀g,aQ (b6 K.b K.q rH [bv 35 (decide ((i:Int)<K.n)),(32,Z8 (Γ K.E) K.n K.n),iv 33 K.n,iv 34 i]) [] (K.c0::K.cs) g->bA w D Stop g H
 |0,i,hi,hs,g,h=>by
  rw[show decide ((i:Int)<(K.n:Int))=ω from decide_eq_false (by omega)]at h;refine bA.to (fun d=>hD0 _ _) (Uc K.b K.q K.E K.n i K.cs K.c0 g h) fun g h=>?_
  obtain⟨F,rfl⟩:=h;exact bA.step rfl (fun d=>Vi K.b _ _ _ _ _) (fun d=>hD0 _ _) hs
 |k+1,i,hi,hs,g,h=>by
  have hin:i<K.n:=by omega
  rw[show decide ((i:Int)<(K.n:Int))=ψ from decide_eq_true (by omega)]at h;refine bA.to (fun d=>hD0 _ _) (T9 K.b K.q K.E K.n i K.cs K.c0 g h) fun g h=>?_
  refine bA.step (H':=H) (aH h) (fun d=>jr (P:=P0) (main:=ψ) (Uu (h:=h)) L8 GC hin) (fun d=>hD0 _ _) (bA.to (fun d=>hD0 _ _) (Ua K.b K.q K.E (K.E.add (i*1)) K.n i K.cs K.c0 g h) fun g h=>?_);have ea:K.E.add (i*1)=⟨K.B0+1,i,μ⟩:=by show(⟨K.B0+1,0,μ⟩:Addr).add _=_;rw[aP,Nat.mul_one,Nat.zero_add]
  rw[ea]at h;refine bA.step (H':=H) (es:=#[⟨.cell ⟨K.B0+1,i,μ⟩,ω,ω⟩]) (aH h) (fun d=>?_) (fun d=>hD1 _ _ i hin) (bA.to (fun d=>hD0 _ _) (Ub K.b K.q K.E ⟨K.B0+1,i,μ⟩ K.n i (K.ev i) K.cs K.c0 g h) fun g h=>?_)
  ·exact du (q:=ω) (P:=P0) (main:=ψ) (w:=(hw w H).at d) (Uv (h:=h)) Tv (by rw[bM (cs:=cs) (e:=34) (f:=(0,0)) he];exact hcs i hin) (by rw[aQ.cg h];exact uw)
  by_cases hz:K.ev i=0
  ·have hb:(K.ev i !=0)=ω:=by rw[hz];rfl
   rw[hb]at h;refine bA.to (fun d=>hD0 _ _) (acB K.b K.q K.E K.n i (K.ev i) K.cs K.c0 g h) fun g h=>?_
   rw[show Z3 ξ ((i:Int)+1)=((i+1:Nat):Int) by rw[ZY];push_cast;omega]at h
   refine rR K hn H hD0 hD1 he hcs k (i+1) (by omega) ?_ g h;rw[cU,if_neg (by simp[hz])]at hs;exact hs
  ·have hb:(K.ev i !=0)=ψ:=by simp[hz]
   rw[hb]at h;rw[cU,if_pos hz]at hs;refine bA.to (fun d=>hD0 _ _) (acC K.b K.q K.E K.n i (K.ev i) K.cs K.c0 g h) fun g h=>?_
   exact yO (fun d=>hD0 _ _) K.b (K.ev i) _ _ _ K.c0 K.cs g h (fun w=>Uw (h:=h) (w:=w)) hs
theorem Ew(K:PC)(hn:K.n<1048576)(H:Array Obj)(hD0:∀a b,D a b #[])(hD1:∀a b i,i<K.n->D a b #[⟨.cell ⟨K.B0+1,i,μ⟩,ω,ω⟩])(hD2:∀a b,D a b #[⟨.cell ⟨K.B0+2,0,μ⟩,ω,ω⟩]){cs:Array ZP}(he:H[K.B0+1]?=Γ (.cells cs 34))(hcs:∀i,i<K.n->cs[i]?=Γ (υ ξ (K.ev i)))
 (heb:H[K.B0+2]?=Γ (Θ #[Z8 (Γ K.E) K.n K.n] 83)) (hs:bA w D Stop (rQ K.b K.c0 K.cs (cU K.ev K.n 0)) H) (g:Ω) (h:aQ (b6 K.b K.q A9 []) [] (K.c0::K.cs) g):bA w D Stop g H:=by
 refine bA.step (H':=H) (es:=#[⟨.cell ⟨K.B0+2,0,μ⟩,ω,ω⟩]) (aH h) (fun d=>?_) (fun d=>hD2 _ _) (bA.to (fun d=>hD0 _ _) (T8 K.b K.q K.E K.n K.cs K.c0 g h) fun g h=>?_)
 ·exact du (q:=ω) (P:=P0) (main:=ψ) (w:=(hw w H).at d) (ad:=⟨K.B0+2,0,μ⟩) (Ut (h:=h)) ab9 (by rw[bM (cs:=#[Z8 (Γ K.E) K.n K.n]) (e:=83) (f:=(0,0)) heb];rfl) (by rw[aQ.cg h];exact uw)
 exact rR K hn H hD0 hD1 he hcs K.n 0 rfl hs g h
end
end
end Ph
namespace Ph
open Go Go.Conc
open Go.ConcN (sumTo upd sumTo_upd upd_ne upd_same RelBy)
open Go.ConcM (muA msA MuAt ShAt Eff BookOK Bk2)
open Go.ConcR (stA smA WgAt mk)
section
theorem Ex{w:η}{B:Nat}(h3:w.heap[B+3]?=Γ (Θ #[υ .i32 0,υ .u32 0] 249))(h4:w.heap[B+4]?=Γ (Θ #[υ .u64 0,υ .u32 0] 255)):ShAt 249 255 (B+3) (B+4) w (dU ⟨Wd.zero,0,0,0,0⟩):=by
 have e:Wd.zero.z=0:=by rfl
 refine⟨?_,h4⟩;show MuAt 249 (B+3) w Wd.zero.z 0;rw[e];exact h3
theorem Nf{w:η}{M W:Nat}{s:Go.ConcM.Sh}(h:ShAt 249 255 M W w s):(∃cs f,w.heap[M]?=Γ (.cells cs 249 f))/\∃cs f,w.heap[W]?=Γ (.cells cs 255 f):=⟨⟨_,_,h.1⟩,⟨_,_,h.2⟩⟩
theorem jR{d n:Nat}{g':Ω}(hq:ZX P0 n d g'):∀{k:Nat} {g:Ω},Path P0 ω k g g'->ZX P0 (k+n) d g
 |0,g,h=>by have:g'=g:=h;rw[<-this,Nat.zero_add];exact hq
 |k+1,g,h=>by obtain⟨hr,g1,hst,h1⟩:=h;have:=jR hq h1;rw[show k+1+n=(k+n)+1 by omega];exact .inr ⟨hr,g1,#[],by simp,hst,this⟩
theorem yQ{p:WP}{e:Int}{g:Ω}(h:bh p e .gx g):ZX P0 1 0 g:=.inr ⟨(js h).1,_,#[],by simp,fun w=>QN (w:=w) h,⟨rfl,rfl⟩⟩
theorem Hl{p:WP}{e:Int}{g:Ω}(h:bh p e .gn g):∃n,ZX P0 n 1 g:=by
 have b:∀{c:Ω},ak P0 ω 2000 (bh p e .gx) c->g.status=.running->(∀w,stepG P0 ω g w=.go c w #[mk .enable]) ->∃n,ZX P0 n 1 g:=by intro c f i d;obtain⟨k,_,j,a,eq⟩:=f;exact⟨(k+1)+1,.inr ⟨i,c,#[mk .enable],by simp[mk,Event.mute],d,jR (yQ eq) a⟩⟩
 rcases h with hs|hs
 ·obtain⟨F,rfl⟩:=hs;exact b ((Gz p _ ⟨F,rfl⟩).le (by omega)) rfl fun w=>g6 .enable (fun g h=>by cases h) tw rfl rfl
 ·obtain⟨F,rfl⟩:=hs;exact b ((CJ p _ ⟨F,rfl⟩).le (by omega)) rfl fun w=>g6 .enable (fun g h=>by cases h) tw rfl rfl
theorem vP{K:PC}{j:Nat}{p:WP}{s:St}{X:Nat->Prop}{l k z:Nat}{g:Ω}{w:η}(h:WSit K j p s X l k z g w)(hs:s=.gn\/s=.gx\/s=.fin):∃n,ZX P0 n (deaf s) g:=by
 cases h with
 |go h a q m c=>
  rcases hs with rfl|rfl|rfl
  ·obtain⟨n,i⟩:=Hl (show bh p (K.ev j) .gn _ from a);exact⟨_,jR i h⟩
  ·exact⟨_,jR (yQ (show bh p (K.ev j) .gx _ from a)) h⟩
  ·exact absurd rfl c
 |w8 h a=>rcases hs with h|h|h<;>cases h
 |blk a=>rcases hs with h|h|h<;>cases h
 |ap b h e d=>rcases hs with h|h|h<;>cases h
 |pv b o O f h r e d=>rcases hs with h|h|h<;>cases h
 |fin h=>exact⟨0,h,rfl⟩
section
variable{K:PC}{w0 w:η}{D:CD}{gs:Array Ω}{t:Trace}
theorem Bm(A:dX K)(C:CI K w0 D gs w t)(hs:D.s=.mq .kI):∃q,Leavers P0 t gs q:=by
 have hw:∀j,j<D.r->∃n,∀g,gs[K.p0+j]?=Γ g->ZX P0 n (ZU t (K.p0+j)) g:=by
  intro j a;obtain⟨g,c,b⟩:=C.wk j a;obtain⟨n,k⟩:=vP b (ll C.cn hs a);refine⟨n,fun o d=>?_⟩;rw[c]at d;cases d
  rw[C.ct.dw j a];exact k
 have m:∀j,∃n,j<D.r->∀g,gs[K.p0+j]?=Γ g->ZX P0 n (ZU t (K.p0+j)) g:=by
  intro j;by_cases a:j<D.r
  ·obtain⟨n,k⟩:=hw j a;exact⟨n,fun _=>k⟩
  ·exact⟨0,fun h=>absurd h a⟩
 obtain⟨f,l⟩:=Classical.axiomOfChoice m;refine⟨fun i=>if i<K.p0 then D.q i else f (i-K.p0),fun i g h0 c=>?_,fun j a=>?_⟩
 ·have e:=(ZQ.1 c).1;rw[C.size]at e;by_cases hi:i<K.p0
  ·simp only[hi,if_true];exact C.old i g h0 hi c
  ·simp only[hi,if_false];have:=l (i-K.p0) (by omega) g (by rw[show K.p0+(i-K.p0)=i by omega];exact c);rwa[show K.p0+(i-K.p0)=i by omega]at this
 ·rw[C.size]at a;exact C.ct.dz j a
def cd0(n B0:Nat)(q:Nat->Nat):CD:={r:=0,s:=if 0<n then .s7 else .mq .q7,i:=0,c:=0,k:=0,z:=1,st:=fun _=>.w7,X:=fun _ _=>False,l:=fun _=>0,kk:=fun _=>0,zz:=fun _=>1,ib:=fun _=>0,cb:=fun _=>0,H:=fun _=>0,Z:=B0+5,h:=⟨Wd.zero,0,0,0,0⟩,q,f:=fun _ _=>0}
theorem adM(n B0:Nat)(q:Nat->Nat):(cd0 n B0 q).s=.s7\/(cd0 n B0 q).s=.mq .q7:=by
 show(if 0<n then cZ.s7 else cZ.mq .q7)=.s7\/_;split
 ·exact .inl rfl
 ·exact .inr (by show(if 0<n then cZ.s7 else cZ.mq .q7)=_;rename_i h;rw[if_neg h])
theorem adN(h0:Array Obj)(B0 n:Nat)(v0:ZP)(hs:h0.size=B0):(H5 h0 B0 n v0).size=B0+5/\(∀b,b<B0->(H5 h0 B0 n v0)[b]?=h0[b]?)/\(H5 h0 B0 n v0)[B0]?=Γ (Θ #[v0] 104)/\(H5 h0 B0 n v0)[B0+1]?=Γ (.cells (bP n) 34)/\(H5 h0 B0 n v0)[B0+2]?=Γ (Θ #[Z8 (Γ ⟨B0+1,0,μ⟩) n n] 83)/\
 (H5 h0 B0 n v0)[B0+3]?=Γ (Θ #[υ .i32 0,υ .u32 0] 249)/\(H5 h0 B0 n v0)[B0+4]?=Γ (Θ #[υ .u64 0,υ .u32 0] 255):=by
 unfold H5;refine⟨by simp[hs],fun b hb=>?_,?_,?_,?_,?_,?_⟩
 ·simp only[ι,ε,hs];rw[if_neg (by omega),if_neg (by omega),if_neg (by omega),if_neg (by omega),if_neg (by omega)]
 ·simp only[ι,ε,hs];rw[if_neg (by omega),if_neg (by omega),if_neg (by omega),if_neg (by omega),if_pos trivial]
 ·simp only[ι,ε,hs];rw[if_neg (by omega),if_neg (by omega),if_neg (by omega),if_pos trivial]
 ·simp only[ι,ε,hs];rw[if_neg (by omega),if_neg (by omega),if_pos trivial]
 ·simp only[ι,ε,hs];rw[if_neg (by omega),if_pos trivial]
 ·simp only[ι,ε,hs];rw[if_pos trivial]
theorem Hm(A:dX K)(hsz:gs.size=K.p0){g:Ω}(hg:gs[0]?=Γ g)(hst:lj K 0 0 0 (if 0<K.n then .s7 else .mq .q7) g){q:Nat->Nat}(hL:Leavers P0 t gs q)(hP:Past K.Shun (K.B0+3) t)(hw:w.heap=H5 K.h0 K.B0 K.n (Δ (Γ K.v0)))(h1:w.tape=w0.tape)(h2:w.output=w0.output)(h3:w.os=w0.os):
 CI K w0 (cd0 K.n K.B0 q) gs w t:=by
 have hs:=adM K.n K.B0 q;have hd:(cd0 K.n K.B0 q).s=if 0<K.n then .s7 else .mq .q7:=rfl
 obtain⟨o,e1,e2,e3,e4,p,r⟩:=adN K.h0 K.B0 K.n (Δ (Γ K.v0)) A.size;rw[<-hw]at o e1 e2 e3 e4 p r;have c0:∀F:St->Nat,cnt 0 F (fun _=>.w7)=0:=fun _=>rfl
 refine⟨by rw[hsz];rfl,⟨g,hg,.go (g':=g) rfl hst⟩,fun j g h0 b d=>hL.old j g h0 d,fun j b=>absurd b (Nat.not_lt_zero _),?_,?_,?_⟩
 ·refine⟨h1,h2,by rw[h3];exact .refl _,⟨by omega,e1,e2,⟨bP K.n,e3,by simp[bP],fun i hi=>?_⟩,e4,?_⟩,fun j b=>absurd b (Nat.not_lt_zero _),?_,fun j b=>absurd b (Nat.not_lt_zero _),⟨Nat.le_refl _,by rw[o];exact Nat.le_refl _⟩,fun j b=>absurd b (Nat.not_lt_zero _),fun h=>?_,fun h=>?_,fun k x m=>m.elim,fun k z x m=>m.elim,fun j b=>absurd b (Nat.not_lt_zero _),fun x e c=>by omega,fun x e c=>by omega⟩
  ·unfold valOf bP;rw[Array.getElem?_replicate,if_pos hi,if_neg (fun h=>absurd h.1 (Nat.not_lt_zero _))]
  ·exact Ex p r
  ·rcases hs with hs|hs<;>rw[hs]<;>trivial
  ·rcases hs with hs|hs<;>rw[hs]at h<;>cases h
  ·rcases hs with hs|hs<;>rw[hs]at h<;>cases h
 ·refine⟨Nat.zero_le _,fun h=>?_,fun h=>?_,⟨?_,fun i hi=>absurd hi (Nat.not_lt_zero _)⟩,fun j b=>absurd b (Nat.not_lt_zero _),?_,?_,fun h=>rfl,fun h=>rfl,fun j b=>absurd b (Nat.not_lt_zero _)⟩
  ·rw[hd]at h;split at h
   ·assumption
   ·cases h
  ·rw[hd]at h;split at h
   ·cases h
   ·show 0=K.n;omega
  ·show ia Wd.zero 0 0 0 0 0 0 0 0 0;simp[ia,Wd.zero]
  ·show mW (wa (cd0 K.n K.B0 q).s) (xa (cd0 K.n K.B0 q).s) ⟨Wd.zero,0,0,0,0⟩ 0 0 0;rcases hs with hs|hs<;>rw[hs]<;>exact⟨rfl,Nat.zero_le _,fun _=>⟨rfl,rfl,rfl,rfl⟩,fun h=>by cases h⟩
  ·rcases hs with hs|hs<;>rw[hs]<;>trivial
 ·refine⟨?_,fun j b=>absurd b (Nat.not_lt_zero _),fun j b=>hL.above j (by rw[hsz];exact b),fun _=>⟨(TI.start hP (fun l v=>?_) A.pos).mono (by omega),fun j b=>absurd b (Nat.not_lt_zero _),fun i hi=>?_⟩,fun h=>?_⟩
  ·rw[hP.hears];rcases hs with hs|hs<;>rw[hs]<;>rfl
  ·obtain⟨a,rfl,y⟩:=v;exact⟨by show K.B0+3<=a.block;omega,rfl⟩
  ·obtain⟨op,u,f⟩:=ο.1 hi;have:=hP.seen op (Z1 u);rw[f]at this;have:K.B0+4<K.B0+3:=this;omega
  ·rcases hs with hs|hs<;>rw[hs]at h<;>cases h
end
theorem Hn:∀(m a b:Nat) (g:Nat->Nat),(∀x,a<=x->x<b->∃i,i<m/\x=g i) ->b<=a+m
 |0,a,b,g,h=>by apply κ;intro hn;obtain⟨i,hi,_⟩:=h a (Nat.le_refl _) (by omega);omega
 |m+1,a,b,g,h=>by
  apply κ;intro hn;obtain⟨i,hi,hb⟩:=h (b-1) (by omega) (by omega);have:=Hn m a (b-1) (fun k=>if k=i then g m else g k) fun x h1 h2=>by
   obtain⟨k,hk,hx⟩:=h x h1 (by omega);by_cases hkm:k=m
   ·subst hkm;by_cases hik:i=k
    ·subst hik;omega
    ·exact⟨i,by omega,by simp[hx]⟩
   ·have hki:k≠i:=fun e=>by subst e;omega
    exact⟨k,by omega,by simp[hki,hx]⟩
  omega
structure After(K:PC)(w w':η):Prop where
 tape:w'.tape=w.tape
 output:w'.output=w.output
 os:Go.ConcM.OsLater w.os w'.os
 size:K.B0+5<=w'.heap.size
 low:∀b,b<K.B0->w'.heap[b]?=K.h0[b]?
 rows:∀b,K.B0<=b->b<w'.heap.size->∃cs e f,w'.heap[b]?=Γ (.cells cs e f)/\K.TT e
 wW:w'.heap.size<=K.B0+5+K.n*(K.C+2)
theorem Dc(Sh:Go.Loc->Prop)(B:Nat):∀e∈(#[]:Array ZT),EvL Sh B e:=by simp
theorem Ey{K:PC}(A:dX K){gs:Array Ω}{w:η}{sl:Option (Nat×Nat)}{t:Trace}{q:Nat->Nat}{room:Int}(hroom:¬((K.n:Int)>room))(hsz:gs.size=K.p0)(hw:w.heap=K.h0)
 {g0:Ω} (hg0:aQ (fK K.b tk0 [pv 0 K.v0,(1,.slice K.ca K.n K.m),iv 2 room]) [] (K.c0::K.cs) g0) (hg:gs[0]?=Γ g0) (hL:Leavers P0 t gs q) (hP:Past K.Shun w.heap.size t):
 ∃N gs' w' sl' t' q',runNT P0 N (crowd gs w sl) t=(.next (crowd gs' w' sl'),t')/\gs'[0]?=Γ (rQ K.b K.c0 K.cs (cU K.ev K.n 0))/\Leavers P0 t' gs' q'/\Past (fun l=>K.Shun l\/K.ic l) w'.heap.size t'/\After K w w':=by
 have hB:=A.size;have hb:=yP (w:=w) (D:=fun _ _ es=>∀e∈es,EvL K.Shun (K.B0+3) e) (Stop:=fun g w'=>lj K 0 0 0 (if 0<K.n then .s7 else .mq .q7) g/\∃d,w'=(Ph.hw w (H5 K.h0 K.B0 K.n (Δ (Γ K.v0)))).at d) K A.nB A.size (fun _ _=>Dc _ _) (fun _ _ e Q=>by
  rw[ZZ.1 Q];refine⟨fun x y hs=>?_,by simp,by simp,by show K.B0+2<K.B0+3;omega⟩;cases y
  have:=A.SB _ hs;dsimp only at this;omega) room hroom (fun g h=>bA.stop fun d=>⟨h,d,rfl⟩) g0 hg0
 obtain⟨n,S⟩:=hb;have ew:(Ph.hw w K.h0).at w.drawn=w:=by rw[<-hw];rfl
 have S:=S w.drawn;rw[ew]at S;obtain⟨N1,T,g1,w1,sl1,t1,q1,hr1,qv,hg1,⟨J,d1,v⟩,hL1,Z⟩:=walk_beside (P:=P0) (Shun:=K.Shun) (B:=K.B0+3) (fun _ _ _ h=>h) _ n gs _ w sl t q (Nat.le_refl _) hg hL (hP.mono (by rw[hw,hB];omega)) S;have C1:=Hm (w0:=w) (w:=w1) A (qv.trans hsz) hg1 J hL1 Z (by rw[v];rfl) (by rw[v];rfl) (by rw[v];rfl) (by rw[v];rfl);obtain⟨N2,E,gs2,u,sl2,t2,V,p,c,R⟩:=Ev A _ T w1 t1 sl1 C1;obtain⟨q2,hL2⟩:=Bm A p c;obtain⟨g2,hg2,k⟩:=p.g0;rw[c,R]at k;have hP2:=(p.ct.pa c).1;have hrn:E.r=K.n:=p.cn.out (by rw[c];rfl);have H:=p.cw.at_;obtain⟨U,M,he2,he3⟩:=H.er;have Y:∀i,i<K.n->U[i]?=Γ (υ ξ (K.ev i)):=by
  intro i hi;rw[he3 i hi];unfold valOf;have:cu (E.st i)=ψ:=by rcases ll p.cn c (show i<E.r by omega)with h|h|h<;>rw[h]<;>rfl
  rw[if_pos ⟨by omega,this⟩]
 have O:=H.size;have I:g2.status=.running:=by
  rcases k.status with h|⟨_,_,_,h⟩
  ·exact h.1
  ·cases h
 have L:=k.here rfl I
 ·have rd:∀o b,(b=K.B0+1\/b=K.B0+2) ->∀e∈(#[⟨.cell ⟨b,o,μ⟩,ω,ω⟩]:Array ZT),EvL (fun l=>K.Shun l\/K.ic l) u.heap.size e:=by
   intro o b hbb e Q;rw[ZZ.1 Q];refine⟨fun x y hs=>?_,by simp,by simp,by show b<_;omega⟩;cases y
   exfalso;rcases hs with hs|⟨a,ha,hs⟩
   ·have:=A.SB _ hs;dsimp only at this;omega
   ·simp only[Loc.cell.injEq]at ha;rw[<-ha]at hs;dsimp only at hs;omega
  have Q:=Ew (w:=u) (D:=fun _ _ es=>∀e∈es,EvL (fun l=>K.Shun l\/K.ic l) u.heap.size e) (Stop:=fun g w'=>g=rQ K.b K.c0 K.cs (cU K.ev K.n 0)/\∃d,w'=u.at d) K A.nB u.heap (fun _ _=>Dc _ _) (fun _ _ i hi=>rd _ _ (.inl rfl)) (fun _ _=>rd _ _ (.inr rfl)) M Y H.eb (bA.stop fun d=>⟨rfl,d,rfl⟩) _ L;obtain⟨n3,F⟩:=Q;have F:=F u.drawn;obtain⟨N3,gs3,g3,w3,W,t3,q3,hr3,hs3,hg3,⟨rfl,d3,rfl⟩,hL3,X⟩:=walk_beside (P:=P0) (fun _ _ _ h=>h) _ n3 gs2 _ u sl2 t2 q2 (Nat.le_refl _) hg2 hL2 hP2 F;refine⟨N1+(N2+N3),gs3,u.at d3,W,t3,q3,?_,hg3,hL3,X,⟨p.cw.tape,p.cw.output,p.cw.os,O,H.low,fun b hb1 hb2=>?_,?_⟩⟩
  ·rw[runNT_add,hr1];dsimp only;rw[runNT_add,V];exact hr3
  ·show ∃cs e f,u.heap[b]?=_/\_;by_cases hb5:K.B0+5<=b
   ·rcases p.cw.rows b hb5 hb2 with⟨j,z,s,_⟩|h
    ·rcases ll p.cn c z with h|h|h<;>rw[h]at s<;>cases s
    ·exact h
   ·obtain⟨m1,m2⟩:=Nf H.sh;rcases(show b=K.B0\/b=K.B0+1\/b=K.B0+2\/b=K.B0+3\/b=K.B0+4 by omega)with rfl|rfl|rfl|rfl|rfl
    ·exact⟨_,_,_,H.gb,A.TT.1⟩
    ·exact⟨_,_,_,M,A.TT.2.1⟩
    ·exact⟨_,_,_,H.eb,A.TT.2.2.1⟩
    ·obtain⟨cs,f,h⟩:=m1;exact⟨cs,249,f,h,A.TT.2.2.2.1⟩
    ·obtain⟨cs,f,h⟩:=m2;exact⟨cs,255,f,h,A.TT.2.2.2.2.1⟩
  ·show u.heap.size<=_;have:=Hn (K.n*(K.C+2)) (K.B0+5) u.heap.size (fun m=>if m %(K.C+2)=0 then E.ib (m/(K.C+2))else if m %(K.C+2)=1 then E.cb (m/(K.C+2))else E.f (m/(K.C+2)) (m %(K.C+2) -2)) fun x h1 h2=>by
    have G:∀j i,j<E.r->i<K.C+2->j*(K.C+2)+i<K.n*(K.C+2)/\(j*(K.C+2)+i)%(K.C+2)=i/\(j*(K.C+2)+i)/(K.C+2)=j:=by
     intro j i z hi;refine⟨?_,?_,?_⟩
     ·have:(j+1)*(K.C+2)<=K.n*(K.C+2):=Nat.mul_le_mul_right _ (by omega);rw[Nat.succ_mul]at this;omega
     ·rw[Nat.mul_comm,Nat.mul_add_mod,Nat.mod_eq_of_lt hi]
     ·rw[Nat.mul_comm,Nat.mul_add_div (by omega),Nat.div_eq_of_lt hi,Nat.add_zero]
    rcases p.cw.who x h1 h2 with⟨j,z,s,_⟩|⟨j,z,_,i,hi,y⟩|⟨j,z,y|y⟩|⟨h,_⟩|⟨h,_⟩
    ·rcases ll p.cn c z with h|h|h<;>rw[h]at s<;>cases s
    ·obtain⟨e1,e2,e3⟩:=G j (i+2) z (by omega);refine⟨_,e1,?_⟩;rw[e2,e3,if_neg (by omega),if_neg (by omega)];exact y
    ·obtain⟨e1,e2,e3⟩:=G j 0 z (by omega);refine⟨_,e1,?_⟩;rw[e2,e3,if_pos rfl];exact y
    ·obtain⟨e1,e2,e3⟩:=G j 1 z (by omega);refine⟨_,e1,?_⟩;rw[e2,e3,if_neg (by omega),if_pos rfl];exact y
    ·rw[c]at h;cases h
    ·rw[c]at h;cases h
   omega
end
end Ph
namespace Ph
open Go Go.Conc
section
theorem Vj:(P0.funcs[213]?).map (fun f=>f.results)=Γ #[.cell 4 34]:=by kernel_rfl
theorem alr(v0:Addr)(xc xe:Nat)(f:Nat->ZP):(l7 48 (cO [pv 0 v0,(3,pz xc),(4,pz xe)] f)).getD 4 undef=pz xe:=by kernel_rfl
theorem Ng{v0:Addr}{xc xe:Nat}{W0:Z4}{rest:List Z4}{g:Ω}{w:η}(h:aQ (As v0 xc xe txz) [] (W0::rest) g)(hx:w.heap[xe]?=Γ (Θ #[υ ξ 0] 34)):stepG P0 ω g w=.go (G (W0.finish (υ ξ 0)) rest) w #[⟨.cell ⟨xe,0,μ⟩,ω,ω⟩]:=by
 obtain⟨F,rfl⟩:=h;obtain⟨fn,d,a⟩:=ο.1 Vj;have c:stepG P0 ω (SC (As v0 xc xe txz) [] (W0::rest) F) w=unwind P0 ω ((As v0 xc xe txz).fr (l7 48 (cO [pv 0 v0,(3,pz xc),(4,pz xe)] (F 0)))) (W0::rest) μ w:=rfl;have f:(results fn (l7 48 (cO [pv 0 v0,(3,pz xc),(4,pz xe)] (F 0)))).runT P0 w #[]=(.ok (υ ξ 0) w,#[⟨.cell ⟨xe,0,μ⟩,ω,ω⟩]):=by
  unfold results;rw[a,Sem.runT_eq];have hc:w.cell? ⟨xe,0,μ⟩=Γ (υ ξ 0):=by rw[bM hx];rfl
  have b:=alr v0 xc xe (F 0);generalize l7 48 (cO [pv 0 v0,(3,pz xc),(4,pz xe)] (F 0))=e at b⊢;have i:e[4]?.getD undef=Δ (Γ ⟨xe,0,μ⟩):=by rw[<-Array.getD_eq_getD_getElem?];exact b
  simp[i,Array.mapM_eq_mapM_toList,List.mapM_cons,b,pz,asAddr,loadVar,Tv.run,Tv.events,hc,Result.andThen,Result.evThen,events_load]
 rw[c];unfold unwind;dsimp only[As,bG.fr];rw[d];dsimp only;rw[f];dsimp only[doReturn];rw[rF (q:=ω) _ _ (fun g h=>by cases h) li];rfl
section
variable{K:PK}{v0:Addr}{xc xe:Nat}{W0:Z4}{rest:List Z4}{g:Ω}{X:List Nat}{O:List (Nat×Obj)}{N:Nat}
def Ez:Obj:=Θ #[υ ξ 0] 34
def yR(W0:Z4)(rest:List Z4):Ω:=G (W0.finish (υ ξ 0)) rest
theorem PX.ne{gE:Ω}{x y:Nat}{o o':Obj}(hr:g.status=.running)(hx:(x,o)∈O)(hy:(y,o')∈O)(hne:o≠o')(h:x≠y->PX K gE (N+1) X O g):PX K gE (N+1) X O g:=by
 by_cases e:x=y
 ·refine⟨hr,fun w hw=>?_⟩;have a:=(hw.known _ hx).2;have b:=(hw.known _ hy).2;dsimp only at a b;rw[e,b]at a;exact absurd (Option.some.inj a).symm hne
 ·exact h e
theorem Vk(hC:X.length<=K.C)(hxe:(xe,Ez)∈O)(h:aQ (As v0 xc xe txz) [] (W0::rest) g):PX K (yR W0 rest) 1 X O g:=by refine⟨aH h,fun w hw=>.inl ⟨hC,w,_,Ng h (hw.known _ hxe).2,mY fun e a=>?_,hw⟩⟩;rw[ZZ.1 a];exact⟨.inl (hw.known _ hxe).1,rfl⟩
theorem adO(hC:X.length<=K.C)(hxe:(xe,Ez)∈O)(h:aQ (fR xe GX [iv 2 0]) [As v0 xc xe KP] (W0::rest) g):PX K (yR W0 rest) 302 X O g:=PX.adE (N:=1) (n:=300) (O':=[(xe,Ez)]) (v:=υ ξ 0) (aH h) hxe (fun p a=>.inl (List.mem_singleton.1 a)) (U9 v0 xc xe _ g h) GC rfl rfl (by rw[h.cg];exact adB) (U' v0 xc xe _ g h) fun c b=>Vk hC (by simp) b
theorem adP(hC:X.length<=K.C)(hxe:(xe,Ez)∈O)(h:aQ (fR xe tr1 []) [As v0 xc xe KP] (W0::rest) g):PX K (yR W0 rest) 603 X O g:=PX.look (N:=302) (n:=300) (es:=#[]) (aH h) (fun w hw=>GY v0 xc xe _ g h w) (by simp) (adq v0 xc xe _ g h) fun b a=>adO hC hxe a
theorem alt(hC:X.length<=K.C)(hxe:(xe,Ez)∈O)(h:aQ (fX v0 xc xe txe []) [] (W0::rest) g):PX K (yR W0 rest) 904 X O g:=PX.adE (N:=603) (n:=300) (O':=[(xe,Ez)]) (v:=υ ξ 0) (aH h) hxe (fun p a=>.inl (List.mem_singleton.1 a)) (adm v0 xc xe _ g h) GC rfl rfl (by rw[h.cg];exact li) (adp v0 xc xe _ g h) fun c b=>adP hC (by simp) b
def Nh(ca:Option Addr)(n m:Nat)(i:Int):List (Nat×ZP):=[bv 41 (decide (i<n)),(38,.slice ca n m),iv 39 n,iv 40 i]
theorem EA{i:Nat}(h:i<1000):Z3 ξ ((i:Int)+1)=((i+1:Nat):Int):=by rw[ZY];push_cast;omega
section
variable{ca:Option Addr}{n m:Nat}{i:Nat}{cs:List Z4}{gE:Ω}
theorem Bn(hi:i<1000)(hN:∀g,aQ (fX v0 xc xe Ar (Nh ca n m ((i+1:Nat):Int))) [] cs g->PX K gE N X O g){ds:List bG}{k:Int}{b:Bool}(hb:b=ω)(h:aQ (CV CX b k) ds cs g)
 (hgo:aQ (CV CX ω k) ds cs g->ak P0 ω 300 (aQ (fX v0 xc xe Ar [bv 41 (decide (Z3 ξ ((i:Int)+1)<n)),(38,.slice ca n m),iv 39 n,iv 40 (Z3 ξ ((i:Int)+1))]) [] cs) g):PX K gE (N+300) X O g:=by
 subst hb;have:=hgo h;rw[EA hi]at this;exact PX.to this hN
variable{nN nO:Nat}{xv xw:Nat}{b0:Nat}{o0:Nat}
structure Ni(K:PK)(b0 o0 nN nO:Nat):Prop where
 lt:b0<K.B0
 Y:K.Y b0
 ex:∃cs e f oa om pa pm,K.h0[b0]?=Γ (.cells cs e f)/\cs[o0]?=Γ (.slice oa nN om)/\cs[o0+1]?=Γ (.slice pa nO pm)
theorem adQ(hi:i<1000){b:Int}(hb:-99<=b/\b<=99)(hxw:(xw,Θ #[υ ξ 0,υ ξ b] 50)∈O)
 (hN:∀g,aQ (fX v0 xc xe Ar (Nh ca n m ((i+1:Nat):Int))) [] cs g->PX K gE N X O g) (h:aQ (b5 v0 GU [(9,q1 xw),(3,pz xw)]) [fX v0 xc xe ja [(38,.slice ca n m),iv 39 n,iv 40 i]] cs g):PX K gE (N+2000) X O g:=by
 refine PX.mono ?_ (PX.o8 (N:=_) (n:=300) (o:=1) (aH h) hxw (U1 v0 xc xe ca n m i xw cs g h) GB rfl (by rw[h.cg];exact yH) (UI v0 xc xe ca n m i xw b cs g h) fun g h=>PX.o8 (N:=_) (n:=300) (o:=1) (aH h) hxw (U2 v0 xc xe ca n m i xw _ cs g h) GB rfl (by rw[h.cg];exact yH) (UJ v0 xc xe ca n m i xw _ b cs g h) fun g h=>Bn hi hN ?_ h (ac7 v0 xc xe ca n m i cs g))
 ·omega
 ·rw[if_neg (by omega),if_neg (by omega)];simp
theorem Vl(hi:i<1000)(hxw:(xw,Θ #[υ ξ 2,υ ξ 0] 50)∈O)
 (hN:∀g,aQ (fX v0 xc xe Ar (Nh ca n m ((i+1:Nat):Int))) [] cs g->PX K gE N X O g) (h:aQ (b5 v0 GW [(19,q1 xw),(3,pz xw)]) [fX v0 xc xe ja [(38,.slice ca n m),iv 39 n,iv 40 i]] cs g):PX K gE (N+2000) X O g:=by
 refine PX.mono ?_ (PX.o8 (N:=_) (n:=300) (o:=1) (aH h) hxw (U3 v0 xc xe ca n m i xw cs g h) GB rfl (by rw[h.cg];exact yH) (UK v0 xc xe ca n m i xw 0 cs g h) fun g h=>Bn hi hN ?_ h (ac8 v0 xc xe ca n m i cs g))
 ·omega
 ·rfl
theorem Dd{xx:Nat}{k:Int}{q b:Nat}(hi:i<1000)(hb:b<q)(hxx:(xx,Θ #[υ ξ k,υ ξ b] 50)∈O)
 (hN:∀g,aQ (fX v0 xc xe Ar (Nh ca n m ((i+1:Nat):Int))) [] cs g->PX K gE N X O g) (h:aQ (mX v0 Be [(20,q1 xx),iv 4 q,(3,pz xx)]) [b5 v0 fi [],fX v0 xc xe ja [(38,.slice ca n m),iv 39 n,iv 40 i]] cs g):PX K gE (N+2000) X O g:=by
 refine PX.mono ?_ (PX.o8 (N:=_) (n:=300) (o:=1) (aH h) hxx (U7 v0 xc xe ca n m i xx q cs g h) GB rfl (by rw[h.cg];exact yI) (UO v0 xc xe ca n m i xx q b cs g h) fun g h=>PX.o8 (N:=_) (n:=300) (o:=1) (aH h) hxx (U8 v0 xc xe ca n m i xx q cs g h) GB rfl (by rw[h.cg];exact yI) (UP v0 xc xe ca n m i xx q b cs g h) fun g h=>Bn hi hN ?_ h (ade v0 xc xe ca n m i cs g))
 ·omega
 ·exact decide_eq_false (by omega)
theorem Ho{k:Int}{b:Nat}(EB:K.TT 50)(hi:i<1000)(hv0:v0=⟨b0,o0,μ⟩)(hA:Ni K b0 o0 nN nO)(hk:(k=3/\b<nN)\/(k=4/\b<nO))(hxw:(xw,Θ #[υ ξ k,υ ξ b] 50)∈O)
 (hN:∀x g,aQ (fX v0 xc xe Ar (Nh ca n m ((i+1:Nat):Int))) [] cs g->PX K gE N (x::X) ((x,Θ #[υ ξ k,υ ξ b] 50)::O) g) (h:aQ (b5 v0 El [pv 26 v0,(3,pz xw)]) [fX v0 xc xe ja [(38,.slice ca n m),iv 39 n,iv 40 i]] cs g):PX K gE (N+4000) X O g:=by
 obtain⟨y,e1,z,q,u,pa,r,l,s,w⟩:=hA.ex;have v:(v0.add 0).add 1=⟨b0,o0+1,μ⟩:=by rw[hv0,aP,aP]
 have eb:(v0.add 0).add 0=⟨b0,o0,μ⟩:=by rw[hv0,aP,aP];rfl
 refine PX.mono ?_ (PX.adC (N:=_) (n:=300) (aH h) hxw (U4 v0 xc xe ca n m i xw cs g h) Vd Ha (by rw[h.cg];exact yH) (UM v0 xc xe ca n m i xw _ _ cs g h) fun g h=>PX.box (N:=N+3000) (n:=300) (aH h) EB (adk v0 xc xe ca n m i _ cs g h) (fun c=>ac9 v0 xc xe ca n m i _ c cs g h) fun c g t h=>?_)
 ·omega
 have f:=adl v0 xc xe ca n m i c cs g h;rw[v]at f;refine PX.mono ?_ (PX.adD (N:=_) (n:=300) (aH h) hA.lt hA.Y l f adA w (by rw[h.cg];exact yI) (ada v0 xc xe ca n m i c pa nO r cs g h) fun j d=>PX.o8 (N:=N+2301) (n:=300) (o:=0) (aH d) θ (U5 v0 xc xe ca n m i c nO cs j d) GB rfl (by rw[d.cg];exact yI) (S:=fun g=>(k=3/\aQ (mX v0 MO [pv 17 ((v0.add 0).add 0),(3,pz c)]) [b5 v0 fi [],fX v0 xc xe ja [(38,.slice ca n m),iv 39 n,iv 40 i]] cs g)\/(k=4/\aQ (mX v0 Be [(20,q1 c),iv 4 nO,(3,pz c)]) [b5 v0 fi [],fX v0 xc xe ja [(38,.slice ca n m),iv 39 n,iv 40 i]] cs g)) ?_ fun p a=>?_)
 ·omega
 ·rcases hk with⟨e,_⟩|⟨e,_⟩<;>rw[e]
  ·exact(adb v0 xc xe ca n m i c nO cs j d).mono (Nat.le_refl _) fun g h=>.inl ⟨rfl,h⟩
  ·exact(adc v0 xc xe ca n m i c nO cs j d).mono (Nat.le_refl _) fun g h=>.inr ⟨rfl,h⟩
 rcases a with⟨e,a⟩|⟨e,a⟩
 ·have hb:b<nN:=by
   rcases hk with⟨_,h⟩|⟨h,_⟩
   ·exact h
   ·rw[e]at h;cases h
  have f:=U6 v0 xc xe ca n m i c cs p a;rw[eb]at f;exact PX.mono (by omega) (PX.adD (N:=N+2000) (n:=300) (aH a) hA.lt hA.Y l f adA s (by rw[a.cg];exact yI) (UN v0 xc xe ca n m i c q nN u cs p a) fun g h=>Dd hi hb θ (hN c) h)
 ·have hb:b<nO:=by
   rcases hk with⟨h,_⟩|⟨_,h⟩
   ·rw[e]at h;cases h
   ·exact h
  exact PX.mono (by omega) (Dd hi hb θ (hN c) a)
theorem Nj{k a:Int}(EB:K.TT 50)(hi:i<1000)(hv0:v0=⟨b0,o0,μ⟩)(hA:Ni K b0 o0 nN nO)(hk:Fu nN nO k a)(hxe:(xe,Ez)∈O)(hxv:(xv,Θ #[υ ξ k,υ ξ a] 50)∈O)
 (hN:∀X' O',X'.length<=X.length+2->(xe,Ez)∈O'->∀g,aQ (fX v0 xc xe Ar (Nh ca n m ((i+1:Nat):Int))) [] cs g->PX K gE N X' O' g)
 (h:aQ (fX v0 xc xe GT [pv 44 v0,(8,pz xv),(38,.slice ca n m),iv 39 n,iv 40 i]) [] cs g):PX K gE (N+6000) X O g:=by
 refine PX.mono ?_ (PX.adC (N:=_) (n:=300) (aH h) hxv (U0 v0 xc xe ca n m i xv cs g h) Vd Ha (by rw[h.cg];exact li) (UH v0 xc xe ca n m i xv _ _ cs g h) fun t s=>PX.box (N:=N+5000) (n:=300) (aH s) EB (adi v0 xc xe ca n m i _ cs t s) (fun c=>ac6 v0 xc xe ca n m i _ c cs t s) fun c d v e=>?_)
 ·omega
 have p:(c,Θ #[υ ξ k,υ ξ a] 50)∈(c,Θ (Z7 #[υ ξ k,υ ξ a]).cells 50)::O:=θ;have j:(xe,Ez)∈(c,Θ (Z7 #[υ ξ k,υ ξ a]).cells 50)::O:=ζ _ hxe;have own:∀{S:Ω->Prop},ak P0 ω 300 S (fin (υ ξ k) d) ->(∀l,S l->PX K gE (N+4000) (c::X) ((c,Θ (Z7 #[υ ξ k,υ ξ a]).cells 50)::O) l) ->PX K gE (N+5000) (c::X) ((c,Θ (Z7 #[υ ξ k,υ ξ a]).cells 50)::O) d:=fun u w=>PX.mono (by omega) (PX.o8 (N:=N+4000) (n:=300) (o:=0) (aH e) p (adj v0 xc xe ca n m i c cs d e) GB rfl (by rw[e.cg];exact yH) u w)
 have q:=hN (c::X) ((c,Θ (Z7 #[υ ξ k,υ ξ a]).cells 50)::O) (by simp) j;rcases hk with⟨rfl,q1,r⟩|⟨rfl,rfl⟩|⟨rfl,q1,r⟩|⟨rfl,q1,r⟩
 ·exact own (alf v0 xc xe ca n m i c cs d e) fun l f=>PX.mono (by omega) (adQ hi ⟨q1,r⟩ p q f)
 ·exact own (alg v0 xc xe ca n m i c cs d e) fun l f=>PX.mono (by omega) (Vl hi p q f)
 ·obtain⟨b,rfl⟩:=Int.eq_ofNat_of_zero_le q1;exact own (alh v0 xc xe ca n m i c cs d e) fun l f=>Ho EB hi hv0 hA (.inl ⟨rfl,by omega⟩) p (fun x g h=>hN _ _ (by simp) (ζ _ j) g h) f
 ·obtain⟨b,rfl⟩:=Int.eq_ofNat_of_zero_le q1;exact own (ali v0 xc xe ca n m i c cs d e) fun l f=>Ho EB hi hv0 hA (.inr ⟨rfl,by omega⟩) p (fun x g h=>hN _ _ (by simp) (ζ _ j) g h) f
end
theorem Hp{nN nO b0 o0 n m:Nat}{ca:Option Addr}{vk vn:Nat->Int}(EB:K.TT 50)(hn:n<1000)(hv0:v0=⟨b0,o0,μ⟩)(hA:Ni K b0 o0 nN nO)
 (hv:∀i,i<n->Fu nN nO (vk i) (vn i)/\∃a,ca=Γ a/\a.spot=μ/\a.block<K.B0/\K.Y a.block/\∃cs e f,K.h0[a.block]?=Γ (.cells cs e f)/\cs[a.off+i*2]?=Γ (υ ξ (vk i))/\cs[a.off+i*2+1]?=Γ (υ ξ (vn i))):
 ∀(r i:Nat) (X:List Nat) (O:List (Nat×Obj)) (g:Ω),r+i=n->X.length+3*r<=K.C->(xe,Ez)∈O->aQ (fX v0 xc xe Ar (Nh ca n m i)) [] (W0::rest) g->PX K (yR W0 rest) (1300+r*12000) X O g
 |0,i,X,O,g,hi,hC,hxe,h=>by unfold Nh at h;rw[show decide ((i:Int)<(n:Int))=ω from decide_eq_false (by omega)]at h;exact PX.mono (by omega) (PX.to (ale v0 xc xe ca n m i _ g h) fun g h=>alt (by omega) hxe h)
 |r+1,i,X,O,g,hi,hC,hxe,h=>by
  have hin:i<n:=by omega
  obtain⟨ok,a,rfl,hsp,hlt,hY,csv,ev,fv,q1,q2,q3⟩:=hv i hin;obtain⟨ab,ao,asp⟩:=a;dsimp only at hsp hlt hY q1 q2 q3;subst hsp;unfold Nh at h;rw[show decide ((i:Int)<(n:Int))=ψ from decide_eq_true (by omega)]at h;have ea:(⟨ab,ao,μ⟩:Addr).add (i*2)=⟨ab,ao+i*2,μ⟩:=aP _ _ _;refine PX.mono ?_ (PX.to (ald v0 xc xe _ n m i _ g h) fun g1 h1=>PX.look (N:=1300+r*12000+10000) (n:=300) (es:=#[]) (aH h1) (fun w hw=>jr (UX v0 xc xe _ n m i _ g1 h1) alj Ha hin) (by simp) (UE v0 xc xe _ n m i _ _ g1 h1) fun g2 h2=>?_)
  ·omega
  rw[ea]at h2;refine PX.mono ?_ (PX.alm (N:=1300+r*12000+9000) (n:=300) (aH h2) hlt hY q1 (UY v0 xc xe _ n m i _ _ g2 h2) Vd Ha q2 q3 (by rw[h2.cg];exact li) (UF v0 xc xe _ n m i _ _ _ g2 h2) fun g3 h3=>PX.mono (by omega)<|PX.var (N:=1300+r*12000+8000) (n:=300) (aH h3) EB (adh v0 xc xe _ n m i _ _ g3 h3) z50 (fun xv=>ac5 v0 xc xe _ n m i _ xv _ g3 h3) fun xv g4 hxv h4=>?_)
  ·omega
  have hm:(xv,Θ #[υ ξ 0,υ ξ 0] 50)∈(xv,Θ (Z7 #[υ ξ 0,υ ξ 0]).cells 50)::O:=θ;refine PX.mono (N:=1300+r*12000+7000+1) (by omega) (PX.ne (N:=1300+r*12000+7000) (aH h4) hm (ζ _ hxe) (by simp[Ez]) fun hne=>?_);refine PX.mono ?_ (PX.aln (N:=1300+r*12000+6000) (n:=300) (O':=[(xv,Θ #[υ ξ (vk i),υ ξ (vn i)] 50),(xe,Ez)]) (aH h4) hm (fun p hp=>?_) (UZ v0 xc xe _ n m i _ xv _ g4 h4) Ha rfl rfl (by rw[h4.cg];exact li) (UG v0 xc xe _ n m i _ xv _ g4 h4) fun g5 h5=>Nj EB (by omega) hv0 hA ok (by simp) (θ) (fun X' O' hX' alu g h=>Hp EB hn hv0 hA hv r (i+1) X' O' g (by omega) (by simp at hX';omega) alu h) h5)
  ·omega
  ·simp only[ZN,ZV,or_false]at hp;rcases hp with rfl|rfl
   ·exact .inl rfl
   ·exact .inr ⟨ζ _ hxe,fun e=>hne e.symm⟩
theorem Bo{nN nO b0 o0 n m:Nat}{ca:Option Addr}{kd:Int}{vk vn:Nat->Int}(EB:K.TT 50/\K.TT 34/\K.TT 76)(hC:14<=K.C)(hv0:v0=⟨b0,o0,μ⟩)(hA:Ni K b0 o0 nN nO)(hk:OkK kd n)
 (hv:∀i,i<n->Fu nN nO (vk i) (vn i)/\∃a,ca=Γ a/\a.spot=μ/\a.block<K.B0/\K.Y a.block/\∃cs e f,K.h0[a.block]?=Γ (.cells cs e f)/\cs[a.off+i*2]?=Γ (υ ξ (vk i))/\cs[a.off+i*2+1]?=Γ (υ ξ (vn i))):
 PX K (yR W0 rest) 60000 [] [] {frame:=Frame.enter P0 213 #[Δ (Γ v0),.agg #[υ ξ kd,.slice ca n m]] .normal,callers:=W0::rest,status:=.running,dying:=μ}:=by
 have z:n<=4:=by rcases hk with h|h|h<;>omega
 refine PX.mono ?_ (PX.to (N:=58000) (MR v0 _ _ (W0::rest)) fun x t=>PX.mono ?_ (PX.box (N:=57000) (n:=300) (aH t) EB.2.2 (adf v0 _ _ x t) (fun b=>acS v0 _ b _ x t) fun b w I r=>PX.mono ?_ (PX.var (N:=56000) (n:=300) (aH r) EB.2.1 (adg v0 b _ w r) z34 (fun c=>acT v0 b c _ w r) fun c l D k=>?_)))
 ·omega
 ·omega
 ·omega
 have d:(b,Θ #[υ ξ kd,.slice ca n m] 76)∈[(c,Θ (υ ξ 0).cells 34),(b,Θ (Z7 #[υ ξ kd,.slice ca n m]).cells 76)]:=ζ _ θ;have q:(c,Ez)∈[(c,Θ (υ ξ 0).cells 34),(b,Θ (Z7 #[υ ξ kd,.slice ca n m]).cells 76)]:=θ;generalize J:[(c,Θ (υ ξ 0).cells 34),(b,Θ (Z7 #[υ ξ kd,.slice ca n m]).cells 76)]=O at d q⊢;have p:∀(lo hi:Int),lo<=n->(n:Int)<=hi->∀g,aQ (fX v0 b c yx [(25,q1 b),iv 5 lo,iv 6 hi]) [] (W0::rest) g->PX K (yR W0 rest) 54000 [c,b] O g:=by
  intro lo hi t r g h;refine PX.mono ?_ (PX.o8 (N:=53000) (n:=300) (o:=1) (aH h) d (UU v0 b c lo hi _ g h) Ve rfl (by rw[h.cg];exact li) (UB v0 b c lo hi ca n m _ g h) fun g h=>?_)
  ·omega
  rw[show decide ((n:Int)<lo)=ω from decide_eq_false (by omega)]at h;refine PX.mono ?_ (PX.to (N:=52000) (ac3 v0 b c hi _ g h) fun g h=>PX.mono ?_ (PX.o8 (N:=51000) (n:=300) (o:=1) (aH h) d (UV v0 b c hi _ g h) Ve rfl (by rw[h.cg];exact li) (UC v0 b c hi ca n m _ g h) fun g h=>?_))
  ·omega
  ·omega
  rw[show decide ((n:Int)>hi)=ω from decide_eq_false (by omega)]at h;refine PX.mono ?_ (PX.to (N:=50400) (ac4 v0 b c _ g h) fun g h=>PX.mono ?_ (PX.o8 (N:=1300+n*12000) (n:=300) (o:=1) (aH h) d (UW v0 b c _ g h) Ve rfl (by rw[h.cg];exact li) (UD v0 b c ca n m _ g h) fun g h=>?_))
  ·omega
  ·omega
  exact Hp EB.1 (by omega) hv0 hA hv n 0 [c,b] O g (by omega) (by simp only[List.length_cons,List.length_nil];omega) q h
 have three:∀{v S2 S3:Ω->Prop},ak P0 ω 300 v (fin (υ ξ kd) l) ->(∀g,v g->aQ (fX v0 b c tB [(14,pz b),bv 13 ω]) [] (W0::rest) g) ->(∀g,aQ (fX v0 b c tB [(14,pz b),bv 13 ω]) [] (W0::rest) g->ak P0 ω 300 (aQ (fX v0 b c tC [(20,pz b)]) [] (W0::rest)) (fin (υ ξ kd) g)) ->
  (∃lo hi:Int,lo<=n/\(n:Int)<=hi/\∀g,aQ (fX v0 b c tC [(20,pz b)]) [] (W0::rest) g->ak P0 ω 300 (aQ (fX v0 b c yx [(25,q1 b),iv 5 lo,iv 6 hi]) [] (W0::rest)) (fin (υ ξ kd) g)) ->PX K (yR W0 rest) 56000 [c,b] O l:=by
  intro v S2 S3 F s1 E ⟨lo,hi,q1,H,B⟩;refine PX.mono ?_ (PX.o8 (N:=55400) (n:=300) (o:=0) (aH k) d (UQ v0 b c _ l k) GB rfl (by rw[k.cg];exact li) F fun j s=>PX.mono ?_ (PX.o8 (N:=55000) (n:=300) (o:=0) (aH (s1 j s)) d (UR v0 b c _ j (s1 j s)) GB rfl (by rw[(s1 j s).cg];exact li) (E j (s1 j s)) fun g5 u=>PX.mono ?_ (PX.o8 (N:=54000) (n:=300) (o:=0) (aH u) d (UT v0 b c _ g5 u) GB rfl (by rw[u.cg];exact li) (B g5 u) fun A G=>p lo hi q1 H A G)))
  ·omega
  ·omega
  ·omega
 rcases hk with⟨rfl,y⟩|⟨rfl,y⟩|⟨rfl,y⟩
 ·exact three (S2:=fun _=>True) (S3:=fun _=>True) (acU v0 b c _ l k) (fun _ h=>h) (fun g h=>acV v0 b c _ g h) ⟨0,4,by omega,by omega,fun g h=>acW v0 b c _ g h⟩
 ·exact three (S2:=fun _=>True) (S3:=fun _=>True) (acX v0 b c _ l k) (fun _ h=>h) (fun g h=>acY v0 b c _ g h) ⟨1,1,by omega,by omega,fun g h=>acZ v0 b c _ g h⟩
 ·exact three (S2:=fun _=>True) (S3:=fun _=>True) (ac0 v0 b c _ l k) (fun _ h=>h) (fun g h=>ac1 v0 b c _ g h) ⟨2,2,by omega,by omega,fun g h=>ac2 v0 b c _ g h⟩
end
end
end Ph
