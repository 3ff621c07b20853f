/- A part of the proof of GcMinorKeeps; no conditions. -/
import Derived.Test.YtbnmpafbfoaggaaGreatDoorQ0
import Derived.Test.YtbnmpafbfoaggaaGreatDoorQ1
import Derived.Test.YtbnmpafbfoaggaaGreatDoorQ5
import Derived.Deep.Cut
import Derived.Test.YtbnmpafbfoaggaaGreatDoorQ2
import Derived.Deep.DeepCutAuto
import Derived.Deep.AppendLies
import Derived.Test.YtbnmpafbfoaggaaGreatDoorQ4
set_option linter.defProp false
set_option linter.unusedVariables false
set_option linter.unusedSimpArgs false
set_option maxRecDepth 100000
set_option maxHeartbeats 16000000
noncomputable section
open Go.Lib renaming hid->V
open Go.Value renaming int->Ω,slice->ζ
open Go.IntKind renaming i64->Ψ
open Go.World renaming cell?->M,ownsRow_nil->Z8
open Option renaming some->U,none->ξ
open Array renaming getElem?_eq_some_iff->Ξ
open And renaming intro->Z
open Go.Obj renaming cells->Θ
open Go.RowKit.Below renaming refl->R
open Go.RowKit renaming Below->I
open Go renaming heap_alloc_new->Δ,Calls->Y,World->χ,Value->μ,bodyPost_ret->ι,results->θ,wpList_step->ε,maxLen->Z4,leaves_cons->ZY,info_parts->ZW
open Nat renaming lt_of_lt_of_le->Γ
open List renaming getElem?_eq_some_iff->ω,replicate->ψ,getElem?_append_left->υ,eq_nil_of_length_eq_zero->κ,range->η,getElem?_eq_none->Z9,length_range->Z2,take_length->Z1,all_eq_true->Z0,length_map->ZX
open Go.Addr renaming add->φ
open Go.Builtin renaming append_->ο
namespace Go.Proofs.YtbnmpafbfoaggaaGreatDoor
open Go.Proofs.Tryz hiding prog
open Go.Proofs.aD
namespace Kn
open Go Go.RowKit Md
section
variable{fr:Nat×Nat}{J:Nat->Prop}{r:Md.RS}{t:TypeId}{x:μ}{b br:Nat}{w:χ}{B:Nat}{k:Int}
def tV{ty}{m bx:Nat}{a l}(h:RC w B (.slice a l.length m) l)(D:w.heap[bx]?=U (Θ #[Ω Ψ k,x] t fr))(E:x.oneCell'=true)(L:l.length<=1000000):
 ∃b w',(ο #[22,22] ty #[.slice a l.length l.length,.slice bx 1 1]).run prog w=.ok b w'/\(OC w' w b (l++[(k,x)])/\I w w w'/\∃g r,b=.slice (g:Nat) (l.length+1) r):=by
 obtain⟨A,hi,i,o,p⟩:=ZW ni;have c:∀j u,(dW (k,x))[j]?=U u->w ((bx:Addr).add j)=U u:=by
  intro j u f
  match j,f with
  |0,f=>cases f;simp[M,D,φ]
  |1,f=>cases f;simp[M,D,φ]
  |j+2,f=>simp[dW]at f
 have y:∀u∈dW (k,x),u.oneCell'=true:=by
  intro u C;simp[dW]at C;obtain rfl|rfl:=C
  rfl;exact E
 have fin:∀b w',w'.ownsRow w 76 2 b (l.length+1) (l.flatMap dW++dW (k,x)) ->OC w' w b (l++[(k,x)])/\∃g r,b=.slice (g:Nat) (l.length+1) r:=by
  intro b w' r1;have s:OC w' w b (l++[(k,x)]):=by unfold OC;rw[List.flatMap_append,List.length_append];simpa using r1
  refine⟨s,?_⟩;obtain⟨g,v,e,_⟩:=r1.form (by omega);exact⟨g,v,e⟩
 obtain⟨H,r,e,K,G,F,J⟩:=id h;cases e
 obtain _|ad:=a
 have q:l=[]:=κ (by have:=F rfl;omega);subst q;obtain⟨b,w',d,r1,r2,_⟩:=run_append_own (P:=prog) w w 22 ty 76 A _ 2 32 mF hi i o p rfl (by decide) (ζ ξ 0 0) 0 [] (Z8 w _ 76 2) bx 1 1 (dW (k,x)) rfl c y (by unfold Z4;omega) (by omega) .refl;obtain⟨q1,z⟩:=fin b w' (by simpa using r1);exact⟨b,w',d,q1,(R _ w).grown r2 .refl (λk e=>by cases e),z⟩;obtain⟨b,w',d,r1,r2⟩:=run_append_arg_grows (P:=prog) w 22 ty 76 A _ 2 32 mF hi i o p rfl (by decide) ad l.length l.length (l.flatMap dW) (iu l) (λj u f=>by
  have n:0<l.length:=by
   obtain h0|h0:=Nat.eq_zero_or_pos l.length
   have:=κ h0;subst this;simp at f;exact h0
  obtain⟨g,m2,e,_,_,_,_,hc⟩:=h.cells n;cases e
  have:=hc j u f;unfold φ;split
  rename_i h0;subst h0;exact this;simpa using this) bx 1 1 (dW (k,x)) rfl c (by omega) (by unfold Z4;omega) (by omega)
 obtain⟨q1,z⟩:=fin b w' r1;exact⟨b,w',d,q1,(R _ w).grown r2 .refl (λk e=>by cases e),z⟩
def mJ{ty}{m bx n:Nat}{a l}(f:l.length=n)(h:RC w B (.slice a l.length m) l)(i:w.heap[bx]?=U (Θ #[Ω Ψ k,x] t fr))(d:x.oneCell'=true)(c:l.length<=1000000):
 ∃b w',(ο #[22,22] ty #[.slice a n n,.slice bx 1 1]).run prog w=.ok b w'/\(OC w' w b (l++[(k,x)])/\I w w w'/\∃g e,b=.slice (g:Nat) (n+1) e):=by
 subst f;exact tV h i d c
def wQ{row a kind cs c}(h:∀i,i<cs.length->a (kind,(i:Int))=row (kind,(i:Int))):cellsOf a kind (cs++[c])=cellsOf row kind cs++[(c.1,a (kind,(cs.length:Int)))]:=by
 apply List.ext_getElem?;intro i;obtain hi|hi|hi:=Nat.lt_trichotomy i cs.length
 obtain⟨p,q,e⟩:=cQ hi;rw[bH (row:=a) (kind:=kind) (c:=(p,q)) (by rw[υ hi];exact e),υ (by rw[aT];exact hi),bH e,h i hi];subst hi;rw[bH (row:=a) (kind:=kind) (c:=c) (by simp)];simp[aT];rw[Z9 (by rw[aT];simp;omega),Z9 (by simp[aT];omega)]
def cR.Pi{w2 g n o m s row vs}(P:∀j,J j->j<w)(h5:∀j,J j->j≠b/\∀k,IsKey g k->(row k).ownBlock≠U j)(K:B<=b)(hb:w.heap[b]?=U (Θ #[n,o,row (0,0),row (0,1),row (0,2),m] 114 (0,0)))(L:RC w B o (cellsOf row 4 g.old))(h3:OI w B m g.marked)(h4:kD w B row g)(v:B<=w)(u:I w w w2)(E:OC w2 B s (cellsOf row 3 g.new++[(k,x)]))(G:OV w2 w x vs):
 cR (w2.setCell b s) B b {g with new:=g.new++[(k,vs)]} J/\I B w (w2.setCell b s):=by
 have f:=(u.block b (Ξ.1 hb).1).trans hb;have l:∀k,k≠b->(w2.setCell b s).heap[k]?=w2.heap[k]?:=λk h=>aa h;have keep:∀i:Nat,i<g.new.length->(if((3,(i:Int)):HV)=(3,(g.new.length:Int))then x else row (3,(i:Int)))=row (3,(i:Int)):=λi hi=>if_neg λe=>by have:=congrArg Prod.snd e;dsimp only at this;omega
 have hold:∀d,IsKey {g with new:=g.new++[(k,vs)]} d->d≠(3,(g.new.length:Int)) ->IsKey g d/\bd {g with new:=g.new++[(k,vs)]} d=bd g d:=by
  rintro⟨a,c⟩ h z;obtain⟨e1,e2,e3⟩|⟨e1,e2,e3⟩|⟨e1,e2,e3⟩:=h
  dsimp only at e1 e2 e3;subst e1;exact⟨.inl ⟨rfl,e2,e3⟩,by simp[bd]⟩;dsimp only at e1 e2 e3;subst e1;have F:c<g.new.length:=by have:c≠g.new.length:=λe=>z (by rw[e]);simp at e3;omega
  refine⟨.inr<|.inl ⟨rfl,e2,F⟩,?_⟩;simp only[bd,cellAt];have:c.toNat<g.new.length:=by omega
  simp[List.getD,υ this];dsimp only at e1 e2 e3;subst e1;exact⟨.inr<|.inr ⟨rfl,e2,e3⟩,by simp[bd,cellAt]⟩
 refine⟨⟨s,o,m,λd=>if d=(3,(g.new.length:Int))then x else row d,K,?_,?_,?_,?_,⟨?_,?_⟩,?_⟩,?_⟩;rw[aB f];simp;dsimp only;rw[wQ (row:=row) (λi hi=>keep i hi),if_pos rfl];exact OC.rc (B:=B)<|hZ E f (by decide) l;have:cellsOf (λd=>if d=(3,(g.new.length:Int))then x else row d) 4 g.old=cellsOf row 4 g.old:=by
  unfold cellsOf;refine List.map_congr_left λy _=>?_;have O:¬((4,(y.2:Int)):HV)=(3,(g.new.length:Int)):=λe=>by have:=congrArg Prod.fst e;simp at this
  simp only[if_neg O]
 dsimp only;rw[this];exact(L.low u).below λC N t=>l C λe=>by subst e;rw[f]at t;cases t
 ·exact hZ (h3.below u) f (by decide) l
 intro d q;dsimp only;by_cases e:d=(3,(g.new.length:Int))
 subst e;rw[if_pos rfl];have:bd {g with new:=g.new++[(k,vs)]} (3,(g.new.length:Int))=vs:=by simp[bd,cellAt,List.getD]
 rw[this];exact eV (hZ G f (by decide) l) v;rw[if_neg e];obtain⟨e1,e2⟩:=hold d q e;rw[e2];exact hZ ((h4.1 d e1).below u) f (by decide) l;intro A D e1 e2 r;dsimp only;have wl:∀d,IsKey g d->Apart x (row d):=λd q C a1 Q=>by have:=(G.lt C a1).1;have:=((h4.1 d q).lt C Q).2;omega
 by_cases c1:A=(3,(g.new.length:Int))<;>by_cases c2:D=(3,(g.new.length:Int))
 exact absurd (c1.trans c2.symm) r;rw[if_pos c1,if_neg c2];exact wl _ (hold D e2 c2).1;rw[if_neg c1,if_pos c2];exact Apart.symm<|wl _ (hold A e1 c1).1;rw[if_neg c1,if_neg c2];exact h4.2 A D (hold A e1 c1).1 (hold D e2 c2).1 r;intro j H;refine⟨(h5 j H).1,λd q e=>?_⟩;dsimp only at e;by_cases c1:d=(3,(g.new.length:Int))
 rw[if_pos c1]at e;have:=(G.lt j e).1;have:=P j H;omega;rw[if_neg c1]at e;exact(h5 j H).2 d (hold d q c1).1 e;exact(u.mono v).setCell (p:=⟨b,0,ξ⟩) K _
def Aj(k:Nat):Prop:=∀W:χ,OV (W.alloc<|.cells (madeCells #[Ω Ψ 0,Ω Ψ 0]<|k*2) 50) W (.slice W.heap.size k k) (ψ k (0,0))
def Jy:Aj 1:=λW=>⟨rfl,.inr ⟨W.heap.size,1,_,rfl,.refl,Δ _ _,.refl,by unfold Z4;omega,by kernel_rfl,by kernel_rfl⟩⟩
def bD.more(h:bD w B br b r J):bD w B br b r (λj=>J j\/w.heap.size<=j):=by
 obtain⟨l,i,⟨n,o,m,row,p,hb,g,f,q,c,g5⟩,h3⟩:=h;refine⟨l,i,⟨n,o,m,row,p,hb,g,f,q,c,λj a=>?_⟩,λj a=>?_⟩;obtain a|a:=a
 ·exact g5 j a
 refine⟨λe=>?_,λk d e=>?_⟩
 ·grind
 have:=((c.1 k d).lt j e).2;omega
 grind
def bD.sub{J'}(h:bD w B br b r J)(hs:∀j,J' j->J j):bD w B br b r J':=by obtain⟨g,f,⟨n,o,m,row,i,hb,e,d,k,c,g5⟩,h3⟩:=h;exact⟨g,f,⟨n,o,m,row,i,hb,e,d,k,c,λj a=>g5 j<|hs j a⟩,λj a=>h3 j<|hs j a⟩
def bD.ne(h:bD w B br b r J):¬br=b:=λe=>by
 obtain⟨_,a,h3,_⟩:=h;obtain⟨_,_,c,hc⟩:=h3.own.obj
 grind
def bD.free{w' j c}(h:bD w B br b r J)(s:J j)(hc:w.heap[j]?=U (.cells c t fr))(p:t≠76/\t≠3)(d:∀k,k≠j->w'.heap[k]?=w.heap[k]?):bD w' B br b r J:=by
 obtain⟨A,y,⟨n,o,m,row,D,hb,C,z,E,x,g5⟩,h3⟩:=h;have v:∀{k:Nat} {u:Array μ} {l:TypeId} {f:Nat×Nat},w.heap[k]?=U (.cells u l f) ->t≠l->w'.heap[k]?=w.heap[k]?:=λ{k u l f} a F=>d k λe=>by grind
 exact⟨A,(d br<|Ne.symm<|h3 j s).trans y,⟨n,o,m,row,D,(d b<|Ne.symm (g5 j s).1).trans hb,C.below λg q i=>v i p.1,z.below λg q i=>v i p.1,hZ E hc p.2 d,⟨λk a=>aS (x.1 k a) λg i=>d g λe=>(g5 j s).2 k a<|by grind,x.2⟩,g5⟩,h3⟩
def bD.Pi{w w2 B q b r J x k vs}(h:bD w B q b r J)(E:∀j,J j->j<w)(s:B<=w)(u:I w w w2)(F:OV w2 w x vs):
 ∃a m row,w b=U (.slice a r.g.new.length m)/\r.g.new.length<=m/\RC w B (.slice a (cellsOf row 3 r.g.new).length m) (cellsOf row 3 r.g.new)/\(cellsOf row 3 r.g.new).length=r.g.new.length/\
  ∀d f,I w2 w2 d->OC d B f (cellsOf row 3 r.g.new++[(k,x)]) ->bD (d.setCell b f) B q b {r with g:={r.g with new:=r.g.new++[(k,vs)]}} J/\I B w (d.setCell b f)/\tc J w (d.setCell b f):=by
 have p:=h.ne;obtain⟨A,t,⟨n,o,m,row,K,hb,y,z,N,C,g5⟩,h3⟩:=h;obtain⟨a,G,e,v,O,Q,P⟩:=id y;refine⟨a,G,row,?_,?_,e▸y,aT _ _ _,λd f i l=>?_⟩;rw[aT]at e;rw[<-e];simp[M,hb];rw[aT]at v;exact v;have c:=u.trans<|i.mono u.size;obtain⟨q1,L⟩:=cR.Pi E g5 K hb z N C s c l<|F.below i;refine⟨⟨A,?_,q1,h3⟩,L,λj H D=>?_⟩;rw[aa p,c.block q (Ξ.1 t).1];exact t;rw[aa (g5 j H).1,c.block j D]
def afi(w B N b k r r')(hr:bD w B N b r J)(hB:B<=w)(hJ:∀j,J j->j<w)(hm:Roomy r r')(hz:Aj k)(hk:k<=1000)(hl:r'.g.new.length<=1000):
 Y prog 202 #[.pointer N,Ω Ψ 0,Ω Ψ (k:Int),ζ ξ 0 0] w λe w'=>e=.returned (.agg #[Ω Ψ 3,Ω Ψ (r'.g.new.length:Int)])/\bD w' B N b {r' with g:={r'.g with new:=r'.g.new++[(0,ψ k (0,0))]}} J/\I B w w'/\tc J w w':=by
 have HM:=V hm;have hb1:=af w<|Θ #[Ω Ψ 0,Ω Ψ 0] 50;have HR:=V<|(hr.more.below hb1).sub (J':=λj=>J j\/j=w) λj z=>z.imp id λe=>by omega
 have HZ:=V hz;have O:=V hb1;clear hr hm hz;have hmk:=λW=>BC k k .refl (by omega) W
 go_enter (fU func202 rfl),ntmps202
 go_wp2_with fail
 refine wp_loop_rounds 1 ?_;rw[rounds_succ]
 go_wp2_with fail
 refine(WD _ B N b r r' HR.out (by simp;omega) HM.out).mono ?_;rintro e F ⟨rfl,X,hb2,q⟩;have s:=V X;have y2:=(q w (.inr rfl)<|by simp).trans<|Δ w _;have HB2:=V<|Z hb2 q;have HY2:=V y2;clear X hb2 q y2
 go_wp2_with fail
 refine wp_loop_rounds 1 ?_;rw[rounds_succ];have f:=af F<|.cells (madeCells #[Ω Ψ 0,Ω Ψ 0]<|k*2) 50;have hsz:w.heap.size<F:=by have:=(Ξ.1 HY2.out).1;exact this
 have hJ2:∀j,(J j\/j=w) ->j<F:=by
  intro j z;obtain h|h:=z
  have:=hJ j h;omega;omega
 obtain⟨a,m,row,L,hlm,hrc,P,C⟩:=s.out.Pi (x:=.slice F.heap.size k k) (k:=0) (vs:=ψ k (0,0)) hJ2 (by omega) f<|HZ.out F;obtain⟨c0,_,hbr⟩:=s.out.ptr;have H:=az L;have S:=cG f c0 hbr;have e1:=cG f L H;have ef:=f.frozen (p:=⟨b,0,ξ⟩) H;have ef0:F.frozen? b=false:=by obtain⟨_,_,c,hc⟩:=s.out.2.2.1.own.obj;exact cD hc
 rw[ef0]at ef;have y:=hrc.low f;have E:=Γ hbr f.size;have t:=Γ H f.size;have HA:=V C;have HC3:=V y;have hll:(cellsOf row 3 r'.g.new).length<=1000000:=by omega
 have HL:=V P;have hne:=s.out.ne;rw[P]at y;generalize hw3:(F.alloc<|.cells (madeCells #[Ω Ψ 0,Ω Ψ 0]<|k*2) 50)=A at f HA S e1 ef HC3 E t⊢;clear hw3 C L c0 hrc y ef0 P;have hl0:(0:Int)<=(r'.g.new.length:Int):=by omega
 have hl1:(r'.g.new.length:Int)<=(m:Int):=by omega
 clear hmk
 go_wp2_with fail
 have hnr:¬b=N:=λe=>hne e.symm;refine Rg.wp_cut (n:=34) (λx=>x N=U (.pointer b)/\x b=U (.slice a r'.g.new.length m)) (by kernel_rfl) (by kernel_rfl) (λc a d v w h=>by cases d<;>exact h) ⟨S,e1⟩ ?_;simp only[List.take_succ_cons,List.take_zero,List.drop_succ_cons,List.drop_zero]
 iterate 34
  (refine Rg.fp.step (v:=?_) (by rfl) (λu hu=>?_) ?_
   rotate_left
   (obtain⟨hu0,hu1⟩:=hu
    go_simp;rfl))
 refine Rg.fp.nil ?_;simp only[Act.put,List.setIfInBounds_toArray,List.set_cons_zero,List.set_cons_succ];refine wpOp_step rfl λK hK=>?_;go_simp;refine hK _ _ ⟨⟨dB<|dO S,dB<|dO e1⟩,?_⟩;clear hK K;refine wpOp_step rfl λK hK=>?_;refine aX rfl _ _ 22 (by rfl) (.slice a r'.g.new.length r'.g.new.length) (.slice A.heap.size 1 1) (by rfl) (by rfl) _ (mJ (k:=0) (x:=.slice F.heap.size k k) HL.out (HC3.out.low<|by first|exact(af A _).drew|exact(af A _)|exact((R _ A).drew.alloc .refl _)|exact((R _ A).drew.alloc .refl _).drew) (Δ A _) (by rfl) hll) ?_;intro v' w4 h2;obtain⟨hoc,o,gg,mg,rfl⟩:=h2;have l:=Below.trans (by first|exact(af A _).drew|exact(af A _)|exact((R _ A).drew.alloc .refl _)|exact((R _ A).drew.alloc .refl _).drew)<|o.mono<|by simp
 have gc:=cG l e1 t;have gr:=cG l S E;have gf:=(l.frozen (p:=⟨b,0,ξ⟩) t).trans ef;refine hK _ _ ⟨⟨gr,gc⟩,?_⟩;clear hK K;obtain⟨p1,T,Q⟩:=HA.out w4 _ l<|hoc.less (by have:=f.size;simp;omega);have HP:=V<|Z p1<|Z T Q;have o:¬b=w:=λe=>(s.out.2.2.1.ne<|.inr rfl) e.symm;have y4:=(l.block w (by have:=f.size;omega)).trans<|(f.block w hsz).trans HY2.out;have HY4:=V y4;have z0:(w4.setCell b<|.slice gg (r'.g.new.length+1) mg) w.heap.size=U (Ω Ψ 0):=da o (by simp[M,y4]);have z1:(w4.setCell b<|.slice gg (r'.g.new.length+1) mg) (w.heap.size,1)=U (Ω Ψ 0):=da o (by simp[M,y4]);have y5:=(aa (w:=w4) (i:=0) (v:=.slice gg (r'.g.new.length+1) mg)<|Ne.symm o).trans y4;have zf0:=cD (i:=0) y5;have zf1:=cD (i:=1) y5;have zr:(w4.setCell b<|.slice gg (r'.g.new.length+1) mg) N=U (.pointer b):=da hnr gr;have hw1:IntKind.i64.wrap ((r'.g.new.length:Int)+1-1)=(r'.g.new.length:Int):=by rw[show((r'.g.new.length:Int)+1-1)=(r'.g.new.length:Int) by omega];exact wrap_small _ (by omega) (by omega)
 have HY5:=V y5;clear p1 T Q hoc o S e1 ef y4 y5
 go_wp2_with fail
 obtain⟨p1,T,Q⟩:=HP.out;have G:=HY5.out;clear z0 z1 zf0 zf1 zr;generalize (w4.setCell b<|.slice gg (r'.g.new.length+1) mg)=w5 at p1 T Q G⊢;have y6:=aB (aB G 0<|Ω Ψ 3) 1<|Ω Ψ (r'.g.new.length:Int);have D:=(p1.free (w':=(w5.setCell w.heap.size<|Ω Ψ 3).setCell (w.heap.size,1)<|Ω Ψ (r'.g.new.length:Int)) (.inr rfl) G (by decide) λk hk=>cr hk).sub (J':=J) λj z=>.inl z;have hbf:I B w ((w5.setCell w.heap.size<|Ω Ψ 3).setCell (w.heap.size,1)<|Ω Ψ (r'.g.new.length:Int)):=((((O.out.mono hB).trans HB2.out.1).trans T).setCell (p:=⟨w.heap.size,0,ξ⟩) hB _).setCell (p:=⟨w.heap.size,1,ξ⟩) hB _;have hfj:tc J w ((w5.setCell w.heap.size<|Ω Ψ 3).setCell (w.heap.size,1)<|Ω Ψ (r'.g.new.length:Int)):=λj z hl=>(cr (by have:=hJ j z;omega)).trans<|(Q j (.inl z) (by have:=hJ j z;omega)).trans<|(HB2.out.2 j (.inl z)<|Γ hl O.out.size).trans<|O.out.block j hl;generalize (w5.setCell w.heap.size<|Ω Ψ 3).setCell (w.heap.size,1) (Ω Ψ (r'.g.new.length:Int))=w6 at y6 D hbf hfj⊢;refine ι (v:=.agg #[Ω Ψ 3,Ω Ψ (r'.g.new.length:Int)]) (by simp[θ,results202,go_sem,M,y6]) rfl ⟨rfl,D,hbf,hfj⟩
end
section
variable{J:Nat->Prop}
def fZ{w:χ}{b:Nat}{t v0 v1 v2 v3}(h:w.heap[b]?=U (Θ #[v0,v1,v2,v3] t (0,0))):w b=U v0/\w (b,1)=U v1/\w (b,2)=U v2/\w (b,3)=U v3:=by refine⟨?_,?_,?_,?_⟩<;>simp[M,h]
def Jz(r:Md.RS)(k:Nat):Md.RS:={r with g:={r.g with new:=r.g.new++[(0,ψ k (0,0))]}}
def bD.one{w B a b r}(h:bD w B a b r J)(o):bD (w.alloc o) B a b r (λj=>J j\/j=w):=(h.more.below<|af w o).sub (λj c=>c.imp id λe=>by omega)
def JA(w)(B u b a k:Nat)(r r' p q)(hr:bD w B u b r J)(hB:B<=w)(hJ:∀j,J j->j<w)(ht:r.g.roots[a]?=U (p,q))(hrl:r.g.roots.length<=1000)(hm:Roomy r r')(hz:Aj k)(hk:k<=4)(W:r'.g.new.length<=1000)(S:a<r'.g.roots.length):
 Y prog 153 #[.pointer u,.agg #[Ω Ψ 0,a,k,Ω Ψ 0]] w λe w'=>e=.returned (.tuple #[])/\bD w' B u b (Md.el (Jz r' k) a (3,(r'.g.new.length:Int))) J/\I B w w'/\tc J w w':=by
 have HM:=V hm;have HZ:=V hz;have f:=af w<|Θ #[Ω Ψ 0,a,k,Ω Ψ 0] 44;have HR:=V<|hr.one<|Θ #[Ω Ψ 0,a,k,Ω Ψ 0] 44;have F:=V f;clear hr hm hz;have hk0:¬((k:Int)<0):=by omega
 have hk4:¬(4<(k:Int)):=by omega
 go_enter (fU func153 rfl),ntmps153
 go_wp2_with fail
 ((with_reducible refine(cd _ _).mono ?_))
 rintro e w1 ⟨rfl,l⟩;have N:w1.heap[w.heap.size]?=U (Θ #[Ω Ψ 0,a,k,Ω Ψ 0] 44 (0,0)):=by rw[l];exact Δ w _
 rw[<-l]at HR F f;have E:w1.heap.size=w.heap.size+1:=by rw[l];simp
 clear l;obtain⟨c0,c1,c2,c3⟩:=fZ N
 go_wp2_with fail
 refine(sQ _ B u b r a p q HR.out ht<|by omega).mono ?_;rintro e w2 ⟨rfl,c⟩;have H:=(c.block w<|by omega).trans N;have C:=V<|HR.out.below c;have m:=V<|f.trans<|c.mono f.size;have d:w.heap.size<w2:=by have:=c.size;omega
 clear N HR c0 c1 c2 c3 f c F E;obtain⟨c0,c1,c2,c3⟩:=fZ H
 go_wp2_with fail
 rw[show(decide ((k:Int)<0)||decide (4<(k:Int)))=false by simp;omega]
 ((with_reducible refine(cd _ _).mono ?_))
 rintro e w3 ⟨rfl,z⟩;rw[<-z]at C m H c0 c1 c2 c3 d;clear z
 go_wp2_with fail
 have o:∀j,(J j\/j=w) ->j<w3:=by
  intro j i;obtain h|h:=i
  have:=hJ j h;omega;omega
 have hne1:((0:Int)==0)=true:=rfl
 go_region_held3 (λx=>x (w.heap.size,1)=U (Ω Ψ (a:Int))/\x (w.heap.size,2)=U (Ω Ψ (k:Int))) ((refine⟨?_,?_⟩<;>(repeat (first|with_reducible assumption|with_reducible refine dO ?_))))
  (first
    |(go_at_call 202;(with_reducible refine(afi _ B u b k r r' (C.out.below (R _ _).drew) (by simp;omega) (λj i=>by have:=o j i;simpa using this) HM.out HZ.out (by omega) W).mono ?_);rintro e w4 ⟨rfl,v,G,s⟩;have y4:=(s w (.inr rfl) d).trans H;have HR4:=V v;have t:=V G;have A:=V s;obtain⟨d0,d1,d2,d3⟩:=fZ y4;clear v G s y4)
    |(go_at_call 201;(with_reducible refine(afB _ B u b _ a 3 (r'.g.new.length:Int) HR4.out S (by have:=t.out.size;simp at this;omega)).mono ?_);rintro e w5 ⟨rfl,y,D,n⟩;have y5:=(n w (.inr rfl) (az d0)).trans ((A.out w (.inr rfl) d).trans H:_=U (Θ #[Ω Ψ 0,a,k,Ω Ψ 0] 44 (0,0)));have P:=V y;have O:=V D;have X:=V n;obtain⟨g0,g1,g2,g3⟩:=fZ y5;clear y D n y5))
 have Q:=t.out.size;have oX:=m.out.size;have K:=P.out.sub λj i=>.inl i;have L:=(((m.out.mono hB).trans<|(R B w3).drew).trans t.out).trans O.out;have T:tc J w w5:=λj i W=>(X.out j (.inl i) (by have:=o j<|.inl i;simp at Q;omega)).trans<|(A.out j (.inl i) (by have:=o j<|.inl i;simpa using this)).trans<|m.out.block j W;go_end0;exact⟨rfl,K,L,T⟩
def E'(w B o b n r g' p q)(x:Nat)(P:bD w B o b r J)(hB:B<=w)(T:∀j,J j->j<w)(Q:r.g.roots[x]?=U (p,q))(S:r.g.roots.length<=1000)(N a)(y:Jn r.g N a)(L:im (Md.iF r.g))(i:Md.collect .major r.g=U (n,g'))(X:0<=r.fk/\r.fk<=1000)(E:0<=r.dA/\r.dA<=100000)(W:n<=1000):
 Y prog 153 #[.pointer o,.agg #[Ω Ψ 10,x,Ω Ψ 0,Ω Ψ 0]] w λe w'=>e=.returned (.tuple #[])/\bD w' B o b (Md.counted r .major n g') J/\I B w w'/\tc J w w':=by
 have c:=af w<|Θ #[Ω Ψ 10,x,Ω Ψ 0,Ω Ψ 0] 44;have HR:=V<|P.below c;have v:=V c;have G:=V<|Z y<|Z L i;clear P y L i
 go_enter (fU func153 rfl),ntmps153
 go_wp2_with fail
 ((with_reducible refine(cd _ _).mono ?_))
 rintro e K ⟨rfl,f⟩;have C:K.heap[w.heap.size]?=U (Θ #[Ω Ψ 10,x,Ω Ψ 0,Ω Ψ 0] 44 (0,0)):=by rw[f];exact Δ w _
 rw[<-f]at HR v c;have u:K.heap.size=w.heap.size+1:=by rw[f];simp
 clear f;obtain⟨c0,c1,c2,c3⟩:=fZ C
 go_wp2_with fail
 refine(sQ _ B o b r x p q HR.out Q<|by omega).mono ?_;rintro e w2 ⟨rfl,h⟩;have y2:=(h.block w<|by omega).trans C;have D:=V<|HR.out.below h;have d:=V<|c.trans<|h.mono c.size;clear C HR c0 c1 c2 c3 c h v u;obtain⟨c0,c1,c2,c3⟩:=fZ y2
 go_wp2_with fail
 refine(wN _ B o b n r g' (λj H=>by have:=T j H;have:=d.out.size;omega) N a G.out.1 G.out.2.1 D.out (by have:=d.out.size;omega) G.out.2.2 X E W).mono ?_;rintro e w3 ⟨rfl,z,A,l⟩;have s:=V z;have m:=V A;have t:=V l;clear z A l
 go_wp2_with fail
 ((with_reducible refine(cd _ _).mono ?_))
 rintro e w4 ⟨rfl,k⟩;rw[<-k]at s m t;clear k
 go_wp2_with fail
 have F:tc J w w4:=λj H O=>(t.out j H<|Γ O d.out.size).trans<|d.out.block j O;go_end0;exact⟨rfl,s.out,(d.out.mono hB).trans m.out,F⟩
end
section
variable{B i:Nat}(w:χ){vs:List HV}{k:Int}{J:Nat->Prop}
def RC.at_{w v row kind cs}(h:RC w B v (cellsOf row kind cs))(f:OV w B (row (kind,(i:Int))) vs)(e:cs[i]?=U (k,vs)):
 ∃d m a b,v=.slice (d:Nat) cs.length m/\w ((d:Nat),i*2)=U (Ω Ψ k)/\row (kind,(i:Int))=.slice a vs.length b/\w ((d:Nat),i*2+1)=U (.slice a vs.length b):=by
 have hi:=(ω.1 e).1;obtain⟨g,m,rfl,_,l,_,_,j⟩:=h.cells (by rw[aT];omega);obtain⟨e1,e2⟩:=jx dW (λv=>Ω Ψ v.1) (λv=>v.2) (λ_=>rfl) _ i _<|bH (kind:=kind) e;obtain⟨a,b,c,_⟩:=aF f;refine⟨g,m,a,b,by rw[aT],j _ _ e1,c,?_⟩
 grind
def dm.WM{w b g}(h:dm w B b g)(e:g.new[i]?=U (k,vs)):
 ∃c m a d,w b=U (.slice (c:Nat) g.new.length m)/\w ((c:Nat),i*2)=U (Ω Ψ k)/\w ((c:Nat),i*2+1)=U (.slice a vs.length d):=by
 obtain⟨n,o,m,row,r,hb,l,q,h3,h4⟩:=h;obtain⟨f,j⟩:=J8 e;have:=h4.1 _ f;rw[j]at this;obtain⟨c,p,a,d,rfl,r1,_,r2⟩:=l.at_ this e;exact⟨c,p,a,d,by simp[M,hb],r1,r2⟩
def dm.JB{w b g}(h:dm w B b g)(e:g.old[i]?=U (k,vs)):
 ∃c m a d,w (b,1)=U (.slice (c:Nat) g.old.length m)/\w ((c:Nat),i*2)=U (Ω Ψ k)/\w ((c:Nat),i*2+1)=U (.slice a vs.length d):=by
 obtain⟨n,o,m,row,r,hb,q,l,h3,h4⟩:=h;obtain⟨f,j⟩:=B1 e;have:=h4.1 _ f;rw[j]at this;obtain⟨c,p,a,d,rfl,r1,_,r2⟩:=l.at_ this e;exact⟨c,p,a,d,by simp[M,hb],r1,r2⟩
def aai{K:Int}{s}(h:K=3/\s=0\/K=4/\s=1)(w)(b a len m k:Nat)(hc:w (b,s)=U (.slice a len m))(d:k<len)(c:len<=1000000):
 Y prog 199 #[.pointer b,.agg #[K,k]] w λe w'=>e=.returned (.pointer (a,k*2))/\I w w w':=by
 obtain⟨rfl,rfl⟩|⟨rfl,rfl⟩:=h
 exact zD w b a len m k hc d c;exact ol w b a len m k hc d c
def aaj(B A b i r k)(vs:List HV)(hr:bD w B A b r J)(K:Int)(s)(cs:List HC)(S:K=3/\s=0\/K=4/\s=1)(e:∃f m a L,w (b,s)=U (.slice (f:Nat) cs.length m)/\w ((f:Nat),i*2)=U (Ω Ψ k)/\w ((f:Nat),i*2+1)=U (.slice a vs.length L))(H:i<cs.length)(hk:0<=k/\k<=1000)(hv:vs.length<=1000)(hl:cs.length<=1000):
 Y prog 154 #[.pointer A,.agg #[K,i]] w λe w'=>e=.returned (.agg #[Ω Ψ 1,Ω Ψ<|10*k+vs.length])/\I w w w':=by
 obtain⟨f,m,a,L,c0,c1,c2⟩:=e;obtain⟨p0,_,E⟩:=hr.ptr;have G:=az c0;have n:=az c1;have hw1:IntKind.i64.wrap (10*k)=10*k:=wrap_small _ (by omega) (by omega);have hw2:IntKind.i64.wrap (10*k+(vs.length:Int))=10*k+(vs.length:Int):=wrap_small _ (by omega) (by omega);obtain⟨Q,h,F⟩:=Ju w (Θ #[K,i] 50)<|Θ #[Ω Ψ 0,Ω Ψ 0] 50;have X:((w.alloc<|Θ #[K,i] 50).alloc<|Θ #[Ω Ψ 0,Ω Ψ 0] 50).heap[w.heap.size]?=U (Θ #[K,i] 50 (0,0)):=((af _ _).block _<|by simp).trans<|Δ w _
 go_enter (fU func154 rfl),ntmps154
 go_wp2_with fail
 refine(jX _ K (i:Int) (by obtain⟨rfl,rfl⟩|⟨rfl,rfl⟩:=S<;>rfl)).mono ?_;rintro e o ⟨rfl,d⟩;have z:=d.size;have c:=V<|h.trans<|d.mono h.size;have t:=(d.block w<|by omega).trans X;have x1:=(d.block (w.heap.size+1)<|by omega).trans Q;have u:=cG c.out p0 E;have q1:=cG c.out c0 G;have q:=cG c.out c1 n;have T:=cG c.out c2 n;have C:o w.heap.size=U (Ω Ψ K):=by simp[M,t]
 have O:o (w.heap.size,1)=U (Ω Ψ (i:Int)):=by simp[M,t]
 have D:w.heap.size+1<o:=by omega
 have HX:=V x1;clear X Q h F c0 c1 c2 p0 d t x1 z
 go_wp2_with fail
 go_region_held3 (λx=>x A=U (.pointer b)/\x w.heap.size=U (Ω Ψ K)/\x (w.heap.size,1)=U (Ω Ψ (i:Int))) ((refine⟨?_,?_,?_⟩<;>(repeat (first|with_reducible assumption|with_reducible refine dO ?_))))
  ((go_at_call 199;(with_reducible refine(aai S _ b f cs.length m i (((R _ _).drew.cell (p:=⟨b,s,ξ⟩)<|az q1).trans q1) H<|by omega).mono ?_);rintro e w4 ⟨rfl,l⟩;have g:I o o w4:=(R _ _).drew.trans l;have k0:=cG g u<|az u;have k1:=cG g C<|az C;have k2:=cG g O<|az O))
 have k3:=cG g q<|az q;have k4:=cG g T<|az q;have x4:=(g.block (w.heap.size+1) D).trans HX.out;have m0:w4 (w.heap.size+1:Nat)=U (Ω Ψ 0):=by simp[M,x4]
 have m1:w4 (w.heap.size+1,1)=U (Ω Ψ 0):=by simp[M,x4]
 have f0:=cD (i:=0) x4;have f1:=cD (i:=1) x4;have y:¬w.heap.size+1=f:=by omega
 have P:=V x4;have N:=V<|c.out.trans<|g.mono c.out.size;clear x4 g u q1 q T C O k0 k1 k2 l
 go_wp2_with fail
 go_region_held3 (λx=>x ((f:Nat),i*2)=U (Ω Ψ k)/\x ((f:Nat),i*2+1)=U (.slice a vs.length L)) ((refine⟨?_,?_⟩<;>(repeat (first|with_reducible assumption|with_reducible refine dO ?_|with_reducible refine da y ?_)))) (fail)
 go_wp2_with fail
 have W:((w4.setCell (w.heap.size+1:Nat)<|Ω Ψ 1).setCell (w.heap.size+1,1)<|Ω Ψ<|10*k+(vs.length:Int)).drew.heap[w.heap.size+1]?=_:=aB (aB P.out 0<|Ω Ψ 1) 1<|Ω Ψ<|10*k+(vs.length:Int);have j:I w w ((w4.setCell (w.heap.size+1:Nat)<|Ω Ψ 1).setCell (w.heap.size+1,1)<|Ω Ψ<|10*k+(vs.length:Int)).drew:=((N.out.setCell (p:=⟨w.heap.size+1,0,ξ⟩) (by simp)<|Ω Ψ 1).setCell (p:=⟨w.heap.size+1,1,ξ⟩) (by simp)<|Ω Ψ<|10*k+(vs.length:Int)).drew;generalize ((w4.setCell (w.heap.size+1:Nat)<|Ω Ψ 1).setCell (w.heap.size+1,1)<|Ω Ψ<|10*k+(vs.length:Int)).drew=w5 at W j⊢;refine ι (v:=.agg #[Ω Ψ 1,Ω Ψ<|10*k+vs.length]) (by simp[θ,results154,go_sem,M,W]) rfl ⟨rfl,j⟩
def Fa(B a b i:Nat)(r k vs)(c:bD w B a b r J)(e:r.g.new[i]?=U (k,vs))(d:0<=k/\k<=1000)(f:vs.length<=1000)(h:r.g.new.length<=1000):
 Y prog 154 #[.pointer a,.agg #[Ω Ψ 3,i]] w λe w'=>e=.returned (.agg #[Ω Ψ 1,Ω Ψ<|10*k+vs.length])/\I w w w':=
 aaj w B a b i r k vs c 3 0 r.g.new (.inl ⟨rfl,rfl⟩) (c.2.2.1.own.WM e) (ω.1 e).1 d f h
def ve(B a b i:Nat)(r k vs)(c:bD w B a b r J)(e:r.g.old[i]?=U (k,vs))(d:0<=k/\k<=1000)(f:vs.length<=1000)(h:r.g.old.length<=1000):
 Y prog 154 #[.pointer a,.agg #[Ω Ψ 4,i]] w λe w'=>e=.returned (.agg #[Ω Ψ 1,Ω Ψ<|10*k+vs.length])/\I w w w':=
 aaj w B a b i r k vs c 4 1 r.g.old (.inr ⟨rfl,rfl⟩) (c.2.2.1.own.JB e) (ω.1 e).1 d f h
end
def nr{w ty}{B bx:Nat}{v l}{p q:Int}{t fr}(h:OV w B v l)(k:w.heap[bx]?=U (Θ #[p,q] t fr))(x:l.length<=1000000)(o:B<=w):
 ∃c w',(ο #[23,23] ty #[v,.slice bx 1 1]).run prog w=.ok c w'/\(OV w' B c (l++[(p,q)])/\w.grownBy w' v.ownBlock/\∃g r,c=.slice (g:Nat) (l.length+1) r/\(v.ownBlock=U g\/g=w)):=by
 obtain⟨m,hi,d,e,b⟩:=ZW nh;obtain⟨g,n,w',f,y,s,h3,h4⟩:=run_append_lies (P:=prog) w 23 ty B 50 m _ 2 16 lx hi d e b rfl (by decide) v l.length _ h bx 1 1 (lU (p,q)) rfl (λj u a=>by
  match j,a with
  |0,a=>cases a;simp[M,k,φ]
  |1,a=>cases a;simp[M,k,φ]
  |j+2,a=>simp[lU]at a) (λu i=>by
  simp[lU]at i;obtain rfl|rfl:=i<;>rfl) (by omega) (by unfold Z4;omega) (by omega) o _ rfl
 unfold OV
 grind
def bD.grown{w w' B x b r J row}(h:bD w B x b r J)(f:w.grownBy w' row)(y:∀j,row=U j->J j/\∃d,w.heap[j]?=U (.cells d 50 (0,0))):bD w' B x b r J:=by
 obtain⟨A,u,⟨n,o,m,q,D,hb,C,z,t,s,g5⟩,h3⟩:=h;have l:∀{k:Nat} {v:Array μ} {p:TypeId} {i:Nat×Nat},w.heap[k]?=U (.cells v p i) ->p≠50->w'.heap[k]?=w.heap[k]?:=λ{k v p i} a E=>f.block k (Ξ.1 a).1 λe=>by grind
 refine⟨A,(l u<|by decide).trans u,⟨n,o,m,q,D,(l hb<|by decide).trans hb,C.below λg d f=>l f<|by decide,z.below λg d f=>l f<|by decide,aS t λg c=>?_,⟨λk a=>aS (s.1 k a) λg c=>f.block g ((s.1 k a).lt g c).2 λe=>(g5 g (y g e.symm).1).2 k a c,s.2⟩,g5⟩,h3⟩;exact f.block g (t.lt g c).2 λe=>by obtain⟨_,d,hc⟩:=y g e.symm;exact cF t hc (by decide) c
def bD.JC{w}{B k b n:Nat}{r J p q}(h:bD w B k b r J)(f:r.g.roots[n]?=U (p,q)):
 ∃gr m,w (b,2)=U (.slice (gr:Nat) r.g.roots.length m)/\w ((gr:Nat),n*2)=U (Ω Ψ p)/\w ((gr:Nat),n*2+1)=U (Ω Ψ q)/\∀j,J j->j≠gr:=by
 obtain⟨_,_,⟨y,o,m,row,D,hb,C,A,h3,h4,h5⟩,_⟩:=h;have z:=(ω.1 f).1;have h0:=h4.roots.1;obtain⟨a,u,d,v,t,x⟩:=aF h0;obtain⟨gr,rfl,_,_,c,_⟩:=x (by omega);rw[d]at h0;obtain⟨l,i,_⟩:=h0.at_ f;exact⟨gr,u,by simp[M,hb,d],l,i,λj s e=>(h5 j s).2 (0,0) (.inl ⟨rfl,by decide,by decide⟩) (by rw[d,e];rw[d]at c;exact c)⟩
abbrev C4:=Int×Nat×Int×Int
def c4V(c:C4):μ:=.agg #[Ω Ψ c.1,(c.2.1:Int),Ω Ψ c.2.2.1,Ω Ψ c.2.2.2]
def JD(w:χ)(P:Nat->Prop)(v:μ)(l:List C4):Prop:=∃a m,v=.slice a l.length m/\(0<l.length->∃b o,a=U ⟨b,o,ξ⟩/\P b/\∀i c,l[i]?=U c->w ((b:Nat),o+i*4)=U (Ω Ψ c.1)/\w ((b:Nat),o+i*4+1)=U (Ω Ψ (c.2.1:Int))/\w ((b:Nat),o+i*4+2)=U (Ω Ψ c.2.2.1)/\w ((b:Nat),o+i*4+3)=U (Ω Ψ c.2.2.2))
def Rq(w:χ)(J:Nat->Prop):Prop:=∀j,J j->∀c t fr,w.heap[j]?=U (.cells c t fr) ->t≠3
structure Step(B br b:Nat)(r r':Md.RS)(c:C4)(s:HV):Prop where
 OU:∀w J,bD w B br b r J->B<=w->(∀j,J j->j<w) ->Rq w J->Y prog 153 #[.pointer br,c4V c] w λe w'=>e=.returned (.tuple #[])/\bD w' B br b r' J/\I B w w'/\tc J w w'
 root:∃p q,r'.g.roots[c.2.1]?=U (p,q)/\∀w J,bD w B br b r' J->Y prog 154 #[.pointer br,.agg #[Ω Ψ p,Ω Ψ q]] w λe w'=>e=.returned (.agg #[Ω Ψ s.1,Ω Ψ s.2])/\I w w w'
 wW:r'.g.roots.length<=1000
def afF{l:List C4}{k}(h:k<l.length):∃c,l[k]?=U c:=by simp_all
def JE(w B r b v cs)(G:Nat->Md.RS)(sv){J}(hv:JD w (λj=>j<B\/J j) v cs)(hr:bD w B r b (G 0) J)(hB:B<=w)(hJ:∀j,J j->j<w)(hJ3:Rq w J)(hl:cs.length<=1000)(hsl:sv.length=cs.length)(hst:∀i c s,cs[i]?=U c->sv[i]?=U s->Step B r b (G i) (G<|i+1) c s):
 Y prog 94 #[.pointer r,v] w λe w'=>(∃rv,e=.returned rv/\OV w' B rv sv)/\bD w' B r b (G cs.length) J/\I B w w'/\tc J w w':=by
 obtain⟨la,lm,rfl,P⟩:=hv;have anL:=V P;have HST:=V hst;have HR:=V hr;clear P hst hr
 go_enter (fU func94 rfl),ntmps94
 go_wp2_with fail
 go_loopw [5,10] (λo i wr=>∃(k:Nat),k<=cs.length/\i=Ω Ψ k/\Hid (OV wr w o (sv.take k)/\bD wr B r b (G k) (λj=>J j\/o.ownBlock=U j)/\I B w wr/\tc J w wr)) (λ_ i _=>cs.length-(intOf i).toNat)
 case atStart=>exact⟨0,by omega,rfl,V ⟨OV.nil _ _,HR.out.sub (λj f=>f.elim id λe=>by cases e),R _ _,λ_ _ _=>rfl⟩⟩
 case round=>
  obtain⟨k,hk,rfl,a⟩:=hrel;by_cases hlt:k<cs.length
  ·obtain⟨lb,lo,rfl,hlb,hat⟩:=anL.out (by omega);obtain⟨⟨c0,c1,c2,c3⟩,hc⟩:=afF hlt;obtain⟨s0,s1,hs⟩:=ep (l:=sv) (k:=k) (by omega);have D:=V<|HST.out k _ _ hc hs;obtain⟨q0,q1,q2,q3⟩:=hat k _ hc;have hbw:=a.out.2.2.1;have N:wr.heap[lb]?=w.heap[lb]?:=by
    obtain h|h:=hlb
    exact hbw.block lb h;exact a.out.2.2.2 lb h<|az q0
   have d:∀o,wr.cell? ⟨lb,o,ξ⟩=w.cell? ⟨lb,o,ξ⟩:=λo=>by simp only[M,N]
   replace q0:=(d _).trans q0;replace q1:=(d _).trans q1;replace q2:=(d _).trans q2;replace q3:=(d _).trans q3;clear N d;dsimp only at q0 q1 q2 q3;have hsw:=hbw.size;have ν:=(a.out.2.1.ptr).2.1;have hk0:(0:Int)<=(k:Int):=by omega
   have hk1:(k:Int)<(cs.length:Int):=by omega
   have HC:=V hc;clear hat hbw hc
   go_wp2_with fail
   have HDO:=V (show∀(W:χ) (J':Nat->Prop),bD W B r b (G k) J'->B<=W->(∀j,J' j->j<W) ->Rq W J'->Y prog 153 #[.pointer r,.agg #[c0,c1,c2,c3]] W λe w'=>e=.returned (.tuple #[])/\bD w' B r b (G<|k+1) J'/\I B W w'/\tc J' W w' from D.out.OU);have z:=af wr<|Θ #[c0,c1,c2,c3] 44;have F:=a.out.2.1.one<|Θ #[c0,c1,c2,c3] 44;have y1:=Δ wr<|Θ #[c0,c1,c2,c3] 44;have hz1:(wr.alloc<|Θ #[c0,c1,c2,c3] 44).heap.size=wr.heap.size+1:=by simp
   have p5:=cG z ν<|az ν;clear q0 q1 q2 q3 ν;generalize wr.alloc _=w1 at z F y1 hz1 p5⊢;have E:=V<|Z z<|Z F y1;obtain⟨x0,x1,x2,x3⟩:=fZ y1;have u:=a.out.1;have hJ1:∀j,((J j\/u5.ownBlock=U j)\/j=wr) ->j<w1:=by
    intro j f;obtain(h|h)|h:=f
    have:=hJ j h;omega;have:=(u.lt j h).2;omega;omega
   have HJ1:=V hJ1;have H3:=V (show Rq w1.drew (λj=>(J j\/u5.ownBlock=U j)\/j=wr)fromλj f c t fr hc=>by
    obtain(h|h)|h:=f
    have:=hJ j h;exact hJ3 j h c t fr<|(a.out.2.2.2 j h this).symm.trans<|(z.block j<|by omega).symm.trans hc;obtain⟨cur,anM⟩:=u.block h;have H:=(z.block j (u.lt j h).2).trans anM;have X:=H.symm.trans hc;cases X
    decide
    subst h;have X:=y1.symm.trans hc;cases X
    decide)
   clear z F y1 u hJ1
   go_region_held3 (λx=>x (r,5)=U (.func (.func 153) #[.pointer r] #[])/\x wr.heap.size=U (Ω Ψ c0)/\x (wr.heap.size,1)=U (Ω Ψ (c1:Int))/\x (wr.heap.size,2)=U (Ω Ψ c2)/\x (wr.heap.size,3)=U (Ω Ψ c3)) ((refine⟨?_,?_,?_,?_,?_⟩<;>(repeat (first|with_reducible assumption|with_reducible refine dO ?_))))
    ((go_at_call 153;(with_reducible refine(HDO.out _ _ (E.out.2.1.below (R _ _).drew) (by simp;omega) (λj f=>by have:=HJ1.out j f;simpa using this) H3.out).mono ?_);rintro e w2 ⟨rfl,Q,hb2,T⟩;have y2:=(T wr (.inr rfl) (by simp;omega)).trans (E.out.2.2:_=U (Θ #[c0,c1,c2,c3] 44 (0,0)));have hp2:=Q.ptr.2.1;obtain⟨x0,x1,x2,x3⟩:=fZ y2;have y:=V Q;have HB2:=V hb2;have HF2:=V T;clear Q hb2 T y2))
   go_wp2_with fail
   obtain⟨p,q,m,K⟩:=D.out.root;dsimp only at m;have hfew:=D.out.wW;have ar7:=(ω.1 m).1;have anN:=V K;obtain⟨gr,gm,z2,z3,A,hjg⟩:=y.out.JC m;have z1:=y.out.ptr.1;have aiM:=az z1;have anO:=az z2;have L:=az z3;have hbx2:=az x1;have oX:=HB2.out.size;have C:OV w2 w u5 (sv.take k):=aS (a.out.1.below E.out.1) λg hg=>HF2.out g (.inl<|.inr hg) (by have:=HJ1.out g<|.inl<|.inr hg;simpa using this);have HO2:=V C;have n1:U r≠u5.ownBlock:=λe=>by have:=y.out.2.2.2 r<|.inl<|.inr e.symm;exact this rfl
   have n2:U b≠u5.ownBlock:=λe=>by have:=y.out.2.2.1.ne (j:=b)<|.inl<|.inr e.symm;exact this rfl
   have n3:U gr≠u5.ownBlock:=λe=>hjg gr (.inl<|.inr e.symm) rfl;have n4:U wr.heap.size≠u5.ownBlock:=λe=>by have:=(a.out.1.lt _ e.symm).2;omega
   have HN:=V<|Z n1<|Z n2<|Z n3 n4;have hr0:(0:Int)<=(c1:Int):=by omega
   have F:(c1:Int)<((G<|k+1).g.roots.length:Int):=by omega
   clear K m hjg C n1 n2 n3 n4 x0 x2 x3;have HZ:=V<|Z z1<|Z z2<|Z z3<|Z A x1
   go_region_held_law (λx=>x r=U (.pointer b)/\x (b,2)=U (.slice gr (G<|k+1).g.roots.length gm)/\x (gr,c1*2)=U (Ω Ψ p)/\x (gr,c1*2+1)=U (Ω Ψ q)/\x (wr.heap.size,1)=U (Ω Ψ (c1:Int)))
    ((refine⟨?_,?_,?_,?_,?_⟩<;>(repeat (first|with_reducible assumption|with_reducible refine dO ?_|with_reducible refine dB ?_))))
    (first
      |(refine aX rfl _ _ 23 (by rfl) u5 (.slice w4.heap.size 1 1) (by rfl) (by rfl) _ (nr (B:=w) (p:=s0) (q:=s1) (l:=sv.take k) (S.out.below<|af w4 _) (Δ w4 _) (by simp;omega) (by simp;omega)) ?_;intro v' w5 h5;obtain⟨Pk,n,gg,mg,rfl,O⟩:=h5;have g1:=(n.cell_far r (by simp;omega) HN.out.1).trans<|dB k1;have g2:=(n.cell_far (b,2) (by simp;omega) HN.out.2.1).trans<|dB k2;have g3:=(n.cell_far (gr,c1*2) (by simp;omega) HN.out.2.2.1).trans<|dB k3;have g4:=(n.cell_far (gr,c1*2+1) (by simp;omega) HN.out.2.2.1).trans<|dB k4;have g5:=(n.cell_far (wr.heap.size,1) (by simp;omega) HN.out.2.2.2).trans<|dB k5)
      |(go_at_call 154;(with_reducible refine(anN.out _ _ (y.out.below (R _ _).drew)).mono ?_);rintro e w4 ⟨rfl,hb4⟩;have A:I w2 w2 w4:=(R _ _).drew.trans hb4;have hs4:=A.size;have k1:=cG A HZ.out.1 aiM;have k2:=cG A HZ.out.2.1 anO;have k3:=cG A HZ.out.2.2.1 L;have k4:=cG A HZ.out.2.2.2.1 L;have k5:=cG A HZ.out.2.2.2.2 hbx2;have S:=V (HO2.out.below A)))
   have HF:=V<|Z Pk<|Z n O;have tU:=V A;clear g1 g2 g3 g4 g5 k1 k2 k3 k4 k5 z1 z2 z3 A x1 Pk n O
   go_wp2_with fail
   go_roundw
   case rel=>
    refine⟨k+1,by omega,by go_num,V ⟨?_,?_,?_,?_⟩⟩;rw[bW hs];have H:=HF.out.1;rw[show(List.take k sv).length=k by simp;omega]at H;exact H;refine(((y.out.below tU.out).more.below<|af w4 _).grown HF.out.2.1 λj f=>⟨.inl<|.inl<|.inr f,(S.out.below<|af w4 _).block f⟩).sub λj f=>?_;obtain f|f:=f
    exact .inl<|.inl<|.inl f;have hgj:gg=j:=by have hj':U gg=U j:=f;exact Option.some.inj hj'
    subst hgj;obtain e|e:=HF.out.2.2
    exact .inl<|.inl<|.inr e;exact .inr (by rw[e];simp);exact((((a.out.2.2.1.trans<|E.out.1.mono<|by omega).trans<|(R B w1).drew).trans HB2.out).trans<|tU.out.mono (by simp at oX;omega)).trans<|((af w4 _).mono (by simp at oX;omega)).trans<|cM (S.out.below<|af w4 _) HF.out.2.1 (by simp;omega)|>.mono hB
    intro j f hl;have H:U j≠u5.ownBlock:=λe=>by have:=(a.out.1.lt _ e.symm).1;omega
    have X:=HJ1.out j<|.inl<|.inl f;simp at oX;exact(HF.out.2.1.block j (by simp;omega) H).trans<|((af w4 _).block j<|by omega).trans<|(tU.out.block j<|by omega).trans<|(HF2.out j (.inl<|.inl f)<|by simpa using X).trans<|(E.out.1.block j<|by omega).trans<|a.out.2.2.2 j f hl
   case measure=>simp[intOf];omega
  ·have hke:k=cs.length:=by omega
   subst hke
   go_wp2_with fail
   obtain⟨H,X,h3,h4⟩:=a.out;rw[<-hsl,Z1]at H;go_ret;exact⟨⟨_,rfl,H.less hB⟩,X.sub λj f=>.inl f,h3,h4⟩
def JD.below{w w' P f v l}(h:JD w P v l)(g:∀j,P j->f j/\w'.heap[j]?=w.heap[j]?):JD w' f v l:=by obtain⟨a,m,rfl,h⟩:=h;refine⟨a,m,rfl,λh0=>?_⟩;obtain⟨b,o,rfl,hb,d⟩:=h h0;obtain⟨n,k⟩:=g b hb;exact⟨b,o,rfl,n,λi c e=>by simpa only[M,k]using d i c e⟩
def WQ(w v lv g cs)(N:Nat->Md.RS)(sv)(hv:GV w v g)(hk:eC g)(hm:g.marked.length<=1000000)(hz:cN g=0)(hlv:JD w (λj=>j<w) lv cs)(hl:cs.length<=60)(F:sv.length=cs.length)(h0:N 0=⟨g,0,0,0,0⟩)(E:∀B br b (i:Nat) c s,cs[i]?=U c->sv[i]?=U s->Step B br b (N i) (N<|i+1) c s):
 Y prog 43 #[v,lv] w λe w'=>(∃r rv,e=.returned (.tuple #[r,rv,Ω Ψ 0])/\GV w' r (N cs.length).g/\eI w' rv sv)/\I w w w':=by
 have hmf:∀(fn:Fn) (first cap:Array μ) (w:χ),(Instr.makeFunc fn first cap).run prog w=.ok (.func fn first cap) w:=λ_ _ _ _=>rfl;have HV:=V hv;have HK:=V hk;have HS:=V E;have HL:=V hlv;obtain⟨vn,o,r,wi,d,m,rfl,h1,h2,h3,h4,h5,h6⟩:=hv;obtain⟨la,lm,rfl,_⟩:=hlv;clear hk h1 h2 h3 h4 h5 h6 E
 go_enter_defers (fU func43 rfl),ntmps43
 go_wp2_with fail
 obtain⟨y1,y2,p,hz1⟩:=al3 w (Θ #[vn,o,r,wi,d,m] 26) (Θ #[ζ ξ 0 0,ζ ξ 0 0,ζ ξ 0 0,ζ ξ 0 0,ζ ξ 0 0,ζ ξ 0 0] 26)<|Θ #[Ω Ψ 0] 34;have q:=HV.out.below p;generalize ((w.alloc _).alloc _).alloc _=w1 at y1 y2 p hz1 q⊢;have l:=V<|Z p<|Z y1 y2;refine(i3 w1 _ g q HK.out hm hz (J:=λ_=>False) λ_ h=>h.elim).mono ?_;rintro e w2 ⟨⟨br,b,rfl,x⟩,u⟩;have oX:=u.size;have t:=V u;have K:=V x;clear y1 y2 p q u x;have hle:¬(60:Int)<(cs.length:Int):=by omega
 go_wp2_with fail
 rw[show decide ((60:Int)<(cs.length:Int))=false by simp;omega]
 ((with_reducible refine(cd _ _).mono ?_))
 rintro e w3 ⟨rfl,T⟩;rw[<-T]at K t oX;clear T
 go_wp2_with fail
 refine(JE w3 w1 br b _ cs N sv (J:=λ_=>False) (HL.out.below λj A=>⟨.inl<|by omega,(t.out.block j<|by omega).trans<|l.out.1.block j A⟩) (by rw[h0];exact K.out) (by omega) (λj A=>A.elim) (λj A=>A.elim) (by omega) F λi c s e1 e2=>HS.out _ _ _ i c s e1 e2).mono ?_;rintro e w4 ⟨⟨rv,rfl,a⟩,n,hb4,_⟩;have k:=t.out.trans hb4;have x1:=(k.block _<|by omega).trans l.out.2.1;have x2:=(k.block _<|by omega).trans l.out.2.2;have p0:=n.ptr.1;obtain⟨a0,y,O,a1,P,m1,a2,Q,m2,a3,W,S,a4,n4,C,X,D,z,hb,hgv⟩:=n.2.2.1.own.px;have d0:w4 (b:Nat)=U (.slice a0 y O):=by simp[M,hb]
 have d1:w4 ((b:Nat),1)=U (.slice a1 P m1):=by simp[M,hb]
 have d2:w4 ((b:Nat),2)=U (.slice a2 Q m2):=by simp[M,hb]
 have d3:w4 ((b:Nat),3)=U (.slice a3 W S):=by simp[M,hb]
 have d4:w4 ((b:Nat),4)=U (.slice a4 n4 C):=by simp[M,hb]
 have d5:w4 ((b:Nat),5)=U (.slice X D z):=by simp[M,hb]
 obtain⟨g,h⟩:=JJ x1;have g0:=g 0 (by omega);have g1:=g 1 (by omega);have g2:=g 2 (by omega);have g3:=g 3 (by omega);have g4:=g 4 (by omega);have g5:=g 5 (by omega);have h0:=h 0;have h1:=h 1;have h2:=h 2;have h3:=h 3;have h4:=h 4;have h5:=h 5;have e0:=d7 x2;have ef:=cD (i:=0) x2;have HE:=V<|Z n<|Z k<|Z x1<|Z x2<|Z hgv a;have L:=V a.reads;obtain⟨ra,rm,rfl,_⟩:=aF a;clear n k x1 x2 hb hgv g h hb4 a
 go_wp2_with fail
 rw[show((((((w4.setCell (w.heap.size+1:Nat)<|.slice a0 y O).setCell (w.heap.size+1,1)<|.slice a1 P m1).setCell (w.heap.size+1,2)<|.slice a2 Q m2).setCell (w.heap.size+1,3)<|.slice a3 W S).setCell (w.heap.size+1,4)<|.slice a4 n4 C).setCell (w.heap.size+1,5)<|.slice X D z)=io w4 (w.heap.size+1) (.slice a0 y O) (.slice a1 P m1) (.slice a2 Q m2) (.slice a3 W S) (.slice a4 n4 C) (.slice X D z)from rfl];obtain⟨q1,q2,q3,q4,q5,q6⟩:=HE.out;obtain⟨k1,k2⟩:=afG (H:=w) q1.2.2.1.own q5 q3 q4 (by omega) (by omega);have o1:=L.out.off<|aaO (v0:=.slice a0 y O) (v1:=.slice a1 P m1) (v2:=.slice a2 Q m2) (v3:=.slice a3 W S) (v4:=.slice a4 n4 C) (v5:=.slice X D z) q3;have o2:=o1.below (jF<|((kn (v0:=.slice a0 y O) (v1:=.slice a1 P m1) (v2:=.slice a2 Q m2) (v3:=.slice a3 W S) (v4:=.slice a4 n4 C) (v5:=.slice X D z) q3).2.1 (w.heap.size+1+1)<|by omega).trans q4).2.2;have hs4:w.heap.size<=w4:=by have:=q2.size;omega
 clear d0 d1 d2 d3 d4 d5 g0 g1 g2 g3 g4 g5 h0 h1 h2 h3 h4 h5 e0 ef p0;refine ZY (f:=103) (args:=#[.pointer (w.heap.size+1+1:Nat)]) (by simp) (by simp[go_sem]) ?_;refine(OL (w.heap.size+1+1:Nat) (Ω Ψ 0) _ (d7 k1)<|cD k1).mono ?_;rintro e u' w'' ⟨rfl,rfl,w9,G,rfl⟩;obtain⟨r1,r2,r3,r4⟩:=k2 w9 G;have o3:=o2.below (fz k1 G).2;have hbf:=(l.out.1.trans<|q2.mono<|by omega).trans<|r4 hs4;generalize w9.setCell (w.heap.size+1+1:Nat) (Ω Ψ 0)=w10 at *;obtain⟨z0,z1,z2,z3,z4,z5⟩:=sS r1;have l4:=d7 r2;simp[Leaves,settle,θ,results43,go_sem,z0,z1,z2,z3,z4,z5,l4];exact⟨⟨_,_,⟨rfl,rfl⟩,r3,by rw[<-F];exact o3⟩,hbf⟩
def WR(w v lv g cs)(k:Nat->Md.RS)(sv:List HV)(hv:GV w v g)(hk:eC g)(hm:g.marked.length<=1000000)(hz:cN g=0)(O:JD w (λj=>j<w) lv cs)(hl:cs.length<=60)(T:sv.length=cs.length)(h0:k 0=⟨g,0,0,0,0⟩)(H:∀B n b (i:Nat) c s,cs[i]?=U c->sv[i]?=U s->Step B n b (k i) (k<|i+1) c s):
 Y prog 45 #[v,lv] w λe w'=>e=.returned (.tuple #[Ω Ψ (k cs.length).minors,Ω Ψ (k cs.length).uJ,Ω Ψ (k cs.length).fk,Ω Ψ (k cs.length).dA,Ω Ψ 0])/\I w w w':=by
 have hmf:∀(fn:Fn) (first cap:Array μ) (w:χ),(Instr.makeFunc fn first cap).run prog w=.ok (.func fn first cap) w:=λ_ _ _ _=>rfl;have HV:=V hv;have HK:=V hk;have HS:=V H;have HL:=V O;obtain⟨vn,o,r,wi,d,m,rfl,h1,h2,h3,h4,h5,h6⟩:=hv;obtain⟨la,lm,rfl,_⟩:=O;clear hk h1 h2 h3 h4 h5 h6 H
 go_enter_defers (fU func45 rfl),ntmps45
 go_wp2_with fail
 obtain⟨S,l,hz1⟩:=Ju w (Θ #[vn,o,r,wi,d,m] 26)<|Θ #[Ω Ψ 0] 34;have p:=HV.out.below l;generalize (w.alloc _).alloc _=w1 at S l hz1 p⊢;have y:=V<|Z l S;refine(i3 w1 _ g p HK.out hm hz (J:=λ_=>False) λ_ h=>h.elim).mono ?_;rintro e w2 ⟨⟨n,b,rfl,F⟩,A⟩;have oX:=A.size;have z:=V A;have K:=V F;clear S l p A F
 go_wp2_with fail
 rw[show decide ((60:Int)<(cs.length:Int))=false by simp;omega]
 ((with_reducible refine(cd _ _).mono ?_))
 rintro e w3 ⟨rfl,G⟩;rw[<-G]at K z oX;clear G
 go_wp2_with fail
 refine(JE w3 w1 n b _ cs k sv (J:=λ_=>False) (HL.out.below λj L=>⟨.inl<|by omega,(z.out.block j<|by omega).trans<|y.out.1.block j L⟩) (by rw[h0];exact K.out) (by omega) (λj L=>L.elim) (λj L=>L.elim) (by omega) T λi c s e1 e2=>HS.out _ _ _ i c s e1 e2).mono ?_;rintro e w4 ⟨⟨rv,rfl,E⟩,D,N,_⟩;have u:=z.out.trans N;have P:=(u.block _<|by omega).trans y.out.2;obtain⟨p0,p1,p2,p3,p4,_,hbr⟩:=D.all;obtain⟨ra,rm,rfl,_⟩:=aF E;have e0:=d7 P;have ef:=cD (i:=0) P;have hnb:¬w.heap.size+1=n:=by omega
 have HE:=V<|Z u P;obtain⟨q,W⟩:∃q,q=k cs.length:=⟨_,rfl⟩;rw[<-W]at p1 p2 p3 p4;have C:=W.symm;clear D u P N E W;replace C:=V C
 go_wp2_with fail
 go_region_held3 (λx=>x ((n:Nat),1)=U (Ω Ψ q.minors)/\x ((n:Nat),2)=U (Ω Ψ q.uJ)/\x ((n:Nat),3)=U (Ω Ψ q.fk)/\x ((n:Nat),4)=U (Ω Ψ q.dA)) ((refine⟨?_,?_,?_,?_⟩<;>(repeat (first|with_reducible assumption|with_reducible refine dO ?_|with_reducible refine da hnb ?_)))) (fail)
 go_wp2_with fail
 obtain⟨s0,_,s2⟩:=jF HE.out.2;have t:=s2.drew;have a:(w4.setCell (w.heap.size+1:Nat)<|Ω Ψ 0).drew.heap[w.heap.size+1]?=U (Θ #[Ω Ψ 0] 34 (0,0)):=s0;clear s0 s2;generalize (w4.setCell (w.heap.size+1:Nat)<|Ω Ψ 0).drew=w5 at a t⊢;refine ZY (f:=105) (args:=#[.pointer (w.heap.size+1:Nat)]) (by simp) (by simp[go_sem]) ?_;refine(ON (w.heap.size+1:Nat) (Ω Ψ 0) _ (d7 a)<|cD a).mono ?_;rintro e u' w'' ⟨rfl,rfl,w9,X,rfl⟩;obtain⟨t1,t2⟩:=fz a X;have l4:=d7 t1;have Q:I w w (w9.setCell (w.heap.size+1:Nat)<|Ω Ψ 0):=(y.out.1.trans<|HE.out.1.mono<|by omega).trans<|(t.trans<|t2.mono t.size).mono (by have:=HE.out.1.size;omega);simp[Leaves,settle,θ,results45,go_sem,l4,C.out];exact Q
def ko(order:List HV)(stay n:Nat):HV:=if order.contains ((3,(n:Int)):HV)then(4,(stay:Int)+(order.idxOf ((3,(n:Int)):HV):Nat))else(2,0)
def sU{f:Nat->HV}(k):(η<|k+1).map f=(η k).map f++[f k]:=by rw[List.range_succ,List.map_append];rfl
def O0(w v g order)(hv:GV w v g)(hk:eC g)(hm:g.marked.length<=1000000)(hz:cN g=0)(hp:im g)(ho:order=bV g dy (ka g))(hl:¬32<g.old.length+order.length):
 Y prog 24 #[v] w λe w'=>(∃r,e=.returned (.tuple #[r,Ω Ψ 0])/\eI w' r ((η g.new.length).map<|ko order g.old.length))/\I w w w':=by
 have hmf:∀(fn:Fn) (first cap:Array μ) (w:χ),(Instr.makeFunc fn first cap).run prog w=.ok (.func fn first cap) w:=λ_ _ _ _=>rfl;have HVV:=V hv;have HK:=V hk;have HP:=V hp;obtain⟨vn,o,r,wi,d,m,rfl,D,h2,h3,h4,h5,h6⟩:=hv;clear hk D h2 h3 h4 h5 h6 hp
 go_enter_defers (fU func24 rfl),ntmps24
 go_wp2_with fail
 obtain⟨y1,s,hz1⟩:=Ju w (Θ #[vn,o,r,wi,d,m] 26)<|Θ #[Ω Ψ 0] 34;refine(sw _ _ g (HVV.out.below s) HK.out hz hm).mono ?_;rintro e w2 ⟨⟨b,rfl,S⟩,C⟩;have y2:=(C.block (w.heap.size+1)<|by omega).trans y1;have J:=s.trans<|C.mono s.size;have L:=V S;have j:=V<|Z J y2;clear s C S y1 y2 J
 go_wp2_with fail
 refine(qe _ _ b g L.out HP.out).mono ?_;rintro e w3 ⟨⟨bs,bm,so,rfl,hs⟩,l⟩;rw[<-ho]at hs;have HS:=V hs;have h:=V<|Z (j.out.1.trans<|l.mono j.out.1.size)<|(l.block _ (Ξ.1 j.out.2).1).trans j.out.2;have T:=V<|L.out.below l;obtain⟨as0,ms0,N,_,_,_⟩:=aF hs.2.2.2.1;have c0:w3 bs=U (.slice as0 order.length ms0):=by simp[M,hs.2.2.1,N]
 have hgd:¬(32:Int)<(g.old.length:Int)+(order.length:Int):=by omega
 have hol:=HK.out.bw;have hnl:=HK.out.news;have hw1:IntKind.i64.wrap ((g.old.length:Int)+(order.length:Int))=(g.old.length:Int)+(order.length:Int):=wrap_small _ (by omega) (by omega);clear hs l ho N
 go_wp2_with fail
 rw[show decide ((32:Int)<(g.old.length:Int)+(order.length:Int))=false by simp;omega]
 ((with_reducible refine(cd _ _).mono ?_))
 rintro e w4 ⟨rfl,G⟩;rw[<-G]at HS h T c0;clear G;obtain⟨n,oo,mm,row,hBb,O,⟨ao,mo,eo,_⟩,_⟩:=T.out;rw[aT]at eo;have d0:w4 b=U (.slice ao g.new.length mo):=by rw[<-eo];simp[M,O]
 clear eo hBb O
 go_wp2_with fail
 go_loopw [2,34] (λo i wr=>∃(k:Nat),k<=g.new.length/\i=Ω Ψ k/\Hid (OV wr w4 o ((η k).map<|ko order g.old.length)/\I w4 w4 wr)) (λ_ i _=>g.new.length-(intOf i).toNat)
 case atStart=>exact⟨0,by omega,rfl,V ⟨OV.nil _ _,R _ _⟩⟩
 case round=>
  obtain⟨k,hk,rfl,a⟩:=hrel;by_cases hlt:k<g.new.length
  ·have hsr:=a.out.2.size;have H:=HS.out.Q4;have hbs:wr (bs,1)=U (.map<|U bm):=by have:=(a.out.2.block bs H.1).trans HS.out.2.2.1;simp[M,this]
   have c:=fP (3,(k:Int))<|HS.out.2.2.2.2.of_block<|a.out.2.block bm H.2;unfold eB at c;dsimp only at c;by_cases y:((3,(k:Int)):HV)∈order
   ·simp only[y,if_true,decide_true]at c;have hid:=List.idxOf_lt_length_of_mem y;have P:ko order g.old.length k=(4,(g.old.length:Int)+(order.idxOf ((3,(k:Int)):HV):Nat)):=by simp[ko,y]
    have W:=V P;clear P y;generalize order.idxOf ((3,(k:Int)):HV)=ix at c hid W;have hw2:IntKind.i64.wrap ((g.old.length:Int)+(ix:Int))=(g.old.length:Int)+(ix:Int):=wrap_small _ (by omega) (by omega)
    go_wp2_with (refine ε λK Q=>aX rfl (.tmp 53) (.tmp 58) 23 (by rfl) u2 (.slice wr.heap.size 1 1) (by rfl) (by rfl) _ (nr (B:=w4) (p:=4) (q:=(g.old.length:Int)+(ix:Int)) (a.out.1.below<|af wr _) (Δ wr _) (by simp;omega) (by simp;omega)) ?_;intro v' w5 h5;obtain⟨x,E,gg,mg,rfl,_⟩:=h5;refine Q _ _ ?_;clear Q K)
    have u:I w4 w4 w5:=(a.out.2.trans<|(af wr _).mono a.out.2.size).trans<|(cM (a.out.1.below<|af wr _) E (by have:=a.out.2.size;simp;omega))
    go_roundw
    case rel=>refine⟨k+1,by omega,by go_num,V ⟨?_,u⟩⟩;rw[sU,show ko order g.old.length k=(4,(g.old.length:Int)+(ix:Int))from W.out];have D:=x;simp only[ZX,Z2]at D;exact D
    case measure=>simp[intOf];omega
   ·simp only[y,if_false,decide_false]at c;have W:=V (show ko order g.old.length k=(2,0) by simp[ko,y]);clear y
    go_wp2_with (refine ε λK Q=>aX rfl (.tmp 49) (.tmp 51) 23 (by rfl) u2 (.slice wr.heap.size 1 1) (by rfl) (by rfl) _ (nr (B:=w4) (p:=2) (q:=0) (a.out.1.below<|af wr _) (Δ wr _) (by simp;omega) (by simp;omega)) ?_;intro v' w5 h5;obtain⟨x,E,gg,mg,rfl,_⟩:=h5;refine Q _ _ ?_;clear Q K)
    have u:I w4 w4 w5:=(a.out.2.trans<|(af wr _).mono a.out.2.size).trans<|(cM (a.out.1.below<|af wr _) E (by have:=a.out.2.size;simp;omega))
    go_roundw
    case rel=>refine⟨k+1,by omega,by go_num,V ⟨?_,u⟩⟩;rw[sU,show ko order g.old.length k=(2,0)from W.out];have D:=x;simp only[ZX,Z2]at D;exact D
    case measure=>simp[intOf];omega
  ·have hke:k=g.new.length:=by omega
   subst hke;clear hlt;have y5:=(a.out.2.block (w.heap.size+1) (Ξ.1 h.out.2).1).trans h.out.2;have e0:=d7 y5;have ef:=cD (i:=0) y5;have HY:=V y5;have hsl:w.heap.size<=w4:=h.out.1.size;clear y5
   go_wp2_with fail
   obtain⟨X,_,s2⟩:=jF HY.out;have t:=a.out.1.reads.below s2;have z:=((h.out.1.trans<|a.out.2.mono hsl)).trans<|s2.mono (by have:=a.out.2.size;omega);generalize wr.setCell (w.heap.size+1:Nat) (Ω Ψ 0)=w5 at X s2 t z⊢;refine ZY (f:=80) (args:=#[.pointer (w.heap.size+1:Nat)]) (by simp) (by simp[go_sem]) ?_;refine(WI (w.heap.size+1:Nat) (Ω Ψ 0) _ (d7 X)<|cD X).mono ?_;rintro e u' w'' ⟨rfl,rfl,w9,BP,rfl⟩;obtain⟨t1,t2⟩:=fz X BP;have l4:=d7 t1;have A:=t.below t2;have F:=z.trans<|t2.mono z.size;simp[Leaves,settle,θ,results24,go_sem,l4];exact⟨A,F⟩
def sV(m:List Int):GH:=⟨[(0,[(3,2)]),(0,[(0,5)]),(0,[(4,1)]),(1,[(3,1)])],[(0,[(3,3)]),(0,[]),(0,[(3,1)])],[(3,0),(4,1),(0,7),(2,0)],[],[],m⟩
def ee:GH:=sV [0,2]
def cB:eC ee where
 cells:=by decide
 news:=by decide
 bw:=by decide
 four:=by decide
 roots:=by decide
 aA:=⟨by decide,λi v h=>by cases h⟩
 done:=⟨by decide,λi v h=>by cases h⟩
def KA:cN ee=0/\cN (sV [2])=11/\cN (sV [2,0])=14/\cN (sV [0,3])=9:=by decide
def JM(g:GH):Bool:=(g.new++g.old).all (λc=>c.2.all λv=>mh g v==0)&&(cJ g).all λv=>mh g v==0
def wS{g:GH}(h:JM g=true)(i:g.new.length<=8)(e:g.old.length<=32)(f:g.roots.length<=4)(hw:g.aA.length<=40)(hd:g.done.length<=40)(a:∀c∈g.new++g.old,c.2.length<=4)(b:∀n∈g.marked,0<=n/\n<g.old.length)(d:g.marked.length<=32):im g where
 cells:=λc hc v a=>by unfold JM at h;simp only[Bool.and_eq_true,Z0,beq_iff_eq]at h;exact pY<|h.1 c hc v a
 cJ:=λv a=>by unfold JM at h;simp only[Bool.and_eq_true,Z0,beq_iff_eq]at h;exact pY<|h.2 v a
 news:=by omega
 bw:=by omega
 roots:=by omega
 aA:=by omega
 done:=by omega
 eT:=λc hc=>by have:=a c hc;omega
 marks:=b
 marked:=by omega
def sW:im ee:=wS rfl (by decide) (by decide) (by decide) (by decide) (by decide) (by decide) (by decide) (by decide)
def sX:GH:=⟨[],[(0,[(4,4)]),(0,[]),(0,[(4,5)]),(0,[(4,6)]),(1,[(4,5)]),(0,[(0,5)]),(0,[(4,1)])],[(4,3),(4,1),(0,7),(2,0)],[],[],[]⟩
def Al:GH:=⟨[],[(0,[(4,2)]),(0,[]),(0,[(4,1)])],[(4,0),(4,1),(0,7),(2,0)],[],[],[]⟩
def aak:List HV:=[(3,0),(3,3),(3,1),(3,2)]
def JN:Md.collect .full ee=U (3,Al):=by kernel_rfl
def Fg:aak=bV ee dy (ka ee):=by kernel_rfl
def d9:PH:=⟨[(0,[(1,6)]),(0,[]),(0,[(1,4)]),(0,[(1,5)]),(0,[(0,5)]),(0,[(1,1)]),(1,[(1,4)])],[(1,3),(1,1),(0,7),(2,0)],[],[]⟩
def mS(r:Md.RS):Md.RS:=Md.el (Jz r 1) 2 (3,(r.g.new.length:Int))
def r0:Md.RS:=⟨ee,0,0,0,0⟩
def r4:Md.RS:=mS<|mS<|mS<|mS r0
def Ca:GH:=⟨[],[(0,[(4,5)]),(0,[]),(0,[(4,6)]),(0,[(4,7)]),(0,[(0,0)]),(1,[(4,6)]),(0,[(0,5)]),(0,[(4,1)])],[(4,3),(4,1),(4,4),(2,0)],[],[],[]⟩
def JP:Md.collect .minor r4.g=U (5,Ca):=by kernel_rfl
def r4':Md.RS:=⟨Ca,1,0,0,5⟩
def r5:Md.RS:=mS r4'
def g5:GH:=⟨[(0,[(0,0)])],[(0,[(4,5)]),(0,[]),(0,[(4,6)]),(0,[(4,7)]),(0,[(0,0)]),(1,[(4,6)]),(0,[(0,5)]),(0,[(4,1)])],[(4,3),(4,1),(3,0),(2,0)],[],[],[]⟩
def Q':r5=⟨g5,1,0,0,5⟩:=by kernel_rfl
def JQ:GH:=⟨[(0,[(0,0)])],[(3,[]),(0,[]),(3,[]),(0,[(4,7)]),(3,[]),(3,[]),(3,[]),(0,[(4,1)])],[(4,3),(4,1),(3,0),(2,0)],[],[],[]⟩
def JR:Md.iF g5=JQ:=by kernel_rfl
def Cb:GH:=⟨[],[(0,[(4,3)]),(0,[]),(0,[(0,0)]),(0,[(4,1)])],[(4,0),(4,1),(4,2),(2,0)],[],[],[]⟩
def JS:Md.collect .major g5=U (4,Cb):=by kernel_rfl
def ns:PH:=⟨[(0,[(1,5)]),(0,[]),(0,[(1,6)]),(0,[(1,7)]),(0,[(0,0)]),(1,[(1,6)]),(0,[(0,5)]),(0,[(1,1)]),(0,[(0,0)])],[(1,3),(1,1),(1,8),(2,0)],[],[]⟩
def Am:plain g5=ns:=by kernel_rfl
def O1:im r4.g:=wS rfl (by decide) (by decide) (by decide) (by decide) (by decide) (by decide) (by decide) (by decide)
def O2:im JQ:=wS rfl (by decide) (by decide) (by decide) (by decide) (by decide) (by decide) (by decide) (by decide)
def anW:List HC:=qv ns.cells ns.roots 12 1
def O3:lZ ns 12 1 where
 fin:=by decide+kernel
 refs:=by decide+kernel
 short:=by decide+kernel
 grow:=by decide+kernel
 stop:=by decide+kernel
 sM:=by decide+kernel
 pos:=by decide+kernel
 Wu:=by decide+kernel
 kinds:=by decide+kernel
 wW:=by decide+kernel
def O4:lZ ⟨anW,ns.roots,[],[]⟩ 12 1 where
 fin:=by decide+kernel
 refs:=by decide+kernel
 short:=by decide+kernel
 grow:=by decide+kernel
 stop:=by decide+kernel
 sM:=by decide+kernel
 pos:=by decide+kernel
 Wu:=by decide+kernel
 kinds:=by decide+kernel
 wW:=by decide+kernel
def afI:wK ns.cells ns.roots 12 1:=⟨O3,O4,by decide+kernel,by decide+kernel,by decide+kernel⟩
def sw5:Jn g5 12 1 where
 small:=⟨by unfold Sm;decide,by unfold Sm;decide,by unfold Sm;decide,by unfold Sm;decide,by decide,by decide⟩
 ir:=by exact⟨by decide+kernel,by decide+kernel,by decide,by decide,by decide+kernel,rfl,rfl⟩
 afA:=by rw[Am];exact afI
 Ct:=by kernel_rfl
 res:=by exact⟨by unfold Sm;decide,by decide,by unfold Sm;decide,by unfold Sm;decide,by unfold Sm;decide⟩
section
variable{br:Nat}{r:Md.RS}{b B:Nat}
def py{r':Md.RS}{k:Nat}{p q:Int}(m:r.g.roots[2]?=U (p,q))(e:r.g.roots.length<=1000)(f:Roomy r r')(hz:Aj k)(i:k<=4)(n:r'.g.new.length<=900)(a:2<r'.g.roots.length)(c:r'.g.roots.length<=1000):
 Step B br b r (Md.el (Jz r' k) 2 (3,(r'.g.new.length:Int))) (0,2,(k:Int),0) (1,(k:Int)) where
 OU:=λw J d j l _=>JA w B br b 2 k r r' p q d j l m e f hz i (by omega) a
 root:=by
  refine⟨3,(r'.g.new.length:Int),?_,λw J d=>?_⟩;show(r'.g.roots.set 2 (3,(r'.g.new.length:Int)))[2]?=_;rw[List.getElem?_set_self a];have h:=Fa w B br b r'.g.new.length _ 0 (ψ k (0,0)) d (by
   show(r'.g.new++[(0,ψ k (0,0))])[r'.g.new.length]?=_;simp) (by omega) (by simp;omega) (by
   show(r'.g.new++[(0,ψ k (0,0))]).length<=_;simp;omega)
  simpa using h
 wW:=by show(r'.g.roots.set 2 (3,(r'.g.new.length:Int))).length<=_;simpa using c
def An(h:r.g.new.length<8):Roomy r r:=.inl ⟨h,rfl⟩
def JT:Roomy r4 r4':=.inr ⟨by decide,by decide,O1,5,Ca,JP,rfl,by decide,by decide,by decide⟩
def qQ{p q}(h:r.g.new.length<8)(d:r.g.roots[2]?=U (p,q))(a:r.g.roots.length<=1000)(c:2<r.g.roots.length):Step B br b r (mS r) (0,2,1,0) (1,1):=py d a (An h) Jy (by omega) (by omega) c a
def WS:Step B br b r4 r5 (0,2,1,0) (1,1):=py (r':=r4') rfl (by decide) JT Jy (by omega) (by decide) (by decide) (by decide)
def r6:Md.RS:=⟨Cb,1,0,1,9⟩
def Cc:Step B br b r5 r6 (10,0,0,0) (1,1) where
 OU:=λw J a c d _=>by rw[Q']at a;exact E' w B br b 4 _ Cb 4 3 0 a c d rfl (by decide) 12 1 sw5 (by rw[JR];exact O2) JS (by decide) (by decide) (by decide)
 root:=⟨4,0,by decide,λw J a=>by simpa using (ve w B br b 0 _ 0 [(4,3)] a rfl (by decide) (by decide) (by decide))⟩
 wW:=by decide
def rsM:Nat->Md.RS
 |0=>r0|1=>mS r0|2=>mS (mS r0)|3=>mS (mS<|mS r0)|4=>r4|_=>r5
def WU:List C4:=[(0,2,1,0),(0,2,1,0),(0,2,1,0),(0,2,1,0),(0,2,1,0)]
def Fi:List HV:=[(1,1),(1,1),(1,1),(1,1),(1,1),(1,1)]
def aal{c}(h:∀B e b,Step B e b r5 r c (1,1))(B e b i f s)(d:(WU++[c])[i]?=U f)(a:Fi[i]?=U s):Step B e b (if i<6 then rsM i else r) (if i+1<6 then rsM (i+1)else r) f s:=by
 match i,d,a with
 |0,d,a=>cases d;cases a;exact qQ (r:=r0) (p:=0) (q:=7) (by decide) rfl (by decide) (by decide)
 |1,d,a=>cases d;cases a;exact qQ (r:=mS r0) (p:=3) (q:=4) (by decide) (by decide) (by decide) (by decide)
 |2,d,a=>cases d;cases a;exact qQ (r:=mS<|mS r0) (p:=3) (q:=5) (by decide) (by decide) (by decide) (by decide)
 |3,d,a=>cases d;cases a;exact qQ (r:=mS<|mS<|mS r0) (p:=3) (q:=6) (by decide) (by decide) (by decide) (by decide)
 |4,d,a=>cases d;cases a;exact WS
 |5,d,a=>cases d;cases a;exact h B e b
 |n+6,d,a=>simp[Fi]at a
end
section
variable{v:μ}(w:χ)
def wT{w:χ}{e size n xs a}(c:a.toList=xs)(b:xs.length=n*size)(d:n<=1000000):(w.alloc<|.cells a e).ownsRow w e size (.slice w.heap.size n n) n xs:=by
 have hs:a.size=n*size:=by rw[<-b,<-c];simp
 exact⟨b,.inr ⟨w.heap.size,n,a,rfl,.refl,Δ _ _,.refl,by unfold Z4;omega,hs,by rw[c,<-b,Z1]⟩⟩
def Cd(l a n)(b:l.length=n)(c:a.toList=l.flatMap lU)(d:n<=1000):OV (w.alloc<|.cells a 50) w (.slice w.heap.size n n) l:=by subst b;exact wT c (fx l) (by omega)
def JV(l b n)(e:l.length=n)(c:b.toList=l.flatMap eP)(f:n<=1000):OI (w.alloc<|.cells b 3) w (.slice w.heap.size n n) l:=by
 subst e;exact wT c (by rw[<-c];rw[c];clear c;induction l with
  |nil=>rfl
  |cons a l d=>simp at d⊢;rw[d (by grind)];simp[eP];omega) (by omega)
def WV(l a n)(b:l.length=n)(c:a.toList=l.flatMap dW)(d:n<=1000):OC (w.alloc<|.cells a 76) w (.slice w.heap.size n n) l:=by subst b;exact wT c (iu l) (by omega)
def aY.nil:aY w [] []:=⟨rfl,λi k v a b e=>by simp at e⟩
def aY.cons{w k vs l cs}(h:eI w v vs)(b:aY w l cs):aY w ((k,v)::l) ((k,vs)::cs):=by
 refine⟨by simp[b.1],λi c v1 d a e1 e2=>?_⟩;cases i with
 |zero=>grind
 |succ i=>exact b.2 i c v1 d a (by grind) (by grind)
def isn:n9 w () []:=(OI.nil w 0).reads
def csn:sa w () []:=⟨ξ,0,rfl,.refl,by omega,λh=>absurd h<|Nat.lt_irrefl 0⟩
def mK(n:Int):Y prog 56 #[n] w λe w'=>e=.returned (.agg #[Ω Ψ 0,n])/\I w w w':=aeR w n
def i4(n:Int):Y prog 61 #[n] w λe w'=>e=.returned (.agg #[Ω Ψ 3,n])/\I w w w':=NV w n
def eF(n:Int):Y prog 59 #[n] w λe w'=>e=.returned (.agg #[Ω Ψ 4,n])/\I w w w':=aeS w n
def sY:Y prog 58 #[] w λe w'=>e=.returned (.agg #[Ω Ψ 2,Ω Ψ 0])/\I w w w':=V0 w
def dd(a n m):Y prog 55 #[.slice a n m] w λe w'=>e=.returned (.agg #[Ω Ψ 0,.slice a n m])/\I w w w':=aeT w _ a n m rfl
def DH(p q:Int):Y prog 57 #[.agg #[p,q]] w λe w'=>(∃b,e=.returned (.agg #[Ω Ψ 1,.slice (b:Nat) 1 1])/\eI w' (.slice (b:Nat) 1 1) [(p,q)])/\I w w w':=by
 go_enter (fU func57 rfl),ntmps57
 go_wp2_with fail
 have h:=Cd ((w.alloc<|Θ #[p,q] 50).alloc<|Θ #[Ω Ψ 1,.slice (w.heap.size+1+1:Nat) 1 1] 76) [(p,q)] #[p,q] 1 rfl rfl (by omega);obtain⟨a,_,hb,hz⟩:=al3 w (Θ #[p,q] 50) (Θ #[Ω Ψ 1,.slice (w.heap.size+1+1:Nat) 1 1] 76)<|Θ #[p,q] 50;rw[show((w.alloc<|Θ #[p,q] 50).alloc<|Θ #[Ω Ψ 1,.slice (w.heap.size+1+1:Nat) 1 1] 76).heap.size=w.heap.size+1+1 by simp]at h;generalize ((w.alloc _).alloc _).alloc _=c at h a hb hz⊢;refine ι (v:=.agg #[Ω Ψ 1,.slice (w.heap.size+1+1:Nat) 1 1]) (by simp[θ,results57,go_sem,M,a]) rfl ⟨⟨_,rfl,h.reads⟩,hb⟩
def KW(c:C4):List μ:=[Ω Ψ c.1,(c.2.1:Int),Ω Ψ c.2.2.1,Ω Ψ c.2.2.2]
def OM(w:χ)(B:Nat)(v:μ)(l:List C4):Prop:=w.ownsRow B 44 4 v l.length<|l.flatMap KW
def WW:(prog.info? 44).map (λi=>(i.zero,i.size,i.bytes))=U (U<|.agg #[Ω Ψ 0,Ω Ψ 0,Ω Ψ 0,Ω Ψ 0],4,32):=by kernel_rfl
def afJ:prog.underlying 48=U (.slice 44):=by kernel_rfl
def sZ{w ty}{B bx:Nat}{l c t fr}(h:OM w B v l)(b:w.heap[bx]?=U (Θ #[Ω Ψ c.1,(c.2.1:Int),Ω Ψ c.2.2.1,Ω Ψ c.2.2.2] t fr))(s:l.length<=1000000)(p:B<=w):
 ∃e w',(ο #[48,48] ty #[v,.slice bx 1 1]).run prog w=.ok e w'/\(OM w' B e (l++[c])/\w.grownBy w' v.ownBlock/\∃g q,e=.slice (g:Nat) (l.length+1) q/\(v.ownBlock=U g\/g=w)):=by
 obtain⟨n,hi,f,i,d⟩:=ZW WW;obtain⟨g,o,w',k,x,r,h3,h4⟩:=run_append_lies (P:=prog) w 48 ty B 44 n _ 4 32 afJ hi f i d rfl (by decide) v l.length _ h bx 1 1 (KW c) rfl (λj u a=>by
  match j,a with
  |0,a=>cases a;simp[M,b,φ]
  |1,a=>cases a;simp[M,b,φ]
  |2,a=>cases a;simp[M,b,φ]
  |3,a=>cases a;simp[M,b,φ]
  |j+4,a=>simp[KW]at a) (λu m=>by
  simp[KW]at m;obtain rfl|rfl|rfl|rfl:=m<;>rfl) (by omega) (by unfold Z4;omega) (by omega) p _ rfl
 unfold OM
 grind
theorem Ra:∀(l:List C4) (i:Nat) (c:C4),l[i]?=U c->(l.flatMap KW)[i*4]?=U (Ω Ψ c.1)/\(l.flatMap KW)[i*4+1]?=U (Ω Ψ (c.2.1:Int))/\(l.flatMap KW)[i*4+2]?=U (Ω Ψ c.2.2.1)/\(l.flatMap KW)[i*4+3]?=U (Ω Ψ c.2.2.2)
 |[],i,c,h=>by simp at h
 |b::l,0,c,h=>by simp at h;subst h;simp[KW]
 |b::l,i+1,c,h=>by obtain⟨a,d,h3,h4⟩:=Ra l i c (by simpa using h);rw[List.flatMap_cons,show(i+1)*4=i*4+1+1+1+1 by omega];exact⟨a,d,h3,h4⟩
def OM.reads{w B l}(h:OM w B v l):JD w (λj=>j<w) v l:=by obtain⟨a,m,rfl,_,_,k⟩:=aF h;refine⟨a,m,rfl,λh0=>?_⟩;obtain⟨g,rfl,_,f,_,hc⟩:=k h0;refine⟨g,0,rfl,f,λi c e=>?_⟩;obtain⟨d,b,h3,h4⟩:=Ra l i c e;simp only[Nat.zero_add];exact⟨hc _ _ d,hc _ _ b,hc _ _ h3,hc _ _ h4⟩
def O5(bx:Nat)(c){t fr}(n:w.heap[bx]?=U (Θ #[Ω Ψ c.1,(c.2.1:Int),Ω Ψ c.2.2.1,Ω Ψ c.2.2.2] t fr)):
 Y prog 62 #[Ω Ψ 5,.slice bx 1 1] w λe w'=>(∃r,e=.returned r/\OM w' w r (WU++[c]))/\I w w w':=by
 have z:=V n;have j:=(Ξ.1 n).1;clear n
 go_enter (fU func62 rfl),ntmps62
 go_wp2_with fail
 go_loopw [5,6] (λo i wr=>∃(k:Nat),k<=5/\i=Ω Ψ k/\Hid (OM wr w o (WU.take k)/\I w w wr)) (λ_ i _=>5-(intOf i).toNat)
 case atStart=>exact⟨0,by omega,rfl,V ⟨Z8 _ _ _ _,R _ _⟩⟩
 case round=>
  obtain⟨k,A,rfl,a⟩:=hrel;have f:=a.out.2.size;by_cases m:k<5
  ·have q:(k:Int)<5:=by omega
   go_wp2_with (refine ε λK g=>aX rfl (.tmp 12) (.tmp 14) 48 (by rfl) u5 (.slice wr.heap.size 1 1) (by rfl) (by rfl) _ (sZ (B:=w) (c:=(0,2,1,0)) (jy a.out.1<|af wr _) (Δ wr _) (by simp;omega) (by simp;omega)) ?_;intro y w5 h5;obtain⟨b,d,u,v,rfl,_⟩:=h5;refine g _ _ ?_;clear g K)
   have h:=(a.out.2.trans<|(af wr _).mono a.out.2.size).trans<|(cM (jy a.out.1<|af wr _) d (by have:=a.out.2.size;simp;omega))
   go_roundw
   case rel=>
    refine⟨k+1,by omega,by go_num,V ⟨?_,h⟩⟩;rw[bW (l:=WU) (k:=k) (x:=(0,2,1,0)) (by match k,m with
     |0,_=>rfl
     |1,_=>rfl
     |2,_=>rfl
     |3,_=>rfl
     |4,_=>rfl)]
    have s:=b;simp only[List.length_take]at s;exact s
   case measure=>simp[intOf];omega
  ·have p:k=5:=by omega
   subst p
   go_wp2_with (refine ε λK g=>aX rfl (.tmp 16) (.tmp 17) 48 (by rfl) u5 (.slice bx 1 1) (by rfl) (by rfl) _ (sZ (B:=w) (c:=c) a.out.1 ((a.out.2.block bx j).trans z.out) (by decide) f) ?_;intro y w5 h5;obtain⟨b,d,u,v,rfl,_⟩:=h5;refine g _ _ ?_;clear g K)
   go_ret;exact⟨⟨_,rfl,b⟩,a.out.2.trans<|cM a.out.1 d f⟩
def m1{P}{f n:Nat}{a w x Q}(h:Y P f a w λe w'=>e=x/\I n w w')(k:∀w',Hid (I n w w') ->Q x w'):Y P f a w Q:=h.mono λe w' b=>by obtain⟨rfl,hb⟩:=b;exact k _ hb
def m2{c:Type}{P}{f n:Nat}{a w}{x:c->Ending}{b:c->χ->Prop}{Q}(h:Y P f a w λe w'=>(∃v,e=x v/\b v w')/\I n w w')(k:∀v w',Hid (b v w') ->Hid (I n w w') ->Q (x v) w'):Y P f a w Q:=h.mono λe w' d=>by obtain⟨⟨v,rfl,g⟩,hb⟩:=d;exact k _ _ g hb
def DI(o):Hid ((w.alloc o).heap[w.heap.size]?=U o)/\Hid (I w w<|w.alloc o)/\(w.alloc o).heap.size=w.heap.size+1:=⟨Δ w o,af w o,by simp⟩
def nt(l a n)(c:l.length=n)(d:a.toList=l.flatMap lU)(b:n<=1000):Hid (OV (w.alloc<|.cells a 50) w (.slice w.heap.size n n) l)/\Hid (I w w<|w.alloc<|.cells a 50)/\(w.alloc<|.cells a 50).heap.size=w.heap.size+1:=⟨Cd w l a n c d b,af _ _,by simp⟩
def WX(l a n)(c:l.length=n)(d:a.toList=l.flatMap dW)(b:n<=1000):Hid (OC (w.alloc<|.cells a 76) w (.slice w.heap.size n n) l)/\Hid (I w w<|w.alloc<|.cells a 76)/\(w.alloc<|.cells a 76).heap.size=w.heap.size+1:=⟨WV w l a n c d b,af _ _,by simp⟩
def bx{a b l:χ}(h:Hid (I a a b))(c:I b b l):I a a l:=h.out.trans<|c.mono h.out.size
end
def wU(w:χ)(e:Ending)(w':χ):Prop:=∃bn bo br bm ln wa,e=.returned (.agg #[.slice (bn:Nat) 4 4,.slice (bo:Nat) 3 3,.slice (br:Nat) 4 4,(),(),.slice (bm:Nat) 2 2])/\
 OC wa w (.slice (bn:Nat) 4 4) ln/\aY wa ln ee.new/\sa wa (.slice (bo:Nat) 3 3) ee.old/\OV w' wa (.slice (br:Nat) 4 4) ee.roots/\OI w' wa (.slice (bm:Nat) 2 2) [0,2]/\I w w wa/\I wa wa w'
def JW(w):Y prog 52 #[] w λe w'=>wU w e w':=by
 go_enter (fU func52 rfl),ntmps52
 go_wp2_with fail
 have N:=af w<|Θ #[(),(),(),(),(),()] 26;have y0:=Δ w<|Θ #[(),(),(),(),(),()] 26;have hz0:(w.alloc<|Θ #[(),(),(),(),(),()] 26).heap.size=w.heap.size+1:=by simp
 generalize w.alloc _=p0 at N y0 hz0⊢;have HY:=V<|Z N y0;clear N y0;refine m1 (i4 _ 2) λp1 hp1=>?_
 go_wp2_with fail
 have⟨fp2,H,zp2⟩:=nt p1 [(3,2)] #[Ω Ψ 3,Ω Ψ 2] 1 rfl rfl (by omega);generalize p1.alloc _=p2 at fp2 H zp2⊢;refine m1 (dd _ p1.heap.size 1 1) λp3 X=>?_
 go_wp2_with fail
 refine m1 (mK _ 5) λp4 hp4=>?_
 go_wp2_with fail
 have⟨fp5,L,zp5⟩:=nt p4 [(0,5)] #[Ω Ψ 0,Ω Ψ 5] 1 rfl rfl (by omega);generalize p4.alloc _=p5 at fp5 L zp5⊢;refine m1 (dd _ p4.heap.size 1 1) λp6 KY=>?_
 go_wp2_with fail
 refine m1 (eF _ 1) λp7 Rb=>?_
 go_wp2_with fail
 have⟨fp8,K,zp8⟩:=nt p7 [(4,1)] #[Ω Ψ 4,Ω Ψ 1] 1 rfl rfl (by omega);generalize p7.alloc _=p8 at fp8 K zp8⊢;refine m1 (dd _ p7.heap.size 1 1) λp9 KZ=>?_
 go_wp2_with fail
 refine m1 (i4 _ 1) λp10 z=>?_
 go_wp2_with fail
 refine m2 (DH _ 3 1) λbb b W B=>?_
 go_wp2_with fail
 have⟨h,A,anX⟩:=WX b [(0,.slice p1.heap.size 1 1),(0,.slice p4.heap.size 1 1),(0,.slice p7.heap.size 1 1),(1,.slice (bb:Nat) 1 1)] #[Ω Ψ 0,.slice p1.heap.size 1 1,Ω Ψ 0,.slice p4.heap.size 1 1,Ω Ψ 0,.slice p7.heap.size 1 1,Ω Ψ 1,.slice (bb:Nat) 1 1] 4 rfl rfl (by omega);generalize b.alloc _=p12 at h A anX⊢;refine m1 (i4 _ 3) λj PE=>?_
 go_wp2_with fail
 have⟨y,q,O6⟩:=nt j [(3,3)] #[Ω Ψ 3,Ω Ψ 3] 1 rfl rfl (by omega);generalize j.alloc _=p14 at y q O6⊢;refine m1 (dd _ j.heap.size 1 1) λp15 T=>?_
 go_wp2_with fail
 refine m1 (dd _ ξ 0 0) λp16 Fj=>?_
 go_wp2_with fail
 refine m1 (i4 _ 1) λm J7=>?_
 go_wp2_with fail
 have⟨p,x,anY⟩:=nt m [(3,1)] #[Ω Ψ 3,Ω Ψ 1] 1 rfl rfl (by omega);generalize m.alloc _=p18 at p x anY⊢;refine m1 (dd _ m.heap.size 1 1) λc Fk=>?_
 go_wp2_with fail
 have⟨D,E,O7⟩:=WX c [(0,.slice j.heap.size 1 1),(0,()),(0,.slice m.heap.size 1 1)] #[Ω Ψ 0,.slice j.heap.size 1 1,Ω Ψ 0,(),Ω Ψ 0,.slice m.heap.size 1 1] 3 rfl rfl (by omega);generalize c.alloc _=p20 at D E O7⊢;refine m1 (i4 _ 0) λp21 Fl=>?_
 go_wp2_with fail
 refine m1 (eF _ 1) λp22 Fm=>?_
 go_wp2_with fail
 refine m1 (mK _ 7) λp23 Fo=>?_
 go_wp2_with fail
 refine m1 (sY _) λa P=>?_;have Ce:=R a a;have Ch:=bx P Ce;have Fp:=bx Fo Ch;have Q:=bx Fm Fp;have F:=bx Fl Q;have O8:=bx E F;have s:=bx Fk O8;have Ci:=bx x s;have ahb:=bx J7 Ci;have Fq:=bx Fj ahb;have u:=bx T Fq;have O9:=bx q u;have o:=bx PE O9;have t:=bx A o;have cp10:=bx B t;have cp9:=bx z cp10;have cp8:=bx KZ cp9;have Rc:=bx K cp8;have cp6:=bx Rb Rc;have cp5:=bx KY cp6;have cp4:=bx L cp5;have cp3:=bx hp4 cp4;have cp2:=bx X cp3;have cp1:=bx H cp2;have G:=bx hp1 cp1;have hlt:=(Ξ.1 HY.out.2).1;have O:=(G.block w hlt).trans HY.out.2;have hlt2:=Γ hlt G.size;obtain⟨d,f⟩:=JJ O;have d0:=d 0 (by omega);have t0:=f 0;have d1:=d 1 (by omega);have t1:=f 1;have d2:=d 2 (by omega);have t2:=f 2;have d3:=d 3 (by omega);have t3:=f 3;have d4:=d 4 (by omega);have t4:=f 4;have d5:=d 5 (by omega);have t5:=f 5;have HH:=V O;clear d f O
 go_wp2_with fail
 clear d0 d1 d2 d3 d4 d5 t0 t1 t2 t3 t4 t5;rw[show((((((a.setCell w.heap.size<|.slice b.heap.size 4 4).setCell (w.heap.size,1)<|.slice c.heap.size 3 3).setCell (w.heap.size,2)<|.slice a.heap.size 4 4).setCell (w.heap.size,3) ()).setCell (w.heap.size,4) ()).setCell (w.heap.size,5)<|.slice (a.heap.size+1:Nat) 2 2)=io a w (.slice b.heap.size 4 4) (.slice c.heap.size 3 3) (.slice a.heap.size 4 4) () () (.slice (a.heap.size+1:Nat) 2 2)from rfl];have O:=HH.out;obtain⟨a1,a2,a3,a4⟩:=kn (v0:=.slice b.heap.size 4 4) (v1:=.slice c.heap.size 3 3) (v2:=.slice a.heap.size 4 4) (v3:=()) (v4:=()) (v5:=.slice (a.heap.size+1:Nat) 2 2) O;have r:=aaO (v0:=.slice b.heap.size 4 4) (v1:=.slice c.heap.size 3 3) (v2:=.slice a.heap.size 4 4) (v3:=()) (v4:=()) (v5:=.slice (a.heap.size+1:Nat) 2 2) O;have n:aY a _ _:=(aY.cons (k:=0) (OV.reads<|OV.below fp2.out cp2)<|aY.cons (k:=0) (OV.reads<|OV.below fp5.out cp5)<|aY.cons (k:=0) (OV.reads<|OV.below fp8.out cp8)<|aY.cons (k:=1) (W.out.below t)<|aY.nil _);have J:aY a _ _:=(aY.cons (k:=0) (OV.reads<|OV.below y.out u)<|aY.cons (k:=0) dv<|aY.cons (k:=0) (OV.reads<|OV.below p.out s)<|aY.nil _);have hcs:=(OC.reads (OC.below D.out F) J).off r;have l:aY (io a w (.slice b.heap.size 4 4) (.slice c.heap.size 3 3) (.slice a.heap.size 4 4) () ()<|.slice (a.heap.size+1:Nat) 2 2) _ _:=⟨n.1,λi k v k' vs e1 e2=>⟨(n.2 i k v k' vs e1 e2).1,(n.2 i k v k' vs e1 e2).2.off r⟩⟩;have hoc:=OC.below h.out o;have S:=R b b;have anZ:=bx B S;have kp9:=bx z anZ;have kp8:=bx KZ kp9;have kp7:=bx K kp8;have kp6:=bx Rb kp7;have kp5:=bx KY kp6;have kp4:=bx L kp5;have kp3:=bx hp4 kp4;have kp2:=bx X kp3;have kp1:=bx H kp2;have kp0:=bx hp1 kp1;have C:OC (io a w (.slice b.heap.size 4 4) (.slice c.heap.size 3 3) (.slice a.heap.size 4 4) () () (.slice (a.heap.size+1:Nat) 2 2)) w _ _:=eV (aS hoc λg hg=>a2 g λe=>by have:=(h.out.lt g hg).1;have h0:=kp0.size;omega) (by have:=kp0.size;omega)
 have hbw:=(HY.out.1.trans<|G.mono HY.out.1.size).trans<|a4 _ .refl;generalize io a w (.slice b.heap.size 4 4) (.slice c.heap.size 3 3) (.slice a.heap.size 4 4) () () (.slice (a.heap.size+1:Nat) 2 2)=wa at a1 a3 hcs l C hbw⊢;rw[<-a3];have g1:=Cd wa [(3,0),(4,1),(0,7),(2,0)] #[Ω Ψ 3,Ω Ψ 0,Ω Ψ 4,Ω Ψ 1,Ω Ψ 0,Ω Ψ 7,Ω Ψ 2,Ω Ψ 0] 4 rfl rfl (by omega);have g2:=JV (wa.alloc<|Θ #[Ω Ψ 3,Ω Ψ 0,Ω Ψ 4,Ω Ψ 1,Ω Ψ 0,Ω Ψ 7,Ω Ψ 2,Ω Ψ 0] 50) [0,2] #[Ω Ψ 0,Ω Ψ 2] 2 rfl rfl (by omega);have hz1:(wa.alloc<|Θ #[Ω Ψ 3,Ω Ψ 0,Ω Ψ 4,Ω Ψ 1,Ω Ψ 0,Ω Ψ 7,Ω Ψ 2,Ω Ψ 0] 50).heap.size=wa.heap.size+1:=by simp
 rw[hz1]at g2;obtain⟨_,hb2,_⟩:=Ju wa (Θ #[Ω Ψ 3,Ω Ψ 0,Ω Ψ 4,Ω Ψ 1,Ω Ψ 0,Ω Ψ 7,Ω Ψ 2,Ω Ψ 0] 50)<|Θ #[Ω Ψ 0,Ω Ψ 2] 3;have y1:=(hb2.block w<|by omega).trans a1;have g1':=OV.below g1<|af (wa.alloc<|Θ #[Ω Ψ 3,Ω Ψ 0,Ω Ψ 4,Ω Ψ 1,Ω Ψ 0,Ω Ψ 7,Ω Ψ 2,Ω Ψ 0] 50)<|Θ #[Ω Ψ 0,Ω Ψ 2] 3;rw[<-a3]at y1;obtain⟨z0,z1,z2,z3,z4,z5⟩:=sS y1;refine ι (v:=.agg #[.slice b.heap.size 4 4,.slice c.heap.size 3 3,.slice wa.heap.size 4 4,(),(),.slice (wa.heap.size+1:Nat) 2 2]) (by simp[θ,results52,go_sem,z0,z1,z2,z3,z4,z5]) rfl ?_;exact⟨_,_,_,_,_,wa,rfl,C,l,hcs,g1',g2.less<|by omega,hbw,hb2⟩
def wU.gv{w w' e}(h:wU w e w'):∃v,e=.returned v/\GV w' v ee/\I w w w':=by obtain⟨j,k,g,f,i,wa,rfl,d,c,h3,h4,h5,b,a⟩:=h;exact⟨_,rfl,⟨_,_,_,_,_,_,rfl,(OC.reads d c).below a,h3.below a,h4.reads,dv,dv,h5.reads⟩,b.trans<|a.mono b.size⟩
section
variable(w:χ)(v:μ)
def oB:Y prog 52 #[] w λe w'=>(∃v,e=.returned v/\GV w' v ee)/\I w w w':=(JW w).mono λe w' h=>by obtain⟨v,a,b,h3⟩:=h.gv;exact⟨⟨v,a,b⟩,h3⟩
def GV.six{w v g}(h:GV w v g):∃a0 f k a1 n m1 m p m2 e c b j d o i a l,v=.agg #[.slice a0 f k,.slice a1 n m1,.slice m p m2,.slice e c b,.slice j d o,.slice i a l]:=by obtain⟨_,_,_,_,_,_,rfl,⟨s,l0,rfl,_⟩,⟨q,y,rfl,_⟩,⟨x,z,rfl,_⟩,⟨b3,t,rfl,_⟩,⟨b4,u,rfl,_⟩,⟨b5,r,rfl,_⟩⟩:=h;exact⟨_,_,_,_,_,_,_,_,_,_,_,_,_,_,_,_,_,_,rfl⟩
def Pa(a:GV w v ee):Y prog 24 #[v] w λe w'=>(∃r,e=.returned (.tuple #[r,Ω Ψ 0])/\eI w' r [(4,3),(4,5),(4,6),(4,4)])/\I w w w':=by have h:=O0 w v ee aak a cB (by decide) KA.1 sW Fg (by decide);exact h
def WY(a:GV w v ee):Y prog 28 #[v] w λe w'=>(∃r,e=.returned (.tuple #[r,Ω Ψ 0])/\GV w' r Al)/\I w w w':=WO w v ee Al 3 a cB (by decide) KA.1 sW JN
def WZ(lv)(a:GV w v ee)(c:JD w (λj=>j<w) lv (WU++[(10,0,0,0)])):Y prog 45 #[v,lv] w λe w'=>e=.returned (.tuple #[Ω Ψ 1,Ω Ψ 0,Ω Ψ 1,Ω Ψ 9,Ω Ψ 0])/\I w w w':=WR w v lv ee _ (λi=>if i<6 then rsM i else r6) Fi a cB (by decide) KA.1 c (by decide) rfl rfl (aal λB d b=>Cc)
def Aq(d a l)(b:eI w d l)(c:eI w a l):Y prog 27 #[d,a] w λe w'=>e=.returned (.bool true)/\I w w w':=(nd w d a l b c).mono λe w' h=>by obtain⟨rfl,n,rfl⟩:=h;exact⟨rfl,hU _ _ _⟩
def DJ(bx:Nat)(c0:Int)(c1:Nat)(c2 c3:Int)(c:w.heap[bx]?=U (Θ #[c0,c1,c2,c3] 44 (0,0))):Y prog 62 #[Ω Ψ 5,.slice bx 1 1] w λe w'=>(∃r,e=.returned r/\JD w' (λj=>j<w') r (WU++[(c0,c1,c2,c3)]))/\I w w w':=(O5 w bx (c0,c1,c2,c3) c).mono λe w' h=>by obtain⟨⟨r,rfl,a⟩,b⟩:=h;exact⟨⟨r,rfl,OM.reads a⟩,b⟩
def lG{w:χ}{b:Nat}{t v0 v1 v2 v3 v4 v5}(h:w.heap[b]?=U (Θ #[v0,v1,v2,v3,v4,v5] t (0,0))):w b=U v0/\w (b,1)=U v1/\w (b,2)=U v2/\w (b,3)=U v3/\w (b,4)=U v4/\w (b,5)=U v5:=sS h
def Fr:Y prog 18 #[] w λe w'=>e=.returned (.bool true)/\I w w w':=by
 go_enter (fU func18 rfl),ntmps18
 go_wp2_with fail
 refine m2 (oB _) λv1 p1 qp1 hp1=>?_
 go_wp2_with fail
 refine m2 (Pa _ v1 qp1.out) λr1 p2 qp2 hp2=>?_
 go_wp2_with fail
 refine m2 (oB _) λv2 p3 qp3 P=>?_
 go_wp2_with fail
 refine m2 (WY _ v2 qp3.out) λr2 p4 qp4 W=>?_;obtain⟨xa0,xn0,xm0,xa1,xn1,xm1,xa2,xn2,xm2,xa3,xn3,xm3,xa4,xn4,xm4,xa5,xn5,xm5,rfl⟩:=qp4.out.six
 go_wp2_with fail
 have⟨y3,N,zp5⟩:=DI p4<|Θ #[.slice xa0 xn0 xm0,.slice xa1 xn1 xm1,.slice xa2 xn2 xm2,.slice xa3 xn3 xm3,.slice xa4 xn4 xm4,.slice xa5 xn5 xm5] 26;generalize p4.alloc _=p5 at y3 N zp5⊢;refine m1 (eF _ 2) λp6 KY=>?_
 go_wp2_with fail
 have⟨fp7,H,zp7⟩:=nt p6 [(4,2)] #[Ω Ψ 4,Ω Ψ 2] 1 rfl rfl (by omega);generalize p6.alloc _=p7 at fp7 H zp7⊢;refine m1 (dd _ p6.heap.size 1 1) λp8 Xa=>?_
 go_wp2_with fail
 refine m1 (dd _ ξ 0 0) λp9 KZ=>?_
 go_wp2_with fail
 refine m1 (eF _ 1) λc y=>?_
 go_wp2_with fail
 have⟨F,f,Pb⟩:=nt c [(4,1)] #[Ω Ψ 4,Ω Ψ 1] 1 rfl rfl (by omega);generalize c.alloc _=p11 at F f Pb⊢;refine m1 (dd _ c.heap.size 1 1) λL z=>?_
 go_wp2_with fail
 have⟨x,b,aoi⟩:=WX L [(0,.slice p6.heap.size 1 1),(0,()),(0,.slice c.heap.size 1 1)] #[Ω Ψ 0,.slice p6.heap.size 1 1,Ω Ψ 0,(),Ω Ψ 0,.slice c.heap.size 1 1] 3 rfl rfl (by omega);generalize L.alloc _=p13 at x b aoi⊢;refine m1 (eF _ 0) λp14 o=>?_
 go_wp2_with fail
 refine m1 (eF _ 1) λp15 l=>?_
 go_wp2_with fail
 refine m1 (mK _ 7) λp16 q=>?_
 go_wp2_with fail
 refine m1 (sY _) λK p=>?_
 go_wp2_with fail
 have⟨n,d,E⟩:=nt K [(4,0),(4,1),(0,7),(2,0)] #[Ω Ψ 4,Ω Ψ 0,Ω Ψ 4,Ω Ψ 1,Ω Ψ 0,Ω Ψ 7,Ω Ψ 2,Ω Ψ 0] 4 rfl rfl (by omega);generalize K.alloc _=p18 at n d E⊢;have⟨y5,g,O⟩:=DI p18<|Θ #[(),.slice L.heap.size 3 3,.slice K.heap.size 4 4,(),(),()] 26;generalize p18.alloc _=p19 at y5 g O⊢;refine m2 (oB _) λv3 J aoj B=>?_
 go_wp2_with fail
 have⟨A,a,S⟩:=DI J<|Θ #[Ω Ψ 10,Ω Ψ 0,Ω Ψ 0,Ω Ψ 0] 44;generalize J.alloc _=p21 at A a S⊢;refine m2 (DJ _ J 10 0 0 0 A.out) λr3 p22 aok h=>?_
 go_wp2_with fail
 refine m1 (WZ _ v3 r3 (GV.below h.out<|GV.below a.out aoj.out) aok.out) λp23 D=>?_
 go_wp2_with fail
 refine m1 (eF _ 3) λp24 j=>?_
 go_wp2_with fail
 refine m1 (eF _ 5) λp25 C=>?_
 go_wp2_with fail
 refine m1 (eF _ 6) λp26 t=>?_
 go_wp2_with fail
 refine m1 (eF _ 4) λp27 m=>?_
 go_wp2_with fail
 have⟨v,i,aol⟩:=nt p27 [(4,3),(4,5),(4,6),(4,4)] #[Ω Ψ 4,Ω Ψ 3,Ω Ψ 4,Ω Ψ 5,Ω Ψ 4,Ω Ψ 6,Ω Ψ 4,Ω Ψ 4] 4 rfl rfl (by omega);generalize p27.alloc _=T at v i aol⊢;have Q:=bx P<|bx W<|bx N<|bx KY<|bx H<|bx Xa<|bx KZ<|bx y<|bx f<|bx z<|bx b<|bx o<|bx l<|bx q<|bx p<|bx d<|bx g<|bx B<|bx a<|bx h<|bx D<|bx j<|bx C<|bx t<|bx m<|bx i<|R T T;have dw:=bx hp1<|bx hp2 Q;refine m1 (Aq _ _ _ [(4,3),(4,5),(4,6),(4,4)] (eI.below Q qp2.out)<|OV.reads v.out) λp29 Cj=>?_;have u:=bx B<|bx a<|bx h<|bx D<|bx j<|bx C<|bx t<|bx m<|bx i<|bx Cj<|R p29 p29;have s:=bx g u;have G:=bx o<|bx l<|bx q<|bx p<|bx d s;have r:=bx z<|bx b G;have X:=bx Xa<|bx KZ<|bx y<|bx f r;have cp5:=bx KY<|bx H X;have cp4:=bx N cp5;have cw:=bx hp1<|bx hp2<|bx P<|bx W cp4;obtain⟨k0,k1,k2,k3,k4,k5⟩:=lG<|(cp5.block _ (Ξ.1 y3.out).1).trans y3.out;obtain⟨j0,j1,j2,j3,j4,j5⟩:=lG<|(u.block _ (Ξ.1 y5.out).1).trans y5.out;rw[E]at j0 j1 j2 j3 j4 j5
 go_wp2_with fail
 refine(NU _ _ _ Al (GV.below cp4 qp4.out) ⟨_,_,_,_,_,_,rfl,csn _,OC.reads (OC.below x.out G)<|aY.cons (k:=0) (OV.reads<|OV.below fp7.out X)<|aY.cons (k:=0) dv<|aY.cons (k:=0) (OV.reads<|OV.below F.out r)<|aY.nil _,OV.reads<|OV.below n.out s,dv,dv,isn _⟩).mono ?_;rintro e wz ⟨rfl,hz⟩;replace hz:=V hz
 go_wp2_with fail
 go_ret;exact⟨rfl,cw.trans<|hz.out.mono cw.size⟩
end
def GV.form{w v g}(h:GV w v g):∃a0 b a1 m1 c m2 i d a e j f,v=.agg #[.slice a0 g.new.length b,.slice a1 g.old.length m1,.slice c g.roots.length m2,.slice i g.aA.length d,.slice a g.done.length e,.slice j g.marked.length f]:=by obtain⟨_,_,_,_,_,_,rfl,⟨a0,b,rfl,-⟩,⟨a1,m1,rfl,-⟩,⟨c,m2,rfl,-⟩,⟨i,d,rfl,-⟩,⟨a,e,rfl,-⟩,⟨j,f,rfl,-⟩⟩:=h;exact⟨_,_,_,_,_,_,_,_,_,_,_,_,rfl⟩
def Xd(w a mc l)(hv:n9 w (.slice a l.length mc) l):
 Y prog 14 #[.slice a l.length mc] w λe w'=>e=.returned (.bool true)/\I w w w':=by
 have HV:=V hv;clear hv
 go_enter (fU func14 rfl),ntmps14
 go_wp2_with fail
 refine(WT _ a mc l HV.out).mono ?_;rintro e w1 ⟨rfl,hc,Q⟩
 go_wp2_with fail
 refine(aeD _ w 0 16 hc (by omega)<|by omega).mono ?_;rintro e F ⟨⟨r,g,rfl,G,u,hm⟩,hw⟩;have C:I w w F:=Q.grown hw.2 Q.size (λk e=>by cases e;exact .refl);have HR:=V G.reads;obtain⟨p0,m0,p1,m1,p2,m2,p3,m3,p4,m4,p5,m5,rfl⟩:=G.reads.form
 go_wp2_with fail
 generalize W:F.alloc _=w3;obtain⟨y3,y,A⟩:=alE W;clear W;replace y:=V y;replace A:F.heap.size<w3.heap.size:=by omega
 have B3:=C.trans<|y.out.mono C.size;have N:=V<|HR.out.below y.out;generalize F.heap.size=t3 at y3 A⊢;clear y HR hw hc Q C G;obtain⟨c0,c1,c2,c3,c4,c5⟩:=sS y3
 go_wp2_with fail
 refine(aaR _ _ g N.out u).mono ?_;rintro e w4 ⟨⟨r4,rfl,Ja⟩,P⟩
 go_wp2_with fail
 refine(aae _ r4 g Ja.reads u<|by omega).mono ?_;rintro e w5 ⟨⟨r5,rfl,K⟩,o⟩;replace o:=P.trans<|o.mono P.size;have HM:=V K;obtain⟨q0,k0,q1,k1,q2,k2,q3,k3,q4,k4,q5,k5,rfl⟩:=K.form;clear K;clear P Ja c0 c1 c2 c3 c4 c5;have y5:=(o.block t3 A).trans y3;have H:=Γ A o.size;have HR5:=V<|N.out.below o;have B5:=B3.trans<|o.mono B3.size;clear o N B3 y3
 go_wp2_with fail
 generalize W:w5.alloc _=w6;obtain⟨x6,y,v⟩:=alE W;clear W;replace y:=V y;replace v:w5.heap.size<w6.heap.size:=by omega
 have y6:=(y.out.block t3 H).trans y5;have B6:=B5.trans<|y.out.mono B5.size;have X:=V<|HR5.out.below y.out;have O:=V<|HM.out.below y.out;have z:=Nat.lt_trans H v;generalize w5.heap.size=t4 at x6 v H⊢;clear y HR5 HM A y5;obtain⟨c0,c1,c2,c3,c4,c5⟩:=sS y6;obtain⟨d0,d1,d2,d3,d4,d5⟩:=sS x6
 go_wp2_with fail
 refine(aaQ _ _ (Md.sX g) O.out<|Ck u (by have:=wb u;omega)).mono ?_;rintro e w7 ⟨rfl,m⟩;have hml:=sb (g:=g);have hmn:=wb u;have t1:g.old.length<=(Md.sX g).old.length:=by omega
 have t1':¬(Md.sX g).old.length<g.old.length:=by omega
 have t2:(Md.sX g).old.length<=g.old.length+g.new.length:=by omega
 have t2':¬g.old.length+g.new.length<(Md.sX g).old.length:=by omega
 have t3':¬(g.old.length:Int)+g.new.length<(Md.sX g).old.length:=by omega
 have e1:(Md.sX g).new.length=0:=rfl;have e2:(Md.sX g).marked.length=0:=rfl;have y7:=(m.block t3 z).trans y6;have x7:=(m.block t4 v).trans x6;have B7:=B6.trans<|m.mono B6.size;have J:=V<|X.out.below m;have L:=V<|O.out.below m;have l3:=Γ z m.size;have l4:=Γ v m.size;clear c0 c1 c2 c3 c4 c5 d0 d1 d2 d3 d4 d5 m X O v z y6 x6 B5 B6 hml;obtain⟨c0,c1,c2,c3,c4,c5⟩:=sS y7;obtain⟨d0,d1,d2,d3,d4,d5⟩:=sS x7;rw[e1]at d0;rw[e2]at d5;clear e1 e2
 go_wp2_with fail
 clear d0 d5 t1 t1' t2 t2' t3' c0 c2 c3 c4 c5 d2 d3 d4;have HY:=V<|Z y7<|Z x7 B7;clear y7 x7 B7
 go_loopw [6] (λx wr=>∃(i n:Nat),i<=g.old.length/\x=Ω Ψ i/\wr=w7.drewN n) (λx _=>g.old.length-(intOf x).toNat)
 case atStart=>exact⟨0,0,Nat.zero_le _,rfl,rfl⟩
 case round=>
  obtain⟨i,n,hi,rfl,rfl⟩:=hrel;by_cases hlt:i<g.old.length
  ·obtain⟨kd,vs,hc⟩:=cQ hlt;obtain⟨⟨E,ws⟩,hd,e1,e2,B⟩:=Qv u hc;dsimp only at e1 e2 B;subst e1;obtain⟨_,_,_,_,_,_,e,-,⟨ap,np,hp,-,-,t⟩,-⟩:=J.out;simp only[Value.agg.injEq,Array.mk.injEq,List.cons.injEq,and_true]at e;obtain⟨-,rfl,-⟩:=e;cases hp
   obtain⟨_,_,_,_,_,_,e,-,⟨aq,nq,hq,-,-,s⟩,-⟩:=L.out;simp only[Value.agg.injEq,Array.mk.injEq,List.cons.injEq,and_true]at e;obtain⟨-,rfl,-⟩:=e;cases hq
   obtain⟨bp,op,rfl,hbp,t⟩:=t (by omega);obtain⟨bq,oq,rfl,hbq,s⟩:=s (by have:=(ω.1 hd).1;omega);obtain⟨f0,xv,f1,hxv⟩:=t i E vs hc;obtain⟨g0,yv,g1,hyv⟩:=s i E ws hd;have HX:=V hxv;have HYv:=V hyv;obtain⟨ax,mx,rfl,hmx,N4,d⟩:=hxv;obtain⟨ay,my,rfl,hmy,apE,f⟩:=hyv;have hil:i<(Md.sX g).old.length:=(ω.1 hd).1;have hkk:(E==E)=true:=by simp
   rw[e2]at g1;clear t s d f
   go_wp2_with fail
   go_quiet (fail)
   go_wp2_with fail
   clear hkk f0 g0;have HE2:=V e2;clear e2
   go_loopw [7] (λx wr=>∃(j n:Nat),j<=vs.length/\x=Ω Ψ j/\wr=w7.drewN n) (λx _=>vs.length-(intOf x).toNat)
   case atStart=>exact⟨0,n+nq,Nat.zero_le _,rfl,by simp[go_sem]⟩
   case round=>
    obtain⟨j,n2,hj,rfl,rfl⟩:=hrel;by_cases hlt2:j<vs.length
    ·obtain⟨p,q,hp⟩:=ep hlt2;obtain⟨p',q',hq⟩:=ep (l:=ws) (k:=j) (by have:=HE2.out;omega);obtain⟨_,_,e,-,-,d⟩:=HX.out;cases e
     obtain⟨bx,ox,rfl,hbx,d⟩:=d (by omega);obtain⟨_,_,e,-,-,f⟩:=HYv.out;simp only[Value.slice.injEq]at e;obtain⟨rfl,-,-⟩:=e;obtain⟨b_y,oy,rfl,hby,f⟩:=f (by have:=HE2.out;omega);obtain⟨x0,x1⟩:=d j p q hp;obtain⟨y0,y1⟩:=f j p' q' hq;clear d f;by_cases h3:p=3
     ·have ht:(p==3)=true:=by simp[h3]
      clear y0 y1
      go_wp2_with fail
      go_quiet (fail)
      go_wp2_with fail
      exact⟨⟨j+1,_,by omega,by go_num,rfl⟩,by simp[intOf];omega⟩
     ·have ht:(p==3)=false:=by simp[h3]
      have:=B j (p,q) hp h3;rw[hq]at this;cases this
      have hnq:=nc p q
      go_wp2_with fail
      go_quiet (fail)
      go_wp2_with fail
      exact⟨⟨j+1,_,by omega,by go_num,rfl⟩,by simp[intOf];omega⟩
    ·go_wp2_with fail
     exact⟨⟨i+1,_,by omega,by go_num,rfl⟩,by simp[intOf];omega⟩
  ·go_wp2_with fail
   clear c1 d1;have h:=hU w7 w7 n;have y8:=(h.block t3 l3).trans HY.out.1;have x8:=(h.block t4 l4).trans HY.out.2.1;have B8:=HY.out.2.2.trans<|h.mono HY.out.2.2.size;have HR8:=V<|J.out.below h;have HM8:=V<|L.out.below h;have k3':=Γ l3 h.size;have k4':=Γ l4 h.size;clear h;generalize w7.drewN n=w8 at y8 x8 B8 HR8 HM8 k3' k4'⊢;have HB:=V<|Z y8<|Z x8 B8;have hhm:=PF (Ck u (by have:=wb u;omega)) (by have:=wb u;have:=sb (g:=g);have:(Md.sX g).new.length=0:=rfl;omega);have T:=PF u (by omega);have hnn:=P3 u;clear y8 x8 B8 J L HY l3 l4;refine Rg.pT [.eq (.agg #[.slice q0 (Md.sX g).new.length k0,.slice q1 (Md.sX g).old.length k1,.slice q2 (Md.sX g).roots.length k2,.slice q3 (Md.sX g).aA.length k3,.slice q4 (Md.sX g).done.length k4,.slice q5 (Md.sX g).marked.length k5]),SP.ph w8<|plain<|Md.sX g,.eq<|.agg #[.slice p0 g.new.length m0,.slice p1 g.old.length m1,.slice p2 g.roots.length m2,.slice p3 g.aA.length m3,.slice p4 g.done.length m4,.slice p5 g.marked.length m5],SP.ph w8<|plain g,.eq<|.tuple #[.bool true,Ω Ψ 0],.eq<|.tuple #[.bool true,Ω Ψ 0],.eq<|.bool true,.eq<|Ω Ψ 0,.eq<|.bool true,.eq<|Ω Ψ 0] ?h1 ?h2 ?h3 ?_ ?_
   case h1=>kernel_rfl
   case h2=>kernel_rfl
   case h3=>rfl
   ·refine⟨?_,?_,?_,?_,?_,?_,?_,?_,?_,?_,trivial⟩
    all_goals intro a2 F C c b
    all_goals have S:I w8 w8 F:=(R _ w8).drew.trans C
    all_goals first|((try have q0:=Rg.lT (b 4 _ rfl rfl) rfl);(try have q1:=Rg.lT (b 5 _ rfl rfl) rfl);(try have q2:=Rg.lT (b 6 _ rfl rfl) rfl);(try have q3:=Rg.lT (b 7 _ rfl rfl) rfl);clear c b;go_simp;exact⟨_,rfl,.refl _ _,rfl⟩)|skip
    ·have b2:=c 4 rfl;simp at b2;obtain⟨z0,z1,z2,z3,z4,z5⟩:=sS<|(S.block t4 k4').trans HB.out.2.1;clear c b;go_simp;exact⟨_,rfl,.refl _ _,rfl⟩
    ·have d0:=Rg.lT (b 0 _ rfl rfl) rfl;clear c b;go_simp;refine(Pg _ _ _ (HM8.out.below S)<|Ck u (by have:=wb u;omega)).mono ?_;rintro e w3 ⟨⟨r,rfl,G⟩,D⟩;exact⟨_,rfl,D,G.less S.size⟩
    ·have b2:=c 3 rfl;simp at b2;obtain⟨z0,z1,z2,z3,z4,z5⟩:=sS<|(S.block t3 k3').trans HB.out.1;clear c b;go_simp;exact⟨_,rfl,.refl _ _,rfl⟩
    ·have d0:=Rg.lT (b 2 _ rfl rfl) rfl;clear c b;go_simp;refine(Pg _ _ _ (HR8.out.below S) u).mono ?_;rintro e w3 ⟨⟨r,rfl,G⟩,D⟩;exact⟨_,rfl,D,G.less S.size⟩
    ·have s1:pS F w8 ((a2.tmps[141]?).getD undef) (plain<|Md.sX g):=b 1 _ rfl rfl;have s2:pS F w8 ((a2.tmps[143]?).getD undef) (plain g):=b 3 _ rfl rfl;clear c b;go_simp;refine(aeA _ _ _ _ _ s1.reads s2.reads hhm T hnn).mono ?_;rintro e w3 ⟨rfl,D⟩;exact⟨_,rfl,D,rfl⟩
   ·rintro fb w9 BP ⟨s0,s1,s2,s3,s4,s5,s6,s7,s8,s9,-⟩;have s8:fb 8=_:=s8;have s9:fb 9=_:=s9;simp[go_sem,s8,s9];have B9:=HB.out.2.2.trans<|((R _ w8).drew.trans BP).mono HB.out.2.2.size;clear s0 s1 s2 s3 s4 s5 s6 s7 s8 s9 BP hnn hhm T
    go_wp2_with fail
    refine(Fr _).mono ?_;rintro e w10 ⟨rfl,aiU⟩
    go_wp2_with fail
    go_ret;exact⟨rfl,B9.trans<|aiU.mono B9.size⟩
end Kn
