/- A part of the proof of GcMarks; no conditions. -/
import Derived.Test.YtbnmpafbfoaggaaGreatDoorM0
import Derived.Test.YtbnmpafbfoaggaaGreatDoorM1
import Derived.Test.YtbnmpafbfoaggaaGreatDoorM5
import Derived.Deep.Cut
import Derived.Test.YtbnmpafbfoaggaaGreatDoorM2
import Derived.Deep.DeepCutAuto
import Derived.Deep.AppendLies
import Derived.Test.YtbnmpafbfoaggaaGreatDoorM4
set_option linter.defProp false
set_option linter.unusedVariables false
set_option linter.unusedSimpArgs false
set_option maxRecDepth 100000
set_option maxHeartbeats 16000000
noncomputable section
open Go.Lib renaming hid->U
open Go.Value renaming int->Ω,slice->ι
open Go.IntKind renaming i64->Ψ
open Option renaming some->V,none->ξ
open Go.World renaming cell?->M,ownsRow_nil->Z2
open Array renaming getElem?_eq_some_iff->Ξ
open Go.Obj renaming cells->Θ
open Go.RowKit.Below renaming refl->Z
open Go.RowKit renaming Below->I
open And renaming intro->R
open Go renaming heap_alloc_new->Δ,Calls->Y,World->χ,Value->μ,bodyPost_ret->ε,results->Z9,wpList_step->Z8,maxLen->Z1,leaves_cons->ZW,info_parts->ZT
open List renaming getElem?_eq_some_iff->Γ,replicate->ω,range->ψ,getElem?_append_left->υ,length_range->κ,eq_nil_of_length_eq_zero->θ,length_map->η,getElem?_eq_none->Z4,take_length->Z0,all_eq_true->ZX,range_succ->ZV,map_append->ZU
open Go.Addr renaming add->φ
open Go.Builtin renaming append_->ο
open Bool renaming true->ζ,and_eq_true->ZY
namespace Go.Proofs.YtbnmpafbfoaggaaGreatDoor
open Go.Proofs.Tryz hiding prog
open Go.Proofs.aD
namespace Kn
open Go Go.RowKit Md
section
variable{fr:Nat×Nat}{J:Nat->Prop}{r:Md.RS}{t:TypeId}{x:μ}{b br:Nat}{w:χ}{B:Nat}{k:Int}
def tV{ty}{m bx:Nat}{a l}(h:RC w B (.slice a l.length m) l)(D:w.heap[bx]?=V (Θ #[Ω Ψ k,x] t fr))(E:x.oneCell'=ζ)(L:l.length<=1000000):
 ∃b w',(ο #[22,22] ty #[.slice a l.length l.length,.slice bx 1 1]).run prog w=.ok b w'/\(OC w' w b (l++[(k,x)])/\I w w w'/\∃g r,b=.slice (g:Nat) (l.length+1) r):=by
 obtain⟨A,hi,i,o,p⟩:=ZT ni;have c:∀j u,(dW (k,x))[j]?=V u->w ((bx:Addr).add j)=V u:=by
  intro j u f
  match j,f with
  |0,f=>cases f;simp[M,D,φ]
  |1,f=>cases f;simp[M,D,φ]
  |j+2,f=>simp[dW]at f
 have y:∀u∈dW (k,x),u.oneCell'=ζ:=by
  intro u C;simp[dW]at C;obtain rfl|rfl:=C
  rfl;exact E
 have fin:∀b w',w'.ownsRow w 76 2 b (l.length+1) (l.flatMap dW++dW (k,x)) ->OC w' w b (l++[(k,x)])/\∃g r,b=.slice (g:Nat) (l.length+1) r:=by
  intro b w' r1;have s:OC w' w b (l++[(k,x)]):=by unfold OC;rw[List.flatMap_append,List.length_append];simpa using r1
  refine⟨s,?_⟩;obtain⟨g,v,e,_⟩:=r1.form (by omega);exact⟨g,v,e⟩
 obtain⟨H,r,e,K,G,F,J⟩:=id h;cases e
 obtain _|ad:=a
 have q:l=[]:=θ (by have:=F rfl;omega);subst q;obtain⟨b,w',d,r1,r2,_⟩:=run_append_own (P:=prog) w w 22 ty 76 A _ 2 32 mF hi i o p rfl (by decide) (ι ξ 0 0) 0 [] (Z2 w _ 76 2) bx 1 1 (dW (k,x)) rfl c y (by unfold Z1;omega) (by omega) .refl;obtain⟨q1,z⟩:=fin b w' (by simpa using r1);exact⟨b,w',d,q1,(Z _ w).grown r2 .refl (λk e=>by cases e),z⟩;obtain⟨b,w',d,r1,r2⟩:=run_append_arg_grows (P:=prog) w 22 ty 76 A _ 2 32 mF hi i o p rfl (by decide) ad l.length l.length (l.flatMap dW) (iu l) (λj u f=>by
  have n:0<l.length:=by
   obtain h0|h0:=Nat.eq_zero_or_pos l.length
   have:=θ h0;subst this;simp at f;exact h0
  obtain⟨g,m2,e,_,_,_,_,hc⟩:=h.cells n;cases e
  have:=hc j u f;unfold φ;split
  rename_i h0;subst h0;exact this;simpa using this) bx 1 1 (dW (k,x)) rfl c (by omega) (by unfold Z1;omega) (by omega)
 obtain⟨q1,z⟩:=fin b w' r1;exact⟨b,w',d,q1,(Z _ w).grown r2 .refl (λk e=>by cases e),z⟩
def mJ{ty}{m bx n:Nat}{a l}(f:l.length=n)(h:RC w B (.slice a l.length m) l)(i:w.heap[bx]?=V (Θ #[Ω Ψ k,x] t fr))(d:x.oneCell'=ζ)(c:l.length<=1000000):
 ∃b w',(ο #[22,22] ty #[.slice a n n,.slice bx 1 1]).run prog w=.ok b w'/\(OC w' w b (l++[(k,x)])/\I w w w'/\∃g e,b=.slice (g:Nat) (n+1) e):=by
 subst f;exact tV h i d c
def wQ{row a kind cs c}(h:∀i,i<cs.length->a (kind,(i:Int))=row (kind,(i:Int))):cellsOf a kind (cs++[c])=cellsOf row kind cs++[(c.1,a (kind,(cs.length:Int)))]:=by
 apply List.ext_getElem?;intro i;obtain hi|hi|hi:=Nat.lt_trichotomy i cs.length
 obtain⟨p,q,e⟩:=cQ hi;rw[bH (row:=a) (kind:=kind) (c:=(p,q)) (by rw[υ hi];exact e),υ (by rw[aT];exact hi),bH e,h i hi];subst hi;rw[bH (row:=a) (kind:=kind) (c:=c) (by simp)];simp[aT];rw[Z4 (by rw[aT];simp;omega),Z4 (by simp[aT];omega)]
def cR.Pi{w2 g n o m s row vs}(P:∀j,J j->j<w)(h5:∀j,J j->j≠b/\∀k,IsKey g k->(row k).ownBlock≠V j)(K:B<=b)(hb:w.heap[b]?=V (Θ #[n,o,row (0,0),row (0,1),row (0,2),m] 114 (0,0)))(L:RC w B o (cellsOf row 4 g.old))(h3:OI w B m g.marked)(h4:kD w B row g)(v:B<=w)(u:I w w w2)(E:OC w2 B s (cellsOf row 3 g.new++[(k,x)]))(G:OV w2 w x vs):
 cR (w2.setCell b s) B b {g with new:=g.new++[(k,vs)]} J/\I B w (w2.setCell b s):=by
 have f:=(u.block b (Ξ.1 hb).1).trans hb;have l:∀k,k≠b->(w2.setCell b s).heap[k]?=w2.heap[k]?:=λk h=>aa h;have keep:∀i:Nat,i<g.new.length->(if((3,(i:Int)):HV)=(3,(g.new.length:Int))then x else row (3,(i:Int)))=row (3,(i:Int)):=λi hi=>if_neg λe=>by have:=congrArg Prod.snd e;dsimp only at this;omega
 have hold:∀d,IsKey {g with new:=g.new++[(k,vs)]} d->d≠(3,(g.new.length:Int)) ->IsKey g d/\bd {g with new:=g.new++[(k,vs)]} d=bd g d:=by
  rintro⟨a,c⟩ h z;obtain⟨e1,e2,e3⟩|⟨e1,e2,e3⟩|⟨e1,e2,e3⟩:=h
  dsimp only at e1 e2 e3;subst e1;exact⟨.inl ⟨rfl,e2,e3⟩,by simp[bd]⟩;dsimp only at e1 e2 e3;subst e1;have F:c<g.new.length:=by have:c≠g.new.length:=λe=>z (by rw[e]);simp at e3;omega
  refine⟨.inr<|.inl ⟨rfl,e2,F⟩,?_⟩;simp only[bd,cellAt];have:c.toNat<g.new.length:=by omega
  simp[List.getD,υ this];dsimp only at e1 e2 e3;subst e1;exact⟨.inr<|.inr ⟨rfl,e2,e3⟩,by simp[bd,cellAt]⟩
 refine⟨⟨s,o,m,λd=>if d=(3,(g.new.length:Int))then x else row d,K,?_,?_,?_,?_,⟨?_,?_⟩,?_⟩,?_⟩;rw[aB f];simp;dsimp only;rw[wQ (row:=row) (λi hi=>keep i hi),if_pos rfl];exact OC.rc (B:=B)<|hZ E f (by decide) l;have:cellsOf (λd=>if d=(3,(g.new.length:Int))then x else row d) 4 g.old=cellsOf row 4 g.old:=by
  unfold cellsOf;refine List.map_congr_left λy _=>?_;have O:¬((4,(y.2:Int)):HV)=(3,(g.new.length:Int)):=λe=>by have:=congrArg Prod.fst e;simp at this
  simp only[if_neg O]
 dsimp only;rw[this];exact(L.low u).below λC N t=>l C λe=>by subst e;rw[f]at t;cases t
 ·exact hZ (h3.below u) f (by decide) l
 intro d q;dsimp only;by_cases e:d=(3,(g.new.length:Int))
 subst e;rw[if_pos rfl];have:bd {g with new:=g.new++[(k,vs)]} (3,(g.new.length:Int))=vs:=by simp[bd,cellAt,List.getD]
 rw[this];exact eV (hZ G f (by decide) l) v;rw[if_neg e];obtain⟨e1,e2⟩:=hold d q e;rw[e2];exact hZ ((h4.1 d e1).below u) f (by decide) l;intro A D e1 e2 r;dsimp only;have wl:∀d,IsKey g d->Apart x (row d):=λd q C a1 Q=>by have:=(G.lt C a1).1;have:=((h4.1 d q).lt C Q).2;omega
 by_cases c1:A=(3,(g.new.length:Int))<;>by_cases c2:D=(3,(g.new.length:Int))
 exact absurd (c1.trans c2.symm) r;rw[if_pos c1,if_neg c2];exact wl _ (hold D e2 c2).1;rw[if_neg c1,if_pos c2];exact Apart.symm<|wl _ (hold A e1 c1).1;rw[if_neg c1,if_neg c2];exact h4.2 A D (hold A e1 c1).1 (hold D e2 c2).1 r;intro j H;refine⟨(h5 j H).1,λd q e=>?_⟩;dsimp only at e;by_cases c1:d=(3,(g.new.length:Int))
 rw[if_pos c1]at e;have:=(G.lt j e).1;have:=P j H;omega;rw[if_neg c1]at e;exact(h5 j H).2 d (hold d q c1).1 e;exact(u.mono v).setCell (p:=⟨b,0,ξ⟩) K _
def Aj(k:Nat):Prop:=∀W:χ,OV (W.alloc<|.cells (madeCells #[Ω Ψ 0,Ω Ψ 0]<|k*2) 50) W (.slice W.heap.size k k) (ω k (0,0))
def Jy:Aj 1:=λW=>⟨rfl,.inr ⟨W.heap.size,1,_,rfl,.refl,Δ _ _,.refl,by unfold Z1;omega,by kernel_rfl,by kernel_rfl⟩⟩
def bD.more(h:bD w B br b r J):bD w B br b r (λj=>J j\/w.heap.size<=j):=by
 obtain⟨l,i,⟨n,o,m,row,p,hb,g,f,q,c,g5⟩,h3⟩:=h;refine⟨l,i,⟨n,o,m,row,p,hb,g,f,q,c,λj a=>?_⟩,λj a=>?_⟩;obtain a|a:=a
 ·exact g5 j a
 refine⟨λe=>?_,λk d e=>?_⟩
 ·grind
 have:=((c.1 k d).lt j e).2;omega
 grind
def bD.sub{J'}(h:bD w B br b r J)(hs:∀j,J' j->J j):bD w B br b r J':=by obtain⟨g,f,⟨n,o,m,row,i,hb,e,d,k,c,g5⟩,h3⟩:=h;exact⟨g,f,⟨n,o,m,row,i,hb,e,d,k,c,λj a=>g5 j<|hs j a⟩,λj a=>h3 j<|hs j a⟩
def bD.ne(h:bD w B br b r J):¬br=b:=λe=>by
 obtain⟨_,a,h3,_⟩:=h;obtain⟨_,_,c,hc⟩:=h3.own.obj
 grind
def bD.free{w' j c}(h:bD w B br b r J)(s:J j)(hc:w.heap[j]?=V (.cells c t fr))(p:t≠76/\t≠3)(d:∀k,k≠j->w'.heap[k]?=w.heap[k]?):bD w' B br b r J:=by
 obtain⟨A,y,⟨n,o,m,row,D,hb,C,z,E,x,g5⟩,h3⟩:=h;have v:∀{k:Nat} {u:Array μ} {l:TypeId} {f:Nat×Nat},w.heap[k]?=V (.cells u l f) ->t≠l->w'.heap[k]?=w.heap[k]?:=λ{k u l f} a F=>d k λe=>by grind
 exact⟨A,(d br<|Ne.symm<|h3 j s).trans y,⟨n,o,m,row,D,(d b<|Ne.symm (g5 j s).1).trans hb,C.below λg q i=>v i p.1,z.below λg q i=>v i p.1,hZ E hc p.2 d,⟨λk a=>aS (x.1 k a) λg i=>d g λe=>(g5 j s).2 k a<|by grind,x.2⟩,g5⟩,h3⟩
def bD.Pi{w w2 B q b r J x k vs}(h:bD w B q b r J)(E:∀j,J j->j<w)(s:B<=w)(u:I w w w2)(F:OV w2 w x vs):
 ∃a m row,w b=V (.slice a r.g.new.length m)/\r.g.new.length<=m/\RC w B (.slice a (cellsOf row 3 r.g.new).length m) (cellsOf row 3 r.g.new)/\(cellsOf row 3 r.g.new).length=r.g.new.length/\
  ∀d f,I w2 w2 d->OC d B f (cellsOf row 3 r.g.new++[(k,x)]) ->bD (d.setCell b f) B q b {r with g:={r.g with new:=r.g.new++[(k,vs)]}} J/\I B w (d.setCell b f)/\tc J w (d.setCell b f):=by
 have p:=h.ne;obtain⟨A,t,⟨n,o,m,row,K,hb,y,z,N,C,g5⟩,h3⟩:=h;obtain⟨a,G,e,v,O,Q,P⟩:=id y;refine⟨a,G,row,?_,?_,e▸y,aT _ _ _,λd f i l=>?_⟩;rw[aT]at e;rw[<-e];simp[M,hb];rw[aT]at v;exact v;have c:=u.trans<|i.mono u.size;obtain⟨q1,L⟩:=cR.Pi E g5 K hb z N C s c l<|F.below i;refine⟨⟨A,?_,q1,h3⟩,L,λj H D=>?_⟩;rw[aa p,c.block q (Ξ.1 t).1];exact t;rw[aa (g5 j H).1,c.block j D]
def afi(w B N b k r r')(hr:bD w B N b r J)(hB:B<=w)(hJ:∀j,J j->j<w)(hm:Roomy r r')(hz:Aj k)(hk:k<=1000)(hl:r'.g.new.length<=1000):
 Y prog 202 #[.pointer N,Ω Ψ 0,Ω Ψ (k:Int),ι ξ 0 0] w λe w'=>e=.returned (.agg #[Ω Ψ 3,Ω Ψ (r'.g.new.length:Int)])/\bD w' B N b {r' with g:={r'.g with new:=r'.g.new++[(0,ω k (0,0))]}} J/\I B w w'/\tc J w w':=by
 have HM:=U hm;have hb1:=af w<|Θ #[Ω Ψ 0,Ω Ψ 0] 50;have HR:=U<|(hr.more.below hb1).sub (J':=λj=>J j\/j=w) λj z=>z.imp id λe=>by omega
 have HZ:=U hz;have O:=U hb1;clear hr hm hz;have hmk:=λW=>BC k k .refl (by omega) W
 go_enter (fU func202 rfl),ntmps202
 go_wp2_with fail
 refine wp_loop_rounds 1 ?_;rw[rounds_succ]
 go_wp2_with fail
 refine(WD _ B N b r r' HR.out (by simp;omega) HM.out).mono ?_;rintro e F ⟨rfl,X,hb2,q⟩;have s:=U X;have y2:=(q w (.inr rfl)<|by simp).trans<|Δ w _;have HB2:=U<|R hb2 q;have HY2:=U y2;clear X hb2 q y2
 go_wp2_with fail
 refine wp_loop_rounds 1 ?_;rw[rounds_succ];have f:=af F<|.cells (madeCells #[Ω Ψ 0,Ω Ψ 0]<|k*2) 50;have hsz:w.heap.size<F:=by have:=(Ξ.1 HY2.out).1;exact this
 have hJ2:∀j,(J j\/j=w) ->j<F:=by
  intro j z;obtain h|h:=z
  have:=hJ j h;omega;omega
 obtain⟨a,m,row,L,hlm,hrc,P,C⟩:=s.out.Pi (x:=.slice F.heap.size k k) (k:=0) (vs:=ω k (0,0)) hJ2 (by omega) f<|HZ.out F;obtain⟨c0,_,hbr⟩:=s.out.ptr;have H:=az L;have S:=cG f c0 hbr;have e1:=cG f L H;have ef:=f.frozen (p:=⟨b,0,ξ⟩) H;have ef0:F.frozen? b=false:=by obtain⟨_,_,c,hc⟩:=s.out.2.2.1.own.obj;exact cD hc
 rw[ef0]at ef;have y:=hrc.low f;have E:=Nat.lt_of_lt_of_le hbr f.size;have t:=Nat.lt_of_lt_of_le H f.size;have HA:=U C;have HC3:=U y;have hll:(cellsOf row 3 r'.g.new).length<=1000000:=by omega
 have HL:=U P;have hne:=s.out.ne;rw[P]at y;generalize hw3:(F.alloc<|.cells (madeCells #[Ω Ψ 0,Ω Ψ 0]<|k*2) 50)=A at f HA S e1 ef HC3 E t⊢;clear hw3 C L c0 hrc y ef0 P;have hl0:(0:Int)<=(r'.g.new.length:Int):=by omega
 have hl1:(r'.g.new.length:Int)<=(m:Int):=by omega
 clear hmk
 go_wp2_with fail
 have hnr:¬b=N:=λe=>hne e.symm;refine Rg.wp_cut (n:=34) (λx=>x N=V (.pointer b)/\x b=V (.slice a r'.g.new.length m)) (by kernel_rfl) (by kernel_rfl) (λc a d v w h=>by cases d<;>exact h) ⟨S,e1⟩ ?_;simp only[List.take_succ_cons,List.take_zero,List.drop_succ_cons,List.drop_zero]
 iterate 34
  (refine Rg.fp.step (v:=?_) (by rfl) (λu hu=>?_) ?_
   rotate_left
   (obtain⟨hu0,hu1⟩:=hu
    go_simp;rfl))
 refine Rg.fp.nil ?_;simp only[Act.put,List.setIfInBounds_toArray,List.set_cons_zero,List.set_cons_succ];refine wpOp_step rfl λK hK=>?_;go_simp;refine hK _ _ ⟨⟨dB<|dO S,dB<|dO e1⟩,?_⟩;clear hK K;refine wpOp_step rfl λK hK=>?_;refine aX rfl _ _ 22 (by rfl) (.slice a r'.g.new.length r'.g.new.length) (.slice A.heap.size 1 1) (by rfl) (by rfl) _ (mJ (k:=0) (x:=.slice F.heap.size k k) HL.out (HC3.out.low<|by first|exact(af A _).drew|exact(af A _)|exact((Z _ A).drew.alloc .refl _)|exact((Z _ A).drew.alloc .refl _).drew) (Δ A _) (by rfl) hll) ?_;intro v' w4 h2;obtain⟨hoc,o,gg,mg,rfl⟩:=h2;have l:=Below.trans (by first|exact(af A _).drew|exact(af A _)|exact((Z _ A).drew.alloc .refl _)|exact((Z _ A).drew.alloc .refl _).drew)<|o.mono<|by simp
 have gc:=cG l e1 t;have gr:=cG l S E;have gf:=(l.frozen (p:=⟨b,0,ξ⟩) t).trans ef;refine hK _ _ ⟨⟨gr,gc⟩,?_⟩;clear hK K;obtain⟨p1,T,Q⟩:=HA.out w4 _ l<|hoc.less (by have:=f.size;simp;omega);have HP:=U<|R p1<|R T Q;have o:¬b=w:=λe=>(s.out.2.2.1.ne<|.inr rfl) e.symm;have y4:=(l.block w (by have:=f.size;omega)).trans<|(f.block w hsz).trans HY2.out;have HY4:=U y4;have z0:(w4.setCell b<|.slice gg (r'.g.new.length+1) mg) w.heap.size=V (Ω Ψ 0):=da o (by simp[M,y4]);have z1:(w4.setCell b<|.slice gg (r'.g.new.length+1) mg) (w.heap.size,1)=V (Ω Ψ 0):=da o (by simp[M,y4]);have y5:=(aa (w:=w4) (i:=0) (v:=.slice gg (r'.g.new.length+1) mg)<|Ne.symm o).trans y4;have zf0:=cD (i:=0) y5;have zf1:=cD (i:=1) y5;have zr:(w4.setCell b<|.slice gg (r'.g.new.length+1) mg) N=V (.pointer b):=da hnr gr;have hw1:IntKind.i64.wrap ((r'.g.new.length:Int)+1-1)=(r'.g.new.length:Int):=by rw[show((r'.g.new.length:Int)+1-1)=(r'.g.new.length:Int) by omega];exact wrap_small _ (by omega) (by omega)
 have HY5:=U y5;clear p1 T Q hoc o S e1 ef y4 y5
 go_wp2_with fail
 obtain⟨p1,T,Q⟩:=HP.out;have G:=HY5.out;clear z0 z1 zf0 zf1 zr;generalize (w4.setCell b<|.slice gg (r'.g.new.length+1) mg)=w5 at p1 T Q G⊢;have y6:=aB (aB G 0<|Ω Ψ 3) 1<|Ω Ψ (r'.g.new.length:Int);have D:=(p1.free (w':=(w5.setCell w.heap.size<|Ω Ψ 3).setCell (w.heap.size,1)<|Ω Ψ (r'.g.new.length:Int)) (.inr rfl) G (by decide) λk hk=>cr hk).sub (J':=J) λj z=>.inl z;have hbf:I B w ((w5.setCell w.heap.size<|Ω Ψ 3).setCell (w.heap.size,1)<|Ω Ψ (r'.g.new.length:Int)):=((((O.out.mono hB).trans HB2.out.1).trans T).setCell (p:=⟨w.heap.size,0,ξ⟩) hB _).setCell (p:=⟨w.heap.size,1,ξ⟩) hB _;have hfj:tc J w ((w5.setCell w.heap.size<|Ω Ψ 3).setCell (w.heap.size,1)<|Ω Ψ (r'.g.new.length:Int)):=λj z hl=>(cr (by have:=hJ j z;omega)).trans<|(Q j (.inl z) (by have:=hJ j z;omega)).trans<|(HB2.out.2 j (.inl z)<|Nat.lt_of_lt_of_le hl O.out.size).trans<|O.out.block j hl;generalize (w5.setCell w.heap.size<|Ω Ψ 3).setCell (w.heap.size,1) (Ω Ψ (r'.g.new.length:Int))=w6 at y6 D hbf hfj⊢;refine ε (v:=.agg #[Ω Ψ 3,Ω Ψ (r'.g.new.length:Int)]) (by simp[Z9,results202,go_sem,M,y6]) rfl ⟨rfl,D,hbf,hfj⟩
end
section
variable{J:Nat->Prop}
def fZ{w:χ}{b:Nat}{t v0 v1 v2 v3}(h:w.heap[b]?=V (Θ #[v0,v1,v2,v3] t (0,0))):w b=V v0/\w (b,1)=V v1/\w (b,2)=V v2/\w (b,3)=V v3:=by refine⟨?_,?_,?_,?_⟩<;>simp[M,h]
def Jz(r:Md.RS)(k:Nat):Md.RS:={r with g:={r.g with new:=r.g.new++[(0,ω k (0,0))]}}
def bD.one{w B a b r}(h:bD w B a b r J)(o):bD (w.alloc o) B a b r (λj=>J j\/j=w):=(h.more.below<|af w o).sub (λj c=>c.imp id λe=>by omega)
def JA(w)(B u b a k:Nat)(r r' p q)(hr:bD w B u b r J)(hB:B<=w)(hJ:∀j,J j->j<w)(ht:r.g.roots[a]?=V (p,q))(hrl:r.g.roots.length<=1000)(hm:Roomy r r')(hz:Aj k)(hk:k<=4)(W:r'.g.new.length<=1000)(S:a<r'.g.roots.length):
 Y prog 153 #[.pointer u,.agg #[Ω Ψ 0,a,k,Ω Ψ 0]] w λe w'=>e=.returned (.tuple #[])/\bD w' B u b (Md.el (Jz r' k) a (3,(r'.g.new.length:Int))) J/\I B w w'/\tc J w w':=by
 have HM:=U hm;have HZ:=U hz;have f:=af w<|Θ #[Ω Ψ 0,a,k,Ω Ψ 0] 44;have HR:=U<|hr.one<|Θ #[Ω Ψ 0,a,k,Ω Ψ 0] 44;have F:=U f;clear hr hm hz;have hk0:¬((k:Int)<0):=by omega
 have hk4:¬(4<(k:Int)):=by omega
 go_enter (fU func153 rfl),ntmps153
 go_wp2_with fail
 ((with_reducible refine(cd _ _).mono ?_))
 rintro e w1 ⟨rfl,l⟩;have N:w1.heap[w.heap.size]?=V (Θ #[Ω Ψ 0,a,k,Ω Ψ 0] 44 (0,0)):=by rw[l];exact Δ w _
 rw[<-l]at HR F f;have E:w1.heap.size=w.heap.size+1:=by rw[l];simp
 clear l;obtain⟨c0,c1,c2,c3⟩:=fZ N
 go_wp2_with fail
 refine(sQ _ B u b r a p q HR.out ht<|by omega).mono ?_;rintro e w2 ⟨rfl,c⟩;have H:=(c.block w<|by omega).trans N;have C:=U<|HR.out.below c;have m:=U<|f.trans<|c.mono f.size;have d:w.heap.size<w2:=by have:=c.size;omega
 clear N HR c0 c1 c2 c3 f c F E;obtain⟨c0,c1,c2,c3⟩:=fZ H
 go_wp2_with fail
 rw[show(decide ((k:Int)<0)||decide (4<(k:Int)))=false by simp;omega]
 ((with_reducible refine(cd _ _).mono ?_))
 rintro e w3 ⟨rfl,z⟩;rw[<-z]at C m H c0 c1 c2 c3 d;clear z
 go_wp2_with fail
 have o:∀j,(J j\/j=w) ->j<w3:=by
  intro j i;obtain h|h:=i
  have:=hJ j h;omega;omega
 have hne1:((0:Int)==0)=ζ:=rfl
 go_region_held3 (λx=>x (w.heap.size,1)=V (Ω Ψ (a:Int))/\x (w.heap.size,2)=V (Ω Ψ (k:Int))) ((refine⟨?_,?_⟩<;>(repeat (first|with_reducible assumption|with_reducible refine dO ?_))))
  (first
    |(go_at_call 202;(with_reducible refine(afi _ B u b k r r' (C.out.below (Z _ _).drew) (by simp;omega) (λj i=>by have:=o j i;simpa using this) HM.out HZ.out (by omega) W).mono ?_);rintro e w4 ⟨rfl,v,G,s⟩;have y4:=(s w (.inr rfl) d).trans H;have HR4:=U v;have t:=U G;have A:=U s;obtain⟨d0,d1,d2,d3⟩:=fZ y4;clear v G s y4)
    |(go_at_call 201;(with_reducible refine(afB _ B u b _ a 3 (r'.g.new.length:Int) HR4.out S (by have:=t.out.size;simp at this;omega)).mono ?_);rintro e w5 ⟨rfl,y,D,n⟩;have y5:=(n w (.inr rfl) (az d0)).trans ((A.out w (.inr rfl) d).trans H:_=V (Θ #[Ω Ψ 0,a,k,Ω Ψ 0] 44 (0,0)));have P:=U y;have O:=U D;have X:=U n;obtain⟨g0,g1,g2,g3⟩:=fZ y5;clear y D n y5))
 have Q:=t.out.size;have oX:=m.out.size;have K:=P.out.sub λj i=>.inl i;have L:=(((m.out.mono hB).trans<|(Z B w3).drew).trans t.out).trans O.out;have T:tc J w w5:=λj i W=>(X.out j (.inl i) (by have:=o j<|.inl i;simp at Q;omega)).trans<|(A.out j (.inl i) (by have:=o j<|.inl i;simpa using this)).trans<|m.out.block j W;go_end0;exact⟨rfl,K,L,T⟩
def E'(w B o b n r g' p q)(x:Nat)(P:bD w B o b r J)(hB:B<=w)(T:∀j,J j->j<w)(Q:r.g.roots[x]?=V (p,q))(S:r.g.roots.length<=1000)(N a)(y:Jn r.g N a)(L:im (Md.iF r.g))(i:Md.collect .major r.g=V (n,g'))(X:0<=r.fk/\r.fk<=1000)(E:0<=r.dA/\r.dA<=100000)(W:n<=1000):
 Y prog 153 #[.pointer o,.agg #[Ω Ψ 10,x,Ω Ψ 0,Ω Ψ 0]] w λe w'=>e=.returned (.tuple #[])/\bD w' B o b (Md.counted r .major n g') J/\I B w w'/\tc J w w':=by
 have c:=af w<|Θ #[Ω Ψ 10,x,Ω Ψ 0,Ω Ψ 0] 44;have HR:=U<|P.below c;have v:=U c;have G:=U<|R y<|R L i;clear P y L i
 go_enter (fU func153 rfl),ntmps153
 go_wp2_with fail
 ((with_reducible refine(cd _ _).mono ?_))
 rintro e K ⟨rfl,f⟩;have C:K.heap[w.heap.size]?=V (Θ #[Ω Ψ 10,x,Ω Ψ 0,Ω Ψ 0] 44 (0,0)):=by rw[f];exact Δ w _
 rw[<-f]at HR v c;have u:K.heap.size=w.heap.size+1:=by rw[f];simp
 clear f;obtain⟨c0,c1,c2,c3⟩:=fZ C
 go_wp2_with fail
 refine(sQ _ B o b r x p q HR.out Q<|by omega).mono ?_;rintro e w2 ⟨rfl,h⟩;have y2:=(h.block w<|by omega).trans C;have D:=U<|HR.out.below h;have d:=U<|c.trans<|h.mono c.size;clear C HR c0 c1 c2 c3 c h v u;obtain⟨c0,c1,c2,c3⟩:=fZ y2
 go_wp2_with fail
 refine(wN _ B o b n r g' (λj H=>by have:=T j H;have:=d.out.size;omega) N a G.out.1 G.out.2.1 D.out (by have:=d.out.size;omega) G.out.2.2 X E W).mono ?_;rintro e w3 ⟨rfl,z,A,l⟩;have s:=U z;have m:=U A;have t:=U l;clear z A l
 go_wp2_with fail
 ((with_reducible refine(cd _ _).mono ?_))
 rintro e w4 ⟨rfl,k⟩;rw[<-k]at s m t;clear k
 go_wp2_with fail
 have F:tc J w w4:=λj H O=>(t.out j H<|Nat.lt_of_lt_of_le O d.out.size).trans<|d.out.block j O;go_end0;exact⟨rfl,s.out,(d.out.mono hB).trans m.out,F⟩
end
section
variable{B i:Nat}(w:χ){vs:List HV}{k:Int}{J:Nat->Prop}
def RC.at_{w v row kind cs}(h:RC w B v (cellsOf row kind cs))(f:OV w B (row (kind,(i:Int))) vs)(e:cs[i]?=V (k,vs)):
 ∃d m a b,v=.slice (d:Nat) cs.length m/\w ((d:Nat),i*2)=V (Ω Ψ k)/\row (kind,(i:Int))=.slice a vs.length b/\w ((d:Nat),i*2+1)=V (.slice a vs.length b):=by
 have hi:=(Γ.1 e).1;obtain⟨g,m,rfl,_,l,_,_,j⟩:=h.cells (by rw[aT];omega);obtain⟨e1,e2⟩:=jx dW (λv=>Ω Ψ v.1) (λv=>v.2) (λ_=>rfl) _ i _<|bH (kind:=kind) e;obtain⟨a,b,c,_⟩:=aF f;refine⟨g,m,a,b,by rw[aT],j _ _ e1,c,?_⟩
 grind
def dm.WM{w b g}(h:dm w B b g)(e:g.new[i]?=V (k,vs)):
 ∃c m a d,w b=V (.slice (c:Nat) g.new.length m)/\w ((c:Nat),i*2)=V (Ω Ψ k)/\w ((c:Nat),i*2+1)=V (.slice a vs.length d):=by
 obtain⟨n,o,m,row,r,hb,l,q,h3,h4⟩:=h;obtain⟨f,j⟩:=J8 e;have:=h4.1 _ f;rw[j]at this;obtain⟨c,p,a,d,rfl,r1,_,r2⟩:=l.at_ this e;exact⟨c,p,a,d,by simp[M,hb],r1,r2⟩
def dm.JB{w b g}(h:dm w B b g)(e:g.old[i]?=V (k,vs)):
 ∃c m a d,w (b,1)=V (.slice (c:Nat) g.old.length m)/\w ((c:Nat),i*2)=V (Ω Ψ k)/\w ((c:Nat),i*2+1)=V (.slice a vs.length d):=by
 obtain⟨n,o,m,row,r,hb,q,l,h3,h4⟩:=h;obtain⟨f,j⟩:=B1 e;have:=h4.1 _ f;rw[j]at this;obtain⟨c,p,a,d,rfl,r1,_,r2⟩:=l.at_ this e;exact⟨c,p,a,d,by simp[M,hb],r1,r2⟩
def aai{K:Int}{s}(h:K=3/\s=0\/K=4/\s=1)(w)(b a len m k:Nat)(hc:w (b,s)=V (.slice a len m))(d:k<len)(c:len<=1000000):
 Y prog 199 #[.pointer b,.agg #[K,k]] w λe w'=>e=.returned (.pointer (a,k*2))/\I w w w':=by
 obtain⟨rfl,rfl⟩|⟨rfl,rfl⟩:=h
 exact zD w b a len m k hc d c;exact ol w b a len m k hc d c
def aaj(B A b i r k)(vs:List HV)(hr:bD w B A b r J)(K:Int)(s)(cs:List HC)(S:K=3/\s=0\/K=4/\s=1)(e:∃f m a L,w (b,s)=V (.slice (f:Nat) cs.length m)/\w ((f:Nat),i*2)=V (Ω Ψ k)/\w ((f:Nat),i*2+1)=V (.slice a vs.length L))(H:i<cs.length)(hk:0<=k/\k<=1000)(hv:vs.length<=1000)(hl:cs.length<=1000):
 Y prog 154 #[.pointer A,.agg #[K,i]] w λe w'=>e=.returned (.agg #[Ω Ψ 1,Ω Ψ<|10*k+vs.length])/\I w w w':=by
 obtain⟨f,m,a,L,c0,c1,c2⟩:=e;obtain⟨p0,_,E⟩:=hr.ptr;have G:=az c0;have n:=az c1;have hw1:IntKind.i64.wrap (10*k)=10*k:=wrap_small _ (by omega) (by omega);have hw2:IntKind.i64.wrap (10*k+(vs.length:Int))=10*k+(vs.length:Int):=wrap_small _ (by omega) (by omega);obtain⟨Q,h,F⟩:=Ju w (Θ #[K,i] 50)<|Θ #[Ω Ψ 0,Ω Ψ 0] 50;have X:((w.alloc<|Θ #[K,i] 50).alloc<|Θ #[Ω Ψ 0,Ω Ψ 0] 50).heap[w.heap.size]?=V (Θ #[K,i] 50 (0,0)):=((af _ _).block _<|by simp).trans<|Δ w _
 go_enter (fU func154 rfl),ntmps154
 go_wp2_with fail
 refine(jX _ K (i:Int) (by obtain⟨rfl,rfl⟩|⟨rfl,rfl⟩:=S<;>rfl)).mono ?_;rintro e o ⟨rfl,d⟩;have z:=d.size;have c:=U<|h.trans<|d.mono h.size;have t:=(d.block w<|by omega).trans X;have x1:=(d.block (w.heap.size+1)<|by omega).trans Q;have u:=cG c.out p0 E;have q1:=cG c.out c0 G;have q:=cG c.out c1 n;have T:=cG c.out c2 n;have C:o w.heap.size=V (Ω Ψ K):=by simp[M,t]
 have O:o (w.heap.size,1)=V (Ω Ψ (i:Int)):=by simp[M,t]
 have D:w.heap.size+1<o:=by omega
 have HX:=U x1;clear X Q h F c0 c1 c2 p0 d t x1 z
 go_wp2_with fail
 go_region_held3 (λx=>x A=V (.pointer b)/\x w.heap.size=V (Ω Ψ K)/\x (w.heap.size,1)=V (Ω Ψ (i:Int))) ((refine⟨?_,?_,?_⟩<;>(repeat (first|with_reducible assumption|with_reducible refine dO ?_))))
  ((go_at_call 199;(with_reducible refine(aai S _ b f cs.length m i (((Z _ _).drew.cell (p:=⟨b,s,ξ⟩)<|az q1).trans q1) H<|by omega).mono ?_);rintro e w4 ⟨rfl,l⟩;have g:I o o w4:=(Z _ _).drew.trans l;have k0:=cG g u<|az u;have k1:=cG g C<|az C;have k2:=cG g O<|az O))
 have k3:=cG g q<|az q;have k4:=cG g T<|az q;have x4:=(g.block (w.heap.size+1) D).trans HX.out;have m0:w4 (w.heap.size+1:Nat)=V (Ω Ψ 0):=by simp[M,x4]
 have m1:w4 (w.heap.size+1,1)=V (Ω Ψ 0):=by simp[M,x4]
 have f0:=cD (i:=0) x4;have f1:=cD (i:=1) x4;have y:¬w.heap.size+1=f:=by omega
 have P:=U x4;have N:=U<|c.out.trans<|g.mono c.out.size;clear x4 g u q1 q T C O k0 k1 k2 l
 go_wp2_with fail
 go_region_held3 (λx=>x ((f:Nat),i*2)=V (Ω Ψ k)/\x ((f:Nat),i*2+1)=V (.slice a vs.length L)) ((refine⟨?_,?_⟩<;>(repeat (first|with_reducible assumption|with_reducible refine dO ?_|with_reducible refine da y ?_)))) (fail)
 go_wp2_with fail
 have W:((w4.setCell (w.heap.size+1:Nat)<|Ω Ψ 1).setCell (w.heap.size+1,1)<|Ω Ψ<|10*k+(vs.length:Int)).drew.heap[w.heap.size+1]?=_:=aB (aB P.out 0<|Ω Ψ 1) 1<|Ω Ψ<|10*k+(vs.length:Int);have j:I w w ((w4.setCell (w.heap.size+1:Nat)<|Ω Ψ 1).setCell (w.heap.size+1,1)<|Ω Ψ<|10*k+(vs.length:Int)).drew:=((N.out.setCell (p:=⟨w.heap.size+1,0,ξ⟩) (by simp)<|Ω Ψ 1).setCell (p:=⟨w.heap.size+1,1,ξ⟩) (by simp)<|Ω Ψ<|10*k+(vs.length:Int)).drew;generalize ((w4.setCell (w.heap.size+1:Nat)<|Ω Ψ 1).setCell (w.heap.size+1,1)<|Ω Ψ<|10*k+(vs.length:Int)).drew=w5 at W j⊢;refine ε (v:=.agg #[Ω Ψ 1,Ω Ψ<|10*k+vs.length]) (by simp[Z9,results154,go_sem,M,W]) rfl ⟨rfl,j⟩
def Fa(B a b i:Nat)(r k vs)(c:bD w B a b r J)(e:r.g.new[i]?=V (k,vs))(d:0<=k/\k<=1000)(f:vs.length<=1000)(h:r.g.new.length<=1000):
 Y prog 154 #[.pointer a,.agg #[Ω Ψ 3,i]] w λe w'=>e=.returned (.agg #[Ω Ψ 1,Ω Ψ<|10*k+vs.length])/\I w w w':=
 aaj w B a b i r k vs c 3 0 r.g.new (.inl ⟨rfl,rfl⟩) (c.2.2.1.own.WM e) (Γ.1 e).1 d f h
def ve(B a b i:Nat)(r k vs)(c:bD w B a b r J)(e:r.g.old[i]?=V (k,vs))(d:0<=k/\k<=1000)(f:vs.length<=1000)(h:r.g.old.length<=1000):
 Y prog 154 #[.pointer a,.agg #[Ω Ψ 4,i]] w λe w'=>e=.returned (.agg #[Ω Ψ 1,Ω Ψ<|10*k+vs.length])/\I w w w':=
 aaj w B a b i r k vs c 4 1 r.g.old (.inr ⟨rfl,rfl⟩) (c.2.2.1.own.JB e) (Γ.1 e).1 d f h
end
def nr{w ty}{B bx:Nat}{v l}{p q:Int}{t fr}(h:OV w B v l)(k:w.heap[bx]?=V (Θ #[p,q] t fr))(x:l.length<=1000000)(o:B<=w):
 ∃c w',(ο #[23,23] ty #[v,.slice bx 1 1]).run prog w=.ok c w'/\(OV w' B c (l++[(p,q)])/\w.grownBy w' v.ownBlock/\∃g r,c=.slice (g:Nat) (l.length+1) r/\(v.ownBlock=V g\/g=w)):=by
 obtain⟨m,hi,d,e,b⟩:=ZT nh;obtain⟨g,n,w',f,y,s,h3,h4⟩:=run_append_lies (P:=prog) w 23 ty B 50 m _ 2 16 lx hi d e b rfl (by decide) v l.length _ h bx 1 1 (lU (p,q)) rfl (λj u a=>by
  match j,a with
  |0,a=>cases a;simp[M,k,φ]
  |1,a=>cases a;simp[M,k,φ]
  |j+2,a=>simp[lU]at a) (λu i=>by
  simp[lU]at i;obtain rfl|rfl:=i<;>rfl) (by omega) (by unfold Z1;omega) (by omega) o _ rfl
 unfold OV
 grind
def bD.grown{w w' B x b r J row}(h:bD w B x b r J)(f:w.grownBy w' row)(y:∀j,row=V j->J j/\∃d,w.heap[j]?=V (.cells d 50 (0,0))):bD w' B x b r J:=by
 obtain⟨A,u,⟨n,o,m,q,D,hb,C,z,t,s,g5⟩,h3⟩:=h;have l:∀{k:Nat} {v:Array μ} {p:TypeId} {i:Nat×Nat},w.heap[k]?=V (.cells v p i) ->p≠50->w'.heap[k]?=w.heap[k]?:=λ{k v p i} a E=>f.block k (Ξ.1 a).1 λe=>by grind
 refine⟨A,(l u<|by decide).trans u,⟨n,o,m,q,D,(l hb<|by decide).trans hb,C.below λg d f=>l f<|by decide,z.below λg d f=>l f<|by decide,aS t λg c=>?_,⟨λk a=>aS (s.1 k a) λg c=>f.block g ((s.1 k a).lt g c).2 λe=>(g5 g (y g e.symm).1).2 k a c,s.2⟩,g5⟩,h3⟩;exact f.block g (t.lt g c).2 λe=>by obtain⟨_,d,hc⟩:=y g e.symm;exact cF t hc (by decide) c
def bD.JC{w}{B k b n:Nat}{r J p q}(h:bD w B k b r J)(f:r.g.roots[n]?=V (p,q)):
 ∃gr m,w (b,2)=V (.slice (gr:Nat) r.g.roots.length m)/\w ((gr:Nat),n*2)=V (Ω Ψ p)/\w ((gr:Nat),n*2+1)=V (Ω Ψ q)/\∀j,J j->j≠gr:=by
 obtain⟨_,_,⟨y,o,m,row,D,hb,C,A,h3,h4,h5⟩,_⟩:=h;have z:=(Γ.1 f).1;have h0:=h4.roots.1;obtain⟨a,u,d,v,t,x⟩:=aF h0;obtain⟨gr,rfl,_,_,c,_⟩:=x (by omega);rw[d]at h0;obtain⟨l,i,_⟩:=h0.at_ f;exact⟨gr,u,by simp[M,hb,d],l,i,λj s e=>(h5 j s).2 (0,0) (.inl ⟨rfl,by decide,by decide⟩) (by rw[d,e];rw[d]at c;exact c)⟩
abbrev C4:=Int×Nat×Int×Int
def c4V(c:C4):μ:=.agg #[Ω Ψ c.1,(c.2.1:Int),Ω Ψ c.2.2.1,Ω Ψ c.2.2.2]
def JD(w:χ)(P:Nat->Prop)(v:μ)(l:List C4):Prop:=∃a m,v=.slice a l.length m/\(0<l.length->∃b o,a=V ⟨b,o,ξ⟩/\P b/\∀i c,l[i]?=V c->w ((b:Nat),o+i*4)=V (Ω Ψ c.1)/\w ((b:Nat),o+i*4+1)=V (Ω Ψ (c.2.1:Int))/\w ((b:Nat),o+i*4+2)=V (Ω Ψ c.2.2.1)/\w ((b:Nat),o+i*4+3)=V (Ω Ψ c.2.2.2))
def Rq(w:χ)(J:Nat->Prop):Prop:=∀j,J j->∀c t fr,w.heap[j]?=V (.cells c t fr) ->t≠3
structure Step(B br b:Nat)(r r':Md.RS)(c:C4)(s:HV):Prop where
 OU:∀w J,bD w B br b r J->B<=w->(∀j,J j->j<w) ->Rq w J->Y prog 153 #[.pointer br,c4V c] w λe w'=>e=.returned (.tuple #[])/\bD w' B br b r' J/\I B w w'/\tc J w w'
 root:∃p q,r'.g.roots[c.2.1]?=V (p,q)/\∀w J,bD w B br b r' J->Y prog 154 #[.pointer br,.agg #[Ω Ψ p,Ω Ψ q]] w λe w'=>e=.returned (.agg #[Ω Ψ s.1,Ω Ψ s.2])/\I w w w'
 wW:r'.g.roots.length<=1000
def afF{l:List C4}{k}(h:k<l.length):∃c,l[k]?=V c:=by simp_all
def JE(w B r b v cs)(G:Nat->Md.RS)(sv){J}(hv:JD w (λj=>j<B\/J j) v cs)(hr:bD w B r b (G 0) J)(hB:B<=w)(hJ:∀j,J j->j<w)(hJ3:Rq w J)(hl:cs.length<=1000)(hsl:sv.length=cs.length)(hst:∀i c s,cs[i]?=V c->sv[i]?=V s->Step B r b (G i) (G<|i+1) c s):
 Y prog 94 #[.pointer r,v] w λe w'=>(∃rv,e=.returned rv/\OV w' B rv sv)/\bD w' B r b (G cs.length) J/\I B w w'/\tc J w w':=by
 obtain⟨la,lm,rfl,P⟩:=hv;have anL:=U P;have HST:=U hst;have HR:=U hr;clear P hst hr
 go_enter (fU func94 rfl),ntmps94
 go_wp2_with fail
 go_loopw [5,10] (λo i wr=>∃(k:Nat),k<=cs.length/\i=Ω Ψ k/\Hid (OV wr w o (sv.take k)/\bD wr B r b (G k) (λj=>J j\/o.ownBlock=V j)/\I B w wr/\tc J w wr)) (λ_ i _=>cs.length-(intOf i).toNat)
 case atStart=>exact⟨0,by omega,rfl,U ⟨OV.nil _ _,HR.out.sub (λj f=>f.elim id λe=>by cases e),Z _ _,λ_ _ _=>rfl⟩⟩
 case round=>
  obtain⟨k,hk,rfl,a⟩:=hrel;by_cases hlt:k<cs.length
  ·obtain⟨lb,lo,rfl,hlb,hat⟩:=anL.out (by omega);obtain⟨⟨c0,c1,c2,c3⟩,hc⟩:=afF hlt;obtain⟨s0,s1,hs⟩:=ep (l:=sv) (k:=k) (by omega);have D:=U<|HST.out k _ _ hc hs;obtain⟨q0,q1,q2,q3⟩:=hat k _ hc;have hbw:=a.out.2.2.1;have N:wr.heap[lb]?=w.heap[lb]?:=by
    obtain h|h:=hlb
    exact hbw.block lb h;exact a.out.2.2.2 lb h<|az q0
   have d:∀o,wr.cell? ⟨lb,o,ξ⟩=w.cell? ⟨lb,o,ξ⟩:=λo=>by simp only[M,N]
   replace q0:=(d _).trans q0;replace q1:=(d _).trans q1;replace q2:=(d _).trans q2;replace q3:=(d _).trans q3;clear N d;dsimp only at q0 q1 q2 q3;have hsw:=hbw.size;have hp5:=(a.out.2.1.ptr).2.1;have hk0:(0:Int)<=(k:Int):=by omega
   have hk1:(k:Int)<(cs.length:Int):=by omega
   have HC:=U hc;clear hat hbw hc
   go_wp2_with fail
   have HDO:=U (show∀(W:χ) (J':Nat->Prop),bD W B r b (G k) J'->B<=W->(∀j,J' j->j<W) ->Rq W J'->Y prog 153 #[.pointer r,.agg #[c0,c1,c2,c3]] W λe w'=>e=.returned (.tuple #[])/\bD w' B r b (G<|k+1) J'/\I B W w'/\tc J' W w' from D.out.OU);have z:=af wr<|Θ #[c0,c1,c2,c3] 44;have F:=a.out.2.1.one<|Θ #[c0,c1,c2,c3] 44;have y1:=Δ wr<|Θ #[c0,c1,c2,c3] 44;have hz1:(wr.alloc<|Θ #[c0,c1,c2,c3] 44).heap.size=wr.heap.size+1:=by simp
   have p5:=cG z hp5<|az hp5;clear q0 q1 q2 q3 hp5;generalize wr.alloc _=w1 at z F y1 hz1 p5⊢;have E:=U<|R z<|R F y1;obtain⟨x0,x1,x2,x3⟩:=fZ y1;have u:=a.out.1;have hJ1:∀j,((J j\/u5.ownBlock=V j)\/j=wr) ->j<w1:=by
    intro j f;obtain(h|h)|h:=f
    have:=hJ j h;omega;have:=(u.lt j h).2;omega;omega
   have HJ1:=U hJ1;have H3:=U (show Rq w1.drew (λj=>(J j\/u5.ownBlock=V j)\/j=wr)fromλj f c t fr hc=>by
    obtain(h|h)|h:=f
    have:=hJ j h;exact hJ3 j h c t fr<|(a.out.2.2.2 j h this).symm.trans<|(z.block j<|by omega).symm.trans hc;obtain⟨cur,anM⟩:=u.block h;have H:=(z.block j (u.lt j h).2).trans anM;have X:=H.symm.trans hc;cases X
    decide
    subst h;have X:=y1.symm.trans hc;cases X
    decide)
   clear z F y1 u hJ1
   go_region_held3 (λx=>x (r,5)=V (.func (.func 153) #[.pointer r] #[])/\x wr.heap.size=V (Ω Ψ c0)/\x (wr.heap.size,1)=V (Ω Ψ (c1:Int))/\x (wr.heap.size,2)=V (Ω Ψ c2)/\x (wr.heap.size,3)=V (Ω Ψ c3)) ((refine⟨?_,?_,?_,?_,?_⟩<;>(repeat (first|with_reducible assumption|with_reducible refine dO ?_))))
    ((go_at_call 153;(with_reducible refine(HDO.out _ _ (E.out.2.1.below (Z _ _).drew) (by simp;omega) (λj f=>by have:=HJ1.out j f;simpa using this) H3.out).mono ?_);rintro e w2 ⟨rfl,Q,hb2,T⟩;have y2:=(T wr (.inr rfl) (by simp;omega)).trans (E.out.2.2:_=V (Θ #[c0,c1,c2,c3] 44 (0,0)));have hp2:=Q.ptr.2.1;obtain⟨x0,x1,x2,x3⟩:=fZ y2;have y:=U Q;have HB2:=U hb2;have HF2:=U T;clear Q hb2 T y2))
   go_wp2_with fail
   obtain⟨p,q,m,K⟩:=D.out.root;dsimp only at m;have hfew:=D.out.wW;have ar7:=(Γ.1 m).1;have anN:=U K;obtain⟨gr,gm,z2,z3,A,hjg⟩:=y.out.JC m;have z1:=y.out.ptr.1;have aiM:=az z1;have anO:=az z2;have L:=az z3;have hbx2:=az x1;have oX:=HB2.out.size;have C:OV w2 w u5 (sv.take k):=aS (a.out.1.below E.out.1) λg hg=>HF2.out g (.inl<|.inr hg) (by have:=HJ1.out g<|.inl<|.inr hg;simpa using this);have HO2:=U C;have n1:V r≠u5.ownBlock:=λe=>by have:=y.out.2.2.2 r<|.inl<|.inr e.symm;exact this rfl
   have n2:V b≠u5.ownBlock:=λe=>by have:=y.out.2.2.1.ne (j:=b)<|.inl<|.inr e.symm;exact this rfl
   have n3:V gr≠u5.ownBlock:=λe=>hjg gr (.inl<|.inr e.symm) rfl;have n4:V wr.heap.size≠u5.ownBlock:=λe=>by have:=(a.out.1.lt _ e.symm).2;omega
   have HN:=U<|R n1<|R n2<|R n3 n4;have hr0:(0:Int)<=(c1:Int):=by omega
   have F:(c1:Int)<((G<|k+1).g.roots.length:Int):=by omega
   clear K m hjg C n1 n2 n3 n4 x0 x2 x3;have HZ:=U<|R z1<|R z2<|R z3<|R A x1
   go_region_held_law (λx=>x r=V (.pointer b)/\x (b,2)=V (.slice gr (G<|k+1).g.roots.length gm)/\x (gr,c1*2)=V (Ω Ψ p)/\x (gr,c1*2+1)=V (Ω Ψ q)/\x (wr.heap.size,1)=V (Ω Ψ (c1:Int)))
    ((refine⟨?_,?_,?_,?_,?_⟩<;>(repeat (first|with_reducible assumption|with_reducible refine dO ?_|with_reducible refine dB ?_))))
    (first
      |(refine aX rfl _ _ 23 (by rfl) u5 (.slice w4.heap.size 1 1) (by rfl) (by rfl) _ (nr (B:=w) (p:=s0) (q:=s1) (l:=sv.take k) (S.out.below<|af w4 _) (Δ w4 _) (by simp;omega) (by simp;omega)) ?_;intro v' w5 h5;obtain⟨Pk,n,gg,mg,rfl,O⟩:=h5;have g1:=(n.cell_far r (by simp;omega) HN.out.1).trans<|dB k1;have g2:=(n.cell_far (b,2) (by simp;omega) HN.out.2.1).trans<|dB k2;have g3:=(n.cell_far (gr,c1*2) (by simp;omega) HN.out.2.2.1).trans<|dB k3;have g4:=(n.cell_far (gr,c1*2+1) (by simp;omega) HN.out.2.2.1).trans<|dB k4;have g5:=(n.cell_far (wr.heap.size,1) (by simp;omega) HN.out.2.2.2).trans<|dB k5)
      |(go_at_call 154;(with_reducible refine(anN.out _ _ (y.out.below (Z _ _).drew)).mono ?_);rintro e w4 ⟨rfl,hb4⟩;have A:I w2 w2 w4:=(Z _ _).drew.trans hb4;have hs4:=A.size;have k1:=cG A HZ.out.1 aiM;have k2:=cG A HZ.out.2.1 anO;have k3:=cG A HZ.out.2.2.1 L;have k4:=cG A HZ.out.2.2.2.1 L;have k5:=cG A HZ.out.2.2.2.2 hbx2;have S:=U (HO2.out.below A)))
   have HF:=U<|R Pk<|R n O;have wB:=U A;clear g1 g2 g3 g4 g5 k1 k2 k3 k4 k5 z1 z2 z3 A x1 Pk n O
   go_wp2_with fail
   go_roundw
   case rel=>
    refine⟨k+1,by omega,by go_num,U ⟨?_,?_,?_,?_⟩⟩;rw[bW hs];have H:=HF.out.1;rw[show(List.take k sv).length=k by simp;omega]at H;exact H;refine(((y.out.below wB.out).more.below<|af w4 _).grown HF.out.2.1 λj f=>⟨.inl<|.inl<|.inr f,(S.out.below<|af w4 _).block f⟩).sub λj f=>?_;obtain f|f:=f
    exact .inl<|.inl<|.inl f;have hgj:gg=j:=by have hj':V gg=V j:=f;exact Option.some.inj hj'
    subst hgj;obtain e|e:=HF.out.2.2
    exact .inl<|.inl<|.inr e;exact .inr (by rw[e];simp);exact((((a.out.2.2.1.trans<|E.out.1.mono<|by omega).trans<|(Z B w1).drew).trans HB2.out).trans<|wB.out.mono (by simp at oX;omega)).trans<|((af w4 _).mono (by simp at oX;omega)).trans<|cM (S.out.below<|af w4 _) HF.out.2.1 (by simp;omega)|>.mono hB
    intro j f hl;have H:V j≠u5.ownBlock:=λe=>by have:=(a.out.1.lt _ e.symm).1;omega
    have X:=HJ1.out j<|.inl<|.inl f;simp at oX;exact(HF.out.2.1.block j (by simp;omega) H).trans<|((af w4 _).block j<|by omega).trans<|(wB.out.block j<|by omega).trans<|(HF2.out j (.inl<|.inl f)<|by simpa using X).trans<|(E.out.1.block j<|by omega).trans<|a.out.2.2.2 j f hl
   case measure=>simp[intOf];omega
  ·have hke:k=cs.length:=by omega
   subst hke
   go_wp2_with fail
   obtain⟨H,X,h3,h4⟩:=a.out;rw[<-hsl,Z0]at H;go_ret;exact⟨⟨_,rfl,H.less hB⟩,X.sub λj f=>.inl f,h3,h4⟩
def JD.below{w w' P f v l}(h:JD w P v l)(g:∀j,P j->f j/\w'.heap[j]?=w.heap[j]?):JD w' f v l:=by obtain⟨a,m,rfl,h⟩:=h;refine⟨a,m,rfl,λh0=>?_⟩;obtain⟨b,o,rfl,hb,d⟩:=h h0;obtain⟨n,k⟩:=g b hb;exact⟨b,o,rfl,n,λi c e=>by simpa only[M,k]using d i c e⟩
def WQ(w v lv g cs)(N:Nat->Md.RS)(sv)(hv:GV w v g)(hk:eC g)(hm:g.marked.length<=1000000)(hz:cN g=0)(hlv:JD w (λj=>j<w) lv cs)(hl:cs.length<=60)(F:sv.length=cs.length)(h0:N 0=⟨g,0,0,0,0⟩)(E:∀B br b (i:Nat) c s,cs[i]?=V c->sv[i]?=V s->Step B br b (N i) (N<|i+1) c s):
 Y prog 43 #[v,lv] w λe w'=>(∃r rv,e=.returned (.tuple #[r,rv,Ω Ψ 0])/\GV w' r (N cs.length).g/\eI w' rv sv)/\I w w w':=by
 have hmf:∀(fn:Fn) (first cap:Array μ) (w:χ),(Instr.makeFunc fn first cap).run prog w=.ok (.func fn first cap) w:=λ_ _ _ _=>rfl;have HV:=U hv;have HK:=U hk;have HS:=U E;have HL:=U hlv;obtain⟨vn,o,r,wi,d,m,rfl,h1,h2,h3,h4,h5,h6⟩:=hv;obtain⟨la,lm,rfl,_⟩:=hlv;clear hk h1 h2 h3 h4 h5 h6 E
 go_enter_defers (fU func43 rfl),ntmps43
 go_wp2_with fail
 obtain⟨y1,y2,p,hz1⟩:=al3 w (Θ #[vn,o,r,wi,d,m] 26) (Θ #[ι ξ 0 0,ι ξ 0 0,ι ξ 0 0,ι ξ 0 0,ι ξ 0 0,ι ξ 0 0] 26)<|Θ #[Ω Ψ 0] 34;have q:=HV.out.below p;generalize ((w.alloc _).alloc _).alloc _=w1 at y1 y2 p hz1 q⊢;have l:=U<|R p<|R y1 y2;refine(RP w1 _ g q HK.out hm hz (J:=λ_=>False) λ_ h=>h.elim).mono ?_;rintro e w2 ⟨⟨br,b,rfl,x⟩,u⟩;have oX:=u.size;have t:=U u;have K:=U x;clear y1 y2 p q u x;have hle:¬(60:Int)<(cs.length:Int):=by omega
 go_wp2_with fail
 rw[show decide ((60:Int)<(cs.length:Int))=false by simp;omega]
 ((with_reducible refine(cd _ _).mono ?_))
 rintro e w3 ⟨rfl,T⟩;rw[<-T]at K t oX;clear T
 go_wp2_with fail
 refine(JE w3 w1 br b _ cs N sv (J:=λ_=>False) (HL.out.below λj A=>⟨.inl<|by omega,(t.out.block j<|by omega).trans<|l.out.1.block j A⟩) (by rw[h0];exact K.out) (by omega) (λj A=>A.elim) (λj A=>A.elim) (by omega) F λi c s e1 e2=>HS.out _ _ _ i c s e1 e2).mono ?_;rintro e w4 ⟨⟨rv,rfl,a⟩,n,hb4,_⟩;have k:=t.out.trans hb4;have x1:=(k.block _<|by omega).trans l.out.2.1;have x2:=(k.block _<|by omega).trans l.out.2.2;have p0:=n.ptr.1;obtain⟨a0,y,O,a1,P,m1,a2,Q,m2,a3,W,S,a4,n4,C,X,D,z,hb,hgv⟩:=n.2.2.1.own.px;have d0:w4 (b:Nat)=V (.slice a0 y O):=by simp[M,hb]
 have d1:w4 ((b:Nat),1)=V (.slice a1 P m1):=by simp[M,hb]
 have d2:w4 ((b:Nat),2)=V (.slice a2 Q m2):=by simp[M,hb]
 have d3:w4 ((b:Nat),3)=V (.slice a3 W S):=by simp[M,hb]
 have d4:w4 ((b:Nat),4)=V (.slice a4 n4 C):=by simp[M,hb]
 have d5:w4 ((b:Nat),5)=V (.slice X D z):=by simp[M,hb]
 obtain⟨g,h⟩:=JJ x1;have g0:=g 0 (by omega);have g1:=g 1 (by omega);have g2:=g 2 (by omega);have g3:=g 3 (by omega);have g4:=g 4 (by omega);have g5:=g 5 (by omega);have h0:=h 0;have h1:=h 1;have h2:=h 2;have h3:=h 3;have h4:=h 4;have h5:=h 5;have e0:=d7 x2;have ef:=cD (i:=0) x2;have HE:=U<|R n<|R k<|R x1<|R x2<|R hgv a;have L:=U a.reads;obtain⟨ra,rm,rfl,_⟩:=aF a;clear n k x1 x2 hb hgv g h hb4 a
 go_wp2_with fail
 rw[show((((((w4.setCell (w.heap.size+1:Nat)<|.slice a0 y O).setCell (w.heap.size+1,1)<|.slice a1 P m1).setCell (w.heap.size+1,2)<|.slice a2 Q m2).setCell (w.heap.size+1,3)<|.slice a3 W S).setCell (w.heap.size+1,4)<|.slice a4 n4 C).setCell (w.heap.size+1,5)<|.slice X D z)=io w4 (w.heap.size+1) (.slice a0 y O) (.slice a1 P m1) (.slice a2 Q m2) (.slice a3 W S) (.slice a4 n4 C) (.slice X D z)from rfl];obtain⟨q1,q2,q3,q4,q5,q6⟩:=HE.out;obtain⟨k1,k2⟩:=afG (H:=w) q1.2.2.1.own q5 q3 q4 (by omega) (by omega);have o1:=L.out.off<|aaO (v0:=.slice a0 y O) (v1:=.slice a1 P m1) (v2:=.slice a2 Q m2) (v3:=.slice a3 W S) (v4:=.slice a4 n4 C) (v5:=.slice X D z) q3;have o2:=o1.below (jF<|((kn (v0:=.slice a0 y O) (v1:=.slice a1 P m1) (v2:=.slice a2 Q m2) (v3:=.slice a3 W S) (v4:=.slice a4 n4 C) (v5:=.slice X D z) q3).2.1 (w.heap.size+1+1)<|by omega).trans q4).2.2;have hs4:w.heap.size<=w4:=by have:=q2.size;omega
 clear d0 d1 d2 d3 d4 d5 g0 g1 g2 g3 g4 g5 h0 h1 h2 h3 h4 h5 e0 ef p0;refine ZW (f:=103) (args:=#[.pointer (w.heap.size+1+1:Nat)]) (by simp) (by simp[go_sem]) ?_;refine(OL (w.heap.size+1+1:Nat) (Ω Ψ 0) _ (d7 k1)<|cD k1).mono ?_;rintro e u' w'' ⟨rfl,rfl,w9,G,rfl⟩;obtain⟨r1,r2,r3,r4⟩:=k2 w9 G;have o3:=o2.below (fz k1 G).2;have hbf:=(l.out.1.trans<|q2.mono<|by omega).trans<|r4 hs4;generalize w9.setCell (w.heap.size+1+1:Nat) (Ω Ψ 0)=w10 at *;obtain⟨z0,z1,z2,z3,z4,z5⟩:=sS r1;have l4:=d7 r2;simp[Leaves,settle,Z9,results43,go_sem,z0,z1,z2,z3,z4,z5,l4];exact⟨⟨_,_,⟨rfl,rfl⟩,r3,by rw[<-F];exact o3⟩,hbf⟩
def WR(w v lv g cs)(k:Nat->Md.RS)(sv:List HV)(hv:GV w v g)(hk:eC g)(hm:g.marked.length<=1000000)(hz:cN g=0)(O:JD w (λj=>j<w) lv cs)(hl:cs.length<=60)(T:sv.length=cs.length)(h0:k 0=⟨g,0,0,0,0⟩)(H:∀B n b (i:Nat) c s,cs[i]?=V c->sv[i]?=V s->Step B n b (k i) (k<|i+1) c s):
 Y prog 45 #[v,lv] w λe w'=>e=.returned (.tuple #[Ω Ψ (k cs.length).minors,Ω Ψ (k cs.length).uJ,Ω Ψ (k cs.length).fk,Ω Ψ (k cs.length).dA,Ω Ψ 0])/\I w w w':=by
 have hmf:∀(fn:Fn) (first cap:Array μ) (w:χ),(Instr.makeFunc fn first cap).run prog w=.ok (.func fn first cap) w:=λ_ _ _ _=>rfl;have HV:=U hv;have HK:=U hk;have HS:=U H;have HL:=U O;obtain⟨vn,o,r,wi,d,m,rfl,h1,h2,h3,h4,h5,h6⟩:=hv;obtain⟨la,lm,rfl,_⟩:=O;clear hk h1 h2 h3 h4 h5 h6 H
 go_enter_defers (fU func45 rfl),ntmps45
 go_wp2_with fail
 obtain⟨S,l,hz1⟩:=Ju w (Θ #[vn,o,r,wi,d,m] 26)<|Θ #[Ω Ψ 0] 34;have p:=HV.out.below l;generalize (w.alloc _).alloc _=w1 at S l hz1 p⊢;have y:=U<|R l S;refine(RP w1 _ g p HK.out hm hz (J:=λ_=>False) λ_ h=>h.elim).mono ?_;rintro e w2 ⟨⟨n,b,rfl,F⟩,A⟩;have oX:=A.size;have z:=U A;have K:=U F;clear S l p A F
 go_wp2_with fail
 rw[show decide ((60:Int)<(cs.length:Int))=false by simp;omega]
 ((with_reducible refine(cd _ _).mono ?_))
 rintro e w3 ⟨rfl,G⟩;rw[<-G]at K z oX;clear G
 go_wp2_with fail
 refine(JE w3 w1 n b _ cs k sv (J:=λ_=>False) (HL.out.below λj L=>⟨.inl<|by omega,(z.out.block j<|by omega).trans<|y.out.1.block j L⟩) (by rw[h0];exact K.out) (by omega) (λj L=>L.elim) (λj L=>L.elim) (by omega) T λi c s e1 e2=>HS.out _ _ _ i c s e1 e2).mono ?_;rintro e w4 ⟨⟨rv,rfl,E⟩,D,N,_⟩;have u:=z.out.trans N;have P:=(u.block _<|by omega).trans y.out.2;obtain⟨p0,p1,p2,p3,p4,_,hbr⟩:=D.all;obtain⟨ra,rm,rfl,_⟩:=aF E;have e0:=d7 P;have ef:=cD (i:=0) P;have hnb:¬w.heap.size+1=n:=by omega
 have HE:=U<|R u P;obtain⟨q,W⟩:∃q,q=k cs.length:=⟨_,rfl⟩;rw[<-W]at p1 p2 p3 p4;have C:=W.symm;clear D u P N E W;replace C:=U C
 go_wp2_with fail
 go_region_held3 (λx=>x ((n:Nat),1)=V (Ω Ψ q.minors)/\x ((n:Nat),2)=V (Ω Ψ q.uJ)/\x ((n:Nat),3)=V (Ω Ψ q.fk)/\x ((n:Nat),4)=V (Ω Ψ q.dA)) ((refine⟨?_,?_,?_,?_⟩<;>(repeat (first|with_reducible assumption|with_reducible refine dO ?_|with_reducible refine da hnb ?_)))) (fail)
 go_wp2_with fail
 obtain⟨s0,_,s2⟩:=jF HE.out.2;have t:=s2.drew;have a:(w4.setCell (w.heap.size+1:Nat)<|Ω Ψ 0).drew.heap[w.heap.size+1]?=V (Θ #[Ω Ψ 0] 34 (0,0)):=s0;clear s0 s2;generalize (w4.setCell (w.heap.size+1:Nat)<|Ω Ψ 0).drew=w5 at a t⊢;refine ZW (f:=105) (args:=#[.pointer (w.heap.size+1:Nat)]) (by simp) (by simp[go_sem]) ?_;refine(ON (w.heap.size+1:Nat) (Ω Ψ 0) _ (d7 a)<|cD a).mono ?_;rintro e u' w'' ⟨rfl,rfl,w9,X,rfl⟩;obtain⟨t1,t2⟩:=fz a X;have l4:=d7 t1;have Q:I w w (w9.setCell (w.heap.size+1:Nat)<|Ω Ψ 0):=(y.out.1.trans<|HE.out.1.mono<|by omega).trans<|(t.trans<|t2.mono t.size).mono (by have:=HE.out.1.size;omega);simp[Leaves,settle,Z9,results45,go_sem,l4,C.out];exact Q
def ko(order:List HV)(stay n:Nat):HV:=if order.contains ((3,(n:Int)):HV)then(4,(stay:Int)+(order.idxOf ((3,(n:Int)):HV):Nat))else(2,0)
def sU{f:Nat->HV}(k):(ψ<|k+1).map f=(ψ k).map f++[f k]:=by rw[ZV,ZU];rfl
def O0(w v g order)(hv:GV w v g)(hk:eC g)(hm:g.marked.length<=1000000)(hz:cN g=0)(hp:im g)(ho:order=bV g dy (ka g))(hl:¬32<g.old.length+order.length):
 Y prog 24 #[v] w λe w'=>(∃r,e=.returned (.tuple #[r,Ω Ψ 0])/\eI w' r ((ψ g.new.length).map<|ko order g.old.length))/\I w w w':=by
 have hmf:∀(fn:Fn) (first cap:Array μ) (w:χ),(Instr.makeFunc fn first cap).run prog w=.ok (.func fn first cap) w:=λ_ _ _ _=>rfl;have HVV:=U hv;have HK:=U hk;have HP:=U hp;obtain⟨vn,o,r,wi,d,m,rfl,D,h2,h3,h4,h5,h6⟩:=hv;clear hk D h2 h3 h4 h5 h6 hp
 go_enter_defers (fU func24 rfl),ntmps24
 go_wp2_with fail
 obtain⟨y1,s,hz1⟩:=Ju w (Θ #[vn,o,r,wi,d,m] 26)<|Θ #[Ω Ψ 0] 34;refine(sw _ _ g (HVV.out.below s) HK.out hz hm).mono ?_;rintro e w2 ⟨⟨b,rfl,S⟩,C⟩;have y2:=(C.block (w.heap.size+1)<|by omega).trans y1;have J:=s.trans<|C.mono s.size;have L:=U S;have j:=U<|R J y2;clear s C S y1 y2 J
 go_wp2_with fail
 refine(qe _ _ b g L.out HP.out).mono ?_;rintro e w3 ⟨⟨bs,bm,so,rfl,hs⟩,l⟩;rw[<-ho]at hs;have HS:=U hs;have h:=U<|R (j.out.1.trans<|l.mono j.out.1.size)<|(l.block _ (Ξ.1 j.out.2).1).trans j.out.2;have T:=U<|L.out.below l;obtain⟨as0,ms0,N,_,_,_⟩:=aF hs.2.2.2.1;have c0:w3 bs=V (.slice as0 order.length ms0):=by simp[M,hs.2.2.1,N]
 have hgd:¬(32:Int)<(g.old.length:Int)+(order.length:Int):=by omega
 have hol:=HK.out.bw;have hnl:=HK.out.news;have hw1:IntKind.i64.wrap ((g.old.length:Int)+(order.length:Int))=(g.old.length:Int)+(order.length:Int):=wrap_small _ (by omega) (by omega);clear hs l ho N
 go_wp2_with fail
 rw[show decide ((32:Int)<(g.old.length:Int)+(order.length:Int))=false by simp;omega]
 ((with_reducible refine(cd _ _).mono ?_))
 rintro e w4 ⟨rfl,G⟩;rw[<-G]at HS h T c0;clear G;obtain⟨n,oo,mm,row,hBb,O,⟨ao,mo,eo,_⟩,_⟩:=T.out;rw[aT]at eo;have d0:w4 b=V (.slice ao g.new.length mo):=by rw[<-eo];simp[M,O]
 clear eo hBb O
 go_wp2_with fail
 go_loopw [2,34] (λo i wr=>∃(k:Nat),k<=g.new.length/\i=Ω Ψ k/\Hid (OV wr w4 o ((ψ k).map<|ko order g.old.length)/\I w4 w4 wr)) (λ_ i _=>g.new.length-(intOf i).toNat)
 case atStart=>exact⟨0,by omega,rfl,U ⟨OV.nil _ _,Z _ _⟩⟩
 case round=>
  obtain⟨k,hk,rfl,a⟩:=hrel;by_cases hlt:k<g.new.length
  ·have hsr:=a.out.2.size;have H:=HS.out.Q4;have hbs:wr (bs,1)=V (.map<|V bm):=by have:=(a.out.2.block bs H.1).trans HS.out.2.2.1;simp[M,this]
   have c:=fP (3,(k:Int))<|HS.out.2.2.2.2.of_block<|a.out.2.block bm H.2;unfold eB at c;dsimp only at c;by_cases y:((3,(k:Int)):HV)∈order
   ·simp only[y,if_true,decide_true]at c;have hid:=List.idxOf_lt_length_of_mem y;have P:ko order g.old.length k=(4,(g.old.length:Int)+(order.idxOf ((3,(k:Int)):HV):Nat)):=by simp[ko,y]
    have W:=U P;clear P y;generalize order.idxOf ((3,(k:Int)):HV)=ix at c hid W;have hw2:IntKind.i64.wrap ((g.old.length:Int)+(ix:Int))=(g.old.length:Int)+(ix:Int):=wrap_small _ (by omega) (by omega)
    go_wp2_with (refine Z8 λK Q=>aX rfl (.tmp 53) (.tmp 58) 23 (by rfl) u2 (.slice wr.heap.size 1 1) (by rfl) (by rfl) _ (nr (B:=w4) (p:=4) (q:=(g.old.length:Int)+(ix:Int)) (a.out.1.below<|af wr _) (Δ wr _) (by simp;omega) (by simp;omega)) ?_;intro v' w5 h5;obtain⟨x,E,gg,mg,rfl,_⟩:=h5;refine Q _ _ ?_;clear Q K)
    have u:I w4 w4 w5:=(a.out.2.trans<|(af wr _).mono a.out.2.size).trans<|(cM (a.out.1.below<|af wr _) E (by have:=a.out.2.size;simp;omega))
    go_roundw
    case rel=>refine⟨k+1,by omega,by go_num,U ⟨?_,u⟩⟩;rw[sU,show ko order g.old.length k=(4,(g.old.length:Int)+(ix:Int))from W.out];have D:=x;simp only[η,κ]at D;exact D
    case measure=>simp[intOf];omega
   ·simp only[y,if_false,decide_false]at c;have W:=U (show ko order g.old.length k=(2,0) by simp[ko,y]);clear y
    go_wp2_with (refine Z8 λK Q=>aX rfl (.tmp 49) (.tmp 51) 23 (by rfl) u2 (.slice wr.heap.size 1 1) (by rfl) (by rfl) _ (nr (B:=w4) (p:=2) (q:=0) (a.out.1.below<|af wr _) (Δ wr _) (by simp;omega) (by simp;omega)) ?_;intro v' w5 h5;obtain⟨x,E,gg,mg,rfl,_⟩:=h5;refine Q _ _ ?_;clear Q K)
    have u:I w4 w4 w5:=(a.out.2.trans<|(af wr _).mono a.out.2.size).trans<|(cM (a.out.1.below<|af wr _) E (by have:=a.out.2.size;simp;omega))
    go_roundw
    case rel=>refine⟨k+1,by omega,by go_num,U ⟨?_,u⟩⟩;rw[sU,show ko order g.old.length k=(2,0)from W.out];have D:=x;simp only[η,κ]at D;exact D
    case measure=>simp[intOf];omega
  ·have hke:k=g.new.length:=by omega
   subst hke;clear hlt;have y5:=(a.out.2.block (w.heap.size+1) (Ξ.1 h.out.2).1).trans h.out.2;have e0:=d7 y5;have ef:=cD (i:=0) y5;have HY:=U y5;have hsl:w.heap.size<=w4:=h.out.1.size;clear y5
   go_wp2_with fail
   obtain⟨X,_,s2⟩:=jF HY.out;have t:=a.out.1.reads.below s2;have z:=((h.out.1.trans<|a.out.2.mono hsl)).trans<|s2.mono (by have:=a.out.2.size;omega);generalize wr.setCell (w.heap.size+1:Nat) (Ω Ψ 0)=w5 at X s2 t z⊢;refine ZW (f:=80) (args:=#[.pointer (w.heap.size+1:Nat)]) (by simp) (by simp[go_sem]) ?_;refine(WI (w.heap.size+1:Nat) (Ω Ψ 0) _ (d7 X)<|cD X).mono ?_;rintro e u' w'' ⟨rfl,rfl,w9,BP,rfl⟩;obtain⟨t1,t2⟩:=fz X BP;have l4:=d7 t1;have A:=t.below t2;have F:=z.trans<|t2.mono z.size;simp[Leaves,settle,Z9,results24,go_sem,l4];exact⟨A,F⟩
def sV(m:List Int):GH:=⟨[(0,[(3,2)]),(0,[(0,5)]),(0,[(4,1)]),(1,[(3,1)])],[(0,[(3,3)]),(0,[]),(0,[(3,1)])],[(3,0),(4,1),(0,7),(2,0)],[],[],m⟩
def ee:GH:=sV [0,2]
def cB:eC ee where
 cells:=by decide
 news:=by decide
 bw:=by decide
 four:=by decide
 roots:=by decide
 aA:=⟨by decide,λi v h=>by cases h⟩
 done:=⟨by decide,λi v h=>by cases h⟩
def KA:cN ee=0/\cN (sV [2])=11/\cN (sV [2,0])=14/\cN (sV [0,3])=9:=by decide
def JM(g:GH):Bool:=(g.new++g.old).all (λc=>c.2.all λv=>mh g v==0)&&(cJ g).all λv=>mh g v==0
def wS{g:GH}(h:JM g=ζ)(i:g.new.length<=8)(e:g.old.length<=32)(f:g.roots.length<=4)(hw:g.aA.length<=40)(hd:g.done.length<=40)(a:∀c∈g.new++g.old,c.2.length<=4)(b:∀n∈g.marked,0<=n/\n<g.old.length)(d:g.marked.length<=32):im g where
 cells:=λc hc v a=>by unfold JM at h;simp only[ZY,ZX,beq_iff_eq]at h;exact pY<|h.1 c hc v a
 cJ:=λv a=>by unfold JM at h;simp only[ZY,ZX,beq_iff_eq]at h;exact pY<|h.2 v a
 news:=by omega
 bw:=by omega
 roots:=by omega
 aA:=by omega
 done:=by omega
 eT:=λc hc=>by have:=a c hc;omega
 marks:=b
 marked:=by omega
def sW:im ee:=wS rfl (by decide) (by decide) (by decide) (by decide) (by decide) (by decide) (by decide) (by decide)
def sX:GH:=⟨[],[(0,[(4,4)]),(0,[]),(0,[(4,5)]),(0,[(4,6)]),(1,[(4,5)]),(0,[(0,5)]),(0,[(4,1)])],[(4,3),(4,1),(0,7),(2,0)],[],[],[]⟩
def Al:GH:=⟨[],[(0,[(4,2)]),(0,[]),(0,[(4,1)])],[(4,0),(4,1),(0,7),(2,0)],[],[],[]⟩
def aak:List HV:=[(3,0),(3,3),(3,1),(3,2)]
def JN:Md.collect .full ee=V (3,Al):=by kernel_rfl
def Fg:aak=bV ee dy (ka ee):=by kernel_rfl
def d9:PH:=⟨[(0,[(1,6)]),(0,[]),(0,[(1,4)]),(0,[(1,5)]),(0,[(0,5)]),(0,[(1,1)]),(1,[(1,4)])],[(1,3),(1,1),(0,7),(2,0)],[],[]⟩
def mS(r:Md.RS):Md.RS:=Md.el (Jz r 1) 2 (3,(r.g.new.length:Int))
def r0:Md.RS:=⟨ee,0,0,0,0⟩
def r4:Md.RS:=mS<|mS<|mS<|mS r0
def Ca:GH:=⟨[],[(0,[(4,5)]),(0,[]),(0,[(4,6)]),(0,[(4,7)]),(0,[(0,0)]),(1,[(4,6)]),(0,[(0,5)]),(0,[(4,1)])],[(4,3),(4,1),(4,4),(2,0)],[],[],[]⟩
def JP:Md.collect .minor r4.g=V (5,Ca):=by kernel_rfl
def r4':Md.RS:=⟨Ca,1,0,0,5⟩
def r5:Md.RS:=mS r4'
def g5:GH:=⟨[(0,[(0,0)])],[(0,[(4,5)]),(0,[]),(0,[(4,6)]),(0,[(4,7)]),(0,[(0,0)]),(1,[(4,6)]),(0,[(0,5)]),(0,[(4,1)])],[(4,3),(4,1),(3,0),(2,0)],[],[],[]⟩
def Q':r5=⟨g5,1,0,0,5⟩:=by kernel_rfl
def JQ:GH:=⟨[(0,[(0,0)])],[(3,[]),(0,[]),(3,[]),(0,[(4,7)]),(3,[]),(3,[]),(3,[]),(0,[(4,1)])],[(4,3),(4,1),(3,0),(2,0)],[],[],[]⟩
def JR:Md.iF g5=JQ:=by kernel_rfl
def Cb:GH:=⟨[],[(0,[(4,3)]),(0,[]),(0,[(0,0)]),(0,[(4,1)])],[(4,0),(4,1),(4,2),(2,0)],[],[],[]⟩
def JS:Md.collect .major g5=V (4,Cb):=by kernel_rfl
def ns:PH:=⟨[(0,[(1,5)]),(0,[]),(0,[(1,6)]),(0,[(1,7)]),(0,[(0,0)]),(1,[(1,6)]),(0,[(0,5)]),(0,[(1,1)]),(0,[(0,0)])],[(1,3),(1,1),(1,8),(2,0)],[],[]⟩
def Am:plain g5=ns:=by kernel_rfl
def agc:im r4.g:=wS rfl (by decide) (by decide) (by decide) (by decide) (by decide) (by decide) (by decide) (by decide)
def O2:im JQ:=wS rfl (by decide) (by decide) (by decide) (by decide) (by decide) (by decide) (by decide) (by decide)
def anW:List HC:=qv ns.cells ns.roots 12 1
def agi:lZ ns 12 1 where
 fin:=by decide+kernel
 refs:=by decide+kernel
 short:=by decide+kernel
 grow:=by decide+kernel
 stop:=by decide+kernel
 sM:=by decide+kernel
 pos:=by decide+kernel
 Wu:=by decide+kernel
 kinds:=by decide+kernel
 wW:=by decide+kernel
def O4:lZ ⟨anW,ns.roots,[],[]⟩ 12 1 where
 fin:=by decide+kernel
 refs:=by decide+kernel
 short:=by decide+kernel
 grow:=by decide+kernel
 stop:=by decide+kernel
 sM:=by decide+kernel
 pos:=by decide+kernel
 Wu:=by decide+kernel
 kinds:=by decide+kernel
 wW:=by decide+kernel
def afI:wK ns.cells ns.roots 12 1:=⟨agi,O4,by decide+kernel,by decide+kernel,by decide+kernel⟩
def sw5:Jn g5 12 1 where
 small:=⟨by unfold Sm;decide,by unfold Sm;decide,by unfold Sm;decide,by unfold Sm;decide,by decide,by decide⟩
 ir:=by exact⟨by decide+kernel,by decide+kernel,by decide,by decide,by decide+kernel,rfl,rfl⟩
 afA:=by rw[Am];exact afI
 Ct:=by kernel_rfl
 res:=by exact⟨by unfold Sm;decide,by decide,by unfold Sm;decide,by unfold Sm;decide,by unfold Sm;decide⟩
section
variable{br:Nat}{r:Md.RS}{b B:Nat}
def py{r':Md.RS}{k:Nat}{p q:Int}(m:r.g.roots[2]?=V (p,q))(e:r.g.roots.length<=1000)(f:Roomy r r')(hz:Aj k)(i:k<=4)(n:r'.g.new.length<=900)(a:2<r'.g.roots.length)(c:r'.g.roots.length<=1000):
 Step B br b r (Md.el (Jz r' k) 2 (3,(r'.g.new.length:Int))) (0,2,(k:Int),0) (1,(k:Int)) where
 OU:=λw J d j l _=>JA w B br b 2 k r r' p q d j l m e f hz i (by omega) a
 root:=by
  refine⟨3,(r'.g.new.length:Int),?_,λw J d=>?_⟩;show(r'.g.roots.set 2 (3,(r'.g.new.length:Int)))[2]?=_;rw[List.getElem?_set_self a];have h:=Fa w B br b r'.g.new.length _ 0 (ω k (0,0)) d (by
   show(r'.g.new++[(0,ω k (0,0))])[r'.g.new.length]?=_;simp) (by omega) (by simp;omega) (by
   show(r'.g.new++[(0,ω k (0,0))]).length<=_;simp;omega)
  simpa using h
 wW:=by show(r'.g.roots.set 2 (3,(r'.g.new.length:Int))).length<=_;simpa using c
def An(h:r.g.new.length<8):Roomy r r:=.inl ⟨h,rfl⟩
def JT:Roomy r4 r4':=.inr ⟨by decide,by decide,agc,5,Ca,JP,rfl,by decide,by decide,by decide⟩
def qQ{p q}(h:r.g.new.length<8)(d:r.g.roots[2]?=V (p,q))(a:r.g.roots.length<=1000)(c:2<r.g.roots.length):Step B br b r (mS r) (0,2,1,0) (1,1):=py d a (An h) Jy (by omega) (by omega) c a
def WS:Step B br b r4 r5 (0,2,1,0) (1,1):=py (r':=r4') rfl (by decide) JT Jy (by omega) (by decide) (by decide) (by decide)
def r6:Md.RS:=⟨Cb,1,0,1,9⟩
def Cc:Step B br b r5 r6 (10,0,0,0) (1,1) where
 OU:=λw J a c d _=>by rw[Q']at a;exact E' w B br b 4 _ Cb 4 3 0 a c d rfl (by decide) 12 1 sw5 (by rw[JR];exact O2) JS (by decide) (by decide) (by decide)
 root:=⟨4,0,by decide,λw J a=>by simpa using (ve w B br b 0 _ 0 [(4,3)] a rfl (by decide) (by decide) (by decide))⟩
 wW:=by decide
def rsM:Nat->Md.RS
 |0=>r0|1=>mS r0|2=>mS (mS r0)|3=>mS (mS<|mS r0)|4=>r4|_=>r5
def WU:List C4:=[(0,2,1,0),(0,2,1,0),(0,2,1,0),(0,2,1,0),(0,2,1,0)]
def Fi:List HV:=[(1,1),(1,1),(1,1),(1,1),(1,1),(1,1)]
def aal{c}(h:∀B e b,Step B e b r5 r c (1,1))(B e b i f s)(d:(WU++[c])[i]?=V f)(a:Fi[i]?=V s):Step B e b (if i<6 then rsM i else r) (if i+1<6 then rsM (i+1)else r) f s:=by
 match i,d,a with
 |0,d,a=>cases d;cases a;exact qQ (r:=r0) (p:=0) (q:=7) (by decide) rfl (by decide) (by decide)
 |1,d,a=>cases d;cases a;exact qQ (r:=mS r0) (p:=3) (q:=4) (by decide) (by decide) (by decide) (by decide)
 |2,d,a=>cases d;cases a;exact qQ (r:=mS<|mS r0) (p:=3) (q:=5) (by decide) (by decide) (by decide) (by decide)
 |3,d,a=>cases d;cases a;exact qQ (r:=mS<|mS<|mS r0) (p:=3) (q:=6) (by decide) (by decide) (by decide) (by decide)
 |4,d,a=>cases d;cases a;exact WS
 |5,d,a=>cases d;cases a;exact h B e b
 |n+6,d,a=>simp[Fi]at a
end
section
variable{v:μ}(w:χ)
def wT{w:χ}{e size n xs a}(c:a.toList=xs)(b:xs.length=n*size)(d:n<=1000000):(w.alloc<|.cells a e).ownsRow w e size (.slice w.heap.size n n) n xs:=by
 have hs:a.size=n*size:=by rw[<-b,<-c];simp
 exact⟨b,.inr ⟨w.heap.size,n,a,rfl,.refl,Δ _ _,.refl,by unfold Z1;omega,hs,by rw[c,<-b,Z0]⟩⟩
def Cd(l a n)(b:l.length=n)(c:a.toList=l.flatMap lU)(d:n<=1000):OV (w.alloc<|.cells a 50) w (.slice w.heap.size n n) l:=by subst b;exact wT c (fx l) (by omega)
def JV(l b n)(e:l.length=n)(c:b.toList=l.flatMap eP)(f:n<=1000):OI (w.alloc<|.cells b 3) w (.slice w.heap.size n n) l:=by
 subst e;exact wT c (by rw[<-c];rw[c];clear c;induction l with
  |nil=>rfl
  |cons a l d=>simp at d⊢;rw[d (by grind)];simp[eP];omega) (by omega)
def WV(l a n)(b:l.length=n)(c:a.toList=l.flatMap dW)(d:n<=1000):OC (w.alloc<|.cells a 76) w (.slice w.heap.size n n) l:=by subst b;exact wT c (iu l) (by omega)
def aY.nil:aY w [] []:=⟨rfl,λi k v a b e=>by simp at e⟩
def aY.cons{w k vs l cs}(h:eI w v vs)(b:aY w l cs):aY w ((k,v)::l) ((k,vs)::cs):=by
 refine⟨by simp[b.1],λi c v1 d a e1 e2=>?_⟩;cases i with
 |zero=>grind
 |succ i=>exact b.2 i c v1 d a (by grind) (by grind)
def isn:n9 w () []:=(OI.nil w 0).reads
def csn:sa w () []:=⟨ξ,0,rfl,.refl,by omega,λh=>absurd h<|Nat.lt_irrefl 0⟩
def mK(n:Int):Y prog 56 #[n] w λe w'=>e=.returned (.agg #[Ω Ψ 0,n])/\I w w w':=aeR w n
def adz(n:Int):Y prog 61 #[n] w λe w'=>e=.returned (.agg #[Ω Ψ 3,n])/\I w w w':=NV w n
def eF(n:Int):Y prog 59 #[n] w λe w'=>e=.returned (.agg #[Ω Ψ 4,n])/\I w w w':=aeS w n
def sY:Y prog 58 #[] w λe w'=>e=.returned (.agg #[Ω Ψ 2,Ω Ψ 0])/\I w w w':=V0 w
def dd(a n m):Y prog 55 #[.slice a n m] w λe w'=>e=.returned (.agg #[Ω Ψ 0,.slice a n m])/\I w w w':=aeT w _ a n m rfl
def DH(p q:Int):Y prog 57 #[.agg #[p,q]] w λe w'=>(∃b,e=.returned (.agg #[Ω Ψ 1,.slice (b:Nat) 1 1])/\eI w' (.slice (b:Nat) 1 1) [(p,q)])/\I w w w':=by
 go_enter (fU func57 rfl),ntmps57
 go_wp2_with fail
 have h:=Cd ((w.alloc<|Θ #[p,q] 50).alloc<|Θ #[Ω Ψ 1,.slice (w.heap.size+1+1:Nat) 1 1] 76) [(p,q)] #[p,q] 1 rfl rfl (by omega);obtain⟨a,_,hb,hz⟩:=al3 w (Θ #[p,q] 50) (Θ #[Ω Ψ 1,.slice (w.heap.size+1+1:Nat) 1 1] 76)<|Θ #[p,q] 50;rw[show((w.alloc<|Θ #[p,q] 50).alloc<|Θ #[Ω Ψ 1,.slice (w.heap.size+1+1:Nat) 1 1] 76).heap.size=w.heap.size+1+1 by simp]at h;generalize ((w.alloc _).alloc _).alloc _=c at h a hb hz⊢;refine ε (v:=.agg #[Ω Ψ 1,.slice (w.heap.size+1+1:Nat) 1 1]) (by simp[Z9,results57,go_sem,M,a]) rfl ⟨⟨_,rfl,h.reads⟩,hb⟩
def KW(c:C4):List μ:=[Ω Ψ c.1,(c.2.1:Int),Ω Ψ c.2.2.1,Ω Ψ c.2.2.2]
def OM(w:χ)(B:Nat)(v:μ)(l:List C4):Prop:=w.ownsRow B 44 4 v l.length<|l.flatMap KW
def WW:(prog.info? 44).map (λi=>(i.zero,i.size,i.bytes))=V (V<|.agg #[Ω Ψ 0,Ω Ψ 0,Ω Ψ 0,Ω Ψ 0],4,32):=by kernel_rfl
def afJ:prog.underlying 48=V (.slice 44):=by kernel_rfl
def sZ{w ty}{B bx:Nat}{l c t fr}(h:OM w B v l)(b:w.heap[bx]?=V (Θ #[Ω Ψ c.1,(c.2.1:Int),Ω Ψ c.2.2.1,Ω Ψ c.2.2.2] t fr))(s:l.length<=1000000)(p:B<=w):
 ∃e w',(ο #[48,48] ty #[v,.slice bx 1 1]).run prog w=.ok e w'/\(OM w' B e (l++[c])/\w.grownBy w' v.ownBlock/\∃g q,e=.slice (g:Nat) (l.length+1) q/\(v.ownBlock=V g\/g=w)):=by
 obtain⟨n,hi,f,i,d⟩:=ZT WW;obtain⟨g,o,w',k,x,r,h3,h4⟩:=run_append_lies (P:=prog) w 48 ty B 44 n _ 4 32 afJ hi f i d rfl (by decide) v l.length _ h bx 1 1 (KW c) rfl (λj u a=>by
  match j,a with
  |0,a=>cases a;simp[M,b,φ]
  |1,a=>cases a;simp[M,b,φ]
  |2,a=>cases a;simp[M,b,φ]
  |3,a=>cases a;simp[M,b,φ]
  |j+4,a=>simp[KW]at a) (λu m=>by
  simp[KW]at m;obtain rfl|rfl|rfl|rfl:=m<;>rfl) (by omega) (by unfold Z1;omega) (by omega) p _ rfl
 unfold OM
 grind
theorem Ra:∀(l:List C4) (i:Nat) (c:C4),l[i]?=V c->(l.flatMap KW)[i*4]?=V (Ω Ψ c.1)/\(l.flatMap KW)[i*4+1]?=V (Ω Ψ (c.2.1:Int))/\(l.flatMap KW)[i*4+2]?=V (Ω Ψ c.2.2.1)/\(l.flatMap KW)[i*4+3]?=V (Ω Ψ c.2.2.2)
 |[],i,c,h=>by simp at h
 |b::l,0,c,h=>by simp at h;subst h;simp[KW]
 |b::l,i+1,c,h=>by obtain⟨a,d,h3,h4⟩:=Ra l i c (by simpa using h);rw[List.flatMap_cons,show(i+1)*4=i*4+1+1+1+1 by omega];exact⟨a,d,h3,h4⟩
def OM.reads{w B l}(h:OM w B v l):JD w (λj=>j<w) v l:=by obtain⟨a,m,rfl,_,_,k⟩:=aF h;refine⟨a,m,rfl,λh0=>?_⟩;obtain⟨g,rfl,_,f,_,hc⟩:=k h0;refine⟨g,0,rfl,f,λi c e=>?_⟩;obtain⟨d,b,h3,h4⟩:=Ra l i c e;simp only[Nat.zero_add];exact⟨hc _ _ d,hc _ _ b,hc _ _ h3,hc _ _ h4⟩
def O5(bx:Nat)(c){t fr}(n:w.heap[bx]?=V (Θ #[Ω Ψ c.1,(c.2.1:Int),Ω Ψ c.2.2.1,Ω Ψ c.2.2.2] t fr)):
 Y prog 62 #[Ω Ψ 5,.slice bx 1 1] w λe w'=>(∃r,e=.returned r/\OM w' w r (WU++[c]))/\I w w w':=by
 have z:=U n;have j:=(Ξ.1 n).1;clear n
 go_enter (fU func62 rfl),ntmps62
 go_wp2_with fail
 go_loopw [5,6] (λo i wr=>∃(k:Nat),k<=5/\i=Ω Ψ k/\Hid (OM wr w o (WU.take k)/\I w w wr)) (λ_ i _=>5-(intOf i).toNat)
 case atStart=>exact⟨0,by omega,rfl,U ⟨Z2 _ _ _ _,Z _ _⟩⟩
 case round=>
  obtain⟨k,A,rfl,a⟩:=hrel;have f:=a.out.2.size;by_cases m:k<5
  ·have q:(k:Int)<5:=by omega
   go_wp2_with (refine Z8 λK g=>aX rfl (.tmp 12) (.tmp 14) 48 (by rfl) u5 (.slice wr.heap.size 1 1) (by rfl) (by rfl) _ (sZ (B:=w) (c:=(0,2,1,0)) (jy a.out.1<|af wr _) (Δ wr _) (by simp;omega) (by simp;omega)) ?_;intro y w5 h5;obtain⟨b,d,u,v,rfl,_⟩:=h5;refine g _ _ ?_;clear g K)
   have h:=(a.out.2.trans<|(af wr _).mono a.out.2.size).trans<|(cM (jy a.out.1<|af wr _) d (by have:=a.out.2.size;simp;omega))
   go_roundw
   case rel=>
    refine⟨k+1,by omega,by go_num,U ⟨?_,h⟩⟩;rw[bW (l:=WU) (k:=k) (x:=(0,2,1,0)) (by match k,m with
     |0,_=>rfl
     |1,_=>rfl
     |2,_=>rfl
     |3,_=>rfl
     |4,_=>rfl)]
    have s:=b;simp only[List.length_take]at s;exact s
   case measure=>simp[intOf];omega
  ·have p:k=5:=by omega
   subst p
   go_wp2_with (refine Z8 λK g=>aX rfl (.tmp 16) (.tmp 17) 48 (by rfl) u5 (.slice bx 1 1) (by rfl) (by rfl) _ (sZ (B:=w) (c:=c) a.out.1 ((a.out.2.block bx j).trans z.out) (by decide) f) ?_;intro y w5 h5;obtain⟨b,d,u,v,rfl,_⟩:=h5;refine g _ _ ?_;clear g K)
   go_ret;exact⟨⟨_,rfl,b⟩,a.out.2.trans<|cM a.out.1 d f⟩
def m1{P}{f n:Nat}{a w x Q}(h:Y P f a w λe w'=>e=x/\I n w w')(k:∀w',Hid (I n w w') ->Q x w'):Y P f a w Q:=h.mono λe w' b=>by obtain⟨rfl,hb⟩:=b;exact k _ hb
def m2{c:Type}{P}{f n:Nat}{a w}{x:c->Ending}{b:c->χ->Prop}{Q}(h:Y P f a w λe w'=>(∃v,e=x v/\b v w')/\I n w w')(k:∀v w',Hid (b v w') ->Hid (I n w w') ->Q (x v) w'):Y P f a w Q:=h.mono λe w' d=>by obtain⟨⟨v,rfl,g⟩,hb⟩:=d;exact k _ _ g hb
def DI(o):Hid ((w.alloc o).heap[w.heap.size]?=V o)/\Hid (I w w<|w.alloc o)/\(w.alloc o).heap.size=w.heap.size+1:=⟨Δ w o,af w o,by simp⟩
def nt(l a n)(c:l.length=n)(d:a.toList=l.flatMap lU)(b:n<=1000):Hid (OV (w.alloc<|.cells a 50) w (.slice w.heap.size n n) l)/\Hid (I w w<|w.alloc<|.cells a 50)/\(w.alloc<|.cells a 50).heap.size=w.heap.size+1:=⟨Cd w l a n c d b,af _ _,by simp⟩
def WX(l a n)(c:l.length=n)(d:a.toList=l.flatMap dW)(b:n<=1000):Hid (OC (w.alloc<|.cells a 76) w (.slice w.heap.size n n) l)/\Hid (I w w<|w.alloc<|.cells a 76)/\(w.alloc<|.cells a 76).heap.size=w.heap.size+1:=⟨WV w l a n c d b,af _ _,by simp⟩
def bx{a b l:χ}(h:Hid (I a a b))(c:I b b l):I a a l:=h.out.trans<|c.mono h.out.size
end
def wU(w:χ)(e:Ending)(w':χ):Prop:=∃bn bo br bm ln wa,e=.returned (.agg #[.slice (bn:Nat) 4 4,.slice (bo:Nat) 3 3,.slice (br:Nat) 4 4,(),(),.slice (bm:Nat) 2 2])/\
 OC wa w (.slice (bn:Nat) 4 4) ln/\aY wa ln ee.new/\sa wa (.slice (bo:Nat) 3 3) ee.old/\OV w' wa (.slice (br:Nat) 4 4) ee.roots/\OI w' wa (.slice (bm:Nat) 2 2) [0,2]/\I w w wa/\I wa wa w'
def JW(w):Y prog 52 #[] w λe w'=>wU w e w':=by
 go_enter (fU func52 rfl),ntmps52
 go_wp2_with fail
 have N:=af w<|Θ #[(),(),(),(),(),()] 26;have y0:=Δ w<|Θ #[(),(),(),(),(),()] 26;have hz0:(w.alloc<|Θ #[(),(),(),(),(),()] 26).heap.size=w.heap.size+1:=by simp
 generalize w.alloc _=p0 at N y0 hz0⊢;have HY:=U<|R N y0;clear N y0;refine m1 (adz _ 2) λp1 hp1=>?_
 go_wp2_with fail
 have⟨fp2,H,zp2⟩:=nt p1 [(3,2)] #[Ω Ψ 3,Ω Ψ 2] 1 rfl rfl (by omega);generalize p1.alloc _=p2 at fp2 H zp2⊢;refine m1 (dd _ p1.heap.size 1 1) λp3 X=>?_
 go_wp2_with fail
 refine m1 (mK _ 5) λp4 hp4=>?_
 go_wp2_with fail
 have⟨fp5,L,zp5⟩:=nt p4 [(0,5)] #[Ω Ψ 0,Ω Ψ 5] 1 rfl rfl (by omega);generalize p4.alloc _=p5 at fp5 L zp5⊢;refine m1 (dd _ p4.heap.size 1 1) λp6 KY=>?_
 go_wp2_with fail
 refine m1 (eF _ 1) λp7 Rb=>?_
 go_wp2_with fail
 have⟨fp8,K,zp8⟩:=nt p7 [(4,1)] #[Ω Ψ 4,Ω Ψ 1] 1 rfl rfl (by omega);generalize p7.alloc _=p8 at fp8 K zp8⊢;refine m1 (dd _ p7.heap.size 1 1) λp9 KZ=>?_
 go_wp2_with fail
 refine m1 (adz _ 1) λp10 z=>?_
 go_wp2_with fail
 refine m2 (DH _ 3 1) λbb b W B=>?_
 go_wp2_with fail
 have⟨h,A,anX⟩:=WX b [(0,.slice p1.heap.size 1 1),(0,.slice p4.heap.size 1 1),(0,.slice p7.heap.size 1 1),(1,.slice (bb:Nat) 1 1)] #[Ω Ψ 0,.slice p1.heap.size 1 1,Ω Ψ 0,.slice p4.heap.size 1 1,Ω Ψ 0,.slice p7.heap.size 1 1,Ω Ψ 1,.slice (bb:Nat) 1 1] 4 rfl rfl (by omega);generalize b.alloc _=p12 at h A anX⊢;refine m1 (adz _ 3) λj PE=>?_
 go_wp2_with fail
 have⟨y,q,O6⟩:=nt j [(3,3)] #[Ω Ψ 3,Ω Ψ 3] 1 rfl rfl (by omega);generalize j.alloc _=p14 at y q O6⊢;refine m1 (dd _ j.heap.size 1 1) λp15 T=>?_
 go_wp2_with fail
 refine m1 (dd _ ξ 0 0) λp16 Fj=>?_
 go_wp2_with fail
 refine m1 (adz _ 1) λm J7=>?_
 go_wp2_with fail
 have⟨p,x,anY⟩:=nt m [(3,1)] #[Ω Ψ 3,Ω Ψ 1] 1 rfl rfl (by omega);generalize m.alloc _=p18 at p x anY⊢;refine m1 (dd _ m.heap.size 1 1) λc Fk=>?_
 go_wp2_with fail
 have⟨D,E,O7⟩:=WX c [(0,.slice j.heap.size 1 1),(0,()),(0,.slice m.heap.size 1 1)] #[Ω Ψ 0,.slice j.heap.size 1 1,Ω Ψ 0,(),Ω Ψ 0,.slice m.heap.size 1 1] 3 rfl rfl (by omega);generalize c.alloc _=p20 at D E O7⊢;refine m1 (adz _ 0) λp21 Fl=>?_
 go_wp2_with fail
 refine m1 (eF _ 1) λp22 Fm=>?_
 go_wp2_with fail
 refine m1 (mK _ 7) λp23 Fo=>?_
 go_wp2_with fail
 refine m1 (sY _) λa P=>?_;have Ce:=Z a a;have Ch:=bx P Ce;have Fp:=bx Fo Ch;have Q:=bx Fm Fp;have F:=bx Fl Q;have ajS:=bx E F;have s:=bx Fk ajS;have Ci:=bx x s;have ahb:=bx J7 Ci;have Fq:=bx Fj ahb;have u:=bx T Fq;have O9:=bx q u;have o:=bx PE O9;have t:=bx A o;have cp10:=bx B t;have cp9:=bx z cp10;have cp8:=bx KZ cp9;have Rc:=bx K cp8;have cp6:=bx Rb Rc;have cp5:=bx KY cp6;have cp4:=bx L cp5;have cp3:=bx hp4 cp4;have cp2:=bx X cp3;have cp1:=bx H cp2;have G:=bx hp1 cp1;have hlt:=(Ξ.1 HY.out.2).1;have O:=(G.block w hlt).trans HY.out.2;have hlt2:=Nat.lt_of_lt_of_le hlt G.size;obtain⟨d,f⟩:=JJ O;have d0:=d 0 (by omega);have t0:=f 0;have d1:=d 1 (by omega);have t1:=f 1;have d2:=d 2 (by omega);have t2:=f 2;have d3:=d 3 (by omega);have t3:=f 3;have d4:=d 4 (by omega);have t4:=f 4;have d5:=d 5 (by omega);have t5:=f 5;have HH:=U O;clear d f O
 go_wp2_with fail
 clear d0 d1 d2 d3 d4 d5 t0 t1 t2 t3 t4 t5;rw[show((((((a.setCell w.heap.size<|.slice b.heap.size 4 4).setCell (w.heap.size,1)<|.slice c.heap.size 3 3).setCell (w.heap.size,2)<|.slice a.heap.size 4 4).setCell (w.heap.size,3) ()).setCell (w.heap.size,4) ()).setCell (w.heap.size,5)<|.slice (a.heap.size+1:Nat) 2 2)=io a w (.slice b.heap.size 4 4) (.slice c.heap.size 3 3) (.slice a.heap.size 4 4) () () (.slice (a.heap.size+1:Nat) 2 2)from rfl];have O:=HH.out;obtain⟨a1,a2,a3,a4⟩:=kn (v0:=.slice b.heap.size 4 4) (v1:=.slice c.heap.size 3 3) (v2:=.slice a.heap.size 4 4) (v3:=()) (v4:=()) (v5:=.slice (a.heap.size+1:Nat) 2 2) O;have r:=aaO (v0:=.slice b.heap.size 4 4) (v1:=.slice c.heap.size 3 3) (v2:=.slice a.heap.size 4 4) (v3:=()) (v4:=()) (v5:=.slice (a.heap.size+1:Nat) 2 2) O;have n:aY a _ _:=(aY.cons (k:=0) (OV.reads<|OV.below fp2.out cp2)<|aY.cons (k:=0) (OV.reads<|OV.below fp5.out cp5)<|aY.cons (k:=0) (OV.reads<|OV.below fp8.out cp8)<|aY.cons (k:=1) (W.out.below t)<|aY.nil _);have J:aY a _ _:=(aY.cons (k:=0) (OV.reads<|OV.below y.out u)<|aY.cons (k:=0) dv<|aY.cons (k:=0) (OV.reads<|OV.below p.out s)<|aY.nil _);have hcs:=(OC.reads (OC.below D.out F) J).off r;have l:aY (io a w (.slice b.heap.size 4 4) (.slice c.heap.size 3 3) (.slice a.heap.size 4 4) () ()<|.slice (a.heap.size+1:Nat) 2 2) _ _:=⟨n.1,λi k v k' vs e1 e2=>⟨(n.2 i k v k' vs e1 e2).1,(n.2 i k v k' vs e1 e2).2.off r⟩⟩;have hoc:=OC.below h.out o;have S:=Z b b;have anZ:=bx B S;have kp9:=bx z anZ;have kp8:=bx KZ kp9;have kp7:=bx K kp8;have kp6:=bx Rb kp7;have kp5:=bx KY kp6;have kp4:=bx L kp5;have kp3:=bx hp4 kp4;have kp2:=bx X kp3;have kp1:=bx H kp2;have kp0:=bx hp1 kp1;have C:OC (io a w (.slice b.heap.size 4 4) (.slice c.heap.size 3 3) (.slice a.heap.size 4 4) () () (.slice (a.heap.size+1:Nat) 2 2)) w _ _:=eV (aS hoc λg hg=>a2 g λe=>by have:=(h.out.lt g hg).1;have h0:=kp0.size;omega) (by have:=kp0.size;omega)
 have hbw:=(HY.out.1.trans<|G.mono HY.out.1.size).trans<|a4 _ .refl;generalize io a w (.slice b.heap.size 4 4) (.slice c.heap.size 3 3) (.slice a.heap.size 4 4) () () (.slice (a.heap.size+1:Nat) 2 2)=wa at a1 a3 hcs l C hbw⊢;rw[<-a3];have g1:=Cd wa [(3,0),(4,1),(0,7),(2,0)] #[Ω Ψ 3,Ω Ψ 0,Ω Ψ 4,Ω Ψ 1,Ω Ψ 0,Ω Ψ 7,Ω Ψ 2,Ω Ψ 0] 4 rfl rfl (by omega);have g2:=JV (wa.alloc<|Θ #[Ω Ψ 3,Ω Ψ 0,Ω Ψ 4,Ω Ψ 1,Ω Ψ 0,Ω Ψ 7,Ω Ψ 2,Ω Ψ 0] 50) [0,2] #[Ω Ψ 0,Ω Ψ 2] 2 rfl rfl (by omega);have hz1:(wa.alloc<|Θ #[Ω Ψ 3,Ω Ψ 0,Ω Ψ 4,Ω Ψ 1,Ω Ψ 0,Ω Ψ 7,Ω Ψ 2,Ω Ψ 0] 50).heap.size=wa.heap.size+1:=by simp
 rw[hz1]at g2;obtain⟨_,hb2,_⟩:=Ju wa (Θ #[Ω Ψ 3,Ω Ψ 0,Ω Ψ 4,Ω Ψ 1,Ω Ψ 0,Ω Ψ 7,Ω Ψ 2,Ω Ψ 0] 50)<|Θ #[Ω Ψ 0,Ω Ψ 2] 3;have y1:=(hb2.block w<|by omega).trans a1;have g1':=OV.below g1<|af (wa.alloc<|Θ #[Ω Ψ 3,Ω Ψ 0,Ω Ψ 4,Ω Ψ 1,Ω Ψ 0,Ω Ψ 7,Ω Ψ 2,Ω Ψ 0] 50)<|Θ #[Ω Ψ 0,Ω Ψ 2] 3;rw[<-a3]at y1;obtain⟨z0,z1,z2,z3,z4,z5⟩:=sS y1;refine ε (v:=.agg #[.slice b.heap.size 4 4,.slice c.heap.size 3 3,.slice wa.heap.size 4 4,(),(),.slice (wa.heap.size+1:Nat) 2 2]) (by simp[Z9,results52,go_sem,z0,z1,z2,z3,z4,z5]) rfl ?_;exact⟨_,_,_,_,_,wa,rfl,C,l,hcs,g1',g2.less<|by omega,hbw,hb2⟩
def wU.gv{w w' e}(h:wU w e w'):∃v,e=.returned v/\GV w' v ee/\I w w w':=by obtain⟨j,k,g,f,i,wa,rfl,d,c,h3,h4,h5,b,a⟩:=h;exact⟨_,rfl,⟨_,_,_,_,_,_,rfl,(OC.reads d c).below a,h3.below a,h4.reads,dv,dv,h5.reads⟩,b.trans<|a.mono b.size⟩
section
variable(w:χ)(v:μ)
def oB:Y prog 52 #[] w λe w'=>(∃v,e=.returned v/\GV w' v ee)/\I w w w':=(JW w).mono λe w' h=>by obtain⟨v,a,b,h3⟩:=h.gv;exact⟨⟨v,a,b⟩,h3⟩
def GV.six{w v g}(h:GV w v g):∃a0 f k a1 n m1 m p m2 e c b j d o i a l,v=.agg #[.slice a0 f k,.slice a1 n m1,.slice m p m2,.slice e c b,.slice j d o,.slice i a l]:=by obtain⟨_,_,_,_,_,_,rfl,⟨s,l0,rfl,_⟩,⟨q,y,rfl,_⟩,⟨x,z,rfl,_⟩,⟨b3,t,rfl,_⟩,⟨b4,u,rfl,_⟩,⟨b5,r,rfl,_⟩⟩:=h;exact⟨_,_,_,_,_,_,_,_,_,_,_,_,_,_,_,_,_,_,rfl⟩
def Pa(a:GV w v ee):Y prog 24 #[v] w λe w'=>(∃r,e=.returned (.tuple #[r,Ω Ψ 0])/\eI w' r [(4,3),(4,5),(4,6),(4,4)])/\I w w w':=by have h:=O0 w v ee aak a cB (by decide) KA.1 sW Fg (by decide);exact h
def WY(a:GV w v ee):Y prog 28 #[v] w λe w'=>(∃r,e=.returned (.tuple #[r,Ω Ψ 0])/\GV w' r Al)/\I w w w':=WO w v ee Al 3 a cB (by decide) KA.1 sW JN
def WZ(lv)(a:GV w v ee)(c:JD w (λj=>j<w) lv (WU++[(10,0,0,0)])):Y prog 45 #[v,lv] w λe w'=>e=.returned (.tuple #[Ω Ψ 1,Ω Ψ 0,Ω Ψ 1,Ω Ψ 9,Ω Ψ 0])/\I w w w':=WR w v lv ee _ (λi=>if i<6 then rsM i else r6) Fi a cB (by decide) KA.1 c (by decide) rfl rfl (aal λB d b=>Cc)
def Aq(d a l)(b:eI w d l)(c:eI w a l):Y prog 27 #[d,a] w λe w'=>e=.returned (.bool ζ)/\I w w w':=(nd w d a l b c).mono λe w' h=>by obtain⟨rfl,n,rfl⟩:=h;exact⟨rfl,hU _ _ _⟩
def DJ(bx:Nat)(c0:Int)(c1:Nat)(c2 c3:Int)(c:w.heap[bx]?=V (Θ #[c0,c1,c2,c3] 44 (0,0))):Y prog 62 #[Ω Ψ 5,.slice bx 1 1] w λe w'=>(∃r,e=.returned r/\JD w' (λj=>j<w') r (WU++[(c0,c1,c2,c3)]))/\I w w w':=(O5 w bx (c0,c1,c2,c3) c).mono λe w' h=>by obtain⟨⟨r,rfl,a⟩,b⟩:=h;exact⟨⟨r,rfl,OM.reads a⟩,b⟩
def lG{w:χ}{b:Nat}{t v0 v1 v2 v3 v4 v5}(h:w.heap[b]?=V (Θ #[v0,v1,v2,v3,v4,v5] t (0,0))):w b=V v0/\w (b,1)=V v1/\w (b,2)=V v2/\w (b,3)=V v3/\w (b,4)=V v4/\w (b,5)=V v5:=sS h
def Fr:Y prog 18 #[] w λe w'=>e=.returned (.bool ζ)/\I w w w':=by
 go_enter (fU func18 rfl),ntmps18
 go_wp2_with fail
 refine m2 (oB _) λv1 p1 qp1 hp1=>?_
 go_wp2_with fail
 refine m2 (Pa _ v1 qp1.out) λr1 p2 qp2 hp2=>?_
 go_wp2_with fail
 refine m2 (oB _) λv2 p3 qp3 P=>?_
 go_wp2_with fail
 refine m2 (WY _ v2 qp3.out) λr2 p4 qp4 W=>?_;obtain⟨xa0,xn0,xm0,xa1,xn1,xm1,xa2,xn2,xm2,xa3,xn3,xm3,xa4,xn4,xm4,xa5,xn5,xm5,rfl⟩:=qp4.out.six
 go_wp2_with fail
 have⟨y3,N,zp5⟩:=DI p4<|Θ #[.slice xa0 xn0 xm0,.slice xa1 xn1 xm1,.slice xa2 xn2 xm2,.slice xa3 xn3 xm3,.slice xa4 xn4 xm4,.slice xa5 xn5 xm5] 26;generalize p4.alloc _=p5 at y3 N zp5⊢;refine m1 (eF _ 2) λp6 KY=>?_
 go_wp2_with fail
 have⟨fp7,H,zp7⟩:=nt p6 [(4,2)] #[Ω Ψ 4,Ω Ψ 2] 1 rfl rfl (by omega);generalize p6.alloc _=p7 at fp7 H zp7⊢;refine m1 (dd _ p6.heap.size 1 1) λp8 Xa=>?_
 go_wp2_with fail
 refine m1 (dd _ ξ 0 0) λp9 KZ=>?_
 go_wp2_with fail
 refine m1 (eF _ 1) λc y=>?_
 go_wp2_with fail
 have⟨F,f,Pb⟩:=nt c [(4,1)] #[Ω Ψ 4,Ω Ψ 1] 1 rfl rfl (by omega);generalize c.alloc _=p11 at F f Pb⊢;refine m1 (dd _ c.heap.size 1 1) λL z=>?_
 go_wp2_with fail
 have⟨x,b,aoi⟩:=WX L [(0,.slice p6.heap.size 1 1),(0,()),(0,.slice c.heap.size 1 1)] #[Ω Ψ 0,.slice p6.heap.size 1 1,Ω Ψ 0,(),Ω Ψ 0,.slice c.heap.size 1 1] 3 rfl rfl (by omega);generalize L.alloc _=p13 at x b aoi⊢;refine m1 (eF _ 0) λp14 o=>?_
 go_wp2_with fail
 refine m1 (eF _ 1) λp15 l=>?_
 go_wp2_with fail
 refine m1 (mK _ 7) λp16 q=>?_
 go_wp2_with fail
 refine m1 (sY _) λK p=>?_
 go_wp2_with fail
 have⟨n,d,E⟩:=nt K [(4,0),(4,1),(0,7),(2,0)] #[Ω Ψ 4,Ω Ψ 0,Ω Ψ 4,Ω Ψ 1,Ω Ψ 0,Ω Ψ 7,Ω Ψ 2,Ω Ψ 0] 4 rfl rfl (by omega);generalize K.alloc _=p18 at n d E⊢;have⟨y5,g,O⟩:=DI p18<|Θ #[(),.slice L.heap.size 3 3,.slice K.heap.size 4 4,(),(),()] 26;generalize p18.alloc _=p19 at y5 g O⊢;refine m2 (oB _) λv3 J aoj B=>?_
 go_wp2_with fail
 have⟨A,a,S⟩:=DI J<|Θ #[Ω Ψ 10,Ω Ψ 0,Ω Ψ 0,Ω Ψ 0] 44;generalize J.alloc _=p21 at A a S⊢;refine m2 (DJ _ J 10 0 0 0 A.out) λr3 p22 aok h=>?_
 go_wp2_with fail
 refine m1 (WZ _ v3 r3 (GV.below h.out<|GV.below a.out aoj.out) aok.out) λp23 D=>?_
 go_wp2_with fail
 refine m1 (eF _ 3) λp24 j=>?_
 go_wp2_with fail
 refine m1 (eF _ 5) λp25 C=>?_
 go_wp2_with fail
 refine m1 (eF _ 6) λp26 t=>?_
 go_wp2_with fail
 refine m1 (eF _ 4) λp27 m=>?_
 go_wp2_with fail
 have⟨v,i,aol⟩:=nt p27 [(4,3),(4,5),(4,6),(4,4)] #[Ω Ψ 4,Ω Ψ 3,Ω Ψ 4,Ω Ψ 5,Ω Ψ 4,Ω Ψ 6,Ω Ψ 4,Ω Ψ 4] 4 rfl rfl (by omega);generalize p27.alloc _=T at v i aol⊢;have Q:=bx P<|bx W<|bx N<|bx KY<|bx H<|bx Xa<|bx KZ<|bx y<|bx f<|bx z<|bx b<|bx o<|bx l<|bx q<|bx p<|bx d<|bx g<|bx B<|bx a<|bx h<|bx D<|bx j<|bx C<|bx t<|bx m<|bx i<|Z T T;have dw:=bx hp1<|bx hp2 Q;refine m1 (Aq _ _ _ [(4,3),(4,5),(4,6),(4,4)] (eI.below Q qp2.out)<|OV.reads v.out) λp29 Cj=>?_;have u:=bx B<|bx a<|bx h<|bx D<|bx j<|bx C<|bx t<|bx m<|bx i<|bx Cj<|Z p29 p29;have s:=bx g u;have G:=bx o<|bx l<|bx q<|bx p<|bx d s;have r:=bx z<|bx b G;have X:=bx Xa<|bx KZ<|bx y<|bx f r;have cp5:=bx KY<|bx H X;have cp4:=bx N cp5;have cw:=bx hp1<|bx hp2<|bx P<|bx W cp4;obtain⟨k0,k1,k2,k3,k4,k5⟩:=lG<|(cp5.block _ (Ξ.1 y3.out).1).trans y3.out;obtain⟨j0,j1,j2,j3,j4,j5⟩:=lG<|(u.block _ (Ξ.1 y5.out).1).trans y5.out;rw[E]at j0 j1 j2 j3 j4 j5
 go_wp2_with fail
 refine(NU _ _ _ Al (GV.below cp4 qp4.out) ⟨_,_,_,_,_,_,rfl,csn _,OC.reads (OC.below x.out G)<|aY.cons (k:=0) (OV.reads<|OV.below fp7.out X)<|aY.cons (k:=0) dv<|aY.cons (k:=0) (OV.reads<|OV.below F.out r)<|aY.nil _,OV.reads<|OV.below n.out s,dv,dv,isn _⟩).mono ?_;rintro e wz ⟨rfl,hz⟩;replace hz:=U hz
 go_wp2_with fail
 go_ret;exact⟨rfl,cw.trans<|hz.out.mono cw.size⟩
end
def GV.form{w v g}(h:GV w v g):∃a0 b a1 m1 c m2 i d a e j f,v=.agg #[.slice a0 g.new.length b,.slice a1 g.old.length m1,.slice c g.roots.length m2,.slice i g.aA.length d,.slice a g.done.length e,.slice j g.marked.length f]:=by obtain⟨_,_,_,_,_,_,rfl,⟨a0,b,rfl,-⟩,⟨a1,m1,rfl,-⟩,⟨c,m2,rfl,-⟩,⟨i,d,rfl,-⟩,⟨a,e,rfl,-⟩,⟨j,f,rfl,-⟩⟩:=h;exact⟨_,_,_,_,_,_,_,_,_,_,_,_,rfl⟩
section
variable{w:χ}
def Pd.less{w B B' v g}(h:Pd w B v g)(a:B'<=B):Pd w B' v g:=by obtain⟨n,o,i,b,d,m,e,j,f,h3,h4,h5,c⟩:=h;exact⟨n,o,i,b,d,m,e,j.less a,f.less a,h3.less a,h4.less a,h5.less a,c.less a⟩
def Pd.below{w w' B v g}(h:Pd w B v g)(hb:I w.heap.size w w'):Pd w' B v g:=by obtain⟨n,o,f,a,d,m,e,i,c,h3,h4,h5,b⟩:=h;exact⟨n,o,f,a,d,m,e,i.keep<|kE.below hb,c.keep<|kE.below hb,OV.below h3 hb,OV.below h4 hb,OV.below h5 hb,OI.below b hb⟩
def Pd.but{w w' B bx v g cb}(h:Pd w B v g)(a:w.heap[bx]?=V (.cells cb 26 (0,0)))(b:wX B bx w w'):Pd w' B v g:=by obtain⟨n,o,j,c,d,m,e,k,i,h3,h4,h5,f⟩:=h;exact⟨n,o,j,c,d,m,e,k.but a b,i.but a b,vX h3 a (by decide) b,vX h4 a (by decide) b,vX h5 a (by decide) b,vX f a (by decide) b⟩
theorem Pd.aq{B:Nat}{n o a wi d m b:μ}{g:GH}{l:List Int}(h:Pd w B (.agg #[n,o,a,wi,d,m]) g)(c:OI w B b l):Pd w B (.agg #[n,o,a,wi,d,b]) (aq g l):=by
 obtain⟨n,o,a,wi,d,m,e,i,f,h3,h4,h5,j⟩:=h;cases e
 exact⟨_,_,_,_,_,_,rfl,i,f,h3,h4,h5,c⟩
def SP.og(B:Nat)(g:GH):Rg.SP:=⟨λv w=>Pd w B v g,λ_ _ _ hb h=>h.below hb⟩
def Pd.form{w B v g}(h:Pd w B v g):∃a0 b a1 m1 c m2 i d a e j f,v=.agg #[.slice a0 g.new.length b,.slice a1 g.old.length m1,.slice c g.roots.length m2,.slice i g.aA.length d,.slice a g.done.length e,.slice j g.marked.length f]:=h.reads.form
def ajT{w7 b6 a d f k i x4 l u0 u1 u2 u3 u4 u5}(s:io (io w b6 d f k i x4 l) a u0 u1 u2 u3 u4 u5=w7)(m:w.heap[b6]?=V (.cells aaf 26))(r:w.heap[a]?=V (.cells aaf 26))(b:b6≠a):
 w7.heap[b6]?=V (Θ #[d,f,k,i,x4,l] 26)/\w7.heap[a]?=V (Θ #[u0,u1,u2,u3,u4,u5] 26)/\(∀B,B<=b6->B<=a->I B w w7)/\∀{B v g},Pd w B v g->Pd w7 B v g:=by
 subst s;obtain⟨q1,n,t,p⟩:=kn (v0:=d) (v1:=f) (v2:=k) (v3:=i) (v4:=x4) (v5:=l) m;have c:=(n a b.symm).trans r;obtain⟨r1,r2,r3,r4⟩:=kn (v0:=u0) (v1:=u1) (v2:=u2) (v3:=u3) (v4:=u4) (v5:=u5) c;exact⟨(r2 b6 b).trans q1,r1,λB o q=>(p B o).trans<|r4 B q,λh=>(h.but m λj _ _ e=>n j e).but c λj _ _ e=>r2 j e⟩
def af2{b a c f d x4 j v}(e:w.heap[b]?=V (Θ #[a,c,f,d,x4,j] 26)):
 (w.setCell (b,5) v).heap[b]?=V (Θ #[a,c,f,d,x4,v] 26)/\(∀k,k≠b->(w.setCell (b,5) v).heap[k]?=w.heap[k]?)/\(w.setCell (b,5) v).heap.size=w/\∀H,H<=b->I H w (w.setCell (b,5) v):=
 ⟨heap_setCell_same (i:=5) e,λk g=>aa g,by simp,λH h=>(Z H w).setCell (p:=⟨b,5,ξ⟩) h _⟩
def OH(w:χ)(b:Nat)(c:Array μ)(g:GH):Prop:=w.heap[b]?=V (.cells c 26)/\GV w (.agg c) g/\b<w
def OH.below{w w' b c g}(h:OH w b c g)(hb:I w w w'):OH w' b c g:=⟨(hb.block b h.2.2).trans h.1,h.2.1.below hb,Nat.lt_of_lt_of_le h.2.2 hb.size⟩
def adT{g}(h:VG g)(b:g.new.length+g.old.length<=16):VG (Md.sX g)/\Xh (plain<|Md.sX g):=by have:=wb h;have a:=Ck h (by omega);exact⟨a,PF a (by have:=np (g:=g);have:(Md.sX g).new.length=0:=rfl;omega)⟩
def afV(i):(ψ<|i+1).map (λ(k:Nat)=>(k:Int))=(ψ i).map (λ(k:Nat)=>(k:Int))++[(i:Int)]:=by rw[ZV,ZU];rfl
end
def afW(w a mc l)(hv:n9 w (.slice a l.length mc) l):
 Y prog 15 #[.slice a l.length mc] w λe w'=>e=.returned (.bool ζ)/\I w w w':=by
 have HV:=U hv;clear hv
 go_enter (fU func15 rfl),ntmps15
 go_wp2_with fail
 refine(WT _ a mc l HV.out).mono ?_;rintro e w1 ⟨rfl,hc,hb1⟩
 go_wp2_with fail
 refine(aeD _ w 0 16 hc (by omega)<|by omega).mono ?_;rintro e T ⟨⟨r,g,rfl,s,C,hm⟩,hw⟩;have t:I w w T:=hb1.grown hw.2 hb1.size (λk e=>by cases e;exact .refl);have HR:=U s.reads;obtain⟨p0,m0,p1,m1,p2,m2,p3,m3,p4,m4,p5,m5,rfl⟩:=s.reads.form
 go_wp2_with fail
 generalize eg:T.alloc _=w3;obtain⟨y3,h,hz3⟩:=alE eg;clear eg;have B3:=U<|t.trans<|h.mono t.size;have HR3:=U<|HR.out.below h;replace hz3:T.heap.size<w3.heap.size:=by omega
 generalize T.heap.size=t3 at y3 hz3⊢;clear h HR hw hc hb1 t s;obtain⟨c0,c1,c2,c3,c4,c5⟩:=sS y3
 go_wp2_with fail
 refine(aaR _ _ g HR3.out C).mono ?_;rintro e w4 ⟨⟨r4,rfl,Ja⟩,hb4⟩
 go_wp2_with fail
 refine(af0 _ r4 g Ja.reads (VG.look C) (by have:=C.By;omega)<|VG.cN C).mono ?_;rintro e w5 ⟨⟨r5,rfl,Xq⟩,F⟩;replace F:=hb4.trans<|F.mono hb4.size;have HY:=U Xq;obtain⟨ay,my,rfl,-⟩:=Xq;clear hb4 Ja c0 c1 c2 c3 c4 c5;have y5:=(F.block t3 hz3).trans y3;have KU:=Nat.lt_of_lt_of_le hz3 F.size;have HR5:=U<|HR3.out.below F;have B5:=U<|B3.out.trans<|F.mono B3.out.size;have hyl:¬g.old.length<(ju g).length:=by have:=afo g;omega
 clear F HR3 B3 y3;obtain⟨c0,c1,c2,c3,c4,c5⟩:=sS y5
 go_wp2_with fail
 have t5:t3<w5.heap.size:=KU;refine Rg.Py [.eq (.agg #[.slice p0 g.new.length m0,.slice p1 g.old.length m1,.slice p2 g.roots.length m2,.slice p3 g.aA.length m3,.slice p4 g.done.length m4,.slice p5 g.marked.length m5]),SP.og w5 g,.eq<|.agg #[.slice p0 g.new.length m0,.slice p1 g.old.length m1,.slice p2 g.roots.length m2,.slice p3 g.aA.length m3,.slice p4 g.done.length m4,.slice p5 g.marked.length m5],SP.og w5 g,SP.Pn w5,SP.Pn w5] (λi=>i==4||i==5) (by kernel_rfl) (by kernel_rfl) (by rfl) ?_ ?_
 ·refine⟨?_,?_,?_,?_,?_,?_,trivial⟩
  all_goals intro a2 x2 t c b
  all_goals have o:I w5 w5 x2:=(Z _ w5).drew.trans t
  ·have b2:=c 3 rfl;simp at b2;obtain⟨z0,z1,z2,z3,z4,z5⟩:=sS<|(o.block t3 t5).trans y5;clear c b;go_simp;exact⟨_,rfl,.refl _ _,rfl⟩
  ·have d0:=Rg.lT (b 0 _ rfl rfl) rfl;clear c b;go_simp;refine(aaR _ _ g (HR5.out.below o) C).mono ?_;rintro e x3 ⟨⟨r,rfl,s⟩,m⟩;exact⟨_,rfl,m,s.less o.size⟩
  ·have b2:=c 3 rfl;simp at b2;obtain⟨z0,z1,z2,z3,z4,z5⟩:=sS<|(o.block t3 t5).trans y5;clear c b;go_simp;exact⟨_,rfl,.refl _ _,rfl⟩
  ·have d0:=Rg.lT (b 2 _ rfl rfl) rfl;clear c b;go_simp;refine(aaR _ _ g (HR5.out.below o) C).mono ?_;rintro e x3 ⟨⟨r,rfl,s⟩,m⟩;exact⟨_,rfl,m,s.less o.size⟩
  all_goals
   clear c b;have hz:=o.size;go_simp;exact⟨_,rfl,af _ _,⟨_,rfl,Δ _ _,hz⟩,by simp[Rg.d6]⟩
 ·rintro fl w6 hb6 ⟨s0,s1,s2,s3,⟨b6,s4,e6,l6⟩,⟨S,s5,e7,l7⟩,-⟩ hdd;have hne:b6≠S:=by have:=hdd 4 5 (by simp) (by simp) (by simp) rfl rfl;simp only[Nat.reduceAdd]at s4 s5;rw[s4,s5]at this;simpa[Rg.d6]using this
  have s1:Pd w6 w5 (fl 1) g:=s1;have s3:Pd w6 w5 (fl 3) g:=s3;have S1:=U s1;have S3:=U s3;obtain⟨x0,n0,x1,n1,x2,n2,x3,n3,x4,n4,x5,n5,v1⟩:=s1.form;obtain⟨u0,k0,u1,k1,u2,k2,u3,k3,u4,k4,u5,k5,v3⟩:=s3.form;rw[v1]at S1;rw[v3]at S3;have B6:=U<|(Z _ w5).drew.trans hb6;simp[go_sem,s4,s5,v1,v3];obtain⟨d,f⟩:=JJ e6;obtain⟨d',f'⟩:=JJ e7;have P:=f 0;have E:=f 1;have N:=f 2;have Q:=f 3;have O:=f 4;have J:=f 5;have h0:=f' 0;have h1:=f' 1;have h2:=f' 2;have h3:=f' 3;have h4:=f' 4;have h5:=f' 5;have d0:=d 0 (by omega);have d1:=d 1 (by omega);have d2:=d 2 (by omega);have d3:=d 3 (by omega);have d4:=d 4 (by omega);have d5:=d 5 (by omega);have i0:=d' 0 (by omega);have i1:=d' 1 (by omega);have i2:=d' 2 (by omega);have i3:=d' 3 (by omega);have i4:=d' 4 (by omega);have i5:=d' 5 (by omega);clear d f d' f' s0 s1 s2 s3 s4 s5 v1 v3 hdd
  go_upto_region 6 with(fail)
  generalize ew:World.setCell _ _ _=w7;have ahY:w6.heap.size<=w7.heap.size:=by rw[<-ew];simp
  obtain⟨z6,z7,zb,zo⟩:=ajT ew e6 e7 hne;have O1:=U<|zo S1.out;have O3:=U<|zo S3.out;have B7:=U<|B6.out.trans<|zb w5 l6 l7;clear ew zo zb P E N Q O J h0 h1 h2 h3 h4 h5 d0 d1 d2 d3 d4 d5 i0 i1 i2 i3 i4 i5 S1 S3 e6 e7 hb6 c0 c1 c2 c3 c4 c5;have g6:=(Ξ.1 z6).1;have g7:=(Ξ.1 z7).1
  go_wp2_with fail
  refine(Rn _ _ (ju g) (HY.out.below B7.out) (by have:=afo g;have:=C.bw;omega)).mono ?_;rintro e w8 ⟨⟨r8,rfl,o8⟩,y⟩;obtain⟨a8,m8,rfl,-⟩:=aF o8;have y6:=(y.block b6 g6).trans z6;have y7:=(y.block S g7).trans z7;have f65:=cD (i:=5) y6;have f75:=cD (i:=5) y7;obtain⟨-,-,-,-,-,a5⟩:=sS y6;obtain⟨-,-,-,-,-,b5⟩:=sS y7;have O8:=U<|o8.less<|Nat.le_trans B6.out.size ahY;have P1:=U<|O1.out.below y;have P3:=U<|O3.out.below y;have B8:=U<|B7.out.trans<|y.mono B7.out.size;have g6':=Nat.lt_of_lt_of_le g6 y.size;have g7':=Nat.lt_of_lt_of_le g7 y.size;clear o8 y O1 O3 z6 z7
  go_upto_region 7 with(fail)
  obtain⟨x6,xk,xz,xb⟩:=af2 (v:=.slice a8 (ju g).length m8) y6;have x7:=(xk S hne.symm).trans y7;generalize w8.setCell (b6,5) _=wx at x6 xk xz xb x7⊢;obtain⟨v7,vk,vz,vb⟩:=af2 (v:=ι ξ 0 0) x7;have v6:=(vk b6 hne).trans x6;generalize wx.setCell (S,5) _=w9 at v6 v7 vk vz vb⊢;have W1:Pd w9 w5 _ (aq g<|ju g):=((P1.out.but y6 λj _ _ H=>xk j H).aq<|vX O8.out y6 (by decide) λj _ _ H=>xk j H).but x7 λj _ _ H=>vk j H;have W3:=((P3.out.but y6 λj _ _ H=>xk j H).but x7 λj _ _ H=>vk j H);have V1:=U W1;have V3:=U W3;have B9:=U<|B8.out.trans<|(xb w5 l6).trans<|vb w5 l7;have h6:b6<w9:=by omega
  have h7:S<w9:=by omega
  clear x6 xk xz xb x7 vk vz vb W1 W3 P1 P3 O8 B8 y6 y7 f65 f75 a5 b5 g6' g7' g6 g7 ahY;have t9:=(B9.out.block t3 t5).trans y5;have l9:=B9.out.size
  go_upto_region 8 with(fail)
  go_loopw [8] (λx wr=>∃(i:Nat) (mk:μ),i<=g.old.length/\x=Ω Ψ i/\wr.heap[S]?=V (Θ #[.slice u0 g.new.length k0,.slice u1 g.old.length k1,.slice u2 g.roots.length k2,.slice u3 g.aA.length k3,.slice u4 g.done.length k4,mk] 26)/\
   OI wr w9 mk ((ψ i).map λ(k:Nat)=>(k:Int))/\wX 0 S w9 wr/\I w5 w9 wr) (λx _=>g.old.length-(intOf x).toNat)
  case atStart=>exact⟨0,_,Nat.zero_le _,rfl,v7,OI.nil _ _,λj _ _ _=>rfl,.refl _ _⟩
  case round=>
   obtain⟨i,mk,hi,rfl,e7,s,hk,hb⟩:=hrel;have tr:=(hk t3 (Nat.zero_le _) (by omega)<|by omega).trans t9;obtain⟨-,c1,-,-,-,-⟩:=sS tr;by_cases hlt:i<g.old.length
   ·obtain⟨-,-,-,-,-,d5⟩:=sS e7;have J:=cD (i:=5) e7;have hzr:=hb.size;have hr:=(af wr<|Θ #[Ω Ψ i] 3)
    go_wp2_with (at_builtin;refine od rfl _ _ rfl w9.heap.size _ _ rfl (s.alloc _) wr.heap.size _ (i:Int) rfl (by simp[go_sem,φ]) (by simp;have:=C.bw;omega) (by simp;omega) ?_;intro v' w10 K aiU ajU;clear ajU;obtain⟨av,mv,rfl,-⟩:=aF K;have e10:=(aiU.block S h7).trans<|(hr.block S<|by omega).trans e7;have f10:=cD (i:=5) e10;obtain⟨-,-,-,-,-,d10⟩:=sS e10)
    obtain⟨s1,sk,sz,sb⟩:=af2 (v:=.slice av (i+1) mv) e10;have K:OI w10 w9 (.slice av (i+1) mv) ((ψ i).map (λ(k:Nat)=>(k:Int))++[(i:Int)]):=by simpa using K
    refine⟨⟨i+1,_,by omega,by go_num,s1,by rw[afV];exact vX K e10 (by decide) λj _ _ H=>sk j H,λj h0 H hn=>(sk j hn).trans<|(aiU.block j H).trans<|(hr.block j<|by omega).trans<|hk j h0 H hn,hb.trans<|((hr.mono<|by omega).trans<|aiU.mono l9).trans<|sb w5 l7⟩,by simp[intOf];omega⟩
   ·have hin:i=g.old.length:=by omega
    have U1:=U (V1.out.but v7 λj _=>hk j<|Nat.zero_le _).reads;have U3:=U ((V3.out.but v7 λj _=>hk j<|Nat.zero_le _).aq<|s.less l9).reads;have e6:=(hk b6 (Nat.zero_le _) h6 hne).trans v6;have hzr:=hb.size;have BR:=U<|B9.out.trans hb;have q3:t3<wr:=by omega
    have q6:b6<wr:=by omega
    have q7:S<wr:=by omega
    obtain⟨am,mm,rfl,-⟩:=aF s;subst hin;rw[η,κ]at e7 U3;clear hi hk hb s V1 V3 v6 v7 h6 h7 t9 l9 l6 l7 B9 B7;obtain⟨P,E,N,Q,O,J⟩:=sS e6
    go_wp2_with fail
    refine(aae _ _ (aq g<|ju g) U1.out (Qv C) (by show g.new.length+g.old.length<=32;omega)).mono ?_;rintro e w11 ⟨⟨r11,rfl,m11⟩,X⟩;obtain⟨s0,j0,s1,j1,s2,j2,s3,j3,s4,j4,s5,j5,rfl⟩:=m11.form
    go_upto_region 12 with(fail)
    generalize eg:w11.alloc _=pl;obtain⟨y9,h,p⟩:=alE eg;clear eg;have M1:=U<|m11.below h;replace h:=X.trans<|h.mono X.size;have t12:=(h.block t3 q3).trans tr;have e72:=(h.block S q7).trans e7;have R2:=U<|(HR5.out.below BR.out).below h;have R3:=U<|U3.out.below h;have B12:=U<|BR.out.trans<|h.mono BR.out.size;replace q3:=Nat.lt_of_lt_of_le q3 h.size;replace q7:=Nat.lt_of_lt_of_le q7 h.size;replace p:w11.heap.size<pl:=by omega
    generalize w11.heap.size=b9 at y9 p⊢;clear m11 X h tr e7 e6 U1 U3 BR c1 hzr P E N Q O J q6;obtain⟨P,E,N,Q,O,J⟩:=sS t12
    go_wp2_with fail
    refine(aaR _ _ g R2.out C).mono ?_;rintro e w13 ⟨⟨r13,rfl,o13⟩,ag6⟩
    go_wp2_with fail
    refine(aae _ r13 g o13.reads C<|by omega).mono ?_;rintro e w14 ⟨⟨r14,rfl,m14⟩,A⟩;obtain⟨a0,i0,a1,i1,a2,i2,a3,i3,a4,i4,a5,i5,rfl⟩:=m14.form;replace A:=ag6.trans<|A.mono ag6.size;clear ag6 o13
    go_upto_region 13 with(fail)
    generalize eg:w14.alloc _=w15;obtain⟨W,h,n⟩:=alE eg;clear eg;have M2:=U<|m14.below h;replace h:=A.trans<|h.mono A.size;have e73:=(h.block S q7).trans e72;replace y9:=(h.block b9 p).trans y9;replace M1:=U<|M1.out.below h;replace R3:=U<|R3.out.below h;have B15:=U<|B12.out.trans<|h.mono B12.out.size;replace p:=Nat.lt_of_lt_of_le p h.size;replace n:w14.heap.size<w15:=by omega
    generalize w14.heap.size=b10 at W n⊢;clear m14 A h t12 e72 R2 B12 P E N Q O J q3 q7;obtain⟨P,E,N,Q,O,J⟩:=sS e73
    go_wp2_with fail
    refine(aae _ _ (aq g<|adr g) R3.out (aaX C) (by show g.new.length+g.old.length<=32;omega)).mono ?_;rintro e w16 ⟨⟨r16,rfl,m16⟩,hb16⟩;obtain⟨d0,l0,d1,l1,d2,l2,d3,l3,d4,l4,d5,l5,rfl⟩:=m16.form
    go_upto_region 14 with(fail)
    generalize eg:w16.alloc _=w17;obtain⟨y12,h,L⟩:=alE eg;clear eg;have M3:=U<|m16.below h;replace h:=hb16.trans<|h.mono hb16.size;replace y9:=(h.block b9 p).trans y9;replace W:=(h.block b10 n).trans W;replace M1:=U<|M1.out.below h;replace M2:=U<|M2.out.below h;have B17:=U<|B15.out.trans<|h.mono B15.out.size;replace p:=Nat.lt_of_lt_of_le p h.size;replace n:=Nat.lt_of_lt_of_le n h.size;replace L:w16.heap.size<w17:=by omega
    generalize w16.heap.size=b12 at y12 L⊢;clear m16 hb16 h e73 R3 B15 P E N Q O J;have D:=U (show OH w17 b9 _ _ from ⟨y9,M1.out,p⟩);have z:=U (show OH w17 b10 _ _ from ⟨W,M2.out,n⟩);have G:=U (show OH w17 b12 _ _ from ⟨y12,M3.out,L⟩);obtain⟨L1,L2,L3,L4⟩:=afU C;have kA:=adT (Qv C) (by omega:g.new.length+g.old.length<=16);have kB:=adT C hm;have kC:=adT (aaX C) (by omega:g.new.length+g.old.length<=16);have B0:=U<|B5.out.trans<|B17.out.mono B5.out.size;clear M1 M2 M3 p n L y9 W y12 B17 B5 HR5 y5 KU hyl t5 HY;generalize Md.sX (aq g<|ju g)=GA at D L1 L3 kA⊢;generalize Md.sX (aq g<|adr g)=GC at G L2 L4 kC⊢;generalize Md.sX g=u at z L1 L2 L3 L4 kB⊢;replace L3:=U L3;replace L4:=U L4;obtain⟨P,E,N,Q,O,J⟩:=sS D.out.1
    go_wp2_with fail
    refine(aaQ _ _ GA D.out.2.1 kA.1).mono ?_;rintro e Vn ⟨rfl,hb⟩;replace D:=U<|D.out.below hb;replace z:=U<|z.out.below hb;replace G:=U<|G.out.below hb;replace B0:=U<|B0.out.trans<|hb.mono B0.out.size;clear hb P E N Q O J;obtain⟨P,E,N,Q,O,J⟩:=sS z.out.1
    go_wp2_with fail
    refine(aaQ _ _ u z.out.2.1 kB.1).mono ?_;rintro e WF ⟨rfl,hb⟩;replace D:=U<|D.out.below hb;replace z:=U<|z.out.below hb;replace G:=U<|G.out.below hb;replace B0:=U<|B0.out.trans<|hb.mono B0.out.size;clear hb P E N Q O J;obtain⟨P,E,N,Q,O,J⟩:=sS G.out.1
    go_wp2_with fail
    refine(aaQ _ _ GC G.out.2.1 kC.1).mono ?_;rintro e QU ⟨rfl,hb⟩;replace D:=U<|D.out.below hb;replace z:=U<|z.out.below hb;replace G:=U<|G.out.below hb;replace B0:=U<|B0.out.trans<|hb.mono B0.out.size;clear hb P E N Q O J;obtain⟨-,E,-⟩:=sS D.out.1;obtain⟨-,g1,-⟩:=sS z.out.1;obtain⟨-,h1,-⟩:=sS G.out.1;have c1:¬u.old.length<GA.old.length:=by omega
    have c2:¬GC.old.length<u.old.length:=by omega
    go_upto_region 16 with(fail)
    clear c1 c2 E g1 h1;refine Rg.pT [.eq (.agg #[.slice s0 GA.new.length j0,.slice s1 GA.old.length j1,.slice s2 GA.roots.length j2,.slice s3 GA.aA.length j3,.slice s4 GA.done.length j4,.slice s5 GA.marked.length j5]),SP.ph QU<|plain GA,.eq<|.agg #[.slice a0 u.new.length i0,.slice a1 u.old.length i1,.slice a2 u.roots.length i2,.slice a3 u.aA.length i3,.slice a4 u.done.length i4,.slice a5 u.marked.length i5],SP.ph QU<|plain u,.eq<|.tuple #[.bool ζ,Ω Ψ 0],.eq<|.tuple #[.bool ζ,Ω Ψ 0],.eq<|.bool ζ,.eq<|Ω Ψ 0,.eq<|.bool ζ,.eq<|Ω Ψ 0] (by kernel_rfl) (by kernel_rfl) (by rfl) ?_ ?_
    ·refine⟨?_,?_,?_,?_,?_,?_,?_,?_,?_,?_,trivial⟩
     all_goals intro x T t c b
     all_goals have o:I QU QU T:=(Z _ QU).drew.trans t
     all_goals first|((try have q0:=Rg.lT (b 4 _ rfl rfl) rfl);(try have q1:=Rg.lT (b 5 _ rfl rfl) rfl);(try have q2:=Rg.lT (b 6 _ rfl rfl) rfl);(try have q3:=Rg.lT (b 7 _ rfl rfl) rfl);clear c b;go_simp;exact⟨_,rfl,.refl _ _,rfl⟩)|skip
     ·have b2:=c 9 rfl;simp at b2;obtain⟨z0,z1,z2,z3,z4,z5⟩:=sS (D.out.below o).1;clear c b;go_simp;exact⟨_,rfl,.refl _ _,rfl⟩
     ·have q:=Rg.lT (b 0 _ rfl rfl) rfl;clear c b;go_simp;refine(Pg _ _ _ (D.out.below o).2.1 kA.1).mono ?_;rintro e w3 ⟨⟨r,rfl,s⟩,m⟩;exact⟨_,rfl,m,s.less o.size⟩
     ·have b2:=c 10 rfl;simp at b2;obtain⟨z0,z1,z2,z3,z4,z5⟩:=sS (z.out.below o).1;clear c b;go_simp;exact⟨_,rfl,.refl _ _,rfl⟩
     ·have q:=Rg.lT (b 2 _ rfl rfl) rfl;clear c b;go_simp;refine(Pg _ _ _ (z.out.below o).2.1 kB.1).mono ?_;rintro e w3 ⟨⟨r,rfl,s⟩,m⟩;exact⟨_,rfl,m,s.less o.size⟩
     ·have s1:pS T QU ((x.tmps[117]?).getD undef) (plain GA):=b 1 _ rfl rfl;have s2:pS T QU ((x.tmps[119]?).getD undef) (plain u):=b 3 _ rfl rfl;clear c b;go_simp;refine(aeA _ _ _ _ _ s1.reads s2.reads kA.2 kB.2 L3.out).mono ?_;rintro e w3 ⟨rfl,m⟩;exact⟨_,rfl,m,rfl⟩
    ·rintro vs1 B hb ⟨r0,r1,r2,r3,r4,r5,r6,r7,r8,r9,-⟩;have r8:vs1 8=_:=r8;have r9:vs1 9=_:=r9;simp[go_sem,r8,r9];replace hb:=(Z _ QU).drew.trans hb;replace D:=U<|D.out.below hb;replace z:=U<|z.out.below hb;replace G:=U<|G.out.below hb;replace B0:=U<|B0.out.trans<|hb.mono B0.out.size;clear hb r0 r1 r2 r3 r4 r5 r6 r7 r8 r9
     go_upto_region 17 with(fail)
     refine Rg.pT [.eq (.agg #[.slice a0 u.new.length i0,.slice a1 u.old.length i1,.slice a2 u.roots.length i2,.slice a3 u.aA.length i3,.slice a4 u.done.length i4,.slice a5 u.marked.length i5]),SP.ph B<|plain u,.eq<|.agg #[.slice d0 GC.new.length l0,.slice d1 GC.old.length l1,.slice d2 GC.roots.length l2,.slice d3 GC.aA.length l3,.slice d4 GC.done.length l4,.slice d5 GC.marked.length l5],SP.ph B<|plain GC,.eq<|.tuple #[.bool ζ,Ω Ψ 0],.eq<|.tuple #[.bool ζ,Ω Ψ 0],.eq<|.bool ζ,.eq<|Ω Ψ 0,.eq<|.bool ζ,.eq<|Ω Ψ 0] (by kernel_rfl) (by kernel_rfl) (by rfl) ?_ ?_
     ·refine⟨?_,?_,?_,?_,?_,?_,?_,?_,?_,?_,trivial⟩
      all_goals intro x T t c b
      all_goals have o:I B B T:=(Z _ B).drew.trans t
      all_goals first|((try have q0:=Rg.lT (b 4 _ rfl rfl) rfl);(try have q1:=Rg.lT (b 5 _ rfl rfl) rfl);(try have q2:=Rg.lT (b 6 _ rfl rfl) rfl);(try have q3:=Rg.lT (b 7 _ rfl rfl) rfl);clear c b;go_simp;exact⟨_,rfl,.refl _ _,rfl⟩)|skip
      ·have b2:=c 10 rfl;simp at b2;obtain⟨z0,z1,z2,z3,z4,z5⟩:=sS (z.out.below o).1;clear c b;go_simp;exact⟨_,rfl,.refl _ _,rfl⟩
      ·have q:=Rg.lT (b 0 _ rfl rfl) rfl;clear c b;go_simp;refine(Pg _ _ _ (z.out.below o).2.1 kB.1).mono ?_;rintro e w3 ⟨⟨r,rfl,s⟩,m⟩;exact⟨_,rfl,m,s.less o.size⟩
      ·have b2:=c 12 rfl;simp at b2;obtain⟨z0,z1,z2,z3,z4,z5⟩:=sS (G.out.below o).1;clear c b;go_simp;exact⟨_,rfl,.refl _ _,rfl⟩
      ·have q:=Rg.lT (b 2 _ rfl rfl) rfl;clear c b;go_simp;refine(Pg _ _ _ (G.out.below o).2.1 kC.1).mono ?_;rintro e w3 ⟨⟨r,rfl,s⟩,m⟩;exact⟨_,rfl,m,s.less o.size⟩
      ·have s1:pS T B ((x.tmps[125]?).getD undef) (plain u):=b 1 _ rfl rfl;have s2:pS T B ((x.tmps[127]?).getD undef) (plain GC):=b 3 _ rfl rfl;clear c b;go_simp;refine(aeA _ _ _ _ _ s1.reads s2.reads kB.2 kC.2 L4.out).mono ?_;rintro e w3 ⟨rfl,m⟩;exact⟨_,rfl,m,rfl⟩
     ·rintro vs2 w22 hb ⟨r0,r1,r2,r3,r4,r5,r6,r7,r8,r9,-⟩;have r8:vs2 8=_:=r8;have r9:vs2 9=_:=r9;simp[go_sem,r8,r9];replace hb:=(Z _ B).drew.trans hb;replace B0:=U<|B0.out.trans<|hb.mono B0.out.size;clear hb r0 r1 r2 r3 r4 r5 r6 r7 r8 r9 D z G kA kB kC L3 L4
      go_wp2_with fail
      refine(Fr _).mono ?_;rintro e w23 ⟨rfl,hb⟩
      go_wp2_with fail
      go_ret;exact⟨rfl,B0.out.trans<|hb.mono B0.out.size⟩
end Kn
