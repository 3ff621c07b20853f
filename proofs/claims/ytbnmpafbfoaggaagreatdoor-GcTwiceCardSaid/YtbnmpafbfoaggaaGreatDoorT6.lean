/- A part of the proof of GcTwice; no conditions. -/
import Derived.Test.YtbnmpafbfoaggaaGreatDoorT0
import Derived.Test.YtbnmpafbfoaggaaGreatDoorT1
import Derived.Test.YtbnmpafbfoaggaaGreatDoorT5
import Derived.Deep.AppendLies
import Derived.Test.YtbnmpafbfoaggaaGreatDoorT4
set_option linter.defProp false
set_option linter.unusedVariables false
set_option linter.unusedSimpArgs false
set_option maxRecDepth 100000
set_option maxHeartbeats 16000000
noncomputable section
open Go.Lib renaming hid->U
open Go.Value renaming int->Ω,slice->ι
open Go.IntKind renaming i64->Ψ
open Go.World renaming cell?->M
open Option renaming some->V,none->ξ
open Go.Obj renaming cells->Ξ
open And renaming intro->Z
open Array renaming getElem?_eq_some_iff->Θ
open Go.RowKit renaming Below->I,Hid->R
open Go.RowKit.Below renaming refl->Δ
open List renaming getElem?_eq_some_iff->Γ,range->υ,replicate->ο,length_range->η,take_length->ζ,all_eq_true->ε,length_map->Z8,nodup_nil->Z7
open Go renaming heap_alloc_new->ω,Calls->Y,World->ψ,Value->φ,wpList_step->μ,results->κ,bodyPost_ret->θ,leaves_cons->Z9
open Go.Addr renaming add->χ
namespace Go.Proofs.YtbnmpafbfoaggaaGreatDoor
open Go.Proofs.Tryz hiding prog
open Go.Proofs.aD
namespace Kn
open Go Go.RowKit Md
section
variable{B i:Nat}(w:ψ){vs:List HV}{k:Int}{J:Nat->Prop}
def RC.at_{w v row kind cs}(h:RC w B v (cellsOf row kind cs))(f:OV w B (row (kind,(i:Int))) vs)(e:cs[i]?=V (k,vs)):
 ∃d m a b,v=.slice (d:Nat) cs.length m/\w ((d:Nat),i*2)=V (Ω Ψ k)/\row (kind,(i:Int))=.slice a vs.length b/\w ((d:Nat),i*2+1)=V (.slice a vs.length b):=by
 have hi:=(Γ.1 e).1;obtain⟨g,m,rfl,_,l,_,_,j⟩:=h.cells (by rw[aT];omega);obtain⟨e1,e2⟩:=jx dW (λv=>Ω Ψ v.1) (λv=>v.2) (λ_=>rfl) _ i _<|bH (kind:=kind) e;obtain⟨a,b,c,_⟩:=aF f;refine⟨g,m,a,b,by rw[aT],j _ _ e1,c,?_⟩
 grind
def dm.WM{w b g}(h:dm w B b g)(e:g.new[i]?=V (k,vs)):
 ∃c m a d,w b=V (.slice (c:Nat) g.new.length m)/\w ((c:Nat),i*2)=V (Ω Ψ k)/\w ((c:Nat),i*2+1)=V (.slice a vs.length d):=by
 obtain⟨n,o,m,row,s,hb,p,r,t,l⟩:=h;obtain⟨f,j⟩:=J8 e;have:=l.1 _ f;rw[j]at this;obtain⟨c,q,a,d,rfl,r1,_,r2⟩:=p.at_ this e;exact⟨c,q,a,d,by simp[M,hb],r1,r2⟩
def dm.JB{w b g}(h:dm w B b g)(e:g.old[i]?=V (k,vs)):
 ∃c m a d,w (b,1)=V (.slice (c:Nat) g.old.length m)/\w ((c:Nat),i*2)=V (Ω Ψ k)/\w ((c:Nat),i*2+1)=V (.slice a vs.length d):=by
 obtain⟨n,o,m,row,s,hb,r,l,t,p⟩:=h;obtain⟨f,j⟩:=B1 e;have:=p.1 _ f;rw[j]at this;obtain⟨c,q,a,d,rfl,r1,_,r2⟩:=l.at_ this e;exact⟨c,q,a,d,by simp[M,hb],r1,r2⟩
def aai{K:Int}{s}(h:K=3/\s=0\/K=4/\s=1)(w)(b a len m k:Nat)(hc:w (b,s)=V (.slice a len m))(d:k<len)(c:len<=1000000):
 Y prog 199 #[.pointer b,.agg #[K,k]] w λe w'=>e=.returned (.pointer (a,k*2))/\I w w w':=by
 obtain⟨rfl,rfl⟩|⟨rfl,rfl⟩:=h
 exact zD w b a len m k hc d c;exact ol w b a len m k hc d c
def aaj(B A b i r k)(vs:List HV)(hr:bD w B A b r J)(K:Int)(s)(cs:List HC)(S:K=3/\s=0\/K=4/\s=1)(e:∃f m a L,w (b,s)=V (.slice (f:Nat) cs.length m)/\w ((f:Nat),i*2)=V (Ω Ψ k)/\w ((f:Nat),i*2+1)=V (.slice a vs.length L))(H:i<cs.length)(hk:0<=k/\k<=1000)(hv:vs.length<=1000)(hl:cs.length<=1000):
 Y prog 154 #[.pointer A,.agg #[K,i]] w λe w'=>e=.returned (.agg #[Ω Ψ 1,Ω Ψ<|10*k+vs.length])/\I w w w':=by
 obtain⟨f,m,a,L,c0,c1,c2⟩:=e;obtain⟨p0,_,E⟩:=hr.ptr;have G:=az c0;have n:=az c1;have hw1:IntKind.i64.wrap (10*k)=10*k:=wrap_small _ (by omega) (by omega);have hw2:IntKind.i64.wrap (10*k+(vs.length:Int))=10*k+(vs.length:Int):=wrap_small _ (by omega) (by omega);obtain⟨Q,h,F⟩:=Ju w (Ξ #[K,i] 50)<|Ξ #[Ω Ψ 0,Ω Ψ 0] 50;have X:((w.alloc<|Ξ #[K,i] 50).alloc<|Ξ #[Ω Ψ 0,Ω Ψ 0] 50).heap[w.heap.size]?=V (Ξ #[K,i] 50 (0,0)):=((af _ _).block _<|by simp).trans<|ω w _
 go_enter (fU func154 rfl),ntmps154
 go_wp2_with fail
 refine(jX _ K (i:Int) (by obtain⟨rfl,rfl⟩|⟨rfl,rfl⟩:=S<;>rfl)).mono ?_;rintro e o ⟨rfl,d⟩;have z:=d.size;have c:=U<|h.trans<|d.mono h.size;have t:=(d.block w<|by omega).trans X;have x1:=(d.block (w.heap.size+1)<|by omega).trans Q;have u:=cG c.out p0 E;have q1:=cG c.out c0 G;have q:=cG c.out c1 n;have T:=cG c.out c2 n;have C:o w.heap.size=V (Ω Ψ K):=by simp[M,t]
 have O:o (w.heap.size,1)=V (Ω Ψ (i:Int)):=by simp[M,t]
 have D:w.heap.size+1<o:=by omega
 have HX:=U x1;clear X Q h F c0 c1 c2 p0 d t x1 z
 go_wp2_with fail
 go_region_held3 (λx=>x A=V (.pointer b)/\x w.heap.size=V (Ω Ψ K)/\x (w.heap.size,1)=V (Ω Ψ (i:Int))) ((refine⟨?_,?_,?_⟩<;>(repeat (first|with_reducible assumption|with_reducible refine dO ?_))))
  ((go_at_call 199;(with_reducible refine(aai S _ b f cs.length m i (((Δ _ _).drew.cell (p:=⟨b,s,ξ⟩)<|az q1).trans q1) H<|by omega).mono ?_);rintro e w4 ⟨rfl,l⟩;have g:I o o w4:=(Δ _ _).drew.trans l;have k0:=cG g u<|az u;have k1:=cG g C<|az C;have k2:=cG g O<|az O))
 have k3:=cG g q<|az q;have k4:=cG g T<|az q;have x4:=(g.block (w.heap.size+1) D).trans HX.out;have m0:w4 (w.heap.size+1:Nat)=V (Ω Ψ 0):=by simp[M,x4]
 have m1:w4 (w.heap.size+1,1)=V (Ω Ψ 0):=by simp[M,x4]
 have f0:=cD (i:=0) x4;have f1:=cD (i:=1) x4;have y:¬w.heap.size+1=f:=by omega
 have P:=U x4;have N:=U<|c.out.trans<|g.mono c.out.size;clear x4 g u q1 q T C O k0 k1 k2 l
 go_wp2_with fail
 go_region_held3 (λx=>x ((f:Nat),i*2)=V (Ω Ψ k)/\x ((f:Nat),i*2+1)=V (.slice a vs.length L)) ((refine⟨?_,?_⟩<;>(repeat (first|with_reducible assumption|with_reducible refine dO ?_|with_reducible refine da y ?_)))) (fail)
 go_wp2_with fail
 have W:((w4.setCell (w.heap.size+1:Nat)<|Ω Ψ 1).setCell (w.heap.size+1,1)<|Ω Ψ<|10*k+(vs.length:Int)).drew.heap[w.heap.size+1]?=_:=aB (aB P.out 0<|Ω Ψ 1) 1<|Ω Ψ<|10*k+(vs.length:Int);have j:I w w ((w4.setCell (w.heap.size+1:Nat)<|Ω Ψ 1).setCell (w.heap.size+1,1)<|Ω Ψ<|10*k+(vs.length:Int)).drew:=((N.out.setCell (p:=⟨w.heap.size+1,0,ξ⟩) (by simp)<|Ω Ψ 1).setCell (p:=⟨w.heap.size+1,1,ξ⟩) (by simp)<|Ω Ψ<|10*k+(vs.length:Int)).drew;generalize ((w4.setCell (w.heap.size+1:Nat)<|Ω Ψ 1).setCell (w.heap.size+1,1)<|Ω Ψ<|10*k+(vs.length:Int)).drew=w5 at W j⊢;refine θ (v:=.agg #[Ω Ψ 1,Ω Ψ<|10*k+vs.length]) (by simp[κ,results154,go_sem,M,W]) rfl ⟨rfl,j⟩
def Fa(B a b i:Nat)(r k vs)(c:bD w B a b r J)(e:r.g.new[i]?=V (k,vs))(d:0<=k/\k<=1000)(f:vs.length<=1000)(h:r.g.new.length<=1000):
 Y prog 154 #[.pointer a,.agg #[Ω Ψ 3,i]] w λe w'=>e=.returned (.agg #[Ω Ψ 1,Ω Ψ<|10*k+vs.length])/\I w w w':=
 aaj w B a b i r k vs c 3 0 r.g.new (.inl ⟨rfl,rfl⟩) (c.2.2.1.own.WM e) (Γ.1 e).1 d f h
def ve(B a b i:Nat)(r k vs)(c:bD w B a b r J)(e:r.g.old[i]?=V (k,vs))(d:0<=k/\k<=1000)(f:vs.length<=1000)(h:r.g.old.length<=1000):
 Y prog 154 #[.pointer a,.agg #[Ω Ψ 4,i]] w λe w'=>e=.returned (.agg #[Ω Ψ 1,Ω Ψ<|10*k+vs.length])/\I w w w':=
 aaj w B a b i r k vs c 4 1 r.g.old (.inr ⟨rfl,rfl⟩) (c.2.2.1.own.JB e) (Γ.1 e).1 d f h
end
def nr{w ty}{B bx:Nat}{v l}{p q:Int}{t fr}(h:OV w B v l)(k:w.heap[bx]?=V (Ξ #[p,q] t fr))(z:l.length<=1000000)(r:B<=w):
 ∃b w',(Builtin.append_ #[23,23] ty #[v,.slice bx 1 1]).run prog w=.ok b w'/\(OV w' B b (l++[(p,q)])/\w.grownBy w' v.ownBlock/\∃g o,b=.slice (g:Nat) (l.length+1) o/\(v.ownBlock=V g\/g=w)):=by
 obtain⟨n,hi,c,d,e⟩:=info_parts nh;obtain⟨g,m,w',f,y,s,A,x⟩:=run_append_lies (P:=prog) w 23 ty B 50 n _ 2 16 lx hi c d e rfl (by decide) v l.length _ h bx 1 1 (lU (p,q)) rfl (λj u a=>by
  match j,a with
  |0,a=>cases a;simp[M,k,χ]
  |1,a=>cases a;simp[M,k,χ]
  |j+2,a=>simp[lU]at a) (λu i=>by
  simp[lU]at i;obtain rfl|rfl:=i<;>rfl) (by omega) (by unfold maxLen;omega) (by omega) r _ rfl
 unfold OV
 grind
def bD.grown{w w' B x b r J row}(h:bD w B x b r J)(f:w.grownBy w' row)(y:∀j,row=V j->J j/\∃d,w.heap[j]?=V (.cells d 50 (0,0))):bD w' B x b r J:=by
 obtain⟨A,u,⟨n,o,m,q,E,hb,C,z,t,s,g5⟩,D⟩:=h;have l:∀{k:Nat} {v:Array φ} {p:TypeId} {i:Nat×Nat},w.heap[k]?=V (.cells v p i) ->p≠50->w'.heap[k]?=w.heap[k]?:=λ{k v p i} a F=>f.block k (Θ.1 a).1 λe=>by grind
 refine⟨A,(l u<|by decide).trans u,⟨n,o,m,q,E,(l hb<|by decide).trans hb,C.below λg d f=>l f<|by decide,z.below λg d f=>l f<|by decide,aS t λg c=>?_,⟨λk a=>aS (s.1 k a) λg c=>f.block g ((s.1 k a).lt g c).2 λe=>(g5 g (y g e.symm).1).2 k a c,s.2⟩,g5⟩,D⟩;exact f.block g (t.lt g c).2 λe=>by obtain⟨_,d,hc⟩:=y g e.symm;exact cF t hc (by decide) c
def bD.JC{w}{B i b n:Nat}{r J p q}(h:bD w B i b r J)(f:r.g.roots[n]?=V (p,q)):
 ∃gr m,w (b,2)=V (.slice (gr:Nat) r.g.roots.length m)/\w ((gr:Nat),n*2)=V (Ω Ψ p)/\w ((gr:Nat),n*2+1)=V (Ω Ψ q)/\∀j,J j->j≠gr:=by
 obtain⟨_,_,⟨F,o,m,row,G,hb,C,A,E,l,s⟩,_⟩:=h;have D:=(Γ.1 f).1;have h0:=l.roots.1;obtain⟨a,v,d,t,u,x⟩:=aF h0;obtain⟨gr,rfl,_,_,c,_⟩:=x (by omega);rw[d]at h0;obtain⟨k,y,_⟩:=h0.at_ f;exact⟨gr,v,by simp[M,hb,d],k,y,λj z e=>(s j z).2 (0,0) (.inl ⟨rfl,by decide,by decide⟩) (by rw[d,e];rw[d]at c;exact c)⟩
abbrev C4:=Int×Nat×Int×Int
def c4V(c:C4):φ:=.agg #[Ω Ψ c.1,(c.2.1:Int),Ω Ψ c.2.2.1,Ω Ψ c.2.2.2]
def JD(w:ψ)(P:Nat->Prop)(v:φ)(l:List C4):Prop:=∃a m,v=.slice a l.length m/\(0<l.length->∃b o,a=V ⟨b,o,ξ⟩/\P b/\∀i c,l[i]?=V c->w ((b:Nat),o+i*4)=V (Ω Ψ c.1)/\w ((b:Nat),o+i*4+1)=V (Ω Ψ (c.2.1:Int))/\w ((b:Nat),o+i*4+2)=V (Ω Ψ c.2.2.1)/\w ((b:Nat),o+i*4+3)=V (Ω Ψ c.2.2.2))
def Rq(w:ψ)(J:Nat->Prop):Prop:=∀j,J j->∀c t fr,w.heap[j]?=V (.cells c t fr) ->t≠3
structure Step(B br b:Nat)(r r':Md.RS)(c:C4)(s:HV):Prop where
 OU:∀w J,bD w B br b r J->B<=w->(∀j,J j->j<w) ->Rq w J->Y prog 153 #[.pointer br,c4V c] w λe w'=>e=.returned (.tuple #[])/\bD w' B br b r' J/\I B w w'/\tc J w w'
 root:∃p q,r'.g.roots[c.2.1]?=V (p,q)/\∀w J,bD w B br b r' J->Y prog 154 #[.pointer br,.agg #[Ω Ψ p,Ω Ψ q]] w λe w'=>e=.returned (.agg #[Ω Ψ s.1,Ω Ψ s.2])/\I w w w'
 wW:r'.g.roots.length<=1000
def afF{l:List C4}{k}(h:k<l.length):∃c,l[k]?=V c:=by simp_all
def JE(w B r b v cs)(G:Nat->Md.RS)(sv){J}(hv:JD w (λj=>j<B\/J j) v cs)(hr:bD w B r b (G 0) J)(hB:B<=w)(hJ:∀j,J j->j<w)(hJ3:Rq w J)(hl:cs.length<=1000)(hsl:sv.length=cs.length)(hst:∀i c s,cs[i]?=V c->sv[i]?=V s->Step B r b (G i) (G<|i+1) c s):
 Y prog 94 #[.pointer r,v] w λe w'=>(∃rv,e=.returned rv/\OV w' B rv sv)/\bD w' B r b (G cs.length) J/\I B w w'/\tc J w w':=by
 obtain⟨la,lm,rfl,P⟩:=hv;have anL:=U P;have HST:=U hst;have HR:=U hr;clear P hst hr
 go_enter (fU func94 rfl),ntmps94
 go_wp2_with fail
 go_loopw [5,10] (λo i wr=>∃(k:Nat),k<=cs.length/\i=Ω Ψ k/\R (OV wr w o (sv.take k)/\bD wr B r b (G k) (λj=>J j\/o.ownBlock=V j)/\I B w wr/\tc J w wr)) (λ_ i _=>cs.length-(intOf i).toNat)
 case atStart=>exact⟨0,by omega,rfl,U ⟨OV.nil _ _,HR.out.sub (λj f=>f.elim id λe=>by cases e),Δ _ _,λ_ _ _=>rfl⟩⟩
 case round=>
  obtain⟨k,hk,rfl,a⟩:=hrel;by_cases hlt:k<cs.length
  ·obtain⟨lb,lo,rfl,hlb,hat⟩:=anL.out (by omega);obtain⟨⟨c0,c1,c2,c3⟩,hc⟩:=afF hlt;obtain⟨s0,s1,hs⟩:=ep (l:=sv) (k:=k) (by omega);have D:=U<|HST.out k _ _ hc hs;obtain⟨q0,q1,q2,q3⟩:=hat k _ hc;have hbw:=a.out.2.2.1;have N:wr.heap[lb]?=w.heap[lb]?:=by
    obtain h|h:=hlb
    exact hbw.block lb h;exact a.out.2.2.2 lb h<|az q0
   have d:∀o,wr.cell? ⟨lb,o,ξ⟩=w.cell? ⟨lb,o,ξ⟩:=λo=>by simp only[M,N]
   replace q0:=(d _).trans q0;replace q1:=(d _).trans q1;replace q2:=(d _).trans q2;replace q3:=(d _).trans q3;clear N d;dsimp only at q0 q1 q2 q3;have hsw:=hbw.size;have ν:=(a.out.2.1.ptr).2.1;have hk0:(0:Int)<=(k:Int):=by omega
   have hk1:(k:Int)<(cs.length:Int):=by omega
   have HC:=U hc;clear hat hbw hc
   go_wp2_with fail
   have HDO:=U (show∀(W:ψ) (J':Nat->Prop),bD W B r b (G k) J'->B<=W->(∀j,J' j->j<W) ->Rq W J'->Y prog 153 #[.pointer r,.agg #[c0,c1,c2,c3]] W λe w'=>e=.returned (.tuple #[])/\bD w' B r b (G<|k+1) J'/\I B W w'/\tc J' W w' from D.out.OU);have z:=af wr<|Ξ #[c0,c1,c2,c3] 44;have F:=a.out.2.1.one<|Ξ #[c0,c1,c2,c3] 44;have y1:=ω wr<|Ξ #[c0,c1,c2,c3] 44;have hz1:(wr.alloc<|Ξ #[c0,c1,c2,c3] 44).heap.size=wr.heap.size+1:=by simp
   have p5:=cG z ν<|az ν;clear q0 q1 q2 q3 ν;generalize wr.alloc _=w1 at z F y1 hz1 p5⊢;have E:=U<|Z z<|Z F y1;obtain⟨x0,x1,x2,x3⟩:=fZ y1;have u:=a.out.1;have hJ1:∀j,((J j\/u5.ownBlock=V j)\/j=wr) ->j<w1:=by
    intro j f;obtain(h|h)|h:=f
    have:=hJ j h;omega;have:=(u.lt j h).2;omega;omega
   have HJ1:=U hJ1;have H3:=U (show Rq w1.drew (λj=>(J j\/u5.ownBlock=V j)\/j=wr)fromλj f c t fr hc=>by
    obtain(h|h)|h:=f
    have:=hJ j h;exact hJ3 j h c t fr<|(a.out.2.2.2 j h this).symm.trans<|(z.block j<|by omega).symm.trans hc;obtain⟨cur,anM⟩:=u.block h;have H:=(z.block j (u.lt j h).2).trans anM;have h2:=H.symm.trans hc;cases h2
    decide
    subst h;have h2:=y1.symm.trans hc;cases h2
    decide)
   clear z F y1 u hJ1
   go_region_held3 (λx=>x (r,5)=V (.func (.func 153) #[.pointer r] #[])/\x wr.heap.size=V (Ω Ψ c0)/\x (wr.heap.size,1)=V (Ω Ψ (c1:Int))/\x (wr.heap.size,2)=V (Ω Ψ c2)/\x (wr.heap.size,3)=V (Ω Ψ c3)) ((refine⟨?_,?_,?_,?_,?_⟩<;>(repeat (first|with_reducible assumption|with_reducible refine dO ?_))))
    ((go_at_call 153;(with_reducible refine(HDO.out _ _ (E.out.2.1.below (Δ _ _).drew) (by simp;omega) (λj f=>by have:=HJ1.out j f;simpa using this) H3.out).mono ?_);rintro e w2 ⟨rfl,Q,hb2,X⟩;have y2:=(X wr (.inr rfl) (by simp;omega)).trans (E.out.2.2:_=V (Ξ #[c0,c1,c2,c3] 44 (0,0)));have hp2:=Q.ptr.2.1;obtain⟨x0,x1,x2,x3⟩:=fZ y2;have y:=U Q;have HB2:=U hb2;have HF2:=U X;clear Q hb2 X y2))
   go_wp2_with fail
   obtain⟨p,q,m,K⟩:=D.out.root;dsimp only at m;have hfew:=D.out.wW;have ar7:=(Γ.1 m).1;have anN:=U K;obtain⟨gr,gm,z2,z3,A,hjg⟩:=y.out.JC m;have z1:=y.out.ptr.1;have aiM:=az z1;have anO:=az z2;have L:=az z3;have hbx2:=az x1;have S:=HB2.out.size;have C:OV w2 w u5 (sv.take k):=aS (a.out.1.below E.out.1) λg hg=>HF2.out g (.inl<|.inr hg) (by have:=HJ1.out g<|.inl<|.inr hg;simpa using this);have HO2:=U C;have n1:V r≠u5.ownBlock:=λe=>by have:=y.out.2.2.2 r<|.inl<|.inr e.symm;exact this rfl
   have n2:V b≠u5.ownBlock:=λe=>by have:=y.out.2.2.1.ne (j:=b)<|.inl<|.inr e.symm;exact this rfl
   have n3:V gr≠u5.ownBlock:=λe=>hjg gr (.inl<|.inr e.symm) rfl;have n4:V wr.heap.size≠u5.ownBlock:=λe=>by have:=(a.out.1.lt _ e.symm).2;omega
   have HN:=U<|Z n1<|Z n2<|Z n3 n4;have hr0:(0:Int)<=(c1:Int):=by omega
   have F:(c1:Int)<((G<|k+1).g.roots.length:Int):=by omega
   clear K m hjg C n1 n2 n3 n4 x0 x2 x3;have HZ:=U<|Z z1<|Z z2<|Z z3<|Z A x1
   go_region_held_law (λx=>x r=V (.pointer b)/\x (b,2)=V (.slice gr (G<|k+1).g.roots.length gm)/\x (gr,c1*2)=V (Ω Ψ p)/\x (gr,c1*2+1)=V (Ω Ψ q)/\x (wr.heap.size,1)=V (Ω Ψ (c1:Int)))
    ((refine⟨?_,?_,?_,?_,?_⟩<;>(repeat (first|with_reducible assumption|with_reducible refine dO ?_|with_reducible refine dB ?_))))
    (first
      |(refine aX rfl _ _ 23 (by rfl) u5 (.slice w4.heap.size 1 1) (by rfl) (by rfl) _ (nr (B:=w) (p:=s0) (q:=s1) (l:=sv.take k) (T.out.below<|af w4 _) (ω w4 _) (by simp;omega) (by simp;omega)) ?_;intro v' w5 h5;obtain⟨Pk,n,gg,mg,rfl,O⟩:=h5;have g1:=(n.cell_far r (by simp;omega) HN.out.1).trans<|dB k1;have g2:=(n.cell_far (b,2) (by simp;omega) HN.out.2.1).trans<|dB k2;have g3:=(n.cell_far (gr,c1*2) (by simp;omega) HN.out.2.2.1).trans<|dB k3;have g4:=(n.cell_far (gr,c1*2+1) (by simp;omega) HN.out.2.2.1).trans<|dB k4;have g5:=(n.cell_far (wr.heap.size,1) (by simp;omega) HN.out.2.2.2).trans<|dB k5)
      |(go_at_call 154;(with_reducible refine(anN.out _ _ (y.out.below (Δ _ _).drew)).mono ?_);rintro e w4 ⟨rfl,hb4⟩;have A:I w2 w2 w4:=(Δ _ _).drew.trans hb4;have hs4:=A.size;have k1:=cG A HZ.out.1 aiM;have k2:=cG A HZ.out.2.1 anO;have k3:=cG A HZ.out.2.2.1 L;have k4:=cG A HZ.out.2.2.2.1 L;have k5:=cG A HZ.out.2.2.2.2 hbx2;have T:=U (HO2.out.below A)))
   have HF:=U<|Z Pk<|Z n O;have tU:=U A;clear g1 g2 g3 g4 g5 k1 k2 k3 k4 k5 z1 z2 z3 A x1 Pk n O
   go_wp2_with fail
   go_roundw
   case rel=>
    refine⟨k+1,by omega,by go_num,U ⟨?_,?_,?_,?_⟩⟩;rw[bW hs];have H:=HF.out.1;rw[show(List.take k sv).length=k by simp;omega]at H;exact H;refine(((y.out.below tU.out).more.below<|af w4 _).grown HF.out.2.1 λj f=>⟨.inl<|.inl<|.inr f,(T.out.below<|af w4 _).block f⟩).sub λj f=>?_;obtain f|f:=f
    exact .inl<|.inl<|.inl f;have hgj:gg=j:=by have hj':V gg=V j:=f;exact Option.some.inj hj'
    subst hgj;obtain e|e:=HF.out.2.2
    exact .inl<|.inl<|.inr e;exact .inr (by rw[e];simp);exact((((a.out.2.2.1.trans<|E.out.1.mono<|by omega).trans<|(Δ B w1).drew).trans HB2.out).trans<|tU.out.mono (by simp at S;omega)).trans<|((af w4 _).mono (by simp at S;omega)).trans<|cM (T.out.below<|af w4 _) HF.out.2.1 (by simp;omega)|>.mono hB
    intro j f hl;have H:V j≠u5.ownBlock:=λe=>by have:=(a.out.1.lt _ e.symm).1;omega
    have h2:=HJ1.out j<|.inl<|.inl f;simp at S;exact(HF.out.2.1.block j (by simp;omega) H).trans<|((af w4 _).block j<|by omega).trans<|(tU.out.block j<|by omega).trans<|(HF2.out j (.inl<|.inl f)<|by simpa using h2).trans<|(E.out.1.block j<|by omega).trans<|a.out.2.2.2 j f hl
   case measure=>simp[intOf];omega
  ·have hke:k=cs.length:=by omega
   subst hke
   go_wp2_with fail
   obtain⟨H,h2,h3,h4⟩:=a.out;rw[<-hsl,ζ]at H;go_ret;exact⟨⟨_,rfl,H.less hB⟩,h2.sub λj f=>.inl f,h3,h4⟩
def JD.below{w w' P f v l}(h:JD w P v l)(g:∀j,P j->f j/\w'.heap[j]?=w.heap[j]?):JD w' f v l:=by obtain⟨a,m,rfl,h⟩:=h;refine⟨a,m,rfl,λh0=>?_⟩;obtain⟨b,o,rfl,hb,d⟩:=h h0;obtain⟨n,k⟩:=g b hb;exact⟨b,o,rfl,n,λi c e=>by simpa only[M,k]using d i c e⟩
def WQ(w v lv g cs)(N:Nat->Md.RS)(sv)(hv:GV w v g)(hk:oy g)(hm:g.marked.length<=1000000)(hz:cN g=0)(hlv:JD w (λj=>j<w) lv cs)(hl:cs.length<=60)(F:sv.length=cs.length)(h0:N 0=⟨g,0,0,0,0⟩)(E:∀B br b (i:Nat) c s,cs[i]?=V c->sv[i]?=V s->Step B br b (N i) (N<|i+1) c s):
 Y prog 43 #[v,lv] w λe w'=>(∃r rv,e=.returned (.tuple #[r,rv,Ω Ψ 0])/\GV w' r (N cs.length).g/\eI w' rv sv)/\I w w w':=by
 have hmf:∀(fn:Fn) (first cap:Array φ) (w:ψ),(Instr.makeFunc fn first cap).run prog w=.ok (.func fn first cap) w:=λ_ _ _ _=>rfl;have HV:=U hv;have HK:=U hk;have HS:=U E;have HL:=U hlv;obtain⟨vn,o,r,wi,d,m,rfl,h1,h2,h3,h4,h5,h6⟩:=hv;obtain⟨la,lm,rfl,_⟩:=hlv;clear hk h1 h2 h3 h4 h5 h6 E
 go_enter_defers (fU func43 rfl),ntmps43
 go_wp2_with fail
 obtain⟨y1,y2,p,hz1⟩:=al3 w (Ξ #[vn,o,r,wi,d,m] 26) (Ξ #[ι ξ 0 0,ι ξ 0 0,ι ξ 0 0,ι ξ 0 0,ι ξ 0 0,ι ξ 0 0] 26)<|Ξ #[Ω Ψ 0] 34;have q:=HV.out.below p;generalize ((w.alloc _).alloc _).alloc _=w1 at y1 y2 p hz1 q⊢;have l:=U<|Z p<|Z y1 y2;refine(Kk w1 _ g q HK.out hm hz (J:=λ_=>False) λ_ h=>h.elim).mono ?_;rintro e w2 ⟨⟨br,b,rfl,x⟩,u⟩;have hs2:=u.size;have t:=U u;have K:=U x;clear y1 y2 p q u x;have hle:¬(60:Int)<(cs.length:Int):=by omega
 go_wp2_with fail
 rw[show decide ((60:Int)<(cs.length:Int))=false by simp;omega]
 ((with_reducible refine(cd _ _).mono ?_))
 rintro e w3 ⟨rfl,T⟩;rw[<-T]at K t hs2;clear T
 go_wp2_with fail
 refine(JE w3 w1 br b _ cs N sv (J:=λ_=>False) (HL.out.below λj A=>⟨.inl<|by omega,(t.out.block j<|by omega).trans<|l.out.1.block j A⟩) (by rw[h0];exact K.out) (by omega) (λj A=>A.elim) (λj A=>A.elim) (by omega) F λi c s e1 e2=>HS.out _ _ _ i c s e1 e2).mono ?_;rintro e w4 ⟨⟨rv,rfl,a⟩,n,hb4,_⟩;have k:=t.out.trans hb4;have x1:=(k.block _<|by omega).trans l.out.2.1;have x2:=(k.block _<|by omega).trans l.out.2.2;have p0:=n.ptr.1;obtain⟨a0,y,O,a1,P,m1,a2,Q,m2,a3,W,S,a4,n4,C,X,D,z,hb,hgv⟩:=n.2.2.1.own.px;have d0:w4 (b:Nat)=V (.slice a0 y O):=by simp[M,hb]
 have d1:w4 ((b:Nat),1)=V (.slice a1 P m1):=by simp[M,hb]
 have d2:w4 ((b:Nat),2)=V (.slice a2 Q m2):=by simp[M,hb]
 have d3:w4 ((b:Nat),3)=V (.slice a3 W S):=by simp[M,hb]
 have d4:w4 ((b:Nat),4)=V (.slice a4 n4 C):=by simp[M,hb]
 have d5:w4 ((b:Nat),5)=V (.slice X D z):=by simp[M,hb]
 obtain⟨g,h⟩:=JJ x1;have g0:=g 0 (by omega);have g1:=g 1 (by omega);have g2:=g 2 (by omega);have g3:=g 3 (by omega);have g4:=g 4 (by omega);have g5:=g 5 (by omega);have h0:=h 0;have h1:=h 1;have h2:=h 2;have h3:=h 3;have h4:=h 4;have h5:=h 5;have e0:=d7 x2;have ef:=cD (i:=0) x2;have HE:=U<|Z n<|Z k<|Z x1<|Z x2<|Z hgv a;have L:=U a.reads;obtain⟨ra,rm,rfl,_⟩:=aF a;clear n k x1 x2 hb hgv g h hb4 a
 go_wp2_with fail
 rw[show((((((w4.setCell (w.heap.size+1:Nat)<|.slice a0 y O).setCell (w.heap.size+1,1)<|.slice a1 P m1).setCell (w.heap.size+1,2)<|.slice a2 Q m2).setCell (w.heap.size+1,3)<|.slice a3 W S).setCell (w.heap.size+1,4)<|.slice a4 n4 C).setCell (w.heap.size+1,5)<|.slice X D z)=io w4 (w.heap.size+1) (.slice a0 y O) (.slice a1 P m1) (.slice a2 Q m2) (.slice a3 W S) (.slice a4 n4 C) (.slice X D z)from rfl];obtain⟨q1,q2,q3,q4,q5,q6⟩:=HE.out;obtain⟨k1,k2⟩:=afG (H:=w) q1.2.2.1.own q5 q3 q4 (by omega) (by omega);have o1:=L.out.off<|aaO (v0:=.slice a0 y O) (v1:=.slice a1 P m1) (v2:=.slice a2 Q m2) (v3:=.slice a3 W S) (v4:=.slice a4 n4 C) (v5:=.slice X D z) q3;have o2:=o1.below (jF<|((kn (v0:=.slice a0 y O) (v1:=.slice a1 P m1) (v2:=.slice a2 Q m2) (v3:=.slice a3 W S) (v4:=.slice a4 n4 C) (v5:=.slice X D z) q3).2.1 (w.heap.size+1+1)<|by omega).trans q4).2.2;have hs4:w.heap.size<=w4:=by have:=q2.size;omega
 clear d0 d1 d2 d3 d4 d5 g0 g1 g2 g3 g4 g5 h0 h1 h2 h3 h4 h5 e0 ef p0;refine Z9 (f:=103) (args:=#[.pointer (w.heap.size+1+1:Nat)]) (by simp) (by simp[go_sem]) ?_;refine(OL (w.heap.size+1+1:Nat) (Ω Ψ 0) _ (d7 k1)<|cD k1).mono ?_;rintro e u' w'' ⟨rfl,rfl,w9,G,rfl⟩;obtain⟨r1,r2,r3,r4⟩:=k2 w9 G;have o3:=o2.below (fz k1 G).2;have hbf:=(l.out.1.trans<|q2.mono<|by omega).trans<|r4 hs4;generalize w9.setCell (w.heap.size+1+1:Nat) (Ω Ψ 0)=w10 at *;obtain⟨z0,z1,z2,z3,z4,z5⟩:=sS r1;have l4:=d7 r2;simp[Leaves,settle,κ,results43,go_sem,z0,z1,z2,z3,z4,z5,l4];exact⟨⟨_,_,⟨rfl,rfl⟩,r3,by rw[<-F];exact o3⟩,hbf⟩
def WR(w v lv g cs)(k:Nat->Md.RS)(sv:List HV)(hv:GV w v g)(hk:oy g)(hm:g.marked.length<=1000000)(hz:cN g=0)(O:JD w (λj=>j<w) lv cs)(hl:cs.length<=60)(T:sv.length=cs.length)(h0:k 0=⟨g,0,0,0,0⟩)(H:∀B n b (i:Nat) c s,cs[i]?=V c->sv[i]?=V s->Step B n b (k i) (k<|i+1) c s):
 Y prog 45 #[v,lv] w λe w'=>e=.returned (.tuple #[Ω Ψ (k cs.length).minors,Ω Ψ (k cs.length).uJ,Ω Ψ (k cs.length).fk,Ω Ψ (k cs.length).dA,Ω Ψ 0])/\I w w w':=by
 have hmf:∀(fn:Fn) (first cap:Array φ) (w:ψ),(Instr.makeFunc fn first cap).run prog w=.ok (.func fn first cap) w:=λ_ _ _ _=>rfl;have HV:=U hv;have HK:=U hk;have HS:=U H;have HL:=U O;obtain⟨vn,o,r,wi,d,m,rfl,h1,h2,h3,h4,h5,h6⟩:=hv;obtain⟨la,lm,rfl,_⟩:=O;clear hk h1 h2 h3 h4 h5 h6 H
 go_enter_defers (fU func45 rfl),ntmps45
 go_wp2_with fail
 obtain⟨S,l,hz1⟩:=Ju w (Ξ #[vn,o,r,wi,d,m] 26)<|Ξ #[Ω Ψ 0] 34;have p:=HV.out.below l;generalize (w.alloc _).alloc _=w1 at S l hz1 p⊢;have A:=U<|Z l S;refine(Kk w1 _ g p HK.out hm hz (J:=λ_=>False) λ_ h=>h.elim).mono ?_;rintro e w2 ⟨⟨n,b,rfl,F⟩,z⟩;have hs2:=z.size;have y:=U z;have K:=U F;clear S l p z F
 go_wp2_with fail
 rw[show decide ((60:Int)<(cs.length:Int))=false by simp;omega]
 ((with_reducible refine(cd _ _).mono ?_))
 rintro e w3 ⟨rfl,G⟩;rw[<-G]at K y hs2;clear G
 go_wp2_with fail
 refine(JE w3 w1 n b _ cs k sv (J:=λ_=>False) (HL.out.below λj L=>⟨.inl<|by omega,(y.out.block j<|by omega).trans<|A.out.1.block j L⟩) (by rw[h0];exact K.out) (by omega) (λj L=>L.elim) (λj L=>L.elim) (by omega) T λi c s e1 e2=>HS.out _ _ _ i c s e1 e2).mono ?_;rintro e w4 ⟨⟨rv,rfl,E⟩,D,N,_⟩;have u:=y.out.trans N;have P:=(u.block _<|by omega).trans A.out.2;obtain⟨p0,p1,p2,p3,p4,_,hbr⟩:=D.all;obtain⟨ra,rm,rfl,_⟩:=aF E;have e0:=d7 P;have ef:=cD (i:=0) P;have hnb:¬w.heap.size+1=n:=by omega
 have HE:=U<|Z u P;obtain⟨q,W⟩:∃q,q=k cs.length:=⟨_,rfl⟩;rw[<-W]at p1 p2 p3 p4;have C:=W.symm;clear D u P N E W;replace C:=U C
 go_wp2_with fail
 go_region_held3 (λx=>x ((n:Nat),1)=V (Ω Ψ q.minors)/\x ((n:Nat),2)=V (Ω Ψ q.uJ)/\x ((n:Nat),3)=V (Ω Ψ q.fk)/\x ((n:Nat),4)=V (Ω Ψ q.dA)) ((refine⟨?_,?_,?_,?_⟩<;>(repeat (first|with_reducible assumption|with_reducible refine dO ?_|with_reducible refine da hnb ?_)))) (fail)
 go_wp2_with fail
 obtain⟨s0,_,s2⟩:=jF HE.out.2;have t:=s2.drew;have a:(w4.setCell (w.heap.size+1:Nat)<|Ω Ψ 0).drew.heap[w.heap.size+1]?=V (Ξ #[Ω Ψ 0] 34 (0,0)):=s0;clear s0 s2;generalize (w4.setCell (w.heap.size+1:Nat)<|Ω Ψ 0).drew=w5 at a t⊢;refine Z9 (f:=105) (args:=#[.pointer (w.heap.size+1:Nat)]) (by simp) (by simp[go_sem]) ?_;refine(ON (w.heap.size+1:Nat) (Ω Ψ 0) _ (d7 a)<|cD a).mono ?_;rintro e u' w'' ⟨rfl,rfl,w9,X,rfl⟩;obtain⟨t1,t2⟩:=fz a X;have l4:=d7 t1;have Q:I w w (w9.setCell (w.heap.size+1:Nat)<|Ω Ψ 0):=(A.out.1.trans<|HE.out.1.mono<|by omega).trans<|(t.trans<|t2.mono t.size).mono (by have:=HE.out.1.size;omega);simp[Leaves,settle,κ,results45,go_sem,l4,C.out];exact Q
def ko(order:List HV)(stay n:Nat):HV:=if order.contains ((3,(n:Int)):HV)then(4,(stay:Int)+(order.idxOf ((3,(n:Int)):HV):Nat))else(2,0)
def sU{f:Nat->HV}(k):(υ<|k+1).map f=(υ k).map f++[f k]:=by rw[List.range_succ,List.map_append];rfl
def O0(w v g order)(hv:GV w v g)(hk:oy g)(hm:g.marked.length<=1000000)(hz:cN g=0)(hp:im g)(ho:order=bV g dy (ka g))(hl:¬32<g.old.length+order.length):
 Y prog 24 #[v] w λe w'=>(∃r,e=.returned (.tuple #[r,Ω Ψ 0])/\eI w' r ((υ g.new.length).map<|ko order g.old.length))/\I w w w':=by
 have hmf:∀(fn:Fn) (first cap:Array φ) (w:ψ),(Instr.makeFunc fn first cap).run prog w=.ok (.func fn first cap) w:=λ_ _ _ _=>rfl;have HVV:=U hv;have HK:=U hk;have HP:=U hp;obtain⟨vn,o,r,wi,d,m,rfl,D,h2,h3,h4,H,h6⟩:=hv;clear hk D h2 h3 h4 H h6 hp
 go_enter_defers (fU func24 rfl),ntmps24
 go_wp2_with fail
 obtain⟨y1,s,hz1⟩:=Ju w (Ξ #[vn,o,r,wi,d,m] 26)<|Ξ #[Ω Ψ 0] 34;refine(Xb _ _ g (HVV.out.below s) HK.out hz hm).mono ?_;rintro e w2 ⟨⟨b,rfl,T⟩,C⟩;have y2:=(C.block (w.heap.size+1)<|by omega).trans y1;have L:=s.trans<|C.mono s.size;have N:=U T;have j:=U<|Z L y2;clear s C T y1 y2 L
 go_wp2_with fail
 refine(qe _ _ b g N.out HP.out).mono ?_;rintro e w3 ⟨⟨bs,bm,so,rfl,hs⟩,l⟩;rw[<-ho]at hs;have HS:=U hs;have h:=U<|Z (j.out.1.trans<|l.mono j.out.1.size)<|(l.block _ (Θ.1 j.out.2).1).trans j.out.2;have W:=U<|N.out.below l;obtain⟨as0,ms0,O,_,_,_⟩:=aF hs.2.2.2.1;have c0:w3 bs=V (.slice as0 order.length ms0):=by simp[M,hs.2.2.1,O]
 have hgd:¬(32:Int)<(g.old.length:Int)+(order.length:Int):=by omega
 have hol:=HK.out.bw;have hnl:=HK.out.news;have hw1:IntKind.i64.wrap ((g.old.length:Int)+(order.length:Int))=(g.old.length:Int)+(order.length:Int):=wrap_small _ (by omega) (by omega);clear hs l ho O
 go_wp2_with fail
 rw[show decide ((32:Int)<(g.old.length:Int)+(order.length:Int))=false by simp;omega]
 ((with_reducible refine(cd _ _).mono ?_))
 rintro e w4 ⟨rfl,G⟩;rw[<-G]at HS h W c0;clear G;obtain⟨n,oo,mm,row,hBb,P,⟨ao,mo,eo,_⟩,_⟩:=W.out;rw[aT]at eo;have d0:w4 b=V (.slice ao g.new.length mo):=by rw[<-eo];simp[M,P]
 clear eo hBb P
 go_wp2_with fail
 go_loopw [2,34] (λo i wr=>∃(k:Nat),k<=g.new.length/\i=Ω Ψ k/\R (OV wr w4 o ((υ k).map<|ko order g.old.length)/\I w4 w4 wr)) (λ_ i _=>g.new.length-(intOf i).toNat)
 case atStart=>exact⟨0,by omega,rfl,U ⟨OV.nil _ _,Δ _ _⟩⟩
 case round=>
  obtain⟨k,hk,rfl,a⟩:=hrel;by_cases hlt:k<g.new.length
  ·have hsr:=a.out.2.size;have J:=HS.out.Q4;have hbs:wr (bs,1)=V (.map<|V bm):=by have:=(a.out.2.block bs J.1).trans HS.out.2.2.1;simp[M,this]
   have c:=fP (3,(k:Int))<|HS.out.2.2.2.2.of_block<|a.out.2.block bm J.2;unfold ns at c;dsimp only at c;by_cases y:((3,(k:Int)):HV)∈order
   ·simp only[y,if_true,decide_true]at c;have hid:=List.idxOf_lt_length_of_mem y;have Q:ko order g.old.length k=(4,(g.old.length:Int)+(order.idxOf ((3,(k:Int)):HV):Nat)):=by simp[ko,y]
    have X:=U Q;clear Q y;generalize order.idxOf ((3,(k:Int)):HV)=ix at c hid X;have hw2:IntKind.i64.wrap ((g.old.length:Int)+(ix:Int))=(g.old.length:Int)+(ix:Int):=wrap_small _ (by omega) (by omega)
    go_wp2_with (refine μ λK S=>aX rfl (.tmp 53) (.tmp 58) 23 (by rfl) u2 (.slice wr.heap.size 1 1) (by rfl) (by rfl) _ (nr (B:=w4) (p:=4) (q:=(g.old.length:Int)+(ix:Int)) (a.out.1.below<|af wr _) (ω wr _) (by simp;omega) (by simp;omega)) ?_;intro v' w5 H;obtain⟨x,E,gg,mg,rfl,_⟩:=H;refine S _ _ ?_;clear S K)
    have u:I w4 w4 w5:=(a.out.2.trans<|(af wr _).mono a.out.2.size).trans<|(cM (a.out.1.below<|af wr _) E (by have:=a.out.2.size;simp;omega))
    go_roundw
    case rel=>refine⟨k+1,by omega,by go_num,U ⟨?_,u⟩⟩;rw[sU,show ko order g.old.length k=(4,(g.old.length:Int)+(ix:Int))from X.out];have D:=x;simp only[Z8,η]at D;exact D
    case measure=>simp[intOf];omega
   ·simp only[y,if_false,decide_false]at c;have X:=U (show ko order g.old.length k=(2,0) by simp[ko,y]);clear y
    go_wp2_with (refine μ λK S=>aX rfl (.tmp 49) (.tmp 51) 23 (by rfl) u2 (.slice wr.heap.size 1 1) (by rfl) (by rfl) _ (nr (B:=w4) (p:=2) (q:=0) (a.out.1.below<|af wr _) (ω wr _) (by simp;omega) (by simp;omega)) ?_;intro v' w5 H;obtain⟨x,E,gg,mg,rfl,_⟩:=H;refine S _ _ ?_;clear S K)
    have u:I w4 w4 w5:=(a.out.2.trans<|(af wr _).mono a.out.2.size).trans<|(cM (a.out.1.below<|af wr _) E (by have:=a.out.2.size;simp;omega))
    go_roundw
    case rel=>refine⟨k+1,by omega,by go_num,U ⟨?_,u⟩⟩;rw[sU,show ko order g.old.length k=(2,0)from X.out];have D:=x;simp only[Z8,η]at D;exact D
    case measure=>simp[intOf];omega
  ·have hke:k=g.new.length:=by omega
   subst hke;clear hlt;have y5:=(a.out.2.block (w.heap.size+1) (Θ.1 h.out.2).1).trans h.out.2;have e0:=d7 y5;have ef:=cD (i:=0) y5;have HY:=U y5;have hsl:w.heap.size<=w4:=h.out.1.size;clear y5
   go_wp2_with fail
   obtain⟨s0,_,s2⟩:=jF HY.out;have t:=a.out.1.reads.below s2;have z:=((h.out.1.trans<|a.out.2.mono hsl)).trans<|s2.mono (by have:=a.out.2.size;omega);generalize wr.setCell (w.heap.size+1:Nat) (Ω Ψ 0)=w5 at s0 s2 t z⊢;refine Z9 (f:=80) (args:=#[.pointer (w.heap.size+1:Nat)]) (by simp) (by simp[go_sem]) ?_;refine(WI (w.heap.size+1:Nat) (Ω Ψ 0) _ (d7 s0)<|cD s0).mono ?_;rintro e u' w'' ⟨rfl,rfl,w9,BP,rfl⟩;obtain⟨t1,t2⟩:=fz s0 BP;have l4:=d7 t1;have A:=t.below t2;have F:=z.trans<|t2.mono z.size;simp[Leaves,settle,κ,results24,go_sem,l4];exact⟨A,F⟩
def sV(m:List Int):GH:=⟨[(0,[(3,2)]),(0,[(0,5)]),(0,[(4,1)]),(1,[(3,1)])],[(0,[(3,3)]),(0,[]),(0,[(3,1)])],[(3,0),(4,1),(0,7),(2,0)],[],[],m⟩
def ee:GH:=sV [0,2]
def cB:oy ee where
 cells:=by decide
 news:=by decide
 bw:=by decide
 four:=by decide
 roots:=by decide
 aA:=⟨by decide,λi v h=>by cases h⟩
 done:=⟨by decide,λi v h=>by cases h⟩
def KA:cN ee=0/\cN (sV [2])=11/\cN (sV [2,0])=14/\cN (sV [0,3])=9:=by decide
def JM(g:GH):Bool:=(g.new++g.old).all (λc=>c.2.all λv=>mh g v==0)&&(cJ g).all λv=>mh g v==0
def wS{g:GH}(h:JM g=true)(i:g.new.length<=8)(e:g.old.length<=32)(f:g.roots.length<=4)(hw:g.aA.length<=40)(hd:g.done.length<=40)(a:∀c∈g.new++g.old,c.2.length<=4)(b:∀n∈g.marked,0<=n/\n<g.old.length)(d:g.marked.length<=32):im g where
 cells:=λc hc v a=>by unfold JM at h;simp only[Bool.and_eq_true,ε,beq_iff_eq]at h;exact pY<|h.1 c hc v a
 cJ:=λv a=>by unfold JM at h;simp only[Bool.and_eq_true,ε,beq_iff_eq]at h;exact pY<|h.2 v a
 news:=by omega
 bw:=by omega
 roots:=by omega
 aA:=by omega
 done:=by omega
 eT:=λc hc=>by have:=a c hc;omega
 marks:=b
 marked:=by omega
def sW:im ee:=wS rfl (by decide) (by decide) (by decide) (by decide) (by decide) (by decide) (by decide) (by decide)
def sX:GH:=⟨[],[(0,[(4,4)]),(0,[]),(0,[(4,5)]),(0,[(4,6)]),(1,[(4,5)]),(0,[(0,5)]),(0,[(4,1)])],[(4,3),(4,1),(0,7),(2,0)],[],[],[]⟩
def Al:GH:=⟨[],[(0,[(4,2)]),(0,[]),(0,[(4,1)])],[(4,0),(4,1),(0,7),(2,0)],[],[],[]⟩
def aak:List HV:=[(3,0),(3,3),(3,1),(3,2)]
def JN:Md.collect .full ee=V (3,Al):=by kernel_rfl
def Fg:aak=bV ee dy (ka ee):=by kernel_rfl
def d9:PH:=⟨[(0,[(1,6)]),(0,[]),(0,[(1,4)]),(0,[(1,5)]),(0,[(0,5)]),(0,[(1,1)]),(1,[(1,4)])],[(1,3),(1,1),(0,7),(2,0)],[],[]⟩
def mS(r:Md.RS):Md.RS:=Md.el (Jz r 1) 2 (3,(r.g.new.length:Int))
def r0:Md.RS:=⟨ee,0,0,0,0⟩
def r4:Md.RS:=mS<|mS<|mS<|mS r0
def Ca:GH:=⟨[],[(0,[(4,5)]),(0,[]),(0,[(4,6)]),(0,[(4,7)]),(0,[(0,0)]),(1,[(4,6)]),(0,[(0,5)]),(0,[(4,1)])],[(4,3),(4,1),(4,4),(2,0)],[],[],[]⟩
def JP:Md.collect .minor r4.g=V (5,Ca):=by kernel_rfl
def r4':Md.RS:=⟨Ca,1,0,0,5⟩
def r5:Md.RS:=mS r4'
def g5:GH:=⟨[(0,[(0,0)])],[(0,[(4,5)]),(0,[]),(0,[(4,6)]),(0,[(4,7)]),(0,[(0,0)]),(1,[(4,6)]),(0,[(0,5)]),(0,[(4,1)])],[(4,3),(4,1),(3,0),(2,0)],[],[],[]⟩
def Q':r5=⟨g5,1,0,0,5⟩:=by kernel_rfl
def JQ:GH:=⟨[(0,[(0,0)])],[(3,[]),(0,[]),(3,[]),(0,[(4,7)]),(3,[]),(3,[]),(3,[]),(0,[(4,1)])],[(4,3),(4,1),(3,0),(2,0)],[],[],[]⟩
def JR:Md.iF g5=JQ:=by kernel_rfl
def Cb:GH:=⟨[],[(0,[(4,3)]),(0,[]),(0,[(0,0)]),(0,[(4,1)])],[(4,0),(4,1),(4,2),(2,0)],[],[],[]⟩
def JS:Md.collect .major g5=V (4,Cb):=by kernel_rfl
def O1:im r4.g:=wS rfl (by decide) (by decide) (by decide) (by decide) (by decide) (by decide) (by decide) (by decide)
def O2:im JQ:=wS rfl (by decide) (by decide) (by decide) (by decide) (by decide) (by decide) (by decide) (by decide)
def vg5:VG g5 where
 cells:=by unfold RJ ta aaM zH;decide+kernel
 news:=by decide
 bw:=by decide
 four:=rfl
 roots:=by unfold ta aaM zH;decide+kernel
 aA:=⟨Z7,(λv h=>by cases h),by decide⟩
 done:=⟨Z7,(λv h=>by cases h),by decide⟩
 marks:=λn h=>by cases h
 order:=List.Pairwise.nil
 ju:=λi c hi a=>by
  have b:=List.mem_of_getElem? hi;have:∀c∈g5.old,jW c=false:=by decide
  rw[this c b]at a;cases a
section
variable{br:Nat}{r:Md.RS}{b B:Nat}
def py{r':Md.RS}{k:Nat}{p q:Int}(m:r.g.roots[2]?=V (p,q))(e:r.g.roots.length<=1000)(f:Roomy r r')(hz:Aj k)(i:k<=4)(n:r'.g.new.length<=900)(a:2<r'.g.roots.length)(c:r'.g.roots.length<=1000):
 Step B br b r (Md.el (Jz r' k) 2 (3,(r'.g.new.length:Int))) (0,2,(k:Int),0) (1,(k:Int)) where
 OU:=λw J d j l _=>JA w B br b 2 k r r' p q d j l m e f hz i (by omega) a
 root:=by
  refine⟨3,(r'.g.new.length:Int),?_,λw J d=>?_⟩;show(r'.g.roots.set 2 (3,(r'.g.new.length:Int)))[2]?=_;rw[List.getElem?_set_self a];have h:=Fa w B br b r'.g.new.length _ 0 (ο k (0,0)) d (by
   show(r'.g.new++[(0,ο k (0,0))])[r'.g.new.length]?=_;simp) (by omega) (by simp;omega) (by
   show(r'.g.new++[(0,ο k (0,0))]).length<=_;simp;omega)
  simpa using h
 wW:=by show(r'.g.roots.set 2 (3,(r'.g.new.length:Int))).length<=_;simpa using c
def An(h:r.g.new.length<8):Roomy r r:=.inl ⟨h,rfl⟩
def JT:Roomy r4 r4':=.inr ⟨by decide,by decide,O1,5,Ca,JP,rfl,by decide,by decide,by decide⟩
def qQ{p q}(h:r.g.new.length<8)(d:r.g.roots[2]?=V (p,q))(a:r.g.roots.length<=1000)(c:2<r.g.roots.length):Step B br b r (mS r) (0,2,1,0) (1,1):=py d a (An h) Jy (by omega) (by omega) c a
def WS:Step B br b r4 r5 (0,2,1,0) (1,1):=py (r':=r4') rfl (by decide) JT Jy (by omega) (by decide) (by decide) (by decide)
def r6:Md.RS:=⟨Cb,1,0,1,9⟩
def Cc:Step B br b r5 r6 (10,0,0,0) (1,1) where
 OU:=λw J a c d _=>by rw[Q']at a;exact E' w B br b 4 _ Cb 4 3 0 a c d rfl (by decide) (VG.sw vg5) (by rw[JR];exact O2) JS (by decide) (by decide) (by decide)
 root:=⟨4,0,by decide,λw J a=>by simpa using (ve w B br b 0 _ 0 [(4,3)] a rfl (by decide) (by decide) (by decide))⟩
 wW:=by decide
def rsM:Nat->Md.RS
 |0=>r0|1=>mS r0|2=>mS (mS r0)|3=>mS (mS<|mS r0)|4=>r4|_=>r5
def WU:List C4:=[(0,2,1,0),(0,2,1,0),(0,2,1,0),(0,2,1,0),(0,2,1,0)]
def Fi:List HV:=[(1,1),(1,1),(1,1),(1,1),(1,1),(1,1)]
def aal{c}(h:∀B e b,Step B e b r5 r c (1,1))(B e b i f s)(d:(WU++[c])[i]?=V f)(a:Fi[i]?=V s):Step B e b (if i<6 then rsM i else r) (if i+1<6 then rsM (i+1)else r) f s:=by
 match i,d,a with
 |0,d,a=>cases d;cases a;exact qQ (r:=r0) (p:=0) (q:=7) (by decide) rfl (by decide) (by decide)
 |1,d,a=>cases d;cases a;exact qQ (r:=mS r0) (p:=3) (q:=4) (by decide) (by decide) (by decide) (by decide)
 |2,d,a=>cases d;cases a;exact qQ (r:=mS<|mS r0) (p:=3) (q:=5) (by decide) (by decide) (by decide) (by decide)
 |3,d,a=>cases d;cases a;exact qQ (r:=mS<|mS<|mS r0) (p:=3) (q:=6) (by decide) (by decide) (by decide) (by decide)
 |4,d,a=>cases d;cases a;exact WS
 |5,d,a=>cases d;cases a;exact h B e b
 |n+6,d,a=>simp[Fi]at a
end
section
variable{v:φ}(w:ψ)
def wT{w:ψ}{e size n xs a}(c:a.toList=xs)(b:xs.length=n*size)(d:n<=1000000):(w.alloc<|.cells a e).ownsRow w e size (.slice w.heap.size n n) n xs:=by
 have hs:a.size=n*size:=by rw[<-b,<-c];simp
 exact⟨b,.inr ⟨w.heap.size,n,a,rfl,.refl,ω _ _,.refl,by unfold maxLen;omega,hs,by rw[c,<-b,ζ]⟩⟩
def Cd(l a n)(b:l.length=n)(c:a.toList=l.flatMap lU)(d:n<=1000):OV (w.alloc<|.cells a 50) w (.slice w.heap.size n n) l:=by subst b;exact wT c (fx l) (by omega)
def JV(l b n)(e:l.length=n)(c:b.toList=l.flatMap eP)(f:n<=1000):OI (w.alloc<|.cells b 3) w (.slice w.heap.size n n) l:=by
 subst e;exact wT c (by rw[<-c];rw[c];clear c;induction l with
  |nil=>rfl
  |cons a l d=>simp at d⊢;rw[d (by grind)];simp[eP];omega) (by omega)
def WV(l a n)(b:l.length=n)(c:a.toList=l.flatMap dW)(d:n<=1000):OC (w.alloc<|.cells a 76) w (.slice w.heap.size n n) l:=by subst b;exact wT c (iu l) (by omega)
def aY.nil:aY w [] []:=⟨rfl,λi k v a b e=>by simp at e⟩
def aY.cons{w k vs l cs}(h:eI w v vs)(b:aY w l cs):aY w ((k,v)::l) ((k,vs)::cs):=by
 refine⟨by simp[b.1],λi c v1 d a e1 e2=>?_⟩;cases i with
 |zero=>grind
 |succ i=>exact b.2 i c v1 d a (by grind) (by grind)
def isn:n9 w () []:=(OI.nil w 0).reads
def csn:sa w () []:=⟨ξ,0,rfl,.refl,by omega,λh=>absurd h<|Nat.lt_irrefl 0⟩
def mK(n:Int):Y prog 56 #[n] w λe w'=>e=.returned (.agg #[Ω Ψ 0,n])/\I w w w':=aeR w n
def JL(n:Int):Y prog 61 #[n] w λe w'=>e=.returned (.agg #[Ω Ψ 3,n])/\I w w w':=NV w n
def eF(n:Int):Y prog 59 #[n] w λe w'=>e=.returned (.agg #[Ω Ψ 4,n])/\I w w w':=aeS w n
def sY:Y prog 58 #[] w λe w'=>e=.returned (.agg #[Ω Ψ 2,Ω Ψ 0])/\I w w w':=V0 w
def dd(a n m):Y prog 55 #[.slice a n m] w λe w'=>e=.returned (.agg #[Ω Ψ 0,.slice a n m])/\I w w w':=aeT w _ a n m rfl
def DH(p q:Int):Y prog 57 #[.agg #[p,q]] w λe w'=>(∃b,e=.returned (.agg #[Ω Ψ 1,.slice (b:Nat) 1 1])/\eI w' (.slice (b:Nat) 1 1) [(p,q)])/\I w w w':=by
 go_enter (fU func57 rfl),ntmps57
 go_wp2_with fail
 have h:=Cd ((w.alloc<|Ξ #[p,q] 50).alloc<|Ξ #[Ω Ψ 1,.slice (w.heap.size+1+1:Nat) 1 1] 76) [(p,q)] #[p,q] 1 rfl rfl (by omega);obtain⟨a,_,hb,hz⟩:=al3 w (Ξ #[p,q] 50) (Ξ #[Ω Ψ 1,.slice (w.heap.size+1+1:Nat) 1 1] 76)<|Ξ #[p,q] 50;rw[show((w.alloc<|Ξ #[p,q] 50).alloc<|Ξ #[Ω Ψ 1,.slice (w.heap.size+1+1:Nat) 1 1] 76).heap.size=w.heap.size+1+1 by simp]at h;generalize ((w.alloc _).alloc _).alloc _=c at h a hb hz⊢;refine θ (v:=.agg #[Ω Ψ 1,.slice (w.heap.size+1+1:Nat) 1 1]) (by simp[κ,results57,go_sem,M,a]) rfl ⟨⟨_,rfl,h.reads⟩,hb⟩
def KW(c:C4):List φ:=[Ω Ψ c.1,(c.2.1:Int),Ω Ψ c.2.2.1,Ω Ψ c.2.2.2]
def OM(w:ψ)(B:Nat)(v:φ)(l:List C4):Prop:=w.ownsRow B 44 4 v l.length<|l.flatMap KW
def WW:(prog.info? 44).map (λi=>(i.zero,i.size,i.bytes))=V (V<|.agg #[Ω Ψ 0,Ω Ψ 0,Ω Ψ 0,Ω Ψ 0],4,32):=by kernel_rfl
def afJ:prog.underlying 48=V (.slice 44):=by kernel_rfl
def sZ{w ty}{B bx:Nat}{l c t fr}(h:OM w B v l)(b:w.heap[bx]?=V (Ξ #[Ω Ψ c.1,(c.2.1:Int),Ω Ψ c.2.2.1,Ω Ψ c.2.2.2] t fr))(y:l.length<=1000000)(q:B<=w):
 ∃d w',(Builtin.append_ #[48,48] ty #[v,.slice bx 1 1]).run prog w=.ok d w'/\(OM w' B d (l++[c])/\w.grownBy w' v.ownBlock/\∃g p,d=.slice (g:Nat) (l.length+1) p/\(v.ownBlock=V g\/g=w)):=by
 obtain⟨o,hi,e,f,i⟩:=info_parts WW;obtain⟨g,n,w',k,x,r,z,s⟩:=run_append_lies (P:=prog) w 48 ty B 44 o _ 4 32 afJ hi e f i rfl (by decide) v l.length _ h bx 1 1 (KW c) rfl (λj u a=>by
  match j,a with
  |0,a=>cases a;simp[M,b,χ]
  |1,a=>cases a;simp[M,b,χ]
  |2,a=>cases a;simp[M,b,χ]
  |3,a=>cases a;simp[M,b,χ]
  |j+4,a=>simp[KW]at a) (λu m=>by
  simp[KW]at m;obtain rfl|rfl|rfl|rfl:=m<;>rfl) (by omega) (by unfold maxLen;omega) (by omega) q _ rfl
 unfold OM
 grind
theorem Ra:∀(l:List C4) (i:Nat) (c:C4),l[i]?=V c->(l.flatMap KW)[i*4]?=V (Ω Ψ c.1)/\(l.flatMap KW)[i*4+1]?=V (Ω Ψ (c.2.1:Int))/\(l.flatMap KW)[i*4+2]?=V (Ω Ψ c.2.2.1)/\(l.flatMap KW)[i*4+3]?=V (Ω Ψ c.2.2.2)
 |[],i,c,h=>by simp at h
 |b::l,0,c,h=>by simp at h;subst h;simp[KW]
 |b::l,i+1,c,h=>by obtain⟨a,d,f,e⟩:=Ra l i c (by simpa using h);rw[List.flatMap_cons,show(i+1)*4=i*4+1+1+1+1 by omega];exact⟨a,d,f,e⟩
def OM.reads{w B l}(h:OM w B v l):JD w (λj=>j<w) v l:=by obtain⟨a,m,rfl,_,_,o⟩:=aF h;refine⟨a,m,rfl,λh0=>?_⟩;obtain⟨g,rfl,_,k,_,hc⟩:=o h0;refine⟨g,0,rfl,k,λi c e=>?_⟩;obtain⟨f,b,n,d⟩:=Ra l i c e;simp only[Nat.zero_add];exact⟨hc _ _ f,hc _ _ b,hc _ _ n,hc _ _ d⟩
def O5(bx:Nat)(c){t fr}(q:w.heap[bx]?=V (Ξ #[Ω Ψ c.1,(c.2.1:Int),Ω Ψ c.2.2.1,Ω Ψ c.2.2.2] t fr)):
 Y prog 62 #[Ω Ψ 5,.slice bx 1 1] w λe w'=>(∃r,e=.returned r/\OM w' w r (WU++[c]))/\I w w w':=by
 have A:=U q;have h:=(Θ.1 q).1;clear q
 go_enter (fU func62 rfl),ntmps62
 go_wp2_with fail
 go_loopw [5,6] (λo i wr=>∃(k:Nat),k<=5/\i=Ω Ψ k/\R (OM wr w o (WU.take k)/\I w w wr)) (λ_ i _=>5-(intOf i).toNat)
 case atStart=>exact⟨0,by omega,rfl,U ⟨World.ownsRow_nil _ _ _ _,Δ _ _⟩⟩
 case round=>
  obtain⟨k,C,rfl,a⟩:=hrel;have f:=a.out.2.size;by_cases j:k<5
  ·have s:(k:Int)<5:=by omega
   go_wp2_with (refine μ λK g=>aX rfl (.tmp 12) (.tmp 14) 48 (by rfl) u5 (.slice wr.heap.size 1 1) (by rfl) (by rfl) _ (sZ (B:=w) (c:=(0,2,1,0)) (jy a.out.1<|af wr _) (ω wr _) (by simp;omega) (by simp;omega)) ?_;intro v w5 n;obtain⟨b,d,y,z,rfl,_⟩:=n;refine g _ _ ?_;clear g K)
   have m:=(a.out.2.trans<|(af wr _).mono a.out.2.size).trans<|(cM (jy a.out.1<|af wr _) d (by have:=a.out.2.size;simp;omega))
   go_roundw
   case rel=>
    refine⟨k+1,by omega,by go_num,U ⟨?_,m⟩⟩;rw[bW (l:=WU) (k:=k) (x:=(0,2,1,0)) (by match k,j with
     |0,_=>rfl
     |1,_=>rfl
     |2,_=>rfl
     |3,_=>rfl
     |4,_=>rfl)]
    have u:=b;simp only[List.length_take]at u;exact u
   case measure=>simp[intOf];omega
  ·have p:k=5:=by omega
   subst p
   go_wp2_with (refine μ λK g=>aX rfl (.tmp 16) (.tmp 17) 48 (by rfl) u5 (.slice bx 1 1) (by rfl) (by rfl) _ (sZ (B:=w) (c:=c) a.out.1 ((a.out.2.block bx h).trans A.out) (by decide) f) ?_;intro v w5 n;obtain⟨b,d,y,z,rfl,_⟩:=n;refine g _ _ ?_;clear g K)
   go_ret;exact⟨⟨_,rfl,b⟩,a.out.2.trans<|cM a.out.1 d f⟩
def m1{P}{f n:Nat}{a w x Q}(h:Y P f a w λe w'=>e=x/\I n w w')(k:∀w',R (I n w w') ->Q x w'):Y P f a w Q:=h.mono λe w' b=>by obtain⟨rfl,hb⟩:=b;exact k _ hb
def m2{c:Type}{P}{f n:Nat}{a w}{x:c->Ending}{b:c->ψ->Prop}{Q}(h:Y P f a w λe w'=>(∃v,e=x v/\b v w')/\I n w w')(k:∀v w',R (b v w') ->R (I n w w') ->Q (x v) w'):Y P f a w Q:=h.mono λe w' d=>by obtain⟨⟨v,rfl,g⟩,hb⟩:=d;exact k _ _ g hb
def DI(o):R ((w.alloc o).heap[w.heap.size]?=V o)/\R (I w w<|w.alloc o)/\(w.alloc o).heap.size=w.heap.size+1:=⟨ω w o,af w o,by simp⟩
def nt(l a n)(c:l.length=n)(d:a.toList=l.flatMap lU)(b:n<=1000):R (OV (w.alloc<|.cells a 50) w (.slice w.heap.size n n) l)/\R (I w w<|w.alloc<|.cells a 50)/\(w.alloc<|.cells a 50).heap.size=w.heap.size+1:=⟨Cd w l a n c d b,af _ _,by simp⟩
def WX(l a n)(c:l.length=n)(d:a.toList=l.flatMap dW)(b:n<=1000):R (OC (w.alloc<|.cells a 76) w (.slice w.heap.size n n) l)/\R (I w w<|w.alloc<|.cells a 76)/\(w.alloc<|.cells a 76).heap.size=w.heap.size+1:=⟨WV w l a n c d b,af _ _,by simp⟩
def bx{a b l:ψ}(h:R (I a a b))(c:I b b l):I a a l:=h.out.trans<|c.mono h.out.size
end
def wU(w:ψ)(e:Ending)(w':ψ):Prop:=∃bn bo br bm ln wa,e=.returned (.agg #[.slice (bn:Nat) 4 4,.slice (bo:Nat) 3 3,.slice (br:Nat) 4 4,(),(),.slice (bm:Nat) 2 2])/\
 OC wa w (.slice (bn:Nat) 4 4) ln/\aY wa ln ee.new/\sa wa (.slice (bo:Nat) 3 3) ee.old/\OV w' wa (.slice (br:Nat) 4 4) ee.roots/\OI w' wa (.slice (bm:Nat) 2 2) [0,2]/\I w w wa/\I wa wa w'
def JW(w):Y prog 52 #[] w λe w'=>wU w e w':=by
 go_enter (fU func52 rfl),ntmps52
 go_wp2_with fail
 have N:=af w<|Ξ #[(),(),(),(),(),()] 26;have y0:=ω w<|Ξ #[(),(),(),(),(),()] 26;have hz0:(w.alloc<|Ξ #[(),(),(),(),(),()] 26).heap.size=w.heap.size+1:=by simp
 generalize w.alloc _=p0 at N y0 hz0⊢;have HY:=U<|Z N y0;clear N y0;refine m1 (JL _ 2) λp1 hp1=>?_
 go_wp2_with fail
 have⟨fp2,H,zp2⟩:=nt p1 [(3,2)] #[Ω Ψ 3,Ω Ψ 2] 1 rfl rfl (by omega);generalize p1.alloc _=p2 at fp2 H zp2⊢;refine m1 (dd _ p1.heap.size 1 1) λp3 X=>?_
 go_wp2_with fail
 refine m1 (mK _ 5) λp4 hp4=>?_
 go_wp2_with fail
 have⟨fp5,L,zp5⟩:=nt p4 [(0,5)] #[Ω Ψ 0,Ω Ψ 5] 1 rfl rfl (by omega);generalize p4.alloc _=p5 at fp5 L zp5⊢;refine m1 (dd _ p4.heap.size 1 1) λp6 KY=>?_
 go_wp2_with fail
 refine m1 (eF _ 1) λp7 Rb=>?_
 go_wp2_with fail
 have⟨fp8,K,zp8⟩:=nt p7 [(4,1)] #[Ω Ψ 4,Ω Ψ 1] 1 rfl rfl (by omega);generalize p7.alloc _=p8 at fp8 K zp8⊢;refine m1 (dd _ p7.heap.size 1 1) λp9 KZ=>?_
 go_wp2_with fail
 refine m1 (JL _ 1) λp10 z=>?_
 go_wp2_with fail
 refine m2 (DH _ 3 1) λbb b W B=>?_
 go_wp2_with fail
 have⟨h,A,anX⟩:=WX b [(0,.slice p1.heap.size 1 1),(0,.slice p4.heap.size 1 1),(0,.slice p7.heap.size 1 1),(1,.slice (bb:Nat) 1 1)] #[Ω Ψ 0,.slice p1.heap.size 1 1,Ω Ψ 0,.slice p4.heap.size 1 1,Ω Ψ 0,.slice p7.heap.size 1 1,Ω Ψ 1,.slice (bb:Nat) 1 1] 4 rfl rfl (by omega);generalize b.alloc _=p12 at h A anX⊢;refine m1 (JL _ 3) λj PE=>?_
 go_wp2_with fail
 have⟨y,q,O6⟩:=nt j [(3,3)] #[Ω Ψ 3,Ω Ψ 3] 1 rfl rfl (by omega);generalize j.alloc _=p14 at y q O6⊢;refine m1 (dd _ j.heap.size 1 1) λp15 T=>?_
 go_wp2_with fail
 refine m1 (dd _ ξ 0 0) λp16 Fj=>?_
 go_wp2_with fail
 refine m1 (JL _ 1) λm J7=>?_
 go_wp2_with fail
 have⟨p,x,anY⟩:=nt m [(3,1)] #[Ω Ψ 3,Ω Ψ 1] 1 rfl rfl (by omega);generalize m.alloc _=p18 at p x anY⊢;refine m1 (dd _ m.heap.size 1 1) λc Fk=>?_
 go_wp2_with fail
 have⟨D,E,O7⟩:=WX c [(0,.slice j.heap.size 1 1),(0,()),(0,.slice m.heap.size 1 1)] #[Ω Ψ 0,.slice j.heap.size 1 1,Ω Ψ 0,(),Ω Ψ 0,.slice m.heap.size 1 1] 3 rfl rfl (by omega);generalize c.alloc _=p20 at D E O7⊢;refine m1 (JL _ 0) λp21 Fl=>?_
 go_wp2_with fail
 refine m1 (eF _ 1) λp22 Fm=>?_
 go_wp2_with fail
 refine m1 (mK _ 7) λp23 Fo=>?_
 go_wp2_with fail
 refine m1 (sY _) λa P=>?_;have Ce:=Δ a a;have Ch:=bx P Ce;have Fp:=bx Fo Ch;have Q:=bx Fm Fp;have F:=bx Fl Q;have O8:=bx E F;have s:=bx Fk O8;have Ci:=bx x s;have ahb:=bx J7 Ci;have Fq:=bx Fj ahb;have u:=bx T Fq;have O9:=bx q u;have o:=bx PE O9;have t:=bx A o;have cp10:=bx B t;have cp9:=bx z cp10;have cp8:=bx KZ cp9;have Rc:=bx K cp8;have cp6:=bx Rb Rc;have cp5:=bx KY cp6;have cp4:=bx L cp5;have cp3:=bx hp4 cp4;have cp2:=bx X cp3;have cp1:=bx H cp2;have G:=bx hp1 cp1;have hlt:=(Θ.1 HY.out.2).1;have O:=(G.block w hlt).trans HY.out.2;have hlt2:=Nat.lt_of_lt_of_le hlt G.size;obtain⟨d,f⟩:=JJ O;have d0:=d 0 (by omega);have t0:=f 0;have d1:=d 1 (by omega);have t1:=f 1;have d2:=d 2 (by omega);have t2:=f 2;have d3:=d 3 (by omega);have t3:=f 3;have d4:=d 4 (by omega);have t4:=f 4;have d5:=d 5 (by omega);have t5:=f 5;have HH:=U O;clear d f O
 go_wp2_with fail
 clear d0 d1 d2 d3 d4 d5 t0 t1 t2 t3 t4 t5;rw[show((((((a.setCell w.heap.size<|.slice b.heap.size 4 4).setCell (w.heap.size,1)<|.slice c.heap.size 3 3).setCell (w.heap.size,2)<|.slice a.heap.size 4 4).setCell (w.heap.size,3) ()).setCell (w.heap.size,4) ()).setCell (w.heap.size,5)<|.slice (a.heap.size+1:Nat) 2 2)=io a w (.slice b.heap.size 4 4) (.slice c.heap.size 3 3) (.slice a.heap.size 4 4) () () (.slice (a.heap.size+1:Nat) 2 2)from rfl];have O:=HH.out;obtain⟨a1,a2,a3,a4⟩:=kn (v0:=.slice b.heap.size 4 4) (v1:=.slice c.heap.size 3 3) (v2:=.slice a.heap.size 4 4) (v3:=()) (v4:=()) (v5:=.slice (a.heap.size+1:Nat) 2 2) O;have r:=aaO (v0:=.slice b.heap.size 4 4) (v1:=.slice c.heap.size 3 3) (v2:=.slice a.heap.size 4 4) (v3:=()) (v4:=()) (v5:=.slice (a.heap.size+1:Nat) 2 2) O;have n:aY a _ _:=(aY.cons (k:=0) (OV.reads<|OV.below fp2.out cp2)<|aY.cons (k:=0) (OV.reads<|OV.below fp5.out cp5)<|aY.cons (k:=0) (OV.reads<|OV.below fp8.out cp8)<|aY.cons (k:=1) (W.out.below t)<|aY.nil _);have J:aY a _ _:=(aY.cons (k:=0) (OV.reads<|OV.below y.out u)<|aY.cons (k:=0) dv<|aY.cons (k:=0) (OV.reads<|OV.below p.out s)<|aY.nil _);have hcs:=(OC.reads (OC.below D.out F) J).off r;have l:aY (io a w (.slice b.heap.size 4 4) (.slice c.heap.size 3 3) (.slice a.heap.size 4 4) () ()<|.slice (a.heap.size+1:Nat) 2 2) _ _:=⟨n.1,λi k v k' vs e1 e2=>⟨(n.2 i k v k' vs e1 e2).1,(n.2 i k v k' vs e1 e2).2.off r⟩⟩;have hoc:=OC.below h.out o;have S:=Δ b b;have anZ:=bx B S;have kp9:=bx z anZ;have kp8:=bx KZ kp9;have kp7:=bx K kp8;have kp6:=bx Rb kp7;have kp5:=bx KY kp6;have kp4:=bx L kp5;have kp3:=bx hp4 kp4;have kp2:=bx X kp3;have kp1:=bx H kp2;have kp0:=bx hp1 kp1;have C:OC (io a w (.slice b.heap.size 4 4) (.slice c.heap.size 3 3) (.slice a.heap.size 4 4) () () (.slice (a.heap.size+1:Nat) 2 2)) w _ _:=eV (aS hoc λg hg=>a2 g λe=>by have:=(h.out.lt g hg).1;have h0:=kp0.size;omega) (by have:=kp0.size;omega)
 have hbw:=(HY.out.1.trans<|G.mono HY.out.1.size).trans<|a4 _ .refl;generalize io a w (.slice b.heap.size 4 4) (.slice c.heap.size 3 3) (.slice a.heap.size 4 4) () () (.slice (a.heap.size+1:Nat) 2 2)=wa at a1 a3 hcs l C hbw⊢;rw[<-a3];have g1:=Cd wa [(3,0),(4,1),(0,7),(2,0)] #[Ω Ψ 3,Ω Ψ 0,Ω Ψ 4,Ω Ψ 1,Ω Ψ 0,Ω Ψ 7,Ω Ψ 2,Ω Ψ 0] 4 rfl rfl (by omega);have g2:=JV (wa.alloc<|Ξ #[Ω Ψ 3,Ω Ψ 0,Ω Ψ 4,Ω Ψ 1,Ω Ψ 0,Ω Ψ 7,Ω Ψ 2,Ω Ψ 0] 50) [0,2] #[Ω Ψ 0,Ω Ψ 2] 2 rfl rfl (by omega);have hz1:(wa.alloc<|Ξ #[Ω Ψ 3,Ω Ψ 0,Ω Ψ 4,Ω Ψ 1,Ω Ψ 0,Ω Ψ 7,Ω Ψ 2,Ω Ψ 0] 50).heap.size=wa.heap.size+1:=by simp
 rw[hz1]at g2;obtain⟨_,hb2,_⟩:=Ju wa (Ξ #[Ω Ψ 3,Ω Ψ 0,Ω Ψ 4,Ω Ψ 1,Ω Ψ 0,Ω Ψ 7,Ω Ψ 2,Ω Ψ 0] 50)<|Ξ #[Ω Ψ 0,Ω Ψ 2] 3;have y1:=(hb2.block w<|by omega).trans a1;have g1':=OV.below g1<|af (wa.alloc<|Ξ #[Ω Ψ 3,Ω Ψ 0,Ω Ψ 4,Ω Ψ 1,Ω Ψ 0,Ω Ψ 7,Ω Ψ 2,Ω Ψ 0] 50)<|Ξ #[Ω Ψ 0,Ω Ψ 2] 3;rw[<-a3]at y1;obtain⟨z0,z1,z2,z3,z4,z5⟩:=sS y1;refine θ (v:=.agg #[.slice b.heap.size 4 4,.slice c.heap.size 3 3,.slice wa.heap.size 4 4,(),(),.slice (wa.heap.size+1:Nat) 2 2]) (by simp[κ,results52,go_sem,z0,z1,z2,z3,z4,z5]) rfl ?_;exact⟨_,_,_,_,_,wa,rfl,C,l,hcs,g1',g2.less<|by omega,hbw,hb2⟩
def wU.gv{w w' e}(h:wU w e w'):∃v,e=.returned v/\GV w' v ee/\I w w w':=by obtain⟨m,n,k,j,l,wa,rfl,f,c,i,d,g,b,a⟩:=h;exact⟨_,rfl,⟨_,_,_,_,_,_,rfl,(OC.reads f c).below a,i.below a,d.reads,dv,dv,g.reads⟩,b.trans<|a.mono b.size⟩
section
variable(w:ψ)(v:φ)
def oB:Y prog 52 #[] w λe w'=>(∃v,e=.returned v/\GV w' v ee)/\I w w w':=(JW w).mono λe w' h=>by obtain⟨v,a,b,c⟩:=h.gv;exact⟨⟨v,a,b⟩,c⟩
def GV.six{w v g}(h:GV w v g):∃a0 f k a1 n m1 m p m2 e c b j d o i a l,v=.agg #[.slice a0 f k,.slice a1 n m1,.slice m p m2,.slice e c b,.slice j d o,.slice i a l]:=by obtain⟨_,_,_,_,_,_,rfl,⟨u,l0,rfl,_⟩,⟨q,B,rfl,_⟩,⟨z,C,rfl,_⟩,⟨s,x,rfl,_⟩,⟨A,y,rfl,_⟩,⟨r,t,rfl,_⟩⟩:=h;exact⟨_,_,_,_,_,_,_,_,_,_,_,_,_,_,_,_,_,_,rfl⟩
def Pa(a:GV w v ee):Y prog 24 #[v] w λe w'=>(∃r,e=.returned (.tuple #[r,Ω Ψ 0])/\eI w' r [(4,3),(4,5),(4,6),(4,4)])/\I w w w':=by have h:=O0 w v ee aak a cB (by decide) KA.1 sW Fg (by decide);exact h
def WY(a:GV w v ee):Y prog 28 #[v] w λe w'=>(∃r,e=.returned (.tuple #[r,Ω Ψ 0])/\GV w' r Al)/\I w w w':=WO w v ee Al 3 a cB (by decide) KA.1 sW JN
def WZ(lv)(a:GV w v ee)(c:JD w (λj=>j<w) lv (WU++[(10,0,0,0)])):Y prog 45 #[v,lv] w λe w'=>e=.returned (.tuple #[Ω Ψ 1,Ω Ψ 0,Ω Ψ 1,Ω Ψ 9,Ω Ψ 0])/\I w w w':=WR w v lv ee _ (λi=>if i<6 then rsM i else r6) Fi a cB (by decide) KA.1 c (by decide) rfl rfl (aal λB d b=>Cc)
def Aq(d a l)(b:eI w d l)(c:eI w a l):Y prog 27 #[d,a] w λe w'=>e=.returned (.bool true)/\I w w w':=(nd w d a l b c).mono λe w' h=>by obtain⟨rfl,n,rfl⟩:=h;exact⟨rfl,hU _ _ _⟩
def DJ(bx:Nat)(c0:Int)(c1:Nat)(c2 c3:Int)(c:w.heap[bx]?=V (Ξ #[c0,c1,c2,c3] 44 (0,0))):Y prog 62 #[Ω Ψ 5,.slice bx 1 1] w λe w'=>(∃r,e=.returned r/\JD w' (λj=>j<w') r (WU++[(c0,c1,c2,c3)]))/\I w w w':=(O5 w bx (c0,c1,c2,c3) c).mono λe w' h=>by obtain⟨⟨r,rfl,a⟩,b⟩:=h;exact⟨⟨r,rfl,OM.reads a⟩,b⟩
def lG{w:ψ}{b:Nat}{t v0 v1 v2 v3 v4 v5}(h:w.heap[b]?=V (Ξ #[v0,v1,v2,v3,v4,v5] t (0,0))):w b=V v0/\w (b,1)=V v1/\w (b,2)=V v2/\w (b,3)=V v3/\w (b,4)=V v4/\w (b,5)=V v5:=sS h
def Fr:Y prog 18 #[] w λe w'=>e=.returned (.bool true)/\I w w w':=by
 go_enter (fU func18 rfl),ntmps18
 go_wp2_with fail
 refine m2 (oB _) λv1 p1 qp1 hp1=>?_
 go_wp2_with fail
 refine m2 (Pa _ v1 qp1.out) λr1 p2 qp2 hp2=>?_
 go_wp2_with fail
 refine m2 (oB _) λv2 p3 qp3 P=>?_
 go_wp2_with fail
 refine m2 (WY _ v2 qp3.out) λr2 p4 qp4 W=>?_;obtain⟨xa0,xn0,xm0,xa1,xn1,xm1,xa2,xn2,xm2,xa3,xn3,xm3,xa4,xn4,xm4,xa5,xn5,xm5,rfl⟩:=qp4.out.six
 go_wp2_with fail
 have⟨y3,N,zp5⟩:=DI p4<|Ξ #[.slice xa0 xn0 xm0,.slice xa1 xn1 xm1,.slice xa2 xn2 xm2,.slice xa3 xn3 xm3,.slice xa4 xn4 xm4,.slice xa5 xn5 xm5] 26;generalize p4.alloc _=p5 at y3 N zp5⊢;refine m1 (eF _ 2) λp6 KY=>?_
 go_wp2_with fail
 have⟨fp7,H,zp7⟩:=nt p6 [(4,2)] #[Ω Ψ 4,Ω Ψ 2] 1 rfl rfl (by omega);generalize p6.alloc _=p7 at fp7 H zp7⊢;refine m1 (dd _ p6.heap.size 1 1) λp8 Xa=>?_
 go_wp2_with fail
 refine m1 (dd _ ξ 0 0) λp9 KZ=>?_
 go_wp2_with fail
 refine m1 (eF _ 1) λc y=>?_
 go_wp2_with fail
 have⟨F,f,Pb⟩:=nt c [(4,1)] #[Ω Ψ 4,Ω Ψ 1] 1 rfl rfl (by omega);generalize c.alloc _=p11 at F f Pb⊢;refine m1 (dd _ c.heap.size 1 1) λL z=>?_
 go_wp2_with fail
 have⟨x,b,aoi⟩:=WX L [(0,.slice p6.heap.size 1 1),(0,()),(0,.slice c.heap.size 1 1)] #[Ω Ψ 0,.slice p6.heap.size 1 1,Ω Ψ 0,(),Ω Ψ 0,.slice c.heap.size 1 1] 3 rfl rfl (by omega);generalize L.alloc _=p13 at x b aoi⊢;refine m1 (eF _ 0) λp14 o=>?_
 go_wp2_with fail
 refine m1 (eF _ 1) λp15 l=>?_
 go_wp2_with fail
 refine m1 (mK _ 7) λp16 q=>?_
 go_wp2_with fail
 refine m1 (sY _) λK p=>?_
 go_wp2_with fail
 have⟨n,d,E⟩:=nt K [(4,0),(4,1),(0,7),(2,0)] #[Ω Ψ 4,Ω Ψ 0,Ω Ψ 4,Ω Ψ 1,Ω Ψ 0,Ω Ψ 7,Ω Ψ 2,Ω Ψ 0] 4 rfl rfl (by omega);generalize K.alloc _=p18 at n d E⊢;have⟨y5,g,O⟩:=DI p18<|Ξ #[(),.slice L.heap.size 3 3,.slice K.heap.size 4 4,(),(),()] 26;generalize p18.alloc _=p19 at y5 g O⊢;refine m2 (oB _) λv3 J aoj B=>?_
 go_wp2_with fail
 have⟨A,a,S⟩:=DI J<|Ξ #[Ω Ψ 10,Ω Ψ 0,Ω Ψ 0,Ω Ψ 0] 44;generalize J.alloc _=p21 at A a S⊢;refine m2 (DJ _ J 10 0 0 0 A.out) λr3 p22 aok h=>?_
 go_wp2_with fail
 refine m1 (WZ _ v3 r3 (GV.below h.out<|GV.below a.out aoj.out) aok.out) λp23 D=>?_
 go_wp2_with fail
 refine m1 (eF _ 3) λp24 j=>?_
 go_wp2_with fail
 refine m1 (eF _ 5) λp25 C=>?_
 go_wp2_with fail
 refine m1 (eF _ 6) λp26 t=>?_
 go_wp2_with fail
 refine m1 (eF _ 4) λp27 m=>?_
 go_wp2_with fail
 have⟨v,i,aol⟩:=nt p27 [(4,3),(4,5),(4,6),(4,4)] #[Ω Ψ 4,Ω Ψ 3,Ω Ψ 4,Ω Ψ 5,Ω Ψ 4,Ω Ψ 6,Ω Ψ 4,Ω Ψ 4] 4 rfl rfl (by omega);generalize p27.alloc _=T at v i aol⊢;have Q:=bx P<|bx W<|bx N<|bx KY<|bx H<|bx Xa<|bx KZ<|bx y<|bx f<|bx z<|bx b<|bx o<|bx l<|bx q<|bx p<|bx d<|bx g<|bx B<|bx a<|bx h<|bx D<|bx j<|bx C<|bx t<|bx m<|bx i<|Δ T T;have dw:=bx hp1<|bx hp2 Q;refine m1 (Aq _ _ _ [(4,3),(4,5),(4,6),(4,4)] (eI.below Q qp2.out)<|OV.reads v.out) λp29 Cj=>?_;have u:=bx B<|bx a<|bx h<|bx D<|bx j<|bx C<|bx t<|bx m<|bx i<|bx Cj<|Δ p29 p29;have s:=bx g u;have G:=bx o<|bx l<|bx q<|bx p<|bx d s;have r:=bx z<|bx b G;have X:=bx Xa<|bx KZ<|bx y<|bx f r;have cp5:=bx KY<|bx H X;have cp4:=bx N cp5;have cw:=bx hp1<|bx hp2<|bx P<|bx W cp4;obtain⟨k0,k1,k2,k3,k4,k5⟩:=lG<|(cp5.block _ (Θ.1 y3.out).1).trans y3.out;obtain⟨j0,j1,j2,j3,j4,j5⟩:=lG<|(u.block _ (Θ.1 y5.out).1).trans y5.out;rw[E]at j0 j1 j2 j3 j4 j5
 go_wp2_with fail
 refine(NU _ _ _ Al (GV.below cp4 qp4.out) ⟨_,_,_,_,_,_,rfl,csn _,OC.reads (OC.below x.out G)<|aY.cons (k:=0) (OV.reads<|OV.below fp7.out X)<|aY.cons (k:=0) dv<|aY.cons (k:=0) (OV.reads<|OV.below F.out r)<|aY.nil _,OV.reads<|OV.below n.out s,dv,dv,isn _⟩).mono ?_;rintro e wz ⟨rfl,hz⟩;replace hz:=U hz
 go_wp2_with fail
 go_ret;exact⟨rfl,cw.trans<|hz.out.mono cw.size⟩
end
def Bx(w:ψ)(b:Nat)(c:Array φ)(g:GH):Prop:=w.heap[b]?=V (.cells c 26)/\GV w (.agg c) g/\b<w
def Bx.below{w w' b c g}(h:Bx w b c g)(hb:I w w w'):Bx w' b c g:=⟨(hb.block b h.2.2).trans h.1,h.2.1.below hb,Nat.lt_of_lt_of_le h.2.2 hb.size⟩
def GV.og{w v g}(h:GV w v g):∃a0 b a1 m1 c m2 i d a e j f,v=.agg #[.slice a0 g.new.length b,.slice a1 g.old.length m1,.slice c g.roots.length m2,.slice i g.aA.length d,.slice a g.done.length e,.slice j g.marked.length f]:=by obtain⟨_,_,_,_,_,_,rfl,⟨a0,b,rfl,-⟩,⟨a1,m1,rfl,-⟩,⟨c,m2,rfl,-⟩,⟨i,d,rfl,-⟩,⟨a,e,rfl,-⟩,⟨j,f,rfl,-⟩⟩:=h;exact⟨_,_,_,_,_,_,_,_,_,_,_,_,rfl⟩
def afs(w a mc l)(hv:n9 w (.slice a l.length mc) l):
 Y prog 5 #[.slice a l.length mc] w λe w'=>e=.returned (.bool true)/\I w w w':=by
 have HV:=U hv;clear hv
 go_enter (fU func5 rfl),ntmps5
 go_wp2_with fail
 refine(WT _ a mc l HV.out).mono ?_;rintro e w1 ⟨rfl,hc,c⟩
 go_wp2_with fail
 refine(aeD _ w 0 16 hc (by omega)<|by omega).mono ?_;rintro e W ⟨⟨r,g,rfl,ho,B,hm⟩,hw⟩;have d:I w w W:=c.grown hw.2 c.size (λk e=>by cases e;exact .refl);have HR:=U ho.reads;obtain⟨p0,m0,p1,m1,p2,m2,p3,m3,p4,m4,p5,m5,rfl⟩:=ho.reads.og
 go_upto_region 2 with(fail)
 generalize v:W.alloc _=w3;obtain⟨y3,i,hz3⟩:=alE v;clear v;have B0:=U<|d.trans<|i.mono d.size;have A:R (Bx w3 W.heap.size _ g):=U ⟨y3,HR.out.below i,by omega⟩;generalize W.heap.size=b3 at A⊢;clear i HR hw hc c d ho y3 hz3;have G:=VG.afO B hm;have H:=VG.afZ B hm;have F:=VG.afP B hm;have eA:=Qs B G.1;have eB:=NE B.wg;have eC:=RP B;obtain⟨t,q,n,u,o,s⟩:=sS A.out.1
 go_wp2_with fail
 refine(aaR _ _ g A.out.2.1 B).mono ?_;rintro e w4 ⟨⟨rw4,rfl,z⟩,c⟩
 go_wp2_with fail
 refine(aae _ rw4 g z.reads B<|by omega).mono ?_;rintro e w5 ⟨⟨rw5,rfl,m1⟩,d⟩;replace c:=c.trans<|d.mono c.size;obtain⟨a0,i0,a1,i1,a2,i2,a3,i3,a4,i4,a5,i5,rfl⟩:=m1.og;clear z d t q n u o s
 go_upto_region 3 with(fail)
 generalize v:w5.alloc _=w6;obtain⟨y,i,hz⟩:=alE v;clear v;have b:=m1.below i;replace c:=c.trans<|i.mono c.size;replace A:=U<|A.out.below c;replace B0:=U<|B0.out.trans<|c.mono B0.out.size;have f:R (Bx w6 w5.heap.size _ _):=U ⟨y,b,by omega⟩;generalize w5.heap.size=b4 at f⊢;clear b m1 i c y hz;obtain⟨t,q,n,u,o,s⟩:=sS A.out.1
 go_wp2_with fail
 refine(aaR _ _ g A.out.2.1 B).mono ?_;rintro e w7 ⟨⟨rw7,rfl,z⟩,c⟩
 go_wp2_with fail
 refine(adz B _ rw7 z.reads H.1).mono ?_;rintro e w8 ⟨⟨rw8,rfl,m1⟩,d⟩;replace c:=c.trans<|d.mono c.size;obtain⟨d0,j0,d1,j1,d2,j2,d3,j3,d4,j4,d5,j5,rfl⟩:=m1.og;clear z d t q n u o s
 go_upto_region 4 with(fail)
 generalize v:w8.alloc _=w9;obtain⟨y,i,hz⟩:=alE v;clear v;have b:=m1.below i;replace c:=c.trans<|i.mono c.size;replace A:=U<|A.out.below c;replace f:=U<|f.out.below c;replace B0:=U<|B0.out.trans<|c.mono B0.out.size;have h:R (Bx w9 w8.heap.size _ _):=U ⟨y,b,by omega⟩;generalize w8.heap.size=b6 at h⊢;clear b m1 i c y hz;obtain⟨t,q,n,u,o,s⟩:=sS A.out.1
 go_wp2_with fail
 refine(aaR _ _ g A.out.2.1 B).mono ?_;rintro e w10 ⟨⟨J,rfl,z⟩,c⟩
 go_wp2_with fail
 refine(S5 B _ J z.reads F.1).mono ?_;rintro e D ⟨⟨an3,rfl,m1⟩,d⟩;replace c:=c.trans<|d.mono c.size;obtain⟨s0,k0,s1,k1,s2,k2,s3,k3,s4,k4,s5,k5,rfl⟩:=m1.og;clear z d t q n u o s
 go_upto_region 5 with(fail)
 generalize v:D.alloc _=E9;obtain⟨y,i,hz⟩:=alE v;clear v;have b:=m1.below i;replace c:=c.trans<|i.mono c.size;replace A:=U<|A.out.below c;replace f:=U<|f.out.below c;replace h:=U<|h.out.below c;replace B0:=U<|B0.out.trans<|c.mono B0.out.size;have m:R (Bx E9 D.heap.size _ _):=U ⟨y,b,by omega⟩;generalize D.heap.size=b8 at m⊢;clear b m1 i c y hz;clear A;generalize hGA:Md.sX g=GA at f G eA⊢;generalize hGB:Md.Al g=GB at h H eB⊢;generalize hGC:Md.vm g=GC at m F eC⊢;obtain⟨t,q,n,u,o,s⟩:=sS f.out.1
 go_wp2_with fail
 refine(aaQ _ _ GA f.out.2.1 G.2.1).mono ?_;rintro e w13 ⟨rfl,hb⟩;replace f:=U<|f.out.below hb;replace h:=U<|h.out.below hb;replace m:=U<|m.out.below hb;replace B0:=U<|B0.out.trans<|hb.mono B0.out.size;clear hb t q n u o s;obtain⟨t,q,n,u,o,s⟩:=sS h.out.1
 go_wp2_with fail
 refine(aaQ _ _ GB h.out.2.1 H.2.1).mono ?_;rintro e w14 ⟨rfl,hb⟩;replace f:=U<|f.out.below hb;replace h:=U<|h.out.below hb;replace m:=U<|m.out.below hb;replace B0:=U<|B0.out.trans<|hb.mono B0.out.size;clear hb t q n u o s;obtain⟨t,q,n,u,o,s⟩:=sS m.out.1
 go_wp2_with fail
 refine(aaQ _ _ GC m.out.2.1 F.2.1).mono ?_;rintro e w15 ⟨rfl,hb⟩;replace f:=U<|f.out.below hb;replace h:=U<|h.out.below hb;replace m:=U<|m.out.below hb;replace B0:=U<|B0.out.trans<|hb.mono B0.out.size;clear hb t q n u o s
 go_upto_region 7 with(fail)
 obtain⟨t,q,n,u,o,s⟩:=sS f.out.1
 go_wp2_with fail
 refine(aaR _ _ GA f.out.2.1 G.2.1).mono ?_;rintro e w16 ⟨⟨T,rfl,z⟩,c⟩
 go_wp2_with fail
 refine(aae _ T GA z.reads G.2.1 (by have:=G.2.2;omega)).mono ?_;rintro e E ⟨⟨an4,rfl,m1⟩,d⟩;replace c:=c.trans<|d.mono c.size;rw[eA]at m1;obtain⟨n0,t0,n1,t1,n2,t2,n3,t3,n4,t4,n5,t5,rfl⟩:=m1.og;clear z d t q n u o s
 go_upto_region 8 with(fail)
 generalize v:E.alloc _=Vn;obtain⟨y,i,hz⟩:=alE v;clear v;have b:=m1.below i;replace c:=c.trans<|i.mono c.size;replace f:=U<|f.out.below c;replace h:=U<|h.out.below c;replace m:=U<|m.out.below c;replace B0:=U<|B0.out.trans<|c.mono B0.out.size;have j:R (Bx Vn E.heap.size _ _):=U ⟨y,b,by omega⟩;generalize E.heap.size=b10 at j⊢;clear b m1 i c y hz;obtain⟨t,q,n,u,o,s⟩:=sS h.out.1
 go_wp2_with fail
 refine(aaR _ _ GB h.out.2.1 H.2.1).mono ?_;rintro e w19 ⟨⟨O,rfl,z⟩,c⟩
 go_wp2_with fail
 refine(adz H.2.1 _ O z.reads H.2.2).mono ?_;rintro e QU ⟨⟨an5,rfl,m1⟩,d⟩;replace c:=c.trans<|d.mono c.size;rw[eB]at m1;obtain⟨x0,y0,x1,y1,x2,y2,x3,y3,x4,y4,x5,y5,rfl⟩:=m1.og;clear z d t q n u o s
 go_upto_region 9 with(fail)
 generalize v:QU.alloc _=w21;obtain⟨y,i,hz⟩:=alE v;clear v;have b:=m1.below i;replace c:=c.trans<|i.mono c.size;replace f:=U<|f.out.below c;replace h:=U<|h.out.below c;replace m:=U<|m.out.below c;replace j:=U<|j.out.below c;replace B0:=U<|B0.out.trans<|c.mono B0.out.size;have p:R (Bx w21 QU.heap.size _ _):=U ⟨y,b,by omega⟩;generalize QU.heap.size=b11 at p⊢;clear b m1 i c y hz;obtain⟨t,q,n,u,o,s⟩:=sS m.out.1
 go_wp2_with fail
 refine(aaR _ _ GC m.out.2.1 F.2.1).mono ?_;rintro e w22 ⟨⟨L,rfl,z⟩,c⟩
 go_wp2_with fail
 refine(S5 F.2.1 _ L z.reads F.2.2).mono ?_;rintro e C ⟨⟨an7,rfl,m1⟩,d⟩;replace c:=c.trans<|d.mono c.size;rw[eC]at m1;obtain⟨z0,u0,z1,u1,z2,u2,z3,u3,z4,u4,z5,u5,rfl⟩:=m1.og;clear z d t q n u o s
 go_upto_region 10 with(fail)
 generalize v:C.alloc _=X;obtain⟨y,i,hz⟩:=alE v;clear v;have b:=m1.below i;replace c:=c.trans<|i.mono c.size;replace f:=U<|f.out.below c;replace h:=U<|h.out.below c;replace m:=U<|m.out.below c;replace j:=U<|j.out.below c;replace p:=U<|p.out.below c;replace B0:=U<|B0.out.trans<|c.mono B0.out.size;have x:R (Bx X C.heap.size _ _):=U ⟨y,b,by omega⟩;generalize C.heap.size=b12 at x⊢;clear b m1 i c y hz;obtain⟨t,q,n,u,o,s⟩:=sS j.out.1;obtain⟨h0,S,P,K,Q,N⟩:=sS f.out.1
 go_wp2_with fail
 refine(NU _ _ _ _ j.out.2.1 f.out.2.1).mono ?_;rintro e Vo ⟨rfl,hb⟩;replace f:=U<|f.out.below hb;replace h:=U<|h.out.below hb;replace m:=U<|m.out.below hb;replace j:=U<|j.out.below hb;replace p:=U<|p.out.below hb;replace x:=U<|x.out.below hb;replace B0:=U<|B0.out.trans<|hb.mono B0.out.size;clear hb t q n u o s h0 S P K Q N;obtain⟨t,q,n,u,o,s⟩:=sS p.out.1;obtain⟨h0,S,P,K,Q,N⟩:=sS h.out.1
 go_wp2_with fail
 refine(NU _ _ _ _ p.out.2.1 h.out.2.1).mono ?_;rintro e w26 ⟨rfl,hb⟩;replace f:=U<|f.out.below hb;replace h:=U<|h.out.below hb;replace m:=U<|m.out.below hb;replace j:=U<|j.out.below hb;replace p:=U<|p.out.below hb;replace x:=U<|x.out.below hb;replace B0:=U<|B0.out.trans<|hb.mono B0.out.size;clear hb t q n u o s h0 S P K Q N;obtain⟨t,q,n,u,o,s⟩:=sS x.out.1;obtain⟨h0,S,P,K,Q,N⟩:=sS m.out.1
 go_wp2_with fail
 refine(NU _ _ _ _ x.out.2.1 m.out.2.1).mono ?_;rintro e w27 ⟨rfl,hb⟩;replace f:=U<|f.out.below hb;replace h:=U<|h.out.below hb;replace m:=U<|m.out.below hb;replace j:=U<|j.out.below hb;replace p:=U<|p.out.below hb;replace x:=U<|x.out.below hb;replace B0:=U<|B0.out.trans<|hb.mono B0.out.size;clear hb t q n u o s h0 S P K Q N
 go_wp2_with fail
 refine(Fr _).mono ?_;rintro e w28 ⟨rfl,hb⟩
 go_wp2_with fail
 go_ret;exact⟨rfl,B0.out.trans<|hb.mono B0.out.size⟩
end Kn
