/- A part of the proof of GcTwice; no conditions. -/
import Derived.Test.YtbnmpafbfoaggaaGreatDoorT4
import Derived.Test.YtbnmpafbfoaggaaGreatDoorT0
import Derived.Test.YtbnmpafbfoaggaaGreatDoorT1
import Derived.Test.YtbnmpafbfoaggaaGreatDoorT2
import Derived.Outline
import Derived.BigQuiet
import Derived.Deep.DeepCutAuto
import Derived.Deep.Cut
import Derived.Test.YtbnmpafbfoaggaaGreatDoorT3
import Derived.Deep.CutBlock
set_option linter.defProp false
set_option linter.unusedVariables false
set_option linter.unusedSimpArgs false
set_option maxRecDepth 100000
set_option maxHeartbeats 16000000
noncomputable section
open Go.Value renaming int->Ω,slice->ZU
open Go.IntKind renaming i64->Ψ
open Array renaming getElem?_eq_some_iff->Ξ
open Go.Lib renaming hid->V
open Go.Obj renaming cells->Θ
open Go.RowKit.Below renaming refl->Z
open Option renaming some->U,none->Y
open List renaming mem_of_getElem?->Δ,setIfInBounds_toArray->φ,take_of_length_le->υ,getElem?_eq_some_iff->ο,countP_append->ξ,take_succ_cons->μ,drop_succ_cons->κ,set_cons_zero->θ,set_cons_succ->η,mem_append_right->ζ,pairwise_iff_getElem->ε,mem_append->Z9,take_zero->Z4,drop_zero->Z3,mem_append_left->Z2,getElem?_append_left->Z1,getD->ZY,replicate->ZV,getElem?_eq_getElem->ZT,mem_map->ZR,map_singleton->ZM,eq_nil_of_length_eq_zero->ZH,map_append->ZF,nodup_nil->ZE,mem_iff_getElem?->ZD,countP_le_length->ZC,getElem?_eq_none->ZB,mem_of_mem_take->ZA,length_append->Zz,mem_singleton->Zy,nodup_append->Zx,any_append->Zv
open Nat renaming zero_le->Γ,lt_of_lt_of_le->χ,reduceAdd->ZX,le_of_eq->ZJ,lt_trichotomy->Zw,not_lt_zero->Zu
open Go renaming heap_alloc_new->ω,Calls->R,World->ι,bodyPost_ret->Z0,madeCells->ZW,Value->ZQ,Addr->ZN,results->ZL,wpOp_step->ZK,maxLen->Zt,info_parts->Zs
open Go.World renaming cell?->ψ,frozen?->ZZ
open Go.RowKit renaming Below->I
open Bool renaming false->Z8,true->ZO
open Go.Addr renaming add->Z7
open Go.World.grownBy renaming refl->ZS
open Go.Value.slice renaming injEq->ZP
open Go.Act renaming put->ZI
open And renaming intro->ZG
namespace Go.Proofs.YtbnmpafbfoaggaaGreatDoor
open Go.Proofs.Tryz hiding prog
open Go.Proofs.aD
namespace Kn
open Go Go.RowKit Md
section
section
variable{g:GH}(h:VG g)
include h
def VG.aej:im (Md.iF g):=by
 have hs:=yY h;have hz:=E7 h;have hw:=B9 h;have a:=h.news;have f:=h.bw;refine⟨hs.VQ,λv b=>(hs.cJ v b).VQ,by omega,by omega,?_,by have:=hw.1.2;omega,by have:=hw.2.2;omega,λc hc=>?_,λn a=>(by cases a),Γ _⟩;have:=h.four;have e:(Md.iF g).roots.length=g.roots.length:=by simp[Md.iF,Ij,ir,ag,plain]
 omega;have:∃d∈(lu<|plain g).cells,c=qO g.old.length d:=by
  obtain hc|hc:=Z9.1 hc
  obtain⟨d,hd,rfl⟩:=ZR.1 hc;exact⟨d,List.mem_of_mem_drop hd,rfl⟩;obtain⟨d,hd,rfl⟩:=ZR.1 hc;exact⟨d,ZA hd,rfl⟩
 obtain⟨d,hd,rfl⟩:=this;have:=(n7<|kf h).shape d hd;unfold zY at this;show(d.2.map _).length<=100;rw[List.length_map];obtain h|h|h|h:=this
 omega;omega;omega;rw[h.2];exact Γ _
def VG.afY(a:(aq g).length<=32):Md.collect .full g=U ((aq g).length,Md.Al g):=by unfold Md.collect;simp only[reduceCtorEq,if_false,Md.aeP];rw[if_neg (by show¬32<0+(aq g).length;omega)];rfl
def VG.afN(a:(aq<|Md.iF g).length<=32):Md.collect .major g=U ((aq<|Md.iF g).length,Md.vm g):=by unfold Md.collect;simp only[if_true,Md.aeP];rw[if_neg (by show¬32<0+(aq<|Md.iF g).length;omega)];rfl
def adz(w v)(a:GV w v g)(b:(aq g).length<=32):
 R prog 28 #[v] w λe w'=>(∃r,e=.returned (.tuple #[r,Ω Ψ 0])/\GV w' r (Md.Al g))/\I w w w':=
 WO w v g (Md.Al g) _ a (VG.look h) (by have:=h.By;omega) (VG.cN h) (VG.aeP h) (VG.afY b)
def S5(w v)(a:GV w v g)(c:(aq<|Md.iF g).length<=32):
 R prog 30 #[v] w λe w'=>(∃r,e=.returned (.tuple #[r,Ω Ψ 0])/\GV w' r (Md.vm g))/\I w w w':=
 Qq .major w v g (Md.vm g) _ a (VG.look h) (by have:=h.By;omega) (VG.cN h) (VG.afN c) λw B b i d=>sP w B b g (λ_ f=>f.elim) i (VG.sw h) (VG.aej h) d
def VG.afO(a:g.new.length+g.old.length<=16):g.old.length+(hE g).length<=32/\VG (Md.sX g)/\(Md.sX g).new.length+(Md.sX g).old.length<=16:=by have:=wb h;have b:=sb (g:=g);have c:(Md.sX g).new.length=0:=rfl;exact⟨by omega,Ck h<|by omega,by omega⟩
def VG.afZ(b:g.new.length+g.old.length<=16):(aq g).length<=32/\VG (Md.Al g)/\(aq<|Md.Al g).length<=32:=by have d:=HQ h.wg;have a:=S1 h (by omega);have e:=HQ a.wg;have f:(Md.Al g).new.length=0:=rfl;have c:=Ct (g:=g);exact⟨by omega,a,by omega⟩
def VG.afP(c:g.new.length+g.old.length<=16):(aq<|Md.iF g).length<=32/\VG (Md.vm g)/\(aq<|Md.iF<|Md.vm g).length<=32:=by have e:=HQ<|yY h;have hz:=E7 h;have a:=Qp h (by omega);have f:=HQ<|yY a;have b:=E7 a;have i:(Md.vm g).new.length=0:=rfl;have d:(Md.vm g).old.length=(aq<|Md.iF g).length:=Ct (g:=Md.iF g);exact⟨by omega,a,by omega⟩
end
end
section
def Ao(w:ι)(c:Nat)(k:Int):Prop:=∃a l mc u,w.heap[c]?=U (Θ #[.slice a (l:List Int).length mc,Ω Ψ k,Ω .u64 u] 95 (0,0))/\n9 w (.slice a l.length mc) l/\∀p,0<l.length->a=U p->p.block<c
def kp(w:ι)(c m:Nat):Prop:=∃k,Ao w c k/\0<=k/\k<=(m:Int)
def Xx(op a b):0<=bits op .u64 a b:=(wrap_within .u64 _).1
section
variable{w w':ι}{c:Nat}
def Kr{i:Nat}{v}(h:w.grownBy w' (U c)):w.grownBy (w'.setCell (c,i) v) (U c):=⟨h.os,h.tape,h.output,by simpa using h.size,λj b a=>(aa λe=>a<|congrArg U e).trans<|h.block j b a⟩
def Xy{r}(h:w.grownBy w' r)(n):w.grownBy (w'.drewN n) r:=⟨h.os,h.tape,h.output,h.size,h.block⟩
def adF{r}(h:w.grownBy w' r):w.grownBy w'.drew r:=⟨h.os,h.tape,h.output,h.size,h.block⟩
def n9.grown{a n m l}(h:n9 w (.slice a n m) l)(g:w.grownBy w' (U c))(d:∀p,0<l.length->a=U p->p.block≠c):n9 w' (.slice a n m) l:=by
 obtain⟨r,s,e,k,j,q⟩:=h;cases e
 refine⟨a,m,rfl,k,j,λh0=>?_⟩;obtain⟨b,o,rfl,hb,f⟩:=q h0;refine⟨b,o,rfl,χ hb g.size,λi n e=>g.cell (f i n e) ?_⟩
 exactλe=>d _ h0 rfl<|Option.some.inj e
def Ao.ah3{k k':Int}(h:Ao w c k):Ao (w.setCell (c,1) k') c k':=by obtain⟨a,l,mc,u,hc,d,b⟩:=h;exact⟨a,l,mc,u,heap_setCell_same hc,d.grown (Kr<|ZS w<|U c) λp h0 e=>Nat.ne_of_lt<|b p h0 e,b⟩
def Ao.anz{k b}(h:Ao w c k):Ao (w.setCell (c,2)<|Ω .u64 b) c k:=by obtain⟨a,l,mc,u,hc,f,d⟩:=h;exact⟨a,l,mc,b,heap_setCell_same hc,f.grown (Kr<|ZS w<|U c) λp h0 e=>Nat.ne_of_lt<|d p h0 e,d⟩
def Ao.reads{k}(h:Ao w c k):∃a l mc u,w c=U (.slice a (l:List Int).length mc)/\w (c,1)=U (Ω Ψ k)/\w (c,2)=U (Ω .u64 u)/\w.frozen? (c,1)=Z8/\w.frozen? (c,2)=Z8/\(0<=k->(∃b o x,a=U ⟨b,o,Y⟩/\w ((b:Nat),o+k.toNat)=U (Ω Ψ x)/\k<(l.length:Int))\/¬k<(l.length:Int))/\l.length<=mc/\mc<=9223372036854775807:=by
 obtain⟨a,l,mc,u,hc,⟨n,p,f,i,g,j⟩,q⟩:=h;cases f
 refine⟨a,l,mc,u,by simp[ψ,hc],by simp[ψ,hc],by simp[ψ,hc],by simp[ZZ,hc],by simp[ZZ,hc],λh0=>?_,i,g⟩;by_cases d:k<(l.length:Int)
 obtain⟨b,o,rfl,hb,e⟩:=j (by omega);obtain⟨x,m⟩:=lw (l:=l) (k:=k.toNat) (by omega);exact .inl ⟨b,o,x,rfl,e _ _ m,d⟩;exact .inr d
end
def adH(w c m)(h:kp w c m)(E:m<=1000000000):
 R prog 91 #[.pointer c] w λe w'=>(∃r,e=.returned (Ω .u64 r)/\0<=r)/\kp w' c (m+1)/\w.grownBy w' (U c):=by
 obtain⟨k,g,i,q⟩:=h;have v:=V g;obtain⟨a,l,mc,u,c0,c1,c2,s,y,n,C,A⟩:=g.reads;clear g;obtain⟨b,o,x,rfl,n,f⟩|f:=n i
 all_goals
  go_enter (fU func91 rfl),ntmps91
  go_wp2_with fail
  go_quiet (fail)
  go_wp2_with fail
  try
   go_quiet (fail)
   go_wp2_with fail
  go_region
  generalize hw:World.drew _=p;have d:Ao p c (k+1):=by rw[<-hw];exact Ao.anz<|Ao.anz<|Ao.ah3 (w:=w.drewN _) v.out
  have j:w.grownBy p (U c):=by rw[<-hw];exact adF<|Kr<|Kr<|Kr<|Xy (ZS w<|U c) _
  clear hw;obtain⟨D,F,t,u6,_,_,z,_,B,_⟩:=d.reads;clear c0 c1 c2 s y n
  go_wp2_with fail
  go_quiet (fail)
  go_wp2_with fail
  go_ret;exact⟨⟨_,rfl,Int.ediv_nonneg (Xx _ _ _)<|by omega⟩,⟨k+1,d.anz,by omega,by omega⟩,Xy (Kr j) nq⟩
end
section
variable{c:Nat}{w:ι}
def hQ(w:ι)(c m:Nat)(w':ι):Prop:=kp w' c m/\w.grownBy w' (U c)
def R0(w c m n)(h:kp w c m)(b:m<=1000000000)(f:-1000000<=n)(d:n<=1000000):
 R prog 35 #[.pointer c,Ω Ψ n] w λe w'=>(∃r,e=.returned (Ω Ψ r)/\0<=r/\(r=0\/r<=n))/\hQ w c (m+1) w':=by
 go_enter (fU func35 rfl),ntmps35
 go_wp2_with fail
 refine(adH _ c m h b).mono ?_;rintro e g ⟨⟨x,rfl,i⟩,hc,a⟩;by_cases j:n<1
 ·go_wp2_with fail
  go_ret;exact⟨⟨0,rfl,by omega,.inl rfl⟩,hc,a⟩
 ·have e1:=Int.emod_nonneg x (by omega:n+1≠0);have e2:=Int.emod_lt_of_pos x (by omega:0<n+1)
  go_wp2_with fail
  go_ret;exact⟨⟨_,rfl,e1,.inr<|by omega⟩,hc,a⟩
def Kt(w c m n)(h:kp w c m)(a:m<=1000000000)(f:0<=n)(d:n<=1000000):
 R prog 38 #[.pointer c,Ω Ψ n] w λe w'=>(∃b,e=.returned (.bool b))/\hQ w c (m+1) w':=by
 go_enter (fU func38 rfl),ntmps38
 go_wp2_with fail
 refine(R0 _ c m (n-1) h a (by omega)<|by omega).mono ?_;rintro e g ⟨⟨x,rfl,i⟩,hw⟩
 go_wp2_with fail
 go_ret;exact⟨⟨_,rfl⟩,hw⟩
def adI(w c m lo hi)(h:kp w c m)(a:m<=1000000000)(d:-100000<=lo)(b:lo<=hi)(g:hi<=100000):
 R prog 90 #[.pointer c,Ω Ψ lo,Ω Ψ hi] w λe w'=>(∃r,e=.returned (Ω Ψ r)/\lo<=r/\r<=hi)/\hQ w c (m+1) w':=by
 go_enter (fU func90 rfl),ntmps90
 go_wp2_with fail
 refine(R0 _ c m (hi-lo) h a (by omega)<|by omega).mono ?_;rintro e f ⟨⟨x,rfl,i⟩,hw⟩
 go_wp2_with fail
 go_ret;exact⟨⟨_,rfl,by omega,by omega⟩,hw⟩
def Pt(w)(c m g n:Nat)(l)(h:kp w c m)(t:m<=1000000000)(j:n9 w (.slice g n n) l)(A:g≠c)(z:0<l.length)(B:l.length<=1000000):
 R prog 34 #[.pointer c,.slice g n n] w λe w'=>(∃r,e=.returned (Ω Ψ r)/\r∈l)/\hQ w c (m+1) w':=by
 have HV:=V j;obtain⟨a,mc,i,f,s,_⟩:=j;cases i
 clear f
 go_enter (fU func34 rfl),ntmps34
 go_wp2_with fail
 refine(R0 _ c m (l.length-1) h t (by omega)<|by omega).mono ?_;rintro e D ⟨⟨x,rfl,E⟩,hw⟩;obtain⟨C,u,i,f,_,d⟩:=HV.out.grown hw.2 (λp _ e=>by cases e;exact A);cases i
 obtain⟨b,o,i,hb,d⟩:=d z;cases i
 obtain⟨y,q⟩:=lw (l:=l) (k:=x.toNat) (by omega);have hc:=d _ _ q;have v:x<l.length:=by omega
 rw[Nat.zero_add]at hc;clear d
 go_wp2_with fail
 go_ret;exact⟨⟨y,rfl,Δ q⟩,hw⟩
def Ku(w:ι)(l cs n)(a:l.length=n)(hc:cs.toList=l.map (.int Ψ))(b:n<=1000000):n9 (w.alloc<|.cells cs 3) (.slice w.heap.size n n) l:=by
 subst a;refine⟨_,_,rfl,.refl,by omega,λ_=>⟨_,_,rfl,by simp,λi k e=>?_⟩⟩;have hi:cs[i]?=U (Ω Ψ k):=by rw[<-Array.getElem?_toList,hc,List.getElem?_map,e];rfl
 simp_all
def hQ.trans{w w1 w2 c m n}(h:hQ w c m w1)(k:hQ w1 c n w2):hQ w c n w2:=⟨k.1,h.2.trans k.2⟩
def kp.Qh{w' m}(h:kp w c m)(b:I w w w'):kp w' c m:=by obtain⟨k,⟨a,l,mc,u,hc,d,g⟩,f,e⟩:=h;exact⟨k,⟨a,l,mc,u,(b.block c (Ξ.1 hc).1).trans hc,d.below b,g⟩,f,e⟩
def hQ.below{w1 w2 m}(h:hQ w c m w1)(a:I w1 w1 w2):hQ w c m w2:=⟨h.1.Qh a,⟨a.os.trans h.2.os,a.tape.trans h.2.tape,a.output.trans h.2.output,Nat.le_trans h.2.size a.size,λj b d=>(a.block j<|χ b h.2.size).trans<|h.2.block j b d⟩⟩
def kp.oq{m}(h:kp w c m):hQ w c m w:=⟨h,.refl _ _⟩
def kp.more{m n}(h:kp w c m)(d:m<=n):kp w c n:=by obtain⟨k,b,a,e⟩:=h;exact⟨k,b,a,by omega⟩
def kp.lt{m}(h:kp w c m):c<w:=by obtain⟨k,⟨a,l,mc,u,hc,_⟩,_⟩:=h;exact(Ξ.1 hc).1
def hQ.more{w w' c m n}(h:hQ w c m w')(a:m<=n):hQ w c n w':=⟨h.1.more a,h.2⟩
def hQ.off{w' k o}(h:hQ (w.alloc o) c k w'):hQ w c k w':=⟨h.1,(World.grownBy_alloc w o _).trans h.2⟩
def hQ.upto{s W k}(h:hQ w c k s)(hc:c<w)(hb:I w s W):hQ w c k W:=by
 obtain⟨⟨y,⟨a,l,mc,u,h0,v,f⟩,p,m⟩,d⟩:=h;refine⟨⟨y,⟨a,l,mc,u,(hb.block c hc).trans h0,?_,f⟩,p,m⟩,hb.os.trans d.os,hb.tape.trans d.tape,hb.output.trans d.output,Nat.le_trans d.size hb.size,λj r f=>(hb.block j r).trans<|d.block j r f⟩;obtain⟨z,A,e,p,m,x⟩:=v;cases e
 refine⟨a,mc,rfl,p,m,λh0=>?_⟩;obtain⟨b,o,rfl,g,q⟩:=x h0;have t:b<c:=f _ (by omega) rfl;exact⟨b,o,rfl,χ g hb.size,λi n e=>by have:=q i n e;simpa only[ψ,hb.block b<|by omega]using this⟩
def f6{b:Nat}{x y t}(h:w.heap[b]?=U (Θ #[x,y] t (0,0))):w b=U x/\w (b,1)=U y/\w.frozen? b=Z8/\w.frozen? (b,1)=Z8:=⟨by simp[ψ,h],by simp[ψ,h],by simp[ZZ,h],by simp[ZZ,h]⟩
def Qi{b:Nat}{x y t}(h:w.heap[b]?=U (Θ #[x,y] t (0,0)))(p q):((w.setCell b p).setCell (b,1) q) b=U p/\((w.setCell b p).setCell (b,1) q) (b,1)=U q:=by have a:=heap_setCell_same (i:=1) (v:=q)<|heap_setCell_same (i:=0) (v:=p) h;exact⟨by simp[ψ,a],by simp[ψ,a]⟩
def KL(n p q:Int):Prop:=(p=1/\0<=q/\q<n)\/(p=2/\q=0)\/(p=0/\-99<=q/\q<=99)
def Pu(w c m n)(h:kp w c m)(O:m<=900000000)(K:0<=n)(J:n<=1000):
 R prog 127 #[.pointer c,Ω Ψ n] w λe w'=>(∃p q,e=.returned (.agg #[Ω Ψ p,Ω Ψ q])/\KL n p q)/\hQ w c (m+4) w':=by
 have B:=af w<|Θ #[Ω Ψ 0,Ω Ψ 0] 50;have h0:=h.Qh B;have s:=h.lt;have hw:=(h0.more (by omega:m<=m+1)).oq;have fin:∀(g:ι) (k:Nat) (p q:Int),k<=m+4->hQ (w.alloc<|Θ #[Ω Ψ 0,Ω Ψ 0] 50) c k g->KL n p q->g.heap[w.heap.size]?=U (Θ #[Ω Ψ 0,Ω Ψ 0] 50 (0,0))/\
  ∀W,W=(g.setCell w.heap.size<|Ω Ψ p).setCell (w.heap.size,1) (Ω Ψ q) ->W w.heap.size=U (Ω Ψ p)/\W (w.heap.size,1)=U (Ω Ψ q)/\hQ w c (m+4) W:=by
  intro g k p q F hw l;have hb:g.heap[w.heap.size]?=U (Θ #[Ω Ψ 0,Ω Ψ 0] 50 (0,0)):=(hw.2.block _ (by simp) (by simp;omega)).trans<|ω w _;refine⟨hb,?_⟩;rintro W rfl;obtain⟨i,f⟩:=Qi hb (Ω Ψ p)<|Ω Ψ q;exact⟨i,f,(hw.off.upto s<|((Z _ _).setCell (p:=⟨w.heap.size,0,Y⟩) .refl _).setCell (p:=⟨w.heap.size,1,Y⟩) .refl _).more F⟩
 by_cases N:0<n<;>(go_enter (fU func127 rfl),ntmps127;go_wp2_with fail)<;>try (refine(Kt _ c m 4 h0 (by omega) (by omega)<|by omega).mono ?_;rintro e P ⟨⟨b,rfl⟩,hw⟩;go_wp2_with fail)
 ·refine(R0 _ c (m+1) (n-1) hw.1 (by omega) (by omega)<|by omega).mono ?_;rintro e g ⟨⟨x,rfl,H⟩,u⟩;have l:KL n 1 x:=.inl ⟨rfl,by omega,by omega⟩;obtain⟨hb,j⟩:=fin g _ _ _ (by omega) (hw.trans u) l;obtain⟨z,r,g0,C⟩:=f6 hb
  go_wp2_with fail
  obtain⟨i,f,o⟩:=j _ rfl;exact Z0 (v:=.agg #[Ω Ψ 1,Ω Ψ x]) (by simp[ZL,results127,go_sem,i,f]) rfl ⟨⟨1,x,rfl,l⟩,o⟩
 all_goals
  refine(Kt _ c (m+1) 8 hw.1 (by omega) (by omega)<|by omega).mono ?_;rintro e w4 ⟨⟨L,rfl⟩,a⟩;replace a:=hw.trans a;obtain⟨hb,j⟩:=fin w4 _ 2 0 (by omega) a<|.inr<|.inl ⟨rfl,rfl⟩;obtain⟨z,r,g0,C⟩:=f6 hb
  go_wp2_with fail
  ·obtain⟨i,f,o⟩:=j _ rfl;exact Z0 (v:=.agg #[Ω Ψ 2,Ω Ψ 0]) (by simp[ZL,results127,go_sem,i,f]) rfl ⟨⟨2,0,rfl,.inr<|.inl ⟨rfl,rfl⟩⟩,o⟩
  ·refine(adI _ c (m+1+1) (-99) 99 a.1 (by omega) (by omega) (by omega)<|by omega).mono ?_;rintro e w5 ⟨⟨x,rfl,H⟩,d⟩;clear z r g0 C hb j
   go_wp2_with fail
   have A:=af w5<|Θ #[Ω Ψ 0,Ω Ψ 1,Ω Ψ 7,Ω Ψ<|-3,Ω Ψ x] 3;have E:=d.1.lt;have d:=(a.trans d).below A;refine(Pt _ c _ _ _ [0,1,7,-3,x] d.1 (by omega) (Ku w5 _ _ 5 rfl rfl<|by omega) (by omega) (by simp)<|by simp).mono ?_;rintro e D ⟨⟨y,rfl,G⟩,t⟩;have l:KL n 0 y:=.inr<|.inr (by simp at G;omega);obtain⟨hb,j⟩:=fin D _ _ _ (by omega) (d.trans t) l;obtain⟨z,r,g0,C⟩:=f6 hb
   go_wp2_with fail
   obtain⟨i,f,o⟩:=j _ rfl;exact Z0 (v:=.agg #[Ω Ψ 0,Ω Ψ y]) (by simp[ZL,results127,go_sem,i,f]) rfl ⟨⟨0,y,rfl,l⟩,o⟩
end
section
def Fe(w:ι)(g:Nat)(l:List Int):Prop:=w.heap[g]?=U (.cells (l.map<|Value.int Ψ).toArray 3 (0,0))
section
variable{w w':ι}{g:Nat}{l:List Int}
def Fe.cell(h:Fe w g l){i}(hi:i<l.length):w (g,i)=U (Ω Ψ<|l.getD i 0):=by unfold Fe at h;simp[ψ,h,hi]
def Fe.thaw(h:Fe w g l)(i:Nat):w.frozen? (g,i)=Z8:=by unfold Fe at h;simp[ZZ,h]
def Fe.set(h:Fe w g l)(i)(n:Int):Fe (w.setCell (g,i) n) g (l.set i n):=by unfold Fe at h⊢;rw[heap_setCell_same h];simp
end
def Fe.own{w B g k l}(h:Fe w g l)(f:B<=g)(c:k<=l.length)(i:l.length<=1000000):OI w B (.slice g k l.length) (l.take k):=by
 have b:(l.take k).length=k:=by simp;omega
 unfold OI World.ownsRow;rw[b];refine⟨by rw[EO,b],.inr ⟨g,_,_,rfl,f,h,c,by unfold Zt;omega,by simp,?_⟩⟩;have e:∀l:List Int,l.flatMap eP=l.map (Value.int Ψ):=λl=>by
  induction l with
  |nil=>rfl
  |cons a l d=>rw[List.flatMap_cons,d];rfl
 simp_all
def Q8(n:Nat)(e:n<=1000000)(w):(Instr.makeSlice 24 (Ω Ψ (n:Int))<|Ω Ψ (n:Int)).run prog w=.ok (.slice w.heap.size n n) (w.alloc<|.cells (ZW #[Ω Ψ 0] n) 3):=by obtain⟨c,hi,a,b,d⟩:=Zs Dq;have:=mG 24 3 c _ se hi a Ψ Ψ n n .refl (by grind) (by omega) w;rw[b,Nat.mul_one]at this;exact this
def R1(w:ι)(n):Fe (w.alloc<|.cells (ZW #[Ω Ψ 0] n) 3) w (ZV n 0):=by
 unfold Fe;rw[ω]
 congr 2
 apply Array.ext;simp[ZW];intro i a b;simp[ZW,Nat.mod_one]
def Ordered(k:Nat)(f:Nat->Int):Prop:=(∀a,a<k->0<=f a/\f a<k)/\∀a b,a<k->b<k->f a=f b->a=b
def Ordered.step{k x f d}(h:Ordered k f)(m:x<=k)(c:∀a,a<=k->d a=if a=x then(k:Int)else if a=k then f x else f a):Ordered (k+1) d:=by
 refine⟨λa g=>?_,λa b g hb e=>?_⟩;rw[c a (by omega)];have j:=h.1 a;have i:=h.1 x;split
 omega;split<;>omega
 ·rw[c a (by omega),c b<|by omega]at e;have j:=h.1 a;have i:=h.1 b;have l:=h.1 x
  repeat' split at e
  all_goals first
   |omega
   |exact(h.2 a b) (by omega) (by omega) e
   |(have:=(h.2 x b) (by omega) (by omega) e;omega)
   |(have:=(h.2 a x) (by omega) (by omega) e;omega)
def aat(w)(c m n:Nat)(h:kp w c m)(X:m<=900000000)(S:n<=1000):
 R prog 182 #[.pointer c,Ω Ψ n] w λe w'=>(∃g l,e=.returned (.slice (g:Nat) n n)/\Fe w' g l/\w.heap.size<=g/\l.length=n/\Ordered n λa=>l.getD a 0)/\hQ w c (m+n) w':=by
 have C:=Q8 n (by omega)
 go_enter (fU func182 rfl),ntmps182
 go_wp2_with fail
 clear C;have f:=R1 w n;have u:=h.lt;have j:=h.oq.below<|af w<|.cells (ZW #[Ω Ψ 0] n) 3;have q:(w.alloc<|.cells (ZW #[Ω Ψ 0] n) 3).heap.size=w.heap.size+1:=by simp
 generalize w.alloc _=P at f j q⊢;generalize F:w.heap.size=g at f q u⊢
 go_loopw [6] (λi wr=>∃(k:Nat) (l:List Int),k<=n/\i=Ω Ψ k/\Fe wr g l/\l.length=n/\(Ordered k λa=>l.getD a 0)/\hQ w c (m+k) wr) (λi _=>n-(intOf i).toNat)
 case atStart=>exact⟨0,_,Γ _,rfl,f,by simp,⟨λa s=>absurd s<|Zu _,λa b s=>absurd s<|Zu _⟩,j⟩
 case round=>
  obtain⟨k,l,N,rfl,A,H,G,hw⟩:=hrel;clear f j;by_cases K:k<n
  ·go_wp2_with fail
   refine(R0 _ c (m+k) k hw.1 (by omega) (by omega)<|by omega).mono ?_;rintro e L ⟨⟨x,rfl,D,Q⟩,o⟩;obtain⟨x,rfl⟩:=Int.eq_ofNat_of_zero_le D;have d:Fe L g l:=(o.2.block g ((Ξ.1 A).1) (by simp;omega)).trans A;have c1:=d.cell (i:=x) (by omega);have O:=d.thaw k;have T:=d.thaw x;have v:=d.cell (i:=k) (by omega);generalize J:l.getD x 0=y at c1;generalize l.getD k 0=W at v;have r:=d.set k y;have c2:=r.cell (i:=x) (by simp;omega);generalize (l.set k y).getD x 0=z at c2;have B:Ordered (k+1) λa=>((l.set k y).set x k).getD a 0:=G.step (x:=x) (by omega) λa s=>by
    simp only[ZY,List.getElem?_set,List.length_set,<-J];by_cases e1:x=a
    subst e1;simp[show x<l.length by omega];have E:¬a=x:=λe=>e1 e.symm;rw[if_neg e1,if_neg E];by_cases e2:k=a
    subst e2;simp[show k<l.length by omega];have t:¬a=k:=λe=>e2 e.symm;rw[if_neg e2,if_neg t]
   clear J
   go_wp2_with fail
   exact⟨⟨k+1,_,by omega,by go_num,r.set x k,by simpa using H,B,(hw.trans o).upto (by omega)<|((Z _ _).setCell (p:=⟨g,k,Y⟩) (ZJ F) _).setCell (p:=⟨g,x,Y⟩) (ZJ F) _⟩,by simp[intOf];omega⟩
  ·go_wp2_with fail
   go_ret;have e:k=n:=by omega
   subst e;exact⟨⟨g,l,rfl,A,by omega,H,G⟩,hw⟩
def Fs(n:Int)(l:List Int):Prop:=l.Nodup/\∀x∈l,0<=x/\x<n
def Ordered.some{n}{l:List Int}(h:Ordered n λa=>l.getD a 0)(m:l.length=n)(k):Fs n (l.take k):=by
 have f:l.Nodup:=by rw[List.Nodup,ε];intro i j hi g c e;have:=h.2 i j (by omega) (by omega) (by grind);omega
 refine⟨f.sublist<|List.take_sublist k l,λx d=>?_⟩;obtain⟨i,hi⟩:=ZD.1<|ZA d;have b:=(ο.1 hi).1;have:=h.1 i (by omega);simpa[ZY,hi]using this
def Qj(w)(c m n:Nat)(h:kp w c m)(t:m<=900000000)(A:n<=1000):
 R prog 128 #[.pointer c,Ω Ψ n] w λe w'=>(∃r l,e=.returned r/\OI w' w r l/\Fs n l/\l.length<=6)/\hQ w c (m+n+1) w':=by
 go_enter (fU func128 rfl),ntmps128
 go_wp2_with fail
 refine(aat _ c m n h t A).mono ?_;rintro e q ⟨⟨g,l,rfl,p,z,o,u⟩,hw⟩
 go_wp2_with fail
 have d:=af q<|Θ #[Ω Ψ 0,Ω Ψ 0,Ω Ψ 1,Ω Ψ 2,Ω Ψ 3,Ω Ψ 6] 3;have b:=hw.below d;have s:=hw.1.lt;refine(Pt _ c _ _ _ [0,0,1,2,3,6] b.1 (by omega) (Ku q _ _ 6 rfl rfl<|by omega) (by omega) (by simp)<|by simp).mono ?_;rintro e w4 ⟨⟨y,rfl,v⟩,a⟩;have i:0<=y/\y<=6:=by simp at v;omega
 obtain⟨y,rfl⟩:=Int.eq_ofNat_of_zero_le i.1;have j:=(Ξ.1 p).1;have x:g≠c:=by have:=h.lt;omega
 have f:Fe w4 g l:=(a.2.block g (by simp;omega) (by simp;omega)).trans<|(d.block g j).trans p
 go_wp2_with fail
 all_goals
  go_ret;exact⟨⟨_,rfl,_,o▸f.own (k:=_) z (by omega) (by omega),u.some o _,by simp;omega⟩,b.trans a⟩
end
def VK{w w' c m B e size n v xs}(h:w.ownsRow B e size v n xs)(hw:hQ w c m w')(hc:c<B):w'.ownsRow B e size v n xs:=aS h λg a=>hw.2.block g (h.lt g a).2 (by have:=(h.lt g a).1;simp;omega)
def aau(n:Int)(c:HC):Prop:=((c.1=0/\c.2.length<=4)\/(c.1=1/\c.2.length=1)\/(c.1=2/\c.2.length=2))/\∀v∈c.2,KL n v.1 v.2
def Rd(w c m)(n:Int)(p)(h:kp w c m)(hm:m<=800000000)(h1:0<=n)(h2:n<=1000):
 R prog 126 #[.pointer (c:Nat),n,.bool p] w λe w'=>(∃k x vs,e=.returned (.agg #[Ω Ψ k,x])/\OV w' w x vs/\aau n (k,vs))/\hQ w c (m+20) w':=by
 have hb0:=af w<|Θ #[Ω Ψ 0,()] 76;have h0:=h.oq.below hb0;have T:=h.lt;have z0:(w.alloc<|Θ #[Ω Ψ 0,()] 76).heap[w.heap.size]?=U (Θ #[Ω Ψ 0,()] 76 (0,0)):=ω _ _;have Q:(w.alloc<|Θ #[Ω Ψ 0,()] 76).heap.size=w.heap.size+1:=by simp
 go_enter (fU func126 rfl),ntmps126
 go_wp2_with fail
 generalize w.alloc _=w1 at h0 z0 Q⊢;have J:=af w1<|Θ #[Ω Ψ 0,Ω Ψ 0,Ω Ψ 1,Ω Ψ 2,Ω Ψ 2] 3;have H:=h0.below J;have W:=Ku w1 [0,0,1,2,2] #[Ω Ψ 0,Ω Ψ 0,Ω Ψ 1,Ω Ψ 2,Ω Ψ 2] 5 rfl rfl (by omega);rw[Q]at W;refine(Pt _ c _ _ _ [0,0,1,2,2] H.1 (by omega) W (by omega) (by simp)<|by simp).mono ?_;rintro e w2 ⟨⟨N,rfl,B⟩,t⟩;have B:0<=N/\N<=2:=by simp at B;omega
 have z2:=(t.2.block w (by simp;omega) (by simp;omega)).trans<|(J.block _<|by omega).trans z0;have G:=H.trans t;have hs2:w.heap.size+2<=w2:=by have:=t.2.size;simp at this;omega
 clear J H h0 t z0
 go_upto_if 14 with(fail)
 generalize hg:w2.heap.size=g at hs2⊢
 go_cut [7]from 15 to 15 λv O=>∃kk:Int,v=.pointer g/\0<=kk/\kk<=2/\O.heap[g]?=U (Θ #[Ω Ψ kk,()] 76 (0,0))/\O.heap[w.heap.size]?=U (Θ #[Ω Ψ 0,()] 76 (0,0))/\hQ w c (m+1) O
 case first=>
  have z:=λk:Int=>af w2<|Θ #[Ω Ψ k,()] 76;have D:=λk:Int=>ω w2<|Θ #[Ω Ψ k,()] 76;rw[hg]at D
  go_wp2_with fail
  ·go_meet
   exact⟨0,rfl,by omega,by omega,D 0,((z 0).block _<|by omega).trans z2,G.below<|z 0⟩
  ·go_meet
   exact⟨N,rfl,B.1,B.2,D N,((z N).block _<|by omega).trans z2,G.below<|z N⟩
 case rest=>
  obtain⟨kk,rfl,hk0,hk2,x1,x0,hw⟩:=hcut;generalize wc=w3 at x1 x0 hw⊢;have hg3:=(Ξ.1 x1).1;clear G z2
  go_wp2_with fail
  have A:=af w3<|Θ #[Ω Ψ 0,Ω Ψ 1,Ω Ψ 1,Ω Ψ 2,Ω Ψ 2,Ω Ψ 3,Ω Ψ 4] 3;have F:=hw.below A;refine(Pt _ c _ _ _ [0,1,1,2,2,3,4] F.1 (by omega) (Ku w3 _ _ 7 rfl rfl<|by omega) (by omega) (by simp)<|by simp).mono ?_;rintro e w4 ⟨⟨y,rfl,hy⟩,s⟩;have hy:0<=y/\y<=4:=by simp at hy;omega
  have y0:=(s.2.block w (by simp;omega) (by simp;omega)).trans<|(A.block _<|by omega).trans x0;have y1:=(s.2.block g (by simp;omega) (by simp;omega)).trans<|(A.block _<|by omega).trans x1;have C:=F.trans s;clear A F hw s x0 x1;have d0:w4 g=U (Ω Ψ kk):=by simp[ψ,y1]
  go_upto_if 21 with(fail)
  go_cut [8]from 22 to 23 λv O=>∃j:Nat,v=Ω Ψ j/\j<=4/\(kk=1->j=1)/\(kk=2->j=2)/\O=w4
  case first=>
   go_wp2_with fail
   all_goals go_meet
   have hne:kk≠0:=by simp_all
   obtain⟨j,rfl⟩:=Int.eq_ofNat_of_zero_le hk0;exact⟨j,rfl,by omega,by omega,by omega,rfl⟩;have hne:kk=0:=by simp_all
   obtain⟨j,rfl⟩:=Int.eq_ofNat_of_zero_le hy.1;exact⟨j,rfl,by omega,by omega,by omega,rfl⟩
  case rest=>
   obtain⟨nn,rfl,hn4,hn1,hn2,rfl⟩:=hcut
   go_wp2_with fail
   clear d0
   go_loopw [9] (λi wr=>∃(k:Nat) (x:ZQ) (vs:List HV),k<=nn/\i=Ω Ψ k/\OV wr (g+1) x vs/\vs.length=k/\(∀v∈vs,KL n v.1 v.2)/\wr.heap[g]?=U (Θ #[Ω Ψ kk,x] 76 (0,0))/\wr.heap[w.heap.size]?=U (Θ #[Ω Ψ 0,()] 76 (0,0))/\hQ w c (m+2+4*k) wr) (λi _=>nn-(intOf i).toNat)
   case atStart=>exact⟨0,_,[],Γ _,rfl,OV.nil _ _,rfl,(λv hv=>by cases hv),y1,y0,C⟩
   case round=>
    obtain⟨_,x,vs,hk,rfl,L,rfl,hv,e1,e0,hw⟩:=hrel;clear y0 y1 C;by_cases hlt:vs.length<nn
    ·have d1:wr (g,1)=U x:=by simp[ψ,e1]
     have hgr:=(Ξ.1 e1).1
     go_wp2_with fail
     refine Rg.aaH 4 2 (λu=>u ⟨g,1,Y⟩=U x) (by kernel_rfl) (by kernel_rfl) (λc a d v w h=>by cases d<;>exact h) d1 ?_;simp only[ZX,μ,Z4,κ,Z3]
     iterate 4
      (refine Rg.fp.step (v:=?_) (by rfl) (λu hu=>?_) ?_
       rotate_left
       (go_simp
        try rfl))
     refine Rg.fp.nil<|Rg.pA.succ ?_;simp only[ZI,φ,θ,η];refine ZK rfl λK X=>?_;go_simp;have hd:=(Z wr wr).drew;have E:=hw.below hd;refine(Pu _ c _ n E.1 (by omega) h1 h2).mono ?_;rintro e w5 ⟨⟨p,q,rfl,ho⟩,r⟩;have b1:=(r.2.block g hgr (by simp;omega)).trans e1;have b0:=(r.2.block w (by simp;omega) (by simp;omega)).trans e0;have hx5:=VK (L.below hd) r (by omega);have S:=E.trans r;have hg5:g<w5:=(Ξ.1 b1).1;obtain⟨_,d5,_,f5⟩:=f6 b1;refine X _ _ ⟨d5,Rg.pA.succ ?_⟩;clear X K;refine ZK rfl λK X=>?_;go_simp;have l:=af w5<|Θ #[p,q] 50;refine X _ _ ⟨cG l d5 hg5,Rg.pA.zero ?_⟩;clear X K d1 L hw E r
     go_wp2_with (at_builtin;refine fO rfl _ _ rfl (g+1) _ _ rfl (hx5.alloc _) w5.heap.size _ (p,q) rfl (by simp[go_sem,Z7]) (by omega) (by simp;omega) ?_;intro v' w6 b f Re;obtain⟨a6,m6,rfl,_⟩:=aF b;have t1:=(f.block g<|by omega).trans<|(l.block g hg5).trans b1;obtain⟨_,s1,_,sf⟩:=f6 t1)
     have t0:=(f.block w<|by omega).trans<|(l.block w<|by omega).trans b0;have Xe:=f.size;have o:OV (w6.setCell (g,1)<|.slice a6 (vs++[(p,q)]).length m6) (g+1) (.slice a6 (vs++[(p,q)]).length m6) (vs++[(p,q)]):=aS b λj hj=>aa (by have:=(b.lt j hj).1;omega);have hw7:hQ w c (m+2+4*(vs.length+1)) (w6.setCell (g,1)<|.slice a6 (vs++[(p,q)]).length m6):=S.upto T<|((l.mono<|by omega).trans<|f.mono<|by omega).setCell (p:=((g,1):ZN)) (by show w.heap.size<=g;omega) _;have hl':(vs++[(p,q)]).length=vs.length+1:=by simp
     rw[hl']at o hw7;exact⟨⟨vs.length+1,_,vs++[(p,q)],by omega,by go_num,o,by simp,λv hv'=>(Z9.1 hv').elim (hv v) λh=>by simp at h;subst h;exact ho,heap_setCell_same (i:=1) t1,(aa<|by omega).trans t0,hw7⟩,by simp[intOf];omega⟩
    ·obtain⟨a0,a1,_,_⟩:=f6 e1;obtain⟨b0,b1,f0,f1⟩:=f6 e0;have hok:aau n (kk,vs):=⟨by dsimp only;omega,hv⟩;obtain⟨ax,P,rfl,_⟩:=aF L
     go_wp2_with fail
     obtain⟨k0,k1⟩:=Qi e0 (Ω Ψ kk)<|.slice ax vs.length P;have l:=((Z w wr).setCell (p:=(w.heap.size:ZN)) .refl<|Ω Ψ kk).setCell (p:=((w.heap.size,1):ZN)) .refl<|.slice ax vs.length P;have hw6:=(hw.upto T l).more (by omega:m+2+4*vs.length<=m+20);have hx6:OV ((wr.setCell w.heap.size<|Ω Ψ kk).setCell (w.heap.size,1)<|.slice ax vs.length P) w (.slice ax vs.length P) vs:=eV (aS L λj hj=>(aa (by have:=(L.lt j hj).1;omega)).trans<|aa (by have:=(L.lt j hj).1;omega)) (by omega);exact Z0 (v:=.agg #[Ω Ψ kk,.slice ax vs.length P]) (by simp[ZL,results126,go_sem,k0,k1]) rfl ⟨⟨kk,_,vs,rfl,hx6,hok⟩,hw6⟩
section
def HO(w:ι)(B:Nat)(l:List (Int×ZQ))(cs:List HC):Prop:=l.length=cs.length/\∀(i:Nat) k x k' vs,l[i]?=U (k,x) ->cs[i]?=U (k',vs) ->k=k'/\OV w B x vs
def OX(w:ι)(B:Nat)(v:ZQ)(cs:List HC):Prop:=∃l,OC w B v l/\HO w B l cs
def kE(B:Nat)(w w':ι):Prop:=∀j,B<=j->j<w->w'.heap[j]?=w.heap[j]?
section
variable{w w':ι}{B:Nat}{v:ZQ}
def kE.below(h:I w w w'):kE B w w':=λj _ a=>h.block j a
def kE.oq{c m}(h:hQ w c m w')(hc:c<B):kE B w w':=λj hb a=>h.2.block j a (by grind)
def kE.set{b i:Nat}{u}(hb:b<B):kE B w (w.setCell (b,i) u):=λj a _=>aa (by omega)
def kE.trans{w2}(h:kE B w w')(k:kE B w' w2)(hs:w.heap.size<=w'):kE B w w2:=λj hb a=>(k j hb<|by omega).trans<|h j hb a
def dI{e size n xs}(h:w.ownsRow B e size v n xs)(b:kE B w w'):w'.ownsRow B e size v n xs:=aS h λg a=>b g (h.lt g a).1 (h.lt g a).2
def HO.keep{l cs}(h:HO w B l cs)(c:kE B w w'):HO w' B l cs:=⟨h.1,λi k x a b e1 e2=>⟨(h.2 i k x a b e1 e2).1,dI (h.2 i k x a b e1 e2).2 c⟩⟩
def OX.keep{cs}(h:OX w B v cs)(a:kE B w w'):OX w' B v cs:=by obtain⟨l,b,c⟩:=h;exact⟨l,dI b a,c.keep a⟩
def HO.less{B' l cs}(h:HO w B l cs)(c:B'<=B):HO w B' l cs:=⟨h.1,λi k x a b e1 e2=>⟨(h.2 i k x a b e1 e2).1,(h.2 i k x a b e1 e2).2.less c⟩⟩
def OX.less{B' cs}(h:OX w B v cs)(a:B'<=B):OX w B' v cs:=by obtain⟨l,b,c⟩:=h;exact⟨l,b.less a,c.less a⟩
def OX.reads{cs}(h:OX w B v cs):sa w v cs:=by obtain⟨l,d,a⟩:=h;exact d.reads ⟨a.1,λi k x c b e1 e2=>⟨(a.2 i k x c b e1 e2).1,(a.2 i k x c b e1 e2).2.reads⟩⟩
def OX.nil(w B):OX w B () []:=⟨[],OC.nil _ _,rfl,λi k x a b e1=>by simp at e1⟩
def HO.snoc{l cs k x vs}(h:HO w B l cs)(f:OV w B x vs):HO w B (l++[(k,x)]) (cs++[(k,vs)]):=by
 obtain⟨a,d⟩:=h;refine⟨by simp[a],λi b e c v2 e1 e2=>?_⟩
 grind
def HO.types{l l2 cs s}(h:HO w B l cs)(hs:OC w B s l2)(c:w.grownBy w' s.ownBlock):HO w' B l cs:=⟨h.1,λi k x a b e1 e2=>⟨(h.2 i k x a b e1 e2).1,fy (h.2 i k x a b e1 e2).2 hs (by simp) c⟩⟩
end
structure adJ(n:Nat)(h:PH):Prop where
 len:h.cells.length=n
 cells:∀c∈h.cells,aau n c
 four:h.roots.length=4
 roots:∀v∈h.roots,KL n v.1 v.2
 aA:Fs n h.aA/\h.aA.length<=6
 done:Fs n h.done/\h.done.length<=6
def pS(w:ι)(B:Nat)(r:ZQ)(h:PH):Prop:=∃c ro wi d,r=.agg #[c,ro,wi,d]/\OX w B c h.cells/\OV w B ro h.roots/\OI w B wi h.aA/\OI w B d h.done
def dT{w:ι}{b:Nat}{x y z u t}(h:w.heap[b]?=U (Θ #[x,y,z,u] t (0,0))):(w b=U x/\w (b,1)=U y/\w (b,2)=U z/\w (b,3)=U u)/\∀i,w.frozen? ⟨b,i,Y⟩=Z8:=⟨⟨by simp[ψ,h],by simp[ψ,h],by simp[ψ,h],by simp[ψ,h]⟩,λi=>by simp[ZZ,h]⟩
def KM(w:ι)(b a):((w.alloc b).alloc a).heap[w.heap.size]?=U b/\((w.alloc b).alloc a).heap[w.heap.size+1]?=U a/\I w w ((w.alloc b).alloc a)/\((w.alloc b).alloc a).heap.size=w.heap.size+2:=by refine⟨(Below.heap_alloc _ _ _<|by simp).trans<|ω _ _,?_,(af w _).alloc (by simp) _,by simp⟩;have:=ω (w.alloc b) a;simpa using this
def Xz(w)(c m tG:Nat)(p)(h:kp w c m)(hm:m<=500000000)(hmo:tG<=1000):
 R prog 66 #[.pointer (c:Nat),tG,.bool p] w λe w'=>(∃r n h',e=.returned r/\pS w' w r h'/\adJ n h'/\n<=tG)/\hQ w c (m+100000) w':=by
 have T:=h.lt;obtain⟨z0,z1,hb0,hs0⟩:=KM w (Θ #[(),(),(),()] 56)<|Θ #[(),(),(),()] 56;have h0:=h.oq.below hb0
 go_enter (fU func66 rfl),ntmps66
 go_wp2_with fail
 generalize (w.alloc _).alloc _=w1 at z0 z1 hb0 hs0 h0⊢;refine(R0 _ c m tG h0.1 (by omega) (by omega)<|by omega).mono ?_;rintro e w2 ⟨⟨n,rfl,hn0,hn⟩,J⟩;obtain⟨n,rfl⟩:=Int.eq_ofNat_of_zero_le hn0;have hn1:n<=1000:=by omega
 have hnm:n<=tG:=by omega
 have y0:=(J.2.block w (by omega) (by simp;omega)).trans z0;have y1:=(J.2.block (w.heap.size+1) (by omega) (by simp;omega)).trans z1;replace J:=h0.trans J;clear z0 z1 hb0 hs0 h0
 go_wp2_with fail
 go_loopw [9] (λi wr=>∃(xc:ZQ) (cs:List HC),cs.length<=n/\i=Ω Ψ cs.length/\OX wr (w.heap.size+2) xc cs/\(∀v∈cs,aau n v)/\wr.heap[w.heap.size+1]?=U (Θ #[xc,(),(),()] 56 (0,0))/\wr.heap[w.heap.size]?=U (Θ #[(),(),(),()] 56 (0,0))/\hQ w c (m+1+20*cs.length) wr) (λi _=>n-(intOf i).toNat)
 case atStart=>exact⟨_,[],Γ _,rfl,OX.nil _ _,(λv hv=>by cases hv),y1,y0,J⟩
 case round=>
  obtain⟨xc,cs,hk,rfl,O,hv,e1,e0,hw⟩:=hrel;clear y0 y1 J;have X:=(Ξ.1 e1).1;by_cases hlt:cs.length<n
  ·obtain⟨⟨d1,_⟩,_⟩:=dT e1
   go_wp2_with fail
   refine Rg.aaH 5 2 (λu=>u.cell? ⟨w.heap.size+1,0,Y⟩=U xc) (by kernel_rfl) (by kernel_rfl) (λc a d v w h=>by cases d<;>exact h) d1 ?_;simp only[ZX,μ,Z4,κ,Z3]
   iterate 5
    (refine Rg.fp.step (v:=?_) (by rfl) (λu hu=>?_) ?_
     rotate_left
     (go_simp
      try rfl))
   refine Rg.fp.nil<|Rg.pA.succ ?_;simp only[ZI,φ,θ,η];refine ZK rfl λK hK=>?_;go_simp;have hd:=(Z wr.heap.size wr).drew;have hwd:=hw.below hd;refine(Rd _ c _ n p hwd.1 (by omega) (by omega)<|by omega).mono ?_;rintro e w5 ⟨⟨k,x,vs,rfl,ho,hok⟩,l⟩;have b1:=(l.2.block (w.heap.size+1) X (by simp;omega)).trans e1;have b0:=(l.2.block w (by omega:w.heap.size<wr) (by simp;omega)).trans e0;have hx5:=O.keep<|(kE.below hd).trans (kE.oq l<|by omega) .refl;have H:=hwd.trans l;have hg5:=(Ξ.1 b1).1;obtain⟨⟨d5,_⟩,f5⟩:=dT b1;have hzw:=l.2.size;obtain⟨ax,mx,rfl,_⟩:=aF ho;refine hK _ _ ⟨d5,Rg.pA.succ ?_⟩;clear hK K;refine ZK rfl λK hK=>?_;go_simp;have t:=af w5<|Θ #[k,.slice ax vs.length mx] 76;refine hK _ _ ⟨cG t d5 hg5,Rg.pA.zero ?_⟩;clear hK K d1 O hw hwd l;obtain⟨l5,hoc,hoe⟩:=hx5;have hxk:=hoc.below t
   go_wp2_with (at_builtin;refine wh rfl _ _ rfl (w.heap.size+2) _ _ rfl hxk w5.heap.size _ (k,.slice ax vs.length mx) rfl rfl (by simp[go_sem,Z7]) (by have:=hoe.1;omega) (by simp;omega) ?_;intro v' B E G Re;obtain⟨a6,m6,rfl,_⟩:=aF E;have t1:=(G.block (w.heap.size+1)<|by omega).trans<|(t.block (w.heap.size+1) hg5).trans b1;obtain⟨⟨s1,_⟩,sf⟩:=dT t1)
   have Rf:HO B (w.heap.size+2) (l5++[(k,.slice ax vs.length mx)]) (cs++[(k,vs)]):=((hoe.snoc<|ho.less (by omega:w.heap.size+2<=wr)).keep<|kE.below t).types hxk Re;have L:(l5++[(k,ZU ax vs.length mx)]).length=l5.length+1:=by simp
   rw[L]at E;have Xe:=G.size;have ah4:OX (B.setCell (w.heap.size+1:Nat)<|.slice a6 (l5.length+1) m6) (w.heap.size+2) (.slice a6 (l5.length+1) m6) (cs++[(k,vs)]):=OX.keep ⟨_,E,Rf⟩<|kE.set<|by omega
   have hw7:hQ w c (m+1+20*(cs.length+1)) (B.setCell (w.heap.size+1:Nat)<|.slice a6 (l5.length+1) m6):=H.upto T<|((t.mono<|by omega).trans<|G.mono<|by omega).setCell (p:=((w.heap.size+1:Nat):ZN)) (by show w.heap.size<=w.heap.size+1;omega) _;have t0:=(G.block w<|by omega).trans<|(t.block w<|by omega).trans b0;exact⟨⟨_,cs++[(k,vs)],by simp;omega,by rw[Zz,List.length_singleton];go_num,ah4,λv hv'=>(Z9.1 hv').elim (hv v) λh=>by simp at h;subst h;exact hok,heap_setCell_same (i:=0) t1,(aa<|by omega).trans t0,by simpa using hw7⟩,by simp[intOf];omega⟩
  ·go_wp2_with fail
   have HCN:=V (by omega:cs.length=n);generalize hM:m+1+20*cs.length=f at hw;have hM1:f<=m+30000:=by omega
   generalize hg:w.heap.size+1=g at e1 X⊢;rw[show w.heap.size+2=g+1 by omega]at O;obtain⟨wA,hwA⟩:∃x,x=wr:=⟨_,rfl⟩;subst hwA
   go_loopw [10] (λi wr=>∃(xr:ZQ) (s:List HV),s.length<=4/\i=Ω Ψ s.length/\(kE (g+1) wA wr/\wA.heap.size<=wr)/\OV wr wA xr s/\(∀v∈s,KL n v.1 v.2)/\wr.heap[g]?=U (Θ #[xc,xr,(),()] 56 (0,0))/\wr.heap[w.heap.size]?=U (Θ #[(),(),(),()] 56 (0,0))/\hQ w c (f+5*s.length) wr) (λi _=>4-(intOf i).toNat)
   case atStart=>exact⟨_,[],Γ _,rfl,⟨λj _ _=>rfl,.refl⟩,OV.nil _ _,(λv hv=>by cases hv),e1,e0,hw⟩
   case round=>
    clear e1 e0 hw;obtain⟨xr,s,hk,rfl,⟨hkA,hzA⟩,hr,sR,e1,e0,hw⟩:=hrel;have X:g<wr:=(Ξ.1 e1).1;by_cases hlt:s.length<4
    ·go_wp2_with fail
     refine(Pu _ c _ n hw.1 (by omega) (by omega)<|by omega).mono ?_;rintro e w3 ⟨⟨p',q,rfl,ho⟩,o⟩
     go_wp2_with fail
     have z:=af w3<|Θ #[p',Ω Ψ q] 50;have A:=(hw.trans o).below z;have hz3:=o.2.size;refine(Kt _ c _ 3 A.1 (by omega) (by omega)<|by omega).mono ?_;rintro e w5 ⟨⟨b,rfl⟩,l⟩;have hk5:kE (g+1) wr w5:=((kE.oq o<|by omega).trans (kE.below z) hz3).trans (kE.oq l<|by omega) (by simp;omega);have f1:w5.heap[g]?=U (Θ #[xc,xr,(),()] 56 (0,0)):=(l.2.block g (by simp;omega) (by simp;omega)).trans<|(z.block g<|by omega).trans<|(o.2.block g X (by simp;omega)).trans e1;have f0:=(l.2.block w (by simp;omega) (by simp;omega)).trans<|(z.block w<|by omega).trans<|(o.2.block w (by omega) (by simp;omega)).trans e0;have x5:=(l.2.block w3 (by simp) (by have:=A.1.lt;simp;have:=o.1.lt;omega)).trans<|ω w3 _;have H:=A.trans l;have KU:=l.2.size;have hg3:g+1<=w3:=by omega
     have hl3:w3.heap.size<w5:=by simp at KU;omega
     generalize w3.heap.size=b3 at x5 hg3 hl3 hz3⊢;clear o z A l hw e1 e0 KU
     go_upto_if 37 with(fail)
     go_cut [11]from 29 to 45 λv wx=>∃p q:Int,v=.pointer b3/\KL n p q/\wx.heap[b3]?=U (Θ #[Ω Ψ p,Ω Ψ q] 50 (0,0))/\I b3 w5 wx/\(∀j,j≠b3->wx.heap[j]?=w5.heap[j]?)
     case first=>
      obtain⟨c0,c1,g0,g1⟩:=f6 x5;have hi4:IntKind.i64.wrap (s.length:Int)=s.length:=wrap_small _ (by omega) (by omega);have t:I b3 w5 ((w5.setCell b3<|Ω Ψ 0).setCell (b3,1) s.length):=((Z b3 w5).setCell (p:=(⟨b3,0,Y⟩:ZN)) .refl _).setCell (p:=(⟨b3,1,Y⟩:ZN)) .refl _
      go_wp2_with fail
      all_goals go_meet
      exact⟨0,s.length,rfl,.inr<|.inr ⟨rfl,by omega,by omega⟩,heap_setCell_same (i:=1)<|heap_setCell_same (i:=0) x5,t,λj Q=>(aa Q).trans<|aa Q⟩;exact⟨p',q,rfl,ho,x5,.refl _ _,λj _=>rfl⟩
     case rest=>
      obtain⟨p2,q2,rfl,S,x6,t,D⟩:=hcut;generalize wc=B at x6 t D⊢;obtain⟨⟨_,d1,_⟩,ff⟩:=dT<|(D g<|by omega).trans f1;obtain⟨c0,c1,g0,g1⟩:=f6 x6;have hk:kE (g+1) wr B:=λj hb Q=>(D j<|by omega).trans<|hk5 j hb Q;have hr6:OV B wA.heap.size xr s:=dI hr λj hb Q=>hk j (by omega) Q;have C:=H.upto T<|t.mono<|by omega
      have Xe:=t.size;have h0:=(D w.heap.size<|by omega).trans f0;have h1':=(D g<|by omega).trans f1;have hb7:=af B<|Θ #[p2,q2] 50;clear hr hk5 D H f0 f1 x5 x6 t
      go_wp2_with (at_builtin;refine fO rfl _ _ rfl wA _ _ rfl (hr6.alloc _) B.heap.size _ (p2,q2) rfl (by simp[go_sem,Z7]) (by omega) (by simp;omega) ?_;intro v' w8 F P no;obtain⟨a8,m8,rfl,_⟩:=aF F;have t1:=(P.block g<|by omega).trans<|(hb7.block g<|by omega).trans h1';obtain⟨⟨_,s1,_⟩,sf⟩:=dT t1)
      have tT:=P.size;have L:(s++[(p2,q2)]).length=s.length+1:=by simp
      rw[L]at F;have ah7:kE (g+1) wA (w8.setCell (g,1)<|.slice a8 (s.length+1) m8):=λj hb Q=>(aa<|by omega).trans<|(P.block j Q).trans<|(hb7.block j<|by omega).trans<|(hk j hb<|by omega).trans<|hkA j hb Q;have hw9:hQ w c (f+5*(s.length+1)) (w8.setCell (g,1)<|.slice a8 (s.length+1) m8):=C.upto T<|((hb7.mono<|by omega).trans<|P.mono<|by omega).setCell (p:=((g,1):ZN)) (by show w.heap.size<=g;omega) _;have ht0:=(P.block w<|by omega).trans<|(hb7.block w<|by omega).trans h0
      go_roundw
      case rel=>exact⟨_,s++[(p2,q2)],by rw[L];omega,by rw[L];go_num,⟨ah7,by simp at tT⊢;omega⟩,dI F<|kE.set<|by omega,λv hv'=>(Z9.1 hv').elim (sR v) λh=>by simp at h;subst h;exact S,heap_setCell_same (i:=1) t1,(aa<|by omega).trans ht0,by rw[L];exact hw9⟩
      case measure=>simp[intOf];omega
    ·have hxr:=O.keep hkA;have hr4:=V (by omega:s.length=4);have hrr:=hr.less (B':=g+1) (by omega);clear O hkA hr
     go_upto_if 47 with(fail)
     go_cut []from 46 to 58 λwx=>∃wi d N ld,wx.heap[g]?=U (Θ #[xc,xr,wi,d] 56 (0,0))/\OI wx (g+1) wi N/\OI wx (g+1) d ld/\(Fs n N/\N.length<=6)/\(Fs n ld/\ld.length<=6)/\kE (g+1) wr wx/\wx.heap[w.heap.size]?=U (Θ #[(),(),(),()] 56 (0,0))/\hQ w c (m+90000) wx
     case first=>
      go_wp2_with fail
      ·refine(Qj _ c _ n hw.1 (by omega) hn1).mono ?_;rintro e w3 ⟨⟨r3,l3,rfl,ho3,hl3⟩,o⟩
       go_wp2_with fail
       have z:=af w3<|Θ #[Ω Ψ 0,Ω Ψ 0,Ω Ψ n] 3;have A:=(hw.trans o).below z;have hc3:=o.1.lt;refine(Pt _ c _ _ _ [0,0,(n:Int)] A.1 (by omega) (Ku w3 _ _ 3 rfl rfl<|by omega) (by omega) (by simp)<|by simp).mono ?_;rintro e w5 ⟨⟨y,rfl,hy⟩,l⟩;have hy:0<=y/\y<=n:=by simp at hy;omega
       obtain⟨y,rfl⟩:=Int.eq_ofNat_of_zero_le hy.1
       go_wp2_with fail
       refine(Qj _ c _ y (A.trans l).1 (by omega)<|by omega).mono ?_;rintro e B ⟨⟨r6,l6,rfl,Jb,hl6⟩,C⟩;have hz3:=o.2.size;have tU:w3.heap.size<=w5:=by have:=l.2.size;simp at this;omega
       have D:kE (g+1) wr B:=(((kE.oq o<|by omega).trans (kE.below z) hz3).trans (kE.oq l<|by omega) (by simp;omega)).trans (kE.oq C<|by omega) (by omega);have f1:B.heap[g]?=U (Θ #[xc,xr,(),()] 56 (0,0)):=(C.2.block g (by omega) (by simp;omega)).trans<|(l.2.block g (by simp;omega) (by simp;omega)).trans<|(z.block g<|by omega).trans<|(o.2.block g X (by simp;omega)).trans e1;have f0:=(C.2.block w (by omega) (by simp;omega)).trans<|(l.2.block w.heap.size (by simp;omega) (by simp;omega)).trans<|(z.block w.heap.size<|by omega).trans<|(o.2.block w.heap.size (by omega) (by simp;omega)).trans e0;have ah9:OI B (g+1) r3 l3:=dI (dI (dI (ho3.less (B':=g+1)<|by omega)<|kE.below z)<|kE.oq l<|by omega)<|kE.oq C<|by omega
       obtain⟨⟨_,_,s2,s3⟩,sf⟩:=dT f1;obtain⟨a3,m3,rfl,_⟩:=aF ho3;obtain⟨a6,m6,rfl,_⟩:=aF Jb;have aia:Fs n l6/\l6.length<=6:=⟨⟨hl6.1.1,λx O=>by have:=hl6.1.2 x O;omega⟩,hl6.2⟩;have aib:=((A.trans l).trans C).upto T<|((Z w.heap.size B).setCell (p:=((g,2):ZN)) (by show w.heap.size<=g;omega)<|.slice a3 l3.length m3).setCell (p:=((g,3):ZN)) (by show w.heap.size<=g;omega)<|.slice a6 l6.length m6;clear e1 e0 hw o z A l C
       go_wp2_with fail
       go_meet
       exact⟨_,_,l3,l6,heap_setCell_same (i:=3)<|heap_setCell_same (i:=2) f1,dI (dI ah9<|kE.set<|by omega)<|kE.set<|by omega,dI (dI (Jb.less (B':=g+1)<|by omega)<|kE.set<|by omega)<|kE.set<|by omega,hl3,aia,λj hb Q=>(aa<|by omega).trans<|(aa<|by omega).trans<|D j hb Q,(aa<|by omega).trans<|(aa<|by omega).trans f0,aib.more<|by omega⟩
      ·go_meet
       exact⟨_,_,[],[],e1,OI.nil _ _,OI.nil _ _,⟨⟨ZE,λx O=>by cases O⟩,Γ _⟩,⟨⟨ZE,λx O=>by cases O⟩,Γ _⟩,λj _ _=>rfl,e0,hw.more<|by omega⟩
     case rest=>
      obtain⟨wi,d,N,ld,f1,ho1,S,hl1,hl2,hk,f0,hw⟩:=hcut;generalize wc=B at f1 ho1 S hk f0 hw⊢;have hx6:=hxr.keep hk;have hr6:OV B (g+1) xr s:=dI hrr hk;clear e1 e0 hxr hrr hk;obtain⟨⟨s0,s1,s2,s3⟩,_⟩:=dT f1;obtain⟨⟨r0,r1,r2,r3⟩,rf⟩:=dT f0;have rf0:=rf 0;have rf1:=rf 1;have rf2:=rf 2;have rf3:=rf 3;obtain⟨lc,hlc,hle⟩:=hx6;obtain⟨ac,mc,rfl,_⟩:=aF hlc;obtain⟨ar,mr,rfl,_⟩:=aF hr6;obtain⟨aw,mw,rfl,_⟩:=aF ho1;obtain⟨ad,md,rfl,_⟩:=aF S
      go_wp2_with fail
      have hf:=heap_setCell_same (i:=3) (v:=.slice ad ld.length md)<|heap_setCell_same (i:=2) (v:=.slice aw N.length mw)<|heap_setCell_same (i:=1) (v:=.slice ar s.length mr)<|heap_setCell_same (i:=0) (v:=.slice ac lc.length mc) f0;have W:kE (g+1) B ((((B.setCell ⟨w.heap.size,0,Y⟩<|.slice ac lc.length mc).setCell ⟨w.heap.size,1,Y⟩<|.slice ar s.length mr).setCell ⟨w.heap.size,2,Y⟩<|.slice aw N.length mw).setCell ⟨w.heap.size,3,Y⟩<|.slice ad ld.length md):=λj hb _=>(aa<|by omega).trans<|(aa<|by omega).trans<|(aa<|by omega).trans<|aa<|by omega
      have hwf:=(hw.upto T<|((((Z w B).setCell (p:=(w.heap.size:ZN)) .refl<|.slice ac lc.length mc).setCell (p:=((w.heap.size,1):ZN)) .refl<|.slice ar s.length mr).setCell (p:=((w.heap.size,2):ZN)) .refl<|.slice aw N.length mw).setCell (p:=((w.heap.size,3):ZN)) .refl<|.slice ad ld.length md).more (by omega:m+90000<=m+100000);generalize (((B.setCell w.heap.size<|.slice ac lc.length mc).setCell (w.heap.size,1)<|.slice ar s.length mr).setCell (w.heap.size,2)<|.slice aw N.length mw).setCell (w.heap.size,3) (.slice ad ld.length md)=w7 at hf W hwf⊢;obtain⟨⟨k0,k1,k2,k3⟩,_⟩:=dT hf;have hok:adJ n ⟨cs,s,N,ld⟩:=⟨HCN.out,hv,hr4.out,sR,hl1,hl2⟩;have hown:pS w7 w (.agg #[.slice ac lc.length mc,.slice ar s.length mr,.slice aw N.length mw,.slice ad ld.length md]) ⟨cs,s,N,ld⟩:=⟨_,_,_,_,rfl,OX.less (OX.keep ⟨lc,hlc,hle⟩ W)<|by omega,eV (dI hr6 W)<|by omega,eV (dI ho1 W)<|by omega,eV (dI S W)<|by omega⟩;exact Z0 (v:=.agg #[.slice ac lc.length mc,.slice ar s.length mr,.slice aw N.length mw,.slice ad ld.length md]) (by simp[ZL,results66,go_sem,k0,k1,k2,k3]) rfl ⟨⟨_,n,_,rfl,hown,hok,hnm⟩,hwf⟩
end
section
variable(w:ι)(v:ZQ)
def Dl(l)(a:eI w v l)(f:l.length<=1000000):
 R prog 77 #[v] w λe w'=>(∃r,e=.returned r/\OV w' w r l)/\I w w w':=by
 have hb:=af w<|Θ #[] 50
 go_enter (fU func77 rfl),ntmps77
 go_wp2_with (at_builtin;refine tI rfl _ _ rfl w _ [] rfl (zu w _ .refl) _ l rfl (a.below hb) (by simp) (by omega) (by simp) ?_;intro d w' c b _)
 go_ret;exact⟨⟨_,rfl,c⟩,hb.trans<|b.mono .refl⟩
def Rn(l)(a:n9 w v l)(f:l.length<=1000000):
 R prog 72 #[v] w λe w'=>(∃r,e=.returned r/\OI w' w r l)/\I w w w':=by
 have hb:=af w<|Θ #[] 3
 go_enter (fU func72 rfl),ntmps72
 go_wp2_with (at_builtin;refine tJ rfl _ _ rfl w _ [] rfl (zx w _ .refl) _ l rfl (a.below hb) (by simp) (by omega) (by simp) ?_;intro d w' c b _)
 go_ret;exact⟨⟨_,rfl,c⟩,hb.trans<|b.mono .refl⟩
def SP.adG(B:Nat)(p:Int)(vs:List HV):Rg.SP:=⟨λv w=>∃g x,v=.slice (g:Nat) 1 1/\w.heap[g]?=U (Θ #[Ω Ψ p,x] 76 (0,0))/\OV w B x vs,λ_ _ _ hb ⟨g,x,h1,h2,h3⟩=>⟨g,x,h1,(hb.block g (Ξ.1 h2).1).trans h2,h3.below hb⟩⟩
def KG(cs)(hv:sa w v cs)(hl:cs.length<=1000000)(hs:∀c∈cs,c.2.length<=1000000):
 R prog 76 #[v] w λe w'=>(∃r,e=.returned r/\OX w' w r cs)/\I w w w':=by
 have HV:=V hv;obtain⟨a,mc,rfl,hmc,T,_⟩:=hv
 go_enter (fU func76 rfl),ntmps76
 go_wp2_with fail
 go_loopw [3,4] (λx i wr=>∃k:Nat,k<=cs.length/\i=Ω Ψ k/\OX wr w x (cs.take k)/\I w w wr) (λ_ i _=>cs.length-(intOf i).toNat)
 case atStart=>exact⟨0,Γ _,rfl,OX.nil _ _,.refl _ _⟩
 case round=>
  obtain⟨k,hk,rfl,N,hb⟩:=hrel;by_cases F:k<cs.length
  ·obtain⟨a',mc',he,_,_,l⟩:=HV.out.below hb;cases he
   obtain⟨n,o,rfl,s,l⟩:=l (by omega);obtain⟨p,h,e1⟩:=cQ F;obtain⟨c0,x,c1,H⟩:=l k p h e1;have G:=hs _<|Δ e1
   go_wp2_with fail
   refine Rg.pT [.eq u3,.eq<|.slice (n,o) cs.length mc,.eq<|Ω Ψ k,.eq<|.pointer (n,o+k*2),.eq<|.pointer (n,o+k*2),.eq p,.eq<|.slice (n,o) cs.length mc,.eq<|Ω Ψ k,.eq<|.pointer (n,o+k*2),.eq<|.pointer (n,o+k*2+1),.eq x,SP.ov w h,SP.cell w p h,SP.adG w p h] (by kernel_rfl) (by kernel_rfl) (by rfl) ?_ ?_
   ·refine⟨?_,?_,?_,?_,?_,?_,?_,?_,?_,?_,?_,?_,?_,?_,trivial⟩
    all_goals intro X w2 j d b
    all_goals first|(have f0:=cG j c0 s;have f1:=cG j c1 s;have k0:=d 0 rfl;have k1:=d 3 rfl;have k2:=d 4 rfl;simp at k0 k1 k2;(try have q0:=Rg.lT (b 1 _ rfl rfl) rfl);(try have q1:=Rg.lT (b 2 _ rfl rfl) rfl);(try have q2:=Rg.lT (b 3 _ rfl rfl) rfl);(try have q3:=Rg.lT (b 4 _ rfl rfl) rfl);(try have q4:=Rg.lT (b 6 _ rfl rfl) rfl);(try have q5:=Rg.lT (b 7 _ rfl rfl) rfl);(try have q6:=Rg.lT (b 8 _ rfl rfl) rfl);(try have q7:=Rg.lT (b 9 _ rfl rfl) rfl);clear d b;go_simp;exact⟨_,rfl,.refl _ _,rfl⟩)|skip
    ·have d0:=Rg.lT (b 10 _ rfl rfl) rfl;clear d b;go_simp;refine(Dl _ x h (H.below<|(Z _ wr).drew.trans j) G).mono ?_;rintro e w3 ⟨⟨r,rfl,ho⟩,m⟩;exact⟨_,rfl,m,ho.less (by have:=hb.size;have:=j.size;simp at this;omega)⟩
    ·have d0:=Rg.lT (b 5 _ rfl rfl) rfl;have q:OV w2 w ((X.tmps[22]?).getD undef) h:=b 11 _ rfl rfl;obtain⟨D,B,d2,_⟩:=aF q;rw[d2]at q;clear d b;go_simp;exact⟨_,rfl,.refl _ _,_,rfl,q⟩
    ·obtain⟨y,d0,q⟩:∃y,(X.tmps[23]?).getD undef=.agg #[Ω Ψ p,y]/\OV w2 w y h:=b 12 _ rfl rfl;clear d b;obtain⟨D,B,rfl,_⟩:=aF q;go_simp;exact⟨_,rfl,af _ _,_,_,rfl,ω _ _,q.alloc _⟩
   ·rintro O w3 m ⟨C,s1,s2,s3,s4,s5,s6,s7,s8,s9,L,Q,P,⟨g,y,z,hg,W⟩,_⟩;obtain⟨D,B,rfl,_⟩:=aF W;have C:O 0=u3:=C;simp[go_sem,z,C];clear C s1 s2 s3 s4 s5 s6 s7 s8 s9 L Q P z;have E:=(Z wr wr).drew.trans m;obtain⟨S,t,A⟩:=N.keep<|kE.below E;obtain⟨h1,h2,_,_⟩:=f6 hg
    go_wp2_with (at_builtin;refine wh rfl _ _ rfl w _ _ rfl t g _ (p,.slice D h.length B) rfl rfl ⟨h1,h2⟩ (by have:=A.1;simp at this;omega) (by have:=hb.size;have:=E.size;omega) ?_;intro v' w6 f u J;obtain⟨a6,m6,rfl,_⟩:=aF f)
    have K:(S++[(p,ZU D h.length B)]).length=S.length+1:=by simp
    rw[K]at f;have hz:=hb.size;have hz2:=E.size;exact⟨⟨k+1,by omega,by go_num,by rw[bW e1];exact⟨_,f,(A.snoc W).types t J⟩,hb.trans<|(E.mono<|by omega).trans u⟩,by simp[intOf];omega⟩
  ·go_wp2_with fail
   go_ret;rw[υ (by omega)]at N;exact⟨⟨_,rfl,N⟩,hb⟩
def SP.ox(B:Nat)(cs:List HC):Rg.SP:=⟨λv w=>OX w B v cs,λ_ _ _ hb h=>h.keep<|kE.below hb⟩
def Pd(w:ι)(B:Nat)(r:ZQ)(g:GH):Prop:=∃n o ro wi d m,r=.agg #[n,o,ro,wi,d,m]/\OX w B n g.new/\OX w B o g.old/\OV w B ro g.roots/\OV w B wi g.aA/\OV w B d g.done/\OI w B m g.marked
def Pd.reads{w B r g}(h:Pd w B r g):GV w r g:=by obtain⟨n,o,k,j,d,m,rfl,e,b,i,c,f,a⟩:=h;exact⟨_,_,_,_,_,_,rfl,e.reads,b.reads,i.reads,c.reads,f.reads,a.reads⟩
def aaa(g)(hv:GV w v g)(hn:g.new.length<=1000000)(n:g.old.length<=1000000)(hs:∀c∈g.new++g.old,c.2.length<=1000000)(hr:g.roots.length<=1000000)(hwi:g.aA.length<=1000000)(hd:g.done.length<=1000000)(hm:g.marked.length<=1000000):
 R prog 21 #[v] w λe w'=>(∃r,e=.returned r/\Pd w' w r g)/\I w w w':=by
 obtain⟨a0,a1,T,W,S,Q,rfl,h0,h1,h2,X,h4,h5⟩:=hv;obtain⟨z0,z1,l,hs0⟩:=KM w (Θ #[a0,a1,T,W,S,Q] 26)<|Θ #[ZU Y 0 0,ZU Y 0 0,ZU Y 0 0,ZU Y 0 0,ZU Y 0 0,ZU Y 0 0] 26
 go_enter (fU func21 rfl),ntmps21
 go_wp2_with fail
 generalize (w.alloc _).alloc _=m at z0 z1 l hs0⊢;obtain⟨c0,c1,c2,c3,c4,c5⟩:(m w.heap.size=U a0)/\(m (w.heap.size,1)=U a1)/\(m (w.heap.size,2)=U T)/\(m (w.heap.size,3)=U W)/\(m (w.heap.size,4)=U S)/\(m (w.heap.size,5)=U Q):=by simp[ψ,z0]
 replace h0:=h0.below l;replace h1:=h1.below l;replace h2:=h2.below l;replace X:=X.below l;replace h4:=h4.below l;replace h5:=h5.below l;have o:w.heap.size<m:=by omega
 refine Rg.pT [.eq (.pointer w.heap.size),.eq a0,SP.ox (w.heap.size+2) g.new,.eq<|.pointer (w.heap.size,1),.eq a1,SP.ox (w.heap.size+2) g.old,.eq<|.pointer (w.heap.size,2),.eq T,SP.ov (w.heap.size+2) g.roots,.eq<|.pointer (w.heap.size,3),.eq W,SP.ov (w.heap.size+2) g.aA,.eq<|.pointer (w.heap.size,4),.eq S,SP.ov (w.heap.size+2) g.done,.eq<|.pointer (w.heap.size,5),.eq Q,SP.oi (w.heap.size+2) g.marked] (by kernel_rfl) (by kernel_rfl) (by rfl) ?_ ?_
 ·refine⟨?_,?_,?_,?_,?_,?_,?_,?_,?_,?_,?_,?_,?_,?_,?_,?_,?_,?_,trivial⟩
  all_goals intro t w2 i b a
  all_goals first|(have f0:=cG i c0 o;have f1:=cG i c1 o;have f2:=cG i c2 o;have f3:=cG i c3 o;have f4:=cG i c4 o;have f5:=cG i c5 o;have k0:=b 1 rfl;simp at k0;(try have q0:=Rg.lT (a 0 _ rfl rfl) rfl);(try have q1:=Rg.lT (a 3 _ rfl rfl) rfl);(try have q2:=Rg.lT (a 6 _ rfl rfl) rfl);(try have q3:=Rg.lT (a 9 _ rfl rfl) rfl);(try have q4:=Rg.lT (a 12 _ rfl rfl) rfl);(try have q5:=Rg.lT (a 15 _ rfl rfl) rfl);clear b a;go_simp;exact⟨_,rfl,.refl _ _,rfl⟩)|skip
  ·have x:=Rg.lT (a 1 _ rfl rfl) rfl;have k:=(Z _ m).drew.trans i;clear b a;go_simp;refine(KG _ a0 g.new (h0.below k) hn λc hc=>hs c<|Z2 _ hc).mono ?_;rintro e p ⟨⟨r,rfl,n⟩,h⟩;exact⟨_,rfl,h,n.less (by have:=k.size;omega)⟩
  ·have x:=Rg.lT (a 4 _ rfl rfl) rfl;have k:=(Z _ m).drew.trans i;clear b a;go_simp;refine(KG _ a1 g.old (h1.below k) n λc hc=>hs c<|ζ _ hc).mono ?_;rintro e p ⟨⟨r,rfl,n⟩,h⟩;exact⟨_,rfl,h,n.less (by have:=k.size;omega)⟩
  ·have x:=Rg.lT (a 7 _ rfl rfl) rfl;have k:=(Z _ m).drew.trans i;clear b a;go_simp;refine(Dl _ T g.roots (h2.below k) hr).mono ?_;rintro e p ⟨⟨r,rfl,n⟩,h⟩;exact⟨_,rfl,h,n.less (by have:=k.size;omega)⟩
  ·have x:=Rg.lT (a 10 _ rfl rfl) rfl;have k:=(Z _ m).drew.trans i;clear b a;go_simp;refine(Dl _ W g.aA (X.below k) hwi).mono ?_;rintro e p ⟨⟨r,rfl,n⟩,h⟩;exact⟨_,rfl,h,n.less (by have:=k.size;omega)⟩
  ·have x:=Rg.lT (a 13 _ rfl rfl) rfl;have k:=(Z _ m).drew.trans i;clear b a;go_simp;refine(Dl _ S g.done (h4.below k) hd).mono ?_;rintro e p ⟨⟨r,rfl,n⟩,h⟩;exact⟨_,rfl,h,n.less (by have:=k.size;omega)⟩
  ·have x:=Rg.lT (a 16 _ rfl rfl) rfl;have k:=(Z _ m).drew.trans i;clear b a;go_simp;refine(Rn _ Q g.marked (h5.below k) hm).mono ?_;rintro e p ⟨⟨r,rfl,n⟩,h⟩;exact⟨_,rfl,h,n.less (by have:=k.size;omega)⟩
 ·rintro s p h ⟨_,_,C,_,_,s1,_,_,O,_,_,K,_,_,F,_,_,N,_⟩;have C:=C;have s1:=s1;have O:=O;have K:=K;have F:=F;have N:=N;simp[go_sem];generalize s 2=v0 at C⊢;generalize s 5=v1 at s1⊢;generalize s 8=v2 at O⊢;generalize s 11=v3 at K⊢;generalize s 14=v4 at F⊢;generalize s 17=v5 at N⊢;have k:=(Z _ m).drew.trans h;have hG:∀w':ι,I w w w'->kE (w.heap.size+2) p w'->Pd w' w (.agg #[v0,v1,v2,v3,v4,v5]) g:=λw' _ u=>⟨_,_,_,_,_,_,rfl,(C.keep u).less<|by omega,(s1.keep u).less<|by omega,eV (dI O u)<|by omega,eV (dI K u)<|by omega,eV (dI F u)<|by omega,eV (dI N u)<|by omega⟩;obtain⟨l0,k0,_⟩:=id C;obtain⟨P,k1,_⟩:=id s1;obtain⟨A,D,rfl,_⟩:=aF k0;obtain⟨L,m1,rfl,_⟩:=aF k1;obtain⟨t,m2,rfl,_⟩:=aF O;obtain⟨H,G,rfl,_⟩:=aF K;obtain⟨x4,z,rfl,_⟩:=aF F;obtain⟨E,y,rfl,_⟩:=aF N;have y1:=(k.block (w.heap.size+1)<|by omega).trans z1;obtain⟨d,f⟩:=JJ y1;have d0:=d 0 (by omega);have x:=d 1 (by omega);have d2:=d 2 (by omega);have d3:=d 3 (by omega);have d4:=d 4 (by omega);have d5:=d 5 (by omega);have f0:=f 0;have f1:=f 1;have f2:=f 2;have f3:=f 3;have f4:=f 4;have f5:=f 5;clear d f
  go_wp2_with fail
  obtain⟨q1,q2,q3,q4⟩:=kn (v0:=.slice A l0.length D) (v1:=.slice L P.length m1) (v2:=.slice t g.roots.length m2) (v3:=.slice H g.aA.length G) (v4:=.slice x4 g.done.length z) (v5:=.slice E g.marked.length y) y1;have J:=q4 w (by omega);have q:=hG _ ((l.trans<|k.mono<|by omega).trans J) λj hj _=>q2 j (by omega);have B:=(l.trans<|k.mono<|by omega).trans J;rw[show((((((p.setCell (w.heap.size+1:Nat)<|.slice A l0.length D).setCell (w.heap.size+1,1)<|.slice L P.length m1).setCell (w.heap.size+1,2)<|.slice t g.roots.length m2).setCell (w.heap.size+1,3)<|.slice H g.aA.length G).setCell (w.heap.size+1,4)<|.slice x4 g.done.length z).setCell (w.heap.size+1,5)<|.slice E g.marked.length y)=io p (w.heap.size+1) (.slice A l0.length D) (.slice L P.length m1) (.slice t g.roots.length m2) (.slice H g.aA.length G) (.slice x4 g.done.length z) (.slice E g.marked.length y)from rfl];generalize io p (w.heap.size+1) (.slice A l0.length D) (.slice L P.length m1) (.slice t g.roots.length m2) (.slice H g.aA.length G) (.slice x4 g.done.length z) (.slice E g.marked.length y)=w4 at q1 q B⊢;obtain⟨e0,e1,e2,e3,e4,e5⟩:=sS q1;exact Z0 (v:=.agg #[.slice A l0.length D,.slice L P.length m1,.slice t g.roots.length m2,.slice H g.aA.length G,.slice x4 g.done.length z,.slice E g.marked.length y]) (by simp[ZL,results21,go_sem,e0,e1,e2,e3,e4,e5]) rfl ⟨⟨_,rfl,q⟩,B⟩
end
section
variable(w:ι)
def Pe(v h)(B:tH w v h)(K:h.cells.length<=45)(D:h.roots.length<=45)(O:h.aA.length<=45)(H:h.done.length<=45)(u:∀c∈h.cells,c.2.length<=8):
 R prog 65 #[v] w λe w'=>e=.returned (.bool Z8)/\I w w w':=by
 obtain⟨c,r,C,d,rfl,p0,⟨ar,j,rfl,_⟩,⟨aw,g,rfl,_⟩,⟨ad,b,rfl,_⟩⟩:=B;have HC:=V p0;obtain⟨f,mc,rfl,_,n,_⟩:=p0;have hb:=af w<|Θ #[.slice f h.cells.length mc,.slice ar h.roots.length j,.slice aw h.aA.length g,.slice ad h.done.length b] 56;have q:=ω w<|Θ #[.slice f h.cells.length mc,.slice ar h.roots.length j,.slice aw h.aA.length g,.slice ad h.done.length b] 56
 go_enter (fU func65 rfl),ntmps65
 go_upto_region 1 with(fail)
 go_cut [19]from 4 to 19 λv y=>v=.bool Z8/\y=w.alloc (Θ #[.slice f h.cells.length mc,.slice ar h.roots.length j,.slice aw h.aA.length g,.slice ad h.done.length b] 56)
 case first=>
  go_wp2_with fail
  all_goals go_meet
  all_goals exact⟨by first|rfl|(simp;omega),rfl⟩
 case rest=>
  obtain⟨rfl,rfl⟩:=hcut
  go_wp2_with fail
  obtain⟨⟨c0,_⟩,_⟩:=dT q;clear q
  go_loopw [3] (λi wr=>∃k:Nat,k<=h.cells.length/\i=Ω Ψ k/\wr=w.alloc (Θ #[.slice f h.cells.length mc,.slice ar h.roots.length j,.slice aw h.aA.length g,.slice ad h.done.length b] 56)) (λi _=>h.cells.length-(intOf i).toNat)
  case atStart=>exact⟨0,Γ _,rfl,rfl⟩
  case round=>
   obtain⟨k,F,rfl,rfl⟩:=hrel;by_cases l:k<h.cells.length
   ·obtain⟨G,s,A,_,_,a⟩:=HC.out.below hb;cases A
    obtain⟨E,o,rfl,z,a⟩:=a (by omega);obtain⟨p,t,e1⟩:=cQ l;obtain⟨d0,x,J,N,L,rfl,_⟩:=a k p t e1;have m:=u _<|Δ e1;dsimp only at m;clear a
    go_wp2_with fail
    exact⟨⟨k+1,by omega,by go_num,trivial⟩,by simp[intOf];omega⟩
   ·go_wp2_with fail
    go_ret;exact⟨rfl,hb⟩
def Pn(a0 a1 b d a c t):∀w1,w1=w.alloc (Θ #[a0,a1,b,d,a,c] t) ->(w1 w.heap.size=U a0/\w1 (w.heap.size,1)=U a1/\w1 (w.heap.size,2)=U b/\w1 (w.heap.size,3)=U d/\w1 (w.heap.size,4)=U a/\w1 (w.heap.size,5)=U c)/\w1.heap.size=w.heap.size+1/\I w w w1:=by rintro w1 rfl;exact⟨sS<|ω w<|Θ #[a0,a1,b,d,a,c] t,by simp,af _ _⟩
def aab(v g)(G:GV w v g)(b:VG g):
 R prog 17 #[v] w λe w'=>e=.returned (.bool Z8)/\I w w w':=by
 obtain⟨a0,a1,X,Q,T,S,rfl,h0,l,k,o,y,z⟩:=G;have m:∀c∈g.new++g.old,c.2.length<=8:=λc hc=>by have:=(b.cells c hc).1;omega
 have W:=b.By;have q:=V h0;have A:=V l;have F:=V k;have u:=V o;obtain⟨x,B,rfl,_⟩:=h0;obtain⟨p,m1,rfl,_⟩:=l;obtain⟨C,m2,rfl,_⟩:=k;obtain⟨t,s,rfl,_⟩:=o;obtain⟨D,H,rfl,_⟩:=y;obtain⟨r,E,rfl,_⟩:=z;have n1:=b.news;have P:=b.bw;have N:=ZJ b.four;have O:=b.aA.wW;have K:=b.done.wW
 go_enter (fU func17 rfl),ntmps17
 go_wp2_with fail
 obtain⟨⟨c0,c1,c2,c3,f,n⟩,hs,hb⟩:=Pn w (.slice x g.new.length B) (.slice p g.old.length m1) (.slice C g.roots.length m2) (.slice t g.aA.length s) (.slice D g.done.length H) (.slice r g.marked.length E) 26 _ rfl;generalize w.alloc _=i at c0 c1 c2 c3 f n hs hb⊢;refine(Pe _ _ ⟨g.new,g.aA,[],[]⟩ ⟨_,_,_,_,rfl,q.out.below hb,u.out.below hb,qP<|by omega,qP<|by omega⟩ (by show g.new.length<=45;omega) (by show g.aA.length<=45;omega) (Γ _) (Γ _) λc hc=>m c<|Z2 _ hc).mono ?_;rintro e J ⟨rfl,a⟩;have h:=hb.trans<|a.mono hb.size;have c1:=cG a c1 (by omega:w.heap.size<i.heap.size);have c2:=cG a c2 (by omega:w.heap.size<i.heap.size);have f:=cG a f (by omega:w.heap.size<i.heap.size);clear c0 c3 n
 go_wp2_with fail
 refine(Pe _ _ ⟨g.old,g.roots,[],[]⟩ ⟨_,_,_,_,rfl,A.out.below h,F.out.below h,qP<|by omega,qP<|by omega⟩ (by show g.old.length<=45;omega) (by show g.roots.length<=45;omega) (Γ _) (Γ _) λc hc=>m c<|ζ _ hc).mono ?_;rintro e L ⟨rfl,d⟩;have j:=h.trans<|d.mono h.size;have f:=cG d f (show w.heap.size<J.heap.size by have:=a.size;omega)
 go_wp2_with fail
 go_ret;exact⟨by simp;omega,j⟩
end
section
variable(w:ι)(v u:ZQ)(g:GH)
def aaP(n lo hi)(a:lo<=n)(b:n<=hi):R prog 115 #[Ω Ψ n,Ω Ψ lo,Ω Ψ hi] w λe w'=>e=.returned (.bool ZO)/\w'=w:=by
 go_enter (fU func115 rfl),ntmps115
 go_wp2_with fail
 go_ret;exact⟨rfl,rfl⟩
def Pf(x)(p:GV w v g)(o:ta g x)(y:g.new.length<=1000000)(u:g.old.length<=1000000):
 R prog 172 #[v,.agg #[Ω Ψ x.1,Ω Ψ x.2]] w λe w'=>e=.returned (Ω Ψ 0)/\I w w w':=by
 obtain⟨a0,a1,z,r,t,s,rfl,⟨h,i,rfl,_⟩,⟨b,m1,rfl,_⟩,⟨j,m2,rfl,_⟩,⟨f,d,rfl,_⟩,⟨l,q,rfl,_⟩,⟨c,m,rfl,_⟩⟩:=p;obtain⟨k,n⟩:=x;have hb:I w w ((w.alloc<|Θ #[.slice h g.new.length i,.slice b g.old.length m1,.slice j g.roots.length m2,.slice f g.aA.length d,.slice l g.done.length q,.slice c g.marked.length m] 26).alloc<|Θ #[Ω Ψ k,Ω Ψ n] 50):=(af w _).alloc (by simp) _;obtain(⟨h1,h2,h3⟩|⟨h1,h2⟩)|⟨h1,h2,h3⟩|⟨h1,h2,h3⟩:=o<;>dsimp only at h1 h2<;>subst h1
 ·dsimp only at h3
  go_enter (fU func172 rfl),ntmps172
  go_wp2_with fail
  refine(aaP _ n (-99) 99 h2 h3).mono ?_;rintro e a ⟨rfl,rfl⟩
  go_wp2_with fail
  go_ret;exact⟨rfl,hb⟩
 ·subst h2
  go_enter (fU func172 rfl),ntmps172
  go_wp2_with fail
  go_ret;exact⟨rfl,hb⟩
 ·dsimp only at h3
  go_enter (fU func172 rfl),ntmps172
  go_wp2_with fail
  refine(aaP _ n 0 (g.new.length-1) h2<|by omega).mono ?_;rintro e a ⟨rfl,rfl⟩
  go_wp2_with fail
  go_ret;exact⟨rfl,hb⟩
 ·dsimp only at h3
  go_enter (fU func172 rfl),ntmps172
  go_wp2_with fail
  refine(aaP _ n 0 (g.old.length-1) h2<|by omega).mono ?_;rintro e a ⟨rfl,rfl⟩
  go_wp2_with fail
  go_ret;exact⟨rfl,hb⟩
def KH(l)(H:GV w v g)(t:eI w u l)(O:∀x∈l,ta g x)(P:g.new.length<=1000000)(L:g.old.length<=1000000)(hl:l.length<=1000000):
 R prog 113 #[v,u] w λe w'=>e=.returned (Ω Ψ 0)/\I w w w':=by
 have HV:=V H;have N:=V t;obtain⟨a0,a1,G,D,F,E,rfl,_⟩:=H;obtain⟨b,m,rfl,hm,J,_⟩:=t
 go_enter (fU func113 rfl),ntmps113
 go_wp2_with fail
 obtain⟨⟨c0,c1,c2,c3,s,r⟩,hs,hb⟩:=Pn w a0 a1 G D F E 26 _ rfl;generalize w.alloc _=n at c0 c1 c2 c3 s r hs hb⊢
 go_loopw [5] (λi wr=>∃k:Nat,k<=l.length/\i=Ω Ψ k/\I n n wr) (λi _=>l.length-(intOf i).toNat)
 case atStart=>exact⟨0,Γ _,rfl,.refl _ _⟩
 case round=>
  obtain⟨k,hk,rfl,f⟩:=hrel;have y:=hb.trans<|f.mono hb.size;by_cases z:k<l.length
  ·obtain⟨W,m',Q,_,_,j⟩:=N.out.below y;cases Q
   obtain⟨B,o,rfl,K,j⟩:=j (by omega);obtain⟨p,q,e1⟩:=ep z;obtain⟨d0,C⟩:=j k p q e1;clear j
   go_wp2_with fail
   have c0:=cG f c0 (by omega:w.heap.size<n.heap.size);have c1:=cG f c1 (by omega:w.heap.size<n.heap.size);have c2:=cG f c2 (by omega:w.heap.size<n.heap.size);have c3:=cG f c3 (by omega:w.heap.size<n.heap.size);have s:=cG f s (by omega:w.heap.size<n.heap.size);have r:=cG f r (by omega:w.heap.size<n.heap.size);have hd:=(Z wr wr).drew;refine Rg.aaH 5 0 (λu=>(u w.heap.size=U a0/\u ⟨w.heap.size,1,Y⟩=U a1/\u.cell? ⟨w.heap.size,2,Y⟩=U G/\u.cell? ⟨w.heap.size,3,Y⟩=U D/\u.cell? ⟨w.heap.size,4,Y⟩=U F/\u.cell? ⟨w.heap.size,5,Y⟩=U E)/\u.cell? ⟨B,o+k*2,Y⟩=U (Ω Ψ p)/\u.cell? ⟨B,o+k*2+1,Y⟩=U (Ω Ψ q)) (by kernel_rfl) (by kernel_rfl) (λc a d v w h=>by cases d<;>exact h) ⟨⟨c0,c1,c2,c3,s,r⟩,d0,C⟩ ?_;simp only[ZX,μ,Z4,κ,Z3]
   iterate 5
    (refine Rg.fp.step (v:=?_) (by rfl) (λu t=>?_) ?_
     rotate_left
     (obtain⟨⟨t0,t1,t2,S,X,t5⟩,t6,t7⟩:=t
      go_simp
      try rfl))
   refine Rg.fp.nil<|Rg.pA.zero ?_;simp only[ZI,φ,θ,η];clear c0 c1 c2 c3 s r d0 C
   go_wp2_with fail
   refine(Pf _ _ g (p,q) (HV.out.below<|y.trans<|hd.mono y.size) (O _<|Δ e1) P L).mono ?_;rintro e T ⟨rfl,A⟩
   go_wp2_with fail
   exact⟨⟨k+1,by omega,by go_num,f.trans<|(hd.trans A).mono f.size⟩,by simp[intOf];omega⟩
  ·go_wp2_with fail
   go_ret;exact⟨rfl,y⟩
def PJ(n m)(h:n=m):R prog 112 #[Ω Ψ n,Ω Ψ m] w λe w'=>e=.returned (Ω Ψ 0)/\w'=w:=by
 subst h
 go_enter (fU func112 rfl),ntmps112
 go_wp2_with fail
 go_ret;exact⟨rfl,rfl⟩
def WK(x)(h:zH g x):R prog 161 #[.agg #[Ω Ψ x.1,Ω Ψ x.2]] w λe w'=>e=.returned (.bool ZO)/\I w w w':=by
 obtain⟨k,n⟩:=x;obtain⟨h,_⟩|⟨h,_⟩:=h<;>dsimp only at h<;>subst h
 all_goals
  go_enter (fU func161 rfl),ntmps161
  go_wp2_with fail
  go_ret;exact⟨rfl,af _ _⟩
def Kj(cs tG)(J:GV w v g)(y:sa w u cs)(hx:∀c∈cs,RJ g c)(hn:g.new.length<=1000000)(W:g.old.length<=1000000)(hl:cs.length<=tG)(hm:tG<=1000000):
 R prog 111 #[v,u,Ω Ψ tG] w λe w'=>e=.returned (Ω Ψ 0)/\I w w w':=by
 have HV:=V J;have HU:=V y;obtain⟨a0,a1,H,D,F,E,rfl,_⟩:=J;obtain⟨b,m,rfl,Q,S,_⟩:=y;have G:decide (tG<cs.length)=Z8:=by simp;omega
 go_enter (fU func111 rfl),ntmps111
 go_wp2_with fail
 obtain⟨⟨c0,c1,c2,c3,A,t⟩,hs,hb⟩:=Pn w a0 a1 H D F E 26 _ rfl;generalize w.alloc _=l at c0 c1 c2 c3 A t hs hb⊢
 go_loopw [7] (λi wr=>∃k:Nat,k<=cs.length/\i=Ω Ψ k/\I l l wr) (λi _=>cs.length-(intOf i).toNat)
 case atStart=>exact⟨0,Γ _,rfl,.refl _ _⟩
 case round=>
  obtain⟨k,hk,rfl,f⟩:=hrel;have z:=hb.trans<|f.mono hb.size;by_cases B:k<cs.length
  ·obtain⟨b',m',he,_,_,j⟩:=HU.out.below z;cases he
   obtain⟨K,o,rfl,T,j⟩:=j (by omega);obtain⟨p,q,e1⟩:=cQ B;obtain⟨d0,x,N,r⟩:=j k p q e1;obtain⟨n,s⟩:=hx _<|Δ e1;dsimp only at n s;have HX:=V r;obtain⟨X,P,rfl,_⟩:=r;clear j;have c0:=cG f c0 (by omega:w.heap.size<l.heap.size);have c1:=cG f c1 (by omega:w.heap.size<l.heap.size);have c2:=cG f c2 (by omega:w.heap.size<l.heap.size);have c3:=cG f c3 (by omega:w.heap.size<l.heap.size);have A:=cG f A (by omega:w.heap.size<l.heap.size);have t:=cG f t (by omega:w.heap.size<l.heap.size);have hd:=(Z wr wr).drew;have L:q.length<=4:=by omega
   go_upto_block 2 with fail
   go_cut [8]from 15 to 60 λv O=>v=Ω Ψ q.length/\O=wr
   case first=>
    obtain⟨rfl,h0⟩|⟨rfl,h0⟩|⟨rfl,h0⟩:=n
    all_goals
     go_wp2_with fail
     all_goals go_meet
     all_goals exact⟨by first|rfl|(rw[h0];rfl)|simp_all,rfl⟩
   case rest=>
    obtain⟨rfl,rfl⟩:=hcut;clear n
    go_wp2_with fail
    refine(PJ _ _ _ rfl).mono ?_;rintro e w2 ⟨rfl,rfl⟩
    go_wp2_with fail
    refine Rg.aaH 6 0 (λu=>(u w.heap.size=U a0/\u ⟨w.heap.size,1,Y⟩=U a1/\u.cell? ⟨w.heap.size,2,Y⟩=U H/\u.cell? ⟨w.heap.size,3,Y⟩=U D/\u.cell? ⟨w.heap.size,4,Y⟩=U F/\u.cell? ⟨w.heap.size,5,Y⟩=U E)/\u.cell? ⟨K,o+k*2+1,Y⟩=U (.slice X q.length P)) (by kernel_rfl) (by kernel_rfl) (λc a d v w h=>by cases d<;>exact h) ⟨⟨c0,c1,c2,c3,A,t⟩,N⟩ ?_;simp only[ZX,μ,Z4,κ,Z3]
    iterate 6
     (refine Rg.fp.step (v:=?_) (by rfl) (λu y=>?_) ?_
      rotate_left
      (obtain⟨⟨t0,t1,t2,t3,t4,t5⟩,t6⟩:=y
       go_simp
       try rfl))
    refine Rg.fp.nil<|Rg.pA.zero ?_;simp only[ZI,φ,θ,η]
    go_wp2_with fail
    refine(KH _ _ _ g q (HV.out.below<|z.trans<|hd.mono z.size) (HX.out.below hd) s hn W<|by omega).mono ?_;rintro e w3 ⟨rfl,C⟩
    go_wp2_with fail
    go_roundw
    case rel=>exact⟨k+1,by omega,by go_num,f.trans<|(hd.trans C).mono f.size⟩
    case measure=>simp[intOf];omega
  ·go_wp2_with fail
   go_ret;exact⟨rfl,z⟩
def KI(l)(hv:GV w v g)(F:eI w u l)(S:Oi g l)(hn:g.new.length<=1000000)(ho:g.old.length<=1000000):
 R prog 114 #[v,u] w λe w'=>e=.returned (Ω Ψ 0)/\I w w w':=by
 have HV:=V hv;have HU:=V F;have hl:=S.wW;obtain⟨a0,a1,a2,a3,a4,a5,rfl,_⟩:=hv;obtain⟨b,m,rfl,hm,hm2,_⟩:=F;have hdec:decide (40<l.length)=Z8:=by simp;omega
 go_enter (fU func114 rfl),ntmps114
 go_wp2_with fail
 obtain⟨⟨c0,c1,c2,c3,y,x⟩,hs,hb⟩:=Pn w a0 a1 a2 a3 a4 a5 26 _ rfl;generalize w.alloc _=t at c0 c1 c2 c3 y x hs hb⊢
 go_loopw [5] (λi wr=>∃k:Nat,k<=l.length/\i=Ω Ψ k/\I t t wr) (λi _=>l.length-(intOf i).toNat)
 case atStart=>exact⟨0,Γ _,rfl,.refl _ _⟩
 case round=>
  obtain⟨k,hk,rfl,f⟩:=hrel;have G:=hb.trans<|f.mono hb.size;by_cases H:k<l.length
  ·obtain⟨b',m',D,_,_,r⟩:=HU.out.below G;cases D
   obtain⟨X,o,rfl,A,r⟩:=r (by omega);obtain⟨p,q,e1⟩:=ep H;obtain⟨d0,z⟩:=r k p q e1;have B:=S.cells _<|Δ e1;have c0:=cG f c0 (by omega:w.heap.size<t.heap.size);have c1:=cG f c1 (by omega:w.heap.size<t.heap.size);have c2:=cG f c2 (by omega:w.heap.size<t.heap.size);have c3:=cG f c3 (by omega:w.heap.size<t.heap.size);have y:=cG f y (by omega:w.heap.size<t.heap.size);have x:=cG f x (by omega:w.heap.size<t.heap.size)
   go_wp2_with fail
   refine(WK wr g (p,q) B).mono ?_;rintro e w2 ⟨rfl,n⟩;have s:w.heap.size<wr:=by have:=f.size;omega
   replace c0:=cG n c0 s;replace c1:=cG n c1 s;replace c2:=cG n c2 s;replace c3:=cG n c3 s;replace y:=cG n y s;replace x:=cG n x s;replace d0:=cG n d0 A;replace z:=cG n z A;have hd:=(Z w2 w2).drew;have C:=G.trans<|n.mono G.size
   go_wp2_with fail
   refine Rg.aaH 5 0 (λu=>(u w.heap.size=U a0/\u ⟨w.heap.size,1,Y⟩=U a1/\u.cell? ⟨w.heap.size,2,Y⟩=U a2/\u.cell? ⟨w.heap.size,3,Y⟩=U a3/\u.cell? ⟨w.heap.size,4,Y⟩=U a4/\u.cell? ⟨w.heap.size,5,Y⟩=U a5)/\u.cell? ⟨X,o+k*2,Y⟩=U (Ω Ψ p)/\u.cell? ⟨X,o+k*2+1,Y⟩=U (Ω Ψ q)) (by kernel_rfl) (by kernel_rfl) (λc a d v w h=>by cases d<;>exact h) ⟨⟨c0,c1,c2,c3,y,x⟩,d0,z⟩ ?_;simp only[ZX,μ,Z4,κ,Z3]
   iterate 5
    (refine Rg.fp.step (v:=?_) (by rfl) (λu F=>?_) ?_
     rotate_left
     (obtain⟨⟨t0,t1,t2,t3,t4,t5⟩,t6,t7⟩:=F
      go_simp
      try rfl))
   refine Rg.fp.nil<|Rg.pA.zero ?_;simp only[ZI,φ,θ,η];clear c0 c1 c2 c3 y x d0 z
   go_wp2_with fail
   refine(Pf _ _ g (p,q) (HV.out.below<|C.trans<|hd.mono C.size) (.inr B) hn ho).mono ?_;rintro e w3 ⟨rfl,T⟩;have E:I t t w3:=f.trans<|(n.trans<|(hd.trans T).mono n.size).mono f.size;have hB4:=hb.trans<|E.mono hb.size
   go_wp2_with fail
   go_loopw [7] (λi wr=>∃j:Nat,j<=k/\i=Ω Ψ j/\I t t wr) (λi _=>k-(intOf i).toNat)
   case atStart=>exact⟨0,Γ _,rfl,E⟩
   case round=>
    obtain⟨j,hj,rfl,f⟩:=hrel;by_cases L:j<k
    ·obtain⟨b',m',D,_,_,r⟩:=HU.out.below (hb.trans<|f.mono hb.size);cases D
     obtain⟨bb',o',D,aoy,r⟩:=r (by omega);cases D
     obtain⟨p0,K,W⟩:=ep (by omega:j<l.length);obtain⟨d0,z⟩:=r k p q e1;obtain⟨d2,d3⟩:=r j p0 K W;have hne:∀w:ι,(binOp .eql 50 (.agg #[Ω Ψ p0,Ω Ψ K])<|.agg #[Ω Ψ p,Ω Ψ q]).run prog w=.ok (.bool Z8) w:=λw=>by
      rw[Q3];have P:(p0,K)≠(p,q):=λe=>by have N:=(ο.1 W);have J:=(ο.1 e1);obtain⟨N,Q⟩:=N;obtain⟨J,O⟩:=J;have:=(ε.1 S.nodup) j k N J L;rw[Q,O]at this;exact this e
      congr 2
      rw[Bool.and_eq_false_iff];by_cases hp:p0=p
      exact .inr (by simp;exactλhq=>P<|by rw[hp,hq]);exact .inl (by simpa using hp)
     clear r
     go_wp2_with fail
     go_quiet (fail)
     go_wp2_with fail
     exact⟨⟨j+1,by omega,by go_num,bl f _⟩,by simp[intOf];omega⟩
    ·go_wp2_with fail
     exact⟨⟨k+1,by omega,by go_num,f⟩,by simp[intOf];omega⟩
  ·go_wp2_with fail
   go_ret;exact⟨rfl,G⟩
end
section
variable(w:ι)
def aac(k x vs)(g:eI w x vs)(y:vs.length<=1000000):
 R prog 116 #[.agg #[Ω Ψ k,x]] w λe w'=>e=.returned (.bool<|jW (k,vs))/\I w w w':=by
 have s:=V g;obtain⟨a,m,rfl,A,h,_⟩:=g;have hb:=af w<|Θ #[Ω Ψ k,.slice a vs.length m] 76
 go_enter (fU func116 rfl),ntmps116
 go_wp2_with fail
 go_loopw [3] (λi wr=>∃j:Nat,j<=vs.length/\i=Ω Ψ j/\(vs.take j).any dy=Z8/\wr=w.alloc (Θ #[Ω Ψ k,.slice a vs.length m] 76)) (λi _=>vs.length-(intOf i).toNat)
 case atStart=>exact⟨0,Γ _,rfl,rfl,rfl⟩
 case round=>
  obtain⟨j,B,rfl,f,rfl⟩:=hrel;by_cases c:j<vs.length
  ·obtain⟨u,z,r,_,_,b⟩:=s.out.below hb;cases r
   obtain⟨t,o,rfl,l,b⟩:=b (by omega);obtain⟨p,q,e1⟩:=ep c;obtain⟨d0,v⟩:=b j p q e1;clear b;by_cases d:p=3
   ·subst d
    go_wp2_with fail
    go_ret;refine⟨?_,hb⟩;have:jW (k,vs)=ZO:=List.any_eq_true.2 ⟨_,Δ e1,rfl⟩;rw[this];rfl
   ·have n:(p==3)=Z8:=by simp[d]
    go_wp2_with fail
    exact⟨⟨j+1,by omega,by go_num,by rw[bW e1,Zv,f];simp[dy,d],trivial⟩,by simp[intOf];omega⟩
  ·go_wp2_with fail
   go_ret;refine⟨?_,hb⟩;rw[υ (by omega)]at f;have:jW (k,vs)=Z8:=f;rw[this];rfl
def aeB(v l n)(x:n9 w v l)(h:n∈l)(z:l.length<=1000000):
 R prog 117 #[v,Ω Ψ n] w λe w'=>e=.returned (.bool ZO)/\w'=w:=by
 obtain⟨a,m,rfl,A,s,c⟩:=x;have h0:0<l.length:=List.length_pos_of_mem h;obtain⟨b,o,rfl,hb,c⟩:=c h0;obtain⟨t,d⟩:=ZD.1 h;have p:=(ο.1 d).1;have r:=V c;clear c
 go_enter (fU func117 rfl),ntmps117
 go_wp2_with fail
 go_loopw [5] (λi wr=>∃j:Nat,j<=t/\i=Ω Ψ j/\wr=w) (λi _=>l.length-(intOf i).toNat)
 case atStart=>exact⟨0,Γ _,rfl,rfl⟩
 case round=>
  obtain⟨j,B,rfl,rfl⟩:=hrel;obtain⟨y,g⟩:=lw (by omega:j<l.length);have c0:=r.out j y g;by_cases f:y=n
  ·subst f;have q:(y==y)=ZO:=by simp
   go_wp2_with fail
   all_goals first|(go_ret;exact⟨rfl,rfl⟩)|(exfalso;omega)
  ·have u:(y==n)=Z8:=by simp[f]
   have k:j≠t:=λe=>by subst e;rw[g]at d;exact f<|Option.some.inj d
   go_wp2_with fail
   all_goals first|exact⟨⟨j+1,by omega,by go_num,rfl⟩,by simp[intOf];omega⟩|exact⟨⟨j+1,by omega,by go_num,trivial⟩,by simp[intOf];omega⟩|(exfalso;omega)
def aad(v g)(hv:GV w v g)(q:VG g):
 R prog 50 #[v] w λe w'=>e=.returned (Ω Ψ 0)/\I w w w':=by
 have HV:=V hv;obtain⟨a0,a1,a2,a3,a4,a5,rfl,h0,J,H,h3,h4,h5⟩:=hv;have H0:=V h0;have H1:=V J;have H2:=V H;have H3:=V h3;have H4:=V h4;have H5:=V h5;obtain⟨L,X,rfl,_⟩:=h0;obtain⟨G,m1,rfl,_⟩:=J;obtain⟨b2,m2,rfl,_⟩:=H;obtain⟨K,m3,rfl,_⟩:=h3;obtain⟨b4,P,rfl,_⟩:=h4;obtain⟨Q,B,rfl,_⟩:=h5;have n1:=q.news;have n2:=q.bw;have n3:g.roots.length<=4:=ZJ q.four;have n4:=q.aA.wW;have n5:=q.done.wW;have n6:=q.By;have b:=ω w<|Θ #[.slice L g.new.length X,.slice G g.old.length m1,.slice b2 g.roots.length m2,.slice K g.aA.length m3,.slice b4 g.done.length P,.slice Q g.marked.length B] 26;have hb:=af w<|Θ #[.slice L g.new.length X,.slice G g.old.length m1,.slice b2 g.roots.length m2,.slice K g.aA.length m3,.slice b4 g.done.length P,.slice Q g.marked.length B] 26;have hs:w.heap.size<(w.alloc<|Θ #[.slice L g.new.length X,.slice G g.old.length m1,.slice b2 g.roots.length m2,.slice K g.aA.length m3,.slice b4 g.done.length P,.slice Q g.marked.length B] 26).heap.size:=by simp
 go_enter (fU func50 rfl),ntmps50
 go_wp2_with fail
 generalize w.alloc _=w1 at b hb hs⊢;refine(Kj _ _ _ g g.new 8 (HV.out.below hb) (H0.out.below hb) (λc hc=>q.cells c<|Z2 _ hc) (by omega) (by omega) n1<|by omega).mono ?_;rintro e w2 ⟨rfl,O⟩;replace b:=(O.block _ hs).trans b;replace hb:=hb.trans<|O.mono hb.size;replace hs:=χ hs O.size;obtain⟨c0,c1,c2,c3,r,m⟩:=sS b
 go_wp2_with fail
 clear c0 c1 c2 c3 r m;refine(Kj _ _ _ g g.old 32 (HV.out.below hb) (H1.out.below hb) (λc hc=>q.cells c<|ζ _ hc) (by omega) (by omega) n2<|by omega).mono ?_;rintro e w3 ⟨rfl,k3⟩;replace b:=(k3.block _ hs).trans b;replace hb:=hb.trans<|k3.mono hb.size;replace hs:=χ hs k3.size;obtain⟨c0,c1,c2,c3,r,m⟩:=sS b
 go_wp2_with fail
 refine(PJ _ g.roots.length 4 (by have:=q.four;omega)).mono ?_;rintro e w4 ⟨rfl,rfl⟩
 go_wp2_with fail
 clear c0 c1 c2 c3 r m;refine(KH _ _ _ g g.roots (HV.out.below hb) (H2.out.below hb) q.roots (by omega) (by omega)<|by omega).mono ?_;rintro e w5 ⟨rfl,k5⟩;replace b:=(k5.block _ hs).trans b;replace hb:=hb.trans<|k5.mono hb.size;replace hs:=χ hs k5.size;obtain⟨c0,c1,c2,c3,r,m⟩:=sS b
 go_wp2_with fail
 clear c0 c1 c2 c3 r m;refine(KI _ _ _ g g.aA (HV.out.below hb) (H3.out.below hb) q.aA (by omega)<|by omega).mono ?_;rintro e w6 ⟨rfl,k6⟩;replace b:=(k6.block _ hs).trans b;replace hb:=hb.trans<|k6.mono hb.size;replace hs:=χ hs k6.size;obtain⟨c0,c1,c2,c3,r,m⟩:=sS b
 go_wp2_with fail
 clear c0 c1 c2 c3 r m;refine(KI _ _ _ g g.done (HV.out.below hb) (H4.out.below hb) q.done (by omega)<|by omega).mono ?_;rintro e w7 ⟨rfl,T⟩;replace b:=(T.block _ hs).trans b;replace hb:=hb.trans<|T.mono hb.size;replace hs:=χ hs T.size;obtain⟨c0,c1,c2,c3,r,m⟩:=sS b
 go_wp2_with fail
 generalize w7=w8 at b hb hs c0 c1 c2 c3 r m⊢;clear c0 c1 c2 c3 r m
 go_loopw [9] (λi wr=>∃k:Nat,k<=g.marked.length/\i=Ω Ψ k/\I w8 w8 wr) (λi _=>g.marked.length-(intOf i).toNat)
 case atStart=>exact⟨0,Γ _,rfl,.refl _ _⟩
 case round=>
  obtain⟨k,hk,rfl,f⟩:=hrel;obtain⟨c0,c1,c2,c3,r,m⟩:=sS<|(f.block _ hs).trans b;have y:=hb.trans<|f.mono hb.size;by_cases t:k<g.marked.length
  ·obtain⟨b',m',he,_,_,l⟩:=H5.out.below y;cases he
   obtain⟨z,o,rfl,N,l⟩:=l (by omega);obtain⟨n,e1⟩:=lw t;have d0:=l k n e1;have hn:=q.marks n<|Δ e1;have hd:=(Z wr wr).drew
   go_wp2_with fail
   refine Rg.aaH 9 0 (λu=>u ⟨w.heap.size,5,Y⟩=U (ZU (U ⟨z,o,Y⟩) g.marked.length B)/\u.cell? ⟨w.heap.size,1,Y⟩=U (.slice G g.old.length m1)/\u.cell? ⟨z,o+k,Y⟩=U (Ω Ψ n)) (by kernel_rfl) (by kernel_rfl) (λc a d v w h=>by cases d<;>exact h) ⟨m,c1,d0⟩ ?_;simp only[ZX,μ,Z4,κ,Z3]
   iterate 9
    (refine Rg.fp.step (v:=?_) (by rfl) (λu hu=>?_) ?_
     rotate_left
     (obtain⟨t0,t1,t2⟩:=hu
      go_simp
      try rfl))
   refine Rg.fp.nil<|Rg.pA.zero ?_;simp only[ZI,φ,θ,η]
   go_wp2_with fail
   refine(aaP _ n 0 (g.old.length-1) hn.1<|by omega).mono ?_;rintro e w9 ⟨rfl,rfl⟩
   go_wp2_with fail
   have s:I w8 w8 wr.drew:=f.trans<|hd.mono f.size;have d0:wr.drew.cell? (z,o+k)=U (Ω Ψ n):=d0;have m:wr.drew.cell? (w.heap.size,5)=U (.slice (z,o) g.marked.length B):=m;by_cases W:k=0
   ·subst W;have hz:decide ((0:Int)<((0:Nat):Int))=Z8:=rfl
    go_quiet (fail)
    go_wp2_with fail
    exact⟨⟨0+1,by omega,by go_num,bl f _⟩,by simp[intOf];omega⟩
   ·obtain⟨j,S⟩:∃j,k=j+1:=⟨k-1,by omega⟩;obtain⟨F,e0⟩:=lw (by omega:j<g.marked.length);have d1:=l j F e0;have d2:wr.drew.cell? (z,o+j)=U (Ω Ψ F):=d1;have hlt0:F<n:=by obtain⟨J,h1'⟩:=ο.1 e0;obtain⟨H,h2'⟩:=ο.1 e1;have:=(ε.1 q.order) j k J H (by omega);rwa[h1',h2']at this
    have hs1:(k:Int) -1=(j:Int):=by omega
    have hz1:(0:Int)<(k:Int):=by omega
    have hz2:decide (n<=F)=Z8:=by simp;omega
    have hi2:(j:Int)<(g.marked.length:Int):=by omega
    have hi3:j<g.marked.length:=by omega
    have hi4:0<k:=by omega
    have hw1:IntKind.i64.wrap (j:Int)=(j:Int):=wrap_small _ (by omega) (by omega);clear l S
    go_quiet (fail)
    go_wp2_with fail
    exact⟨⟨k+1,by omega,by go_num,bl f _⟩,by simp[intOf];omega⟩
  ·go_wp2_with fail
   clear c0 c1 c2 c3 r m;generalize wr=wA at f y⊢;replace b:=(f.block _ hs).trans b;replace hs:=χ hs f.size
   go_loopw [10] (λi wr=>∃k:Nat,k<=g.old.length/\i=Ω Ψ k/\I wA wA wr) (λi _=>g.old.length-(intOf i).toNat)
   case atStart=>exact⟨0,Γ _,rfl,.refl _ _⟩
   case round=>
    clear f;obtain⟨k,hk,rfl,f⟩:=hrel;obtain⟨c0,c1,c2,c3,r,m⟩:=sS<|(f.block _ hs).trans b;have C:=y.trans<|f.mono y.size;by_cases t:k<g.old.length
    ·obtain⟨b',m',he,_,_,l⟩:=H1.out.below C;cases he
     obtain⟨z,o,rfl,N,l⟩:=l (by omega);obtain⟨p,A,e1⟩:=cQ t;obtain⟨d0,x,d1,E⟩:=l k p A e1;have hvl:=(q.cells _<|ζ _<|Δ e1).1;dsimp only at hvl;have HX:=V E;obtain⟨ax,mx,rfl,_⟩:=E;clear l
     go_wp2_with fail
     refine(aac wr p _ A HX.out<|by omega).mono ?_;rintro e w9 ⟨rfl,k9⟩;have c5':=cG k9 m (show w.heap.size<wr.heap.size by have:=f.size;omega);have s:=f.trans<|k9.mono f.size;have Dv:=y.trans<|s.mono y.size;by_cases hy:jW (p,A)=ZO
     ·rw[hy];have D:=q.ju k (p,A) e1 hy
      go_wp2_with fail
      refine(aeB w9 _ g.marked k (H5.out.below Dv) D<|by omega).mono ?_;rintro e w10 ⟨rfl,rfl⟩
      go_wp2_with fail
      exact⟨⟨k+1,by omega,by go_num,s⟩,by simp[intOf];omega⟩
     ·rw[show jW (p,A)=Z8 by simpa using hy]
      go_wp2_with fail
      exact⟨⟨k+1,by omega,by go_num,s⟩,by simp[intOf];omega⟩
    ·go_wp2_with fail
     go_ret;exact⟨rfl,C⟩
end
def WT(w:ι)(a:Option ZN)(mc:Nat)(l:List Int)(d:n9 w (.slice a l.length mc) l):
 R prog 19 #[.slice a l.length mc] w λe w'=>e=.returned (.pointer w.heap.size)/\kp w' w 0/\I w w w':=by
 have hb:=af w<|Θ #[.slice a l.length mc,Ω Ψ 0,Ω .u64 2611923443488327891] 95
 go_enter (fU func19 rfl),ntmps19
 go_wp2_with fail
 go_ret;exact⟨rfl,⟨0,⟨a,l,mc,_,ω _ _,d.below hb,λp h0 e=>by obtain⟨_,_,g,_,_,f⟩:=d;cases g;obtain⟨b,o,e2,c,_⟩:=f h0;rw[e]at e2;cases e2;exact c⟩,by omega,by omega⟩,hb⟩
def aaQ(w:ι)(v:ZQ)(g:GH)(i:GV w v g)(j:VG g):
 R prog 32 #[v] w λe w'=>e=.returned (.bool ZO)/\I w w w':=by
 have HV:=V i;obtain⟨a0,a1,l,m,k,n,rfl,-⟩:=i;obtain⟨⟨c0,c1,c2,c3,h,c⟩,hs,hb⟩:=Pn w a0 a1 l m k n 26 _ rfl
 go_enter (fU func32 rfl),ntmps32
 go_wp2_with fail
 generalize w.alloc _=b at c0 c1 c2 c3 h c hs hb⊢;refine(aab _ _ g (HV.out.below hb) j).mono ?_;rintro e p ⟨rfl,a⟩;have d:=hb.trans<|a.mono hb.size;replace c0:=cG a c0 (by omega:w.heap.size<b.heap.size);replace c1:=cG a c1 (by omega:w.heap.size<b.heap.size);replace c2:=cG a c2 (by omega:w.heap.size<b.heap.size);replace c3:=cG a c3 (by omega:w.heap.size<b.heap.size);replace h:=cG a h (by omega:w.heap.size<b.heap.size);replace c:=cG a c (by omega:w.heap.size<b.heap.size)
 go_wp2_with fail
 refine(aad _ _ g (HV.out.below d) j).mono ?_;rintro e o ⟨rfl,f⟩
 go_wp2_with fail
 go_ret;exact⟨rfl,d.trans<|f.mono d.size⟩
section
section
variable{ops:Array Oper}{rest:List Oper}{o:Oper}{a:Act}{w:ι}{Q:Exit->Act->ι->Prop}{K:Act->ι->Prop}
end
end
def aae(w v g)(b:GV w v g)(a:VG g)(c:g.new.length+g.old.length<=32):
 R prog 22 #[v] w λe w'=>(∃r,e=.returned (.tuple #[r,Ω Ψ 0])/\GV w' r (sX g))/\I w.heap.size w w':=
 OY w v g (sX g) _ b (VG.look a) (by have:=a.By;omega) (VG.cN a) (VG.aeP a) (VG.collect a c)
def aaR(w v g)(b:GV w v g)(a:VG g):
 R prog 21 #[v] w λe w'=>(∃r,e=.returned r/\Pd w' w.heap.size r g)/\I w.heap.size w w':=
 aaa w v g b (by have:=a.news;omega) (by have:=a.bw;omega) (λc hc=>by have:=(a.cells c hc).1;omega) (by have:=a.four;omega) (by have:=a.aA.wW;omega) (by have:=a.done.wW;omega) (by have:=a.By;omega)
def sv(tl:List HV)(v:HV):HV:=if v.1=1 then tl.getD v.2.toNat (0,0)else v
def KJ(w v u l f)(H:eI w v l)(G:eI w u f)(hx:∀x∈l,x.1=1->0<=x.2/\x.2<f.length)(hl:l.length<=1000000):
 R prog 74 #[v,u] w λe w'=>(∃r,e=.returned r/\OV w' w r (l.map<|sv f))/\I w w w':=by
 have HV:=V H;have HU:=V G;obtain⟨a,m,rfl,hm,T,_⟩:=H;obtain⟨a',m',rfl,N,F,_⟩:=G
 go_enter (fU func74 rfl),ntmps74
 go_wp2_with fail
 go_loopw [5,6] (λx i wr=>∃k:Nat,k<=l.length/\i=Ω Ψ k/\OV wr w x ((l.take k).map<|sv f)/\I w w wr) (λ_ i _=>l.length-(intOf i).toNat)
 case atStart=>exact⟨0,Γ _,rfl,OV.nil _ _,.refl _ _⟩
 case round=>
  obtain⟨k,hk,rfl,d,hb⟩:=hrel;by_cases A:k<l.length
  ·obtain⟨a2,m2,E,_,_,b⟩:=HV.out.below hb;cases E
   obtain⟨bb,o,rfl,hbb,b⟩:=b (by omega);obtain⟨p,q,e1⟩:=ep A;obtain⟨d0,d1⟩:=b k p q e1;have t:=hx _<|Δ e1;dsimp only at t;have g:((l.take k).map<|sv f).length<=1000000000:=by simp;omega
   have W:=hb.size;clear b;by_cases D:p=1
   ·subst D;obtain⟨B,O⟩:=t rfl;obtain⟨q,rfl⟩:=Int.eq_ofNat_of_zero_le B;obtain⟨a3,m3,E,_,_,b⟩:=HU.out.below hb;cases E
    obtain⟨bt,ot,rfl,s,b⟩:=b (by omega);obtain⟨y,z,e2⟩:=ep (by omega:q<f.length);obtain⟨X,t1⟩:=b q y z e2;have h:sv f (1,(q:Int))=(y,z):=by simp[sv,ZY,e2]
    have J:q<f.length:=by omega
    clear b;have n:=af wr<|Θ #[Ω Ψ 1,Ω Ψ q] 50;have Q:=cG n X s;have K:=cG n t1 s
    go_wp2_with (at_builtin;refine fO rfl _ _ rfl w _ _ rfl ((d.alloc<|Θ #[Ω Ψ y,Ω Ψ z] 50).alloc _) (wr.heap.size+1:Nat) _ (y,z) rfl (by simp[go_sem,Z7]) g (by simp;omega) ?_;intro P L c j C)
    exact⟨⟨k+1,by omega,by go_num,by rw[bW e1,ZF,ZM,h];exact c,hb.trans<|(((Z _ _).alloc (by omega) _).alloc (by simp;omega) _).trans j⟩,by simp[intOf];omega⟩
   ·have h:sv f (p,q)=(p,q):=by simp[sv,D]
    have S:(p==1)=Z8:=by simp[D]
    go_wp2_with (at_builtin;refine fO rfl _ _ rfl w _ _ rfl ((d.alloc<|Θ #[Ω Ψ p,Ω Ψ q] 50).alloc _) (wr.heap.size+1:Nat) _ (p,q) rfl (by simp[go_sem,Z7]) g (by simp;omega) ?_;intro P L c j C)
    exact⟨⟨k+1,by omega,by go_num,by rw[bW e1,ZF,ZM,h];exact c,hb.trans<|(((Z _ _).alloc (by omega) _).alloc (by simp;omega) _).trans j⟩,by simp[intOf];omega⟩
  ·go_wp2_with fail
   go_ret;rw[υ (by omega)]at d;exact⟨⟨_,rfl,d⟩,hb⟩
def KK(w v u l d)(B:n9 w v l)(A:eI w u d)(N:∀x∈l,0<=x/\x<d.length)(hl:l.length<=1000000):
 R prog 75 #[v,u] w λe w'=>(∃r,e=.returned r/\OV w' w r (l.map λn=>d.getD n.toNat (0,0)))/\I w w w':=by
 have HV:=V B;have L:=V A;obtain⟨a,m,rfl,hm,G,_⟩:=B;obtain⟨W,m',rfl,E,z,_⟩:=A
 go_enter (fU func75 rfl),ntmps75
 go_wp2_with fail
 go_loopw [5,6] (λx i wr=>∃k:Nat,k<=l.length/\i=Ω Ψ k/\OV wr w x ((l.take k).map λn=>d.getD n.toNat (0,0))/\I w w wr) (λ_ i _=>l.length-(intOf i).toNat)
 case atStart=>exact⟨0,Γ _,rfl,OV.nil _ _,.refl _ _⟩
 case round=>
  obtain⟨k,T,rfl,c,hb⟩:=hrel;by_cases h:k<l.length
  ·obtain⟨a2,m2,s,_,_,b⟩:=HV.out.below hb;cases s
   obtain⟨S,o,rfl,K,b⟩:=b (by omega);obtain⟨q,e1⟩:=lw h;have d0:=b k q e1;obtain⟨p,D⟩:=N _<|Δ e1;obtain⟨q,rfl⟩:=Int.eq_ofNat_of_zero_le p;have g:((l.take k).map λn=>d.getD n.toNat (0,0)).length<=1000000000:=by simp;omega
   have J:=hb.size;clear b;obtain⟨X,Q,s,_,_,b⟩:=L.out.below hb;cases s
   obtain⟨bt,ot,rfl,F,b⟩:=b (by omega);obtain⟨j,y,e2⟩:=ep (by omega:q<d.length);obtain⟨t0,t1⟩:=b q j y e2;have C:q<d.length:=by omega
   clear b
   go_wp2_with (at_builtin;refine fO rfl _ _ rfl w _ _ rfl (c.alloc _) wr.heap.size _ (j,y) rfl (by simp[go_sem,Z7]) g (by simp;omega) ?_;intro P O f t H)
   exact⟨⟨k+1,by omega,by go_num,by rw[bW e1,ZF,ZM,show d.getD ((q:Int)).toNat (0,0)=(j,y) by simp[ZY,e2]];exact f,hb.trans<|((Z _ _).alloc (by omega) _).trans t⟩,by simp[intOf];omega⟩
  ·go_wp2_with fail
   go_ret;rw[υ (by omega)]at c;exact⟨⟨_,rfl,c⟩,hb⟩
section
structure yb(tl:List HV)(N M:Nat):Prop where
 nodup:tl.Nodup
 at_:∀v∈tl,(v.1=3/\0<=v.2/\v.2<N)\/(v.1=4/\0<=v.2/\v.2<M)
 news:tl.countP (λv=>v.1==3)=N
 bw:tl.countP (λv=>v.1==4)=M
def yb.nil:yb [] 0 0:=⟨ZE,(λv a=>by cases a),rfl,rfl⟩
def yb.len{b N M}(h:yb b N M):b.length=N+M:=by
 have a:∀l:List HV,(∀v∈l,v.1=3\/v.1=4) ->l.length=l.countP (λv=>v.1==3)+l.countP (λv=>v.1==4):=λl=>by
  induction l with
  |nil=>exactλ_=>rfl
  |cons v l d=>grind
 rw[a b λv c=>(h.at_ v c).elim (λh=>.inl h.1) λh=>.inr h.1,h.news,h.bw]
def yb.new{d:List HV}{N M:Nat}(h:yb d N M):yb (d++[(3,(N:Int))]) (N+1) M where
 nodup:=by rw[Zx];refine⟨h.nodup,by simp,λa f b hb e=>?_⟩;simp at hb;subst hb;subst e;obtain h|h:=h.at_ _ f<;>simp at h
 at_:=λv c=>by
  obtain c|c:=Z9.1 c
  obtain h|h:=h.at_ v c<;>omega
  grind
 news:=by rw[ξ,h.news];rfl
 bw:=by rw[ξ,h.bw];rfl
def yb.old{d:List HV}{N M:Nat}(h:yb d N M):yb (d++[(4,(M:Int))]) N (M+1) where
 nodup:=by rw[Zx];refine⟨h.nodup,by simp,λa f b hb e=>?_⟩;simp at hb;subst hb;subst e;obtain h|h:=h.at_ _ f<;>simp at h
 at_:=λv c=>by
  obtain c|c:=Z9.1 c
  obtain h|h:=h.at_ v c<;>omega
  grind
 news:=by rw[ξ,h.news];rfl
 bw:=by rw[ξ,h.bw];rfl
structure JO(h:PH)(tl:List HV)(k:Nat)(new old:List HC)(marked:List Int):Prop where
 news:new.length=(tl.take k).countP (λv=>v.1==3)
 bw:old.length=(tl.take k).countP (λv=>v.1==4)
 cells:∀c∈new++old,∃d∈h.cells,c=(d.1,d.2.map (sv tl))
 marks:∀n∈marked,0<=n/\n<old.length
 order:marked.Pairwise (·<·)
 ju:∀(i:Nat) c,old[i]?=U c->jW c=ZO->(i:Int)∈marked
def JO.nil(h b):JO h b 0 [] [] []:=⟨rfl,rfl,(λc hc=>by cases hc),(λn a=>by cases a),List.Pairwise.nil,λi c e=>by simp at e⟩
section
variable{h:PH}{tl:List HV}{k:Nat}{new old:List HC}{marked:List Int}{v:HV}{d:HC}
def JO.Pi(H:JO h tl k new old marked)(a:tl[k]?=U v)(b:v.1=3)(hd:d∈h.cells):JO h tl (k+1) (new++[(d.1,d.2.map<|sv tl)]) old marked where
 news:=by rw[bW a,ξ,<-H.news];simp[b]
 bw:=by rw[bW a,ξ,<-H.bw];simp[b]
 cells:=λc hc=>by
  simp only[Z9,Zy]at hc;obtain(hc|hc)|hc:=hc
  exact H.cells c<|Z2 _ hc;exact⟨d,hd,hc⟩;exact H.cells c<|ζ _ hc
 marks:=H.marks
 order:=H.order
 ju:=H.ju
def JO.aeC(H:JO h tl k new old marked)(f:tl[k]?=U v)(j:v.1=4)(hd:d∈h.cells)(m:Bool)(q:jW (d.1,d.2.map<|sv tl)=ZO->m=ZO):JO h tl (k+1) new (old++[(d.1,d.2.map<|sv tl)]) (if m then marked++[(old.length:Int)]else marked) where
 news:=by rw[bW f,ξ,<-H.news];simp[j]
 bw:=by rw[bW f,ξ,<-H.bw];simp[j]
 cells:=λc hc=>by
  simp only[Z9,Zy]at hc;obtain hc|hc|hc:=hc
  exact H.cells c<|Z2 _ hc;exact H.cells c<|ζ _ hc;exact⟨d,hd,hc⟩
 marks:=λn l=>by
  have:n∈marked\/n=(old.length:Int):=by
   cases m
   exact .inl l;simpa using l
  obtain g|g:=this
  have:=H.marks n g;simp;omega;simp;omega
 order:=by
  cases m
  exact H.order;rw[if_pos rfl,List.pairwise_append];refine⟨H.order,by simp,λa o b hb=>?_⟩;simp at hb;have:=H.marks a o;omega
 ju:=λi c e p=>by
  obtain hi|hi:=Nat.lt_or_ge i old.length
  rw[Z1 hi]at e;have:=H.ju i c e p;cases m
  exact this;simp[this]
  grind
end
def Rp{h f N M n new old marked}(s:yb f N M)(E:N<=8)(B:M<=32)(p:adJ n h)(C:f.length=n)(H:JO h f n new old marked):VG ⟨new,old,h.roots.map<|sv f,h.aA.map λx=>f.getD x.toNat (0,0),h.done.map λx=>f.getD x.toNat (0,0),marked⟩:=by
 have y:new.length=N:=by rw[H.news,υ<|by omega,s.news]
 have z:old.length=M:=by rw[H.bw,υ<|by omega,s.bw]
 have t:∀x:Int,0<=x->x<n->zH ⟨new,old,h.roots.map<|sv f,h.aA.map λx=>f.getD x.toNat (0,0),h.done.map λx=>f.getD x.toNat (0,0),marked⟩ (f.getD x.toNat (0,0)):=λx h0 k=>by
  have hx:x.toNat<f.length:=by omega
  rw[ZY,ZT hx];have:=s.at_ _<|List.getElem_mem hx;unfold zH;dsimp only;rw[y,z];exact this
 have u:∀v:HV,KL n v.1 v.2->ta ⟨new,old,h.roots.map<|sv f,h.aA.map λx=>f.getD x.toNat (0,0),h.done.map λx=>f.getD x.toNat (0,0),marked⟩ (sv f v):=λv r=>by
  unfold sv;obtain⟨k,m,w⟩|⟨k,m⟩|⟨k,m,w⟩:=r
  rw[if_pos k];exact .inr<|t _ m w;rw[if_neg (by omega)];exact .inl<|.inr ⟨k,m⟩;rw[if_neg (by omega)];exact .inl<|.inl ⟨k,m,w⟩
 have g:∀l:List Int,Fs n l->l.length<=6->Oi ⟨new,old,h.roots.map<|sv f,h.aA.map λx=>f.getD x.toNat (0,0),h.done.map λx=>f.getD x.toNat (0,0),marked⟩ (l.map λx=>f.getD x.toNat (0,0)):=λl i D=>by
  refine⟨Ki i.1 λa A b hb e=>?_,λv r=>?_,by simp;omega⟩;have k:=i.2 a A;have m:=i.2 b hb;have o:a.toNat<f.length:=by omega
  have q:b.toNat<f.length:=by omega
  rw[ZY,ZT o,ZY,ZT q]at e;have e:=e;obtain j|j|j:=Zw a.toNat b.toNat
  exact absurd e<|ε.1 s.nodup _ _ o q j;omega;exact absurd e.symm<|ε.1 s.nodup _ _ q o j;obtain⟨x,hx,rfl⟩:=ZR.1 r;exact t x (i.2 x hx).1 (i.2 x hx).2
 exact
  {cells:=λc hc=>by obtain⟨d,hd,rfl⟩:=H.cells c hc;obtain⟨k,m⟩:=p.cells d hd;refine⟨by simpa using k,λv r=>?_⟩;obtain⟨x,hx,rfl⟩:=ZR.1 r;exact u x<|m x hx
   news:=by dsimp only;omega
   bw:=by dsimp only;omega
   four:=by simp[p.four]
   roots:=λv r=>by obtain⟨x,hx,rfl⟩:=ZR.1 r;exact u x<|p.roots x hx
   aA:=g _ p.aA.1 p.aA.2
   done:=g _ p.done.1 p.done.2
   marks:=H.marks
   order:=H.order
   ju:=H.ju}
end
section
variable{w:ι}
abbrev aaf:Array ZQ:=#[(),(),(),(),(),()]
def wX(B bx:Nat)(w w':ι):Prop:=∀j,B<=j->j<w->j≠bx->w'.heap[j]?=w.heap[j]?
def vX{w' B bx e size n v xs cb d}(h:w.ownsRow B e size v n xs)(b:w.heap[bx]?=U (.cells cb d (0,0)))(k:e≠d)(j:wX B bx w w'):w'.ownsRow B e size v n xs:=
 aS h λg a=>j g (h.lt g a).1 (h.lt g a).2 λl=>by
  subst l;obtain⟨e1,_⟩|⟨m,f,i,e1,_,c,_⟩:=h.2
  rw[e1]at a;cases a;rw[e1]at a;cases a;rw[c]at b;cases b
  exact k rfl
def OX.but{w' B bx v cs cb}(h:OX w B v cs)(a:w.heap[bx]?=U (.cells cb 26 (0,0)))(b:wX B bx w w'):OX w' B v cs:=by obtain⟨l,g,f,d⟩:=h;exact⟨l,vX g a (by decide) b,f,λi k x e c e1 e2=>⟨(d i k x e c e1 e2).1,vX (d i k x e c e1 e2).2 a (by decide) b⟩⟩
def JU{ops rest o a Q}(g:o.guard=Y)(s x)(r:o.op=.call {callee:=.builtin .append,args:=#[s,x],argTypes:=#[22,22]})(B v l)(hs:a.eval s=v)(b:OC w B v l)(ad c u)(y:u.2.oneCell'=ZO)(C:a.eval x=ZU (U ad) 1 c)(n:w (ad.add 0)=U (Ω Ψ u.1)/\w (ad.add 1)=U u.2)(D:l.length<=1000000000)(p:B<=w)(h:∀e w',OC w' B e (l++[u]) ->I B w w'->w.grownBy w' v.ownBlock->(e.ownBlock=v.ownBlock\/e.ownBlock=U w) ->wpList prog ops Q rest (a.put o.dst e) w'):wpList prog ops Q (o::rest) a w:=by
 obtain⟨q,hi,i,k,f⟩:=Zs ni;refine wpList_append_own_at _ g s x 22 r B 76 q _ 2 32 mF hi i k f rfl (by decide) v l.length _ hs b ad 1 c (dW u) C rfl (λj z d=>?_) (λz hz=>?_) (by unfold Zt;omega) (by omega) p λe w' A m _ t=>?_
 match j,d with
 |0,d=>cases d;exact n.1
 |1,d=>cases d;exact n.2
 |j+2,d=>simp[dW]at d
 simp[dW]at hz;obtain rfl|rfl:=hz
 rfl;exact y;refine h e w' ?_ (cM b m p) m t;unfold OC;simpa using A
def SP.agN(B:Nat)(a b c:List HV):Rg.SP:=⟨λv w=>∃x y z,v=.agg #[(),(),x,y,z,()]/\OV w B x a/\OV w B y b/\OV w B z c,λ_ _ _ hb ⟨x,y,z,e,h1,h2,h3⟩=>⟨x,y,z,e,OV.below h1 hb,OV.below h2 hb,OV.below h3 hb⟩⟩
def SP.Pn(B:Nat):Rg.SP:=⟨λv w=>∃g,v=.pointer (g:Nat)/\w.heap[g]?=U (.cells aaf 26 (0,0))/\B<=g,λ_ _ _ hb ⟨g,h1,h2,h3⟩=>⟨g,h1,(hb.block g (Ξ.1 h2).1).trans h2,h3⟩⟩
def aeD(w)(c m tG:Nat)(h:kp w c m)(hm:m<=400000000)(hmo:tG<=40):
 R prog 20 #[.pointer c,tG] w λe w'=>(∃r g,e=.returned r/\Pd w' w r g/\VG g/\g.new.length+g.old.length<=tG)/\hQ w c (m+200000) w':=by
 have hc0:=h.lt;have hb0:=af w<|Θ #[(),(),(),(),(),()] 26;have z0:=ω w<|Θ #[(),(),(),(),(),()] 26;have hs0:(w.alloc<|Θ #[(),(),(),(),(),()] 26).heap.size=w.heap.size+1:=by simp
 have h0:=h.oq.below hb0
 go_enter (fU func20 rfl),ntmps20
 go_wp2_with fail
 generalize w.alloc _=w1 at z0 hb0 hs0 h0⊢;refine(Kt _ c m 5 h0.1 (by omega) (by omega)<|by omega).mono ?_;rintro e w2 ⟨⟨p,rfl⟩,hw2⟩;have z2:=(hw2.2.block w (by omega) (by simp;omega)).trans z0;have hz2:=hw2.2.size;replace hw2:=h0.trans hw2
 go_wp2_with fail
 refine(Xz _ c _ tG p hw2.1 (by omega)<|by omega).mono ?_;rintro e w3 ⟨⟨r,n,ph,rfl,hown,hok,hnm⟩,hw3⟩;have z3:=(hw3.2.block w (by omega) (by simp;omega)).trans z2;have hz3:=hw3.2.size;replace hw3:=hw2.trans hw3;clear hw2 h0 z0 z2 hb0;obtain⟨vc,vr,vw,vd,rfl,hox,hor,XI,hod⟩:=hown;have aaS:w.heap.size+1<=w2:=by omega
 replace hox:=hox.less aaS;replace hor:=eV hor aaS;replace XI:=eV XI aaS;replace hod:=eV hod aaS;obtain⟨lc,hlc,hle⟩:=hox;obtain⟨ac,mc,rfl,-⟩:=aF hlc;obtain⟨ar,mr,rfl,-⟩:=aF hor;obtain⟨aw,mw,rfl,-⟩:=aF XI;obtain⟨ad,md,rfl,-⟩:=aF hod;have hlen:lc.length=n:=by rw[hle.1,hok.len]
 rw[hlen]at hlc⊢
 go_wp2_with fail
 obtain⟨q0,q1,hbB,hsB⟩:=KM w3 (Θ #[.slice ac n mc,.slice ar ph.roots.length mr,.slice aw ph.aA.length mw,.slice ad ph.done.length md] 56)<|Θ #[Ω Ψ 0,Ω Ψ 3,Ω Ψ 8,Ω Ψ 8] 3;have hwB:=hw3.below hbB;have aeE:=Ku (w3.alloc<|Θ #[.slice ac n mc,.slice ar ph.roots.length mr,.slice aw ph.aA.length mw,.slice ad ph.done.length md] 56) [0,3,8,8] #[Ω Ψ 0,Ω Ψ 3,Ω Ψ 8,Ω Ψ 8] 4 rfl rfl (by omega);rw[World.size_alloc]at aeE;have hc3:=hw3.1.lt;refine(Pt _ c _ _ _ [0,3,8,8] hwB.1 (by omega) aeE (by omega) (by simp)<|by simp).mono ?_;rintro e wA ⟨⟨many,rfl,RN⟩,hwA⟩;have RN:0<=many/\many<=8:=by simp at RN;omega
 obtain⟨many,rfl⟩:=Int.eq_ofNat_of_zero_le RN.1;have RN:many<=8:=by omega
 clear aeE;have F:kE (w.heap.size+1) w3 wA:=(kE.below hbB).trans (kE.oq hwA<|by omega) hbB.size;have x5:=(hwA.2.block w3 (by simp;omega) (by simp;omega)).trans q0;have x4:=(hwA.2.block w (by simp;omega) (by simp;omega)).trans<|(hbB.block w<|by omega).trans z3;have hzA:w3.heap.size+2<=wA:=by have:=hwA.2.size;omega
 replace hwA:=hwB.trans hwA;replace hlc:=dI hlc F;replace hle:=hle.keep F;replace hor:=dI hor F;replace XI:=dI XI F;replace hod:=dI hod F;clear hwB hbB q0 q1 z3 F hw3;have G:w.heap.size+1<=w3:=by omega
 generalize w3.heap.size=b at x5 hzA G⊢;generalize hmA:m+1+100000+1=mA at hwA;have aiE:mA<=m+100010:=by omega
 go_wp2_with fail
 go_loopw [6,8,9,10] (λx i8 i9 i wr=>∃(A:List HV) (N a:Nat),A.length<=n/\i8=Ω Ψ N/\i9=Ω Ψ a/\i=Ω Ψ A.length/\yb A N a/\N<=8/\a<=32/\(kE (w.heap.size+1) wA wr/\wA.heap.size<=wr)/\OV wr wA x A/\wr.heap[w.heap.size]?=U (Θ #[(),(),(),(),(),()] 26)/\hQ w c (mA+A.length) wr) (λ_ _ _ i _=>n-(intOf i).toNat)
 case atStart=>exact⟨[],0,0,Γ _,rfl,rfl,rfl,.nil,by omega,by omega,⟨λj _ _=>rfl,.refl⟩,OV.nil _ _,x4,hwA⟩
 case round=>
  clear x4 hwA;obtain⟨A,N,a,hk,rfl,rfl,rfl,hp,hN,hM,⟨F,agO⟩,hx,e0,hw⟩:=hrel;have e1:=(F b (by omega)<|by omega).trans x5;have hlen2:=V hp.len;by_cases hlt:A.length<n
  ·obtain⟨⟨d1,-⟩,-⟩:=dT e1;have hbr:b<wr:=by omega
   go_upto_region 8 with(fail)
   clear d1
   go_cut [41]from 24 to 55 λv wx=>∃nb:Bool,v=.bool nb/\(nb=ZO->N+1<=8)/\(nb=Z8->a+1<=32)/\(kE (w.heap.size+1) wr wx/\wr.heap.size<=wx)/\wx.heap[w.heap.size]?=U (Θ #[(),(),(),(),(),()] 26)/\hQ w c (mA+(A.length+1)) wx
   case first=>
    clear hlc hle hor XI hod x5 e1;by_cases hNm:N<many
    ·go_wp2_with fail
     refine(Kt _ c _ 2 hw.1 (by omega) (by omega)<|by omega).mono ?_;rintro e w5 ⟨⟨nb,rfl⟩,hw5⟩;have f0:=(hw5.2.block w (by omega) (by simp;omega)).trans e0;have hk5:kE (w.heap.size+1) wr w5:=kE.oq hw5 (by omega);have agP:hQ w c (mA+(A.length+1)) w5:=hw.trans hw5;have KU:=hw5.2.size;cases nb
     ·go_wp2_with fail
      go_meet
      exact⟨_,rfl,(λh=>by have:(a:Int)=32:=(by simpa using h);have:=hlen2.out;omega),(λh=>by have:¬(a:Int)=32:=(by simpa using h);omega),⟨hk5,KU⟩,f0,agP⟩
     ·go_wp2_with fail
      go_meet
      exact⟨ZO,rfl,(λ_=>by omega),(λh=>by cases h),⟨hk5,KU⟩,f0,agP⟩
    ·go_wp2_with fail
     go_meet
     exact⟨_,rfl,(λh=>by have:(a:Int)=32:=(by simpa using h);have:=hlen2.out;omega),(λh=>by have:¬(a:Int)=32:=(by simpa using h);omega),⟨λj _ _=>rfl,.refl⟩,e0,hw.more<|by omega⟩
   case rest=>
    obtain⟨nb,rfl,hn1,hn0,⟨hk5,KU⟩,f0,hw5⟩:=hcut;generalize wc=w5 at hk5 KU f0 hw5⊢;have hx5:=dI (hx.less .refl) (show kE wA wr w5 fromλj hb hj=>hk5 j (by omega) hj);have agQ:=F.trans hk5 agO;have aoD:wA.heap.size<=w5:=by omega
    have hln:A.length<1000:=by omega
    clear hx e0 e1 hw hk5 F;cases nb
    ·have hm0:=hn0 rfl;have s:=af w5<|Θ #[Ω Ψ 4,a] 50;have t0:=(s.block w<|by omega).trans f0
     go_wp2_with (at_builtin;refine fO rfl _ _ rfl wA _ _ rfl (hx5.alloc _) w5.heap.size _ (4,(a:Int)) rfl (by simp[go_sem,Z7]) (by omega) (by simp;omega) ?_;intro v' w8 H K no)
     have tT:=K.size;have aeF:kE (w.heap.size+1) wA w8:=λj hb hj=>(K.block j hj).trans<|(s.block j<|by omega).trans<|agQ j hb hj;have hw8:hQ w c (mA+(A.length+1)) w8:=hw5.upto hc0<|(s.mono<|by omega).trans<|K.mono<|by omega
     have t1:=(K.block w<|by omega).trans t0;have T:(A++[((4:Int),(a:Int))]).length=A.length+1:=by simp
     exact⟨⟨_,N,a+1,by rw[T];omega,by go_num,by go_num,by rw[T];go_num,hp.old,by omega,by omega,⟨aeF,by simp at tT;omega⟩,H,t1,by rw[T];exact hw8⟩,by simp[intOf];omega⟩
    ·have hm0:=hn1 rfl;have s:=af w5<|Θ #[Ω Ψ 3,N] 50;have t0:=(s.block w<|by omega).trans f0
     go_wp2_with (at_builtin;refine fO rfl _ _ rfl wA _ _ rfl (hx5.alloc _) w5.heap.size _ (3,(N:Int)) rfl (by simp[go_sem,Z7]) (by omega) (by simp;omega) ?_;intro v' w8 H K no)
     have tT:=K.size;have aeF:kE (w.heap.size+1) wA w8:=λj hb hj=>(K.block j hj).trans<|(s.block j<|by omega).trans<|agQ j hb hj;have hw8:hQ w c (mA+(A.length+1)) w8:=hw5.upto hc0<|(s.mono<|by omega).trans<|K.mono<|by omega
     have t1:=(K.block w<|by omega).trans t0;have T:(A++[((3:Int),(N:Int))]).length=A.length+1:=by simp
     exact⟨⟨_,N+1,a,by rw[T];omega,by go_num,by go_num,by rw[T];go_num,hp.new,by omega,by omega,⟨aeF,by simp at tT;omega⟩,H,t1,by rw[T];exact hw8⟩,by simp[intOf];omega⟩
  ·have hln:=V (by omega:A.length=n);replace hx:=eV hx (by omega:w.heap.size+1<=wA);replace hlc:=dI hlc F;replace hle:=hle.keep F;replace hor:=dI hor F;replace XI:=dI XI F;replace hod:=dI hod F;have hbr:b<wr:=by omega
   have aoE:n<=40:=by omega
   generalize hmB:mA+A.length=mB at hw;have aoF:mB<=m+100100:=by omega
   have hcr:=hw.1.lt;clear x5 F hmA aiE hzA agO;obtain⟨⟨d0,d1,d2,d3⟩,-⟩:=dT e1;obtain⟨au,mu,rfl,-⟩:=aF hx
   go_upto_region 13 with(fail)
   clear d0;obtain⟨RL,hRL⟩:∃x,Hid (x=ph.roots.map (sv A)):=⟨_,V rfl⟩;obtain⟨WL,hWL⟩:∃x,Hid (x=ph.aA.map λx=>A.getD x.toNat (0,0)):=⟨_,V rfl⟩;obtain⟨DL,hDL⟩:∃x,Hid (x=ph.done.map λx=>A.getD x.toNat (0,0)):=⟨_,V rfl⟩;refine Rg.pT [.eq (.pointer (b,1)),.eq<|.slice ar ph.roots.length mr,.eq<|.slice au A.length mu,SP.ov (w.heap.size+1) RL,.eq<|.pointer (b,2),.eq<|.slice aw ph.aA.length mw,.eq<|.slice au A.length mu,SP.ov (w.heap.size+1) WL,.eq<|.pointer (b,3),.eq<|.slice ad ph.done.length md,.eq<|.slice au A.length mu,SP.ov (w.heap.size+1) DL,SP.agN (w.heap.size+1) RL WL DL,SP.Pn<|w.heap.size+1] (by kernel_rfl) (by kernel_rfl) (by rfl) ?_ ?_
   ·refine⟨?_,?_,?_,?_,?_,?_,?_,?_,?_,?_,?_,?_,?_,?_,trivial⟩
    all_goals intro x2 w2 W t q
    all_goals first|(have f0:=cG W d1 hbr;have f1:=cG W d2 hbr;have f2:=cG W d3 hbr;have k0:=t 5 rfl;have k1:=t 6 rfl;simp at k0 k1;(try have q0:=Rg.lT (q 0 _ rfl rfl) rfl);(try have q1:=Rg.lT (q 4 _ rfl rfl) rfl);(try have q2:=Rg.lT (q 8 _ rfl rfl) rfl);clear t q;go_simp;exact⟨_,rfl,.refl _ _,rfl⟩)|skip
    ·have e1:=Rg.lT (q 1 _ rfl rfl) rfl;have e2:=Rg.lT (q 2 _ rfl rfl) rfl;have hB:=(Z _ wr).drew.trans W;clear t q;go_simp;refine(KJ _ _ _ ph.roots A ((OV.below hor hB).reads) ((OV.below hx hB).reads) (λx hx h1=>by have h:=hok.roots x hx;have:=hln.out;unfold KL at h;omega) (by have:=hok.four;omega)).mono ?_;rintro e w3 ⟨⟨r,rfl,ho⟩,G⟩;replace ho:=ho.less (show w.heap.size+1<=_ by have:=hB.size;omega);rw[<-hRL.out]at ho;exact⟨_,rfl,G,ho⟩
    ·have e1:=Rg.lT (q 5 _ rfl rfl) rfl;have e2:=Rg.lT (q 6 _ rfl rfl) rfl;have hB:=(Z _ wr).drew.trans W;clear t q;go_simp;refine(KK _ _ _ ph.aA A ((OI.below XI hB).reads) ((OV.below hx hB).reads) (λx hx=>by have:=hok.aA.1.2 x hx;have:=hln.out;omega) (by have:=hok.aA.2;omega)).mono ?_;rintro e w3 ⟨⟨r,rfl,ho⟩,G⟩;replace ho:=ho.less (show w.heap.size+1<=_ by have:=hB.size;omega);rw[<-hWL.out]at ho;exact⟨_,rfl,G,ho⟩
    ·have e1:=Rg.lT (q 9 _ rfl rfl) rfl;have e2:=Rg.lT (q 10 _ rfl rfl) rfl;have hB:=(Z _ wr).drew.trans W;clear t q;go_simp;refine(KK _ _ _ ph.done A ((OI.below hod hB).reads) ((OV.below hx hB).reads) (λx hx=>by have:=hok.done.1.2 x hx;have:=hln.out;omega) (by have:=hok.done.2;omega)).mono ?_;rintro e w3 ⟨⟨r,rfl,ho⟩,G⟩;replace ho:=ho.less (show w.heap.size+1<=_ by have:=hB.size;omega);rw[<-hDL.out]at ho;exact⟨_,rfl,G,ho⟩
    ·have e1:OV w2 (w.heap.size+1) ((x2.tmps[59]?).getD undef) RL:=q 3 _ rfl rfl;have e2:OV w2 (w.heap.size+1) ((x2.tmps[63]?).getD undef) WL:=q 7 _ rfl rfl;have e3:OV w2 (w.heap.size+1) ((x2.tmps[67]?).getD undef) DL:=q 11 _ rfl rfl;obtain⟨y1,m1,f1,-⟩:=aF e1;obtain⟨y2,m2,f2,-⟩:=aF e2;obtain⟨y3,m3,f3,-⟩:=aF e3;rw[f1]at e1;rw[f2]at e2;rw[f3]at e3;clear t q;go_simp;exact⟨_,rfl,.refl _ _,_,_,_,rfl,e1,e2,e3⟩
    ·clear t q;go_simp;exact⟨_,rfl,af _ _,_,rfl,ω _ _,by have:=W.size;simp at this;omega⟩
   ·rintro vs w3 G ⟨_,_,_,_,_,_,_,_,_,_,_,_,⟨v0,v1,v2,s12,hv0,hv1,hv2⟩,⟨bx,s13,hbx,aoG⟩,_⟩;simp[go_sem,s12,s13];clear s12 s13;have hB:=(Z _ wr).drew.trans G;obtain⟨y0,m0,rfl,-⟩:=aF hv0;obtain⟨y1,m1,rfl,-⟩:=aF hv1;obtain⟨y2,m2,rfl,-⟩:=aF hv2;obtain⟨d,f⟩:=JJ hbx;have f0:=f 0;have f1:=f 1;have f2:=f 2;have f3:=f 3;have f4:=f 4;have f5:=f 5;have d0:=d 0 (by omega);have d1:=d 1 (by omega);have d2:=d 2 (by omega);have d3:=d 3 (by omega);have d4:=d 4 (by omega);have d5:=d 5 (by omega);clear d f
    go_wp2_with fail
    clear f0 f1 f2 f3 f4 f5 d0 d1 d2 d3 d4 d5;obtain⟨q1,q2,q3,q4⟩:=kn (v0:=()) (v1:=()) (v2:=.slice y0 RL.length m0) (v3:=.slice y1 WL.length m1) (v4:=.slice y2 DL.length m2) (v5:=()) hbx;have L:wX (w.heap.size+1) bx w3 (io w3 bx () () (.slice y0 RL.length m0) (.slice y1 WL.length m1) (.slice y2 DL.length m2) ()):=λj _ _ hj=>q2 j hj;have hwB:hQ w c mB _:=(hw.below hB).upto hc0<|q4 w<|by omega
    have aiF:=(Ξ.1 hbx).1;have z1:=(hB.block b hbr).trans e1;have hbne:b≠bx:=λe=>by rw[e,hbx]at z1;simp at z1
    have z1:=(q2 b hbne).trans z1;have z0:=(q2 w<|by omega).trans<|(hB.block w<|by omega).trans e0;have hxB:OX _ (w.heap.size+1) (.slice ac n mc) ph.cells:=OX.but (OX.keep ⟨lc,hlc,hle⟩<|kE.below hB) hbx L;have hxT:OV _ (w.heap.size+1) (.slice au A.length mu) A:=vX (dI hx<|kE.below hB) hbx (by decide) L;replace hv0:=vX hv0 hbx (by decide) L;replace hv1:=vX hv1 hbx (by decide) L;replace hv2:=vX hv2 hbx (by decide) L;rw[show(((((w3.setCell bx ()).setCell (bx,1) ()).setCell (bx,2)<|.slice y0 RL.length m0).setCell (bx,3)<|.slice y1 WL.length m1).setCell (bx,4)<|.slice y2 DL.length m2).setCell (bx,5) ()=io w3 bx () () (.slice y0 RL.length m0) (.slice y1 WL.length m1) (.slice y2 DL.length m2) ()from rfl];have hsz3:=hB.size;have aoH:=hlen;clear L hbx q2 q4 hw hB hlc hle hx e0 e1 G;generalize io w3 bx () () (.slice y0 RL.length m0) (.slice y1 WL.length m1) (.slice y2 DL.length m2) ()=B at q1 q3 hwB z1 z0 hxB hxT hv0 hv1 hv2⊢;have aeL:bx<B:=by omega
    have hbB:b<B:=by omega
    have aoI:w.heap.size<B:=by omega
    clear q3 aiF hsz3 hbr
    go_loopw [12] (λi wr=>∃(k:Nat) (xn xo xm:ZQ) (new old:List HC) (marked:List Int),k<=n/\i=Ω Ψ k/\JO ph A k new old marked/\marked.length<=k/\(wX (w.heap.size+1) bx B wr/\B.heap.size<=wr)/\wr.heap[bx]?=U (Θ #[xn,xo,.slice y0 RL.length m0,.slice y1 WL.length m1,.slice y2 DL.length m2,xm] 26 (0,0))/\OX wr B xn new/\OX wr B xo old/\Apart xn xo/\OI wr B xm marked/\wr.heap[w.heap.size]?=U (.cells aaf 26 (0,0))/\hQ w c (mB+k) wr) (λi _=>n-(intOf i).toNat)
    case atStart=>exact⟨0,_,_,_,[],[],[],Γ _,rfl,.nil _ _,Γ _,⟨λj _ _ _=>rfl,.refl⟩,q1,OX.nil _ _,OX.nil _ _,(λg e=>by cases e),OI.nil _ _,z0,hwB⟩
    case round=>
     clear z0 hwB;obtain⟨k,xn,xo,xm,new,old,marked,hkn,rfl,wO,hmk,⟨L,hzB⟩,g1,ho1,ho2,hap,P,g0,hw⟩:=hrel;have e1:=(L b (by omega) hbB hbne).trans z1;by_cases hlt:k<n
     ·obtain⟨⟨d1,-⟩,-⟩:=dT e1;have hbr:b<wr:=by omega
      have hxr:=(hxB.but q1 L).reads;have hT:=vX hxT q1 (by decide) L;have HX:=V hxr;obtain⟨a2,m2',he,_,_,S⟩:=hxr;simp only[ZP]at he;obtain⟨rfl,-,-⟩:=he;have hlk:=hok.len;obtain⟨bb,o,rfl,hbb,S⟩:=S (by omega);obtain⟨pk,vs,ek⟩:=cQ (by omega:k<ph.cells.length);obtain⟨c0,x,c1,hxv⟩:=S k pk vs ek;have hvl:=(hok.cells _<|Δ ek);clear S
      go_upto_region 17 with(fail)
      obtain⟨O,hVL⟩:∃x,Hid (x=vs.map (sv A)):=⟨_,V rfl⟩;refine Rg.pT [.eq (.pointer b),.eq<|.slice (bb,o) n mc,.eq<|Ω Ψ k,.eq<|.pointer (bb,o+k*2),.eq<|.pointer (bb,o+k*2),.eq pk,.eq<|.pointer b,.eq<|.slice (bb,o) n mc,.eq<|Ω Ψ k,.eq<|.pointer (bb,o+k*2),.eq<|.pointer (bb,o+k*2+1),.eq x,.eq<|.slice au A.length mu,SP.ov wr O,SP.cell wr pk O,SP.agJ wr] (by kernel_rfl) (by kernel_rfl) (by rfl) ?_ ?_
      ·refine⟨?_,?_,?_,?_,?_,?_,?_,?_,?_,?_,?_,?_,?_,?_,?_,?_,trivial⟩
       all_goals intro x2 w2 W t q
       all_goals first|(have f0:=cG W d1 hbr;have f1:=cG W c0 hbb;have f2:=cG W c1 hbb;have k0:=t 5 rfl;have k1:=t 6 rfl;have k2:=t 12 rfl;simp at k0 k1 k2;(try have q0:=Rg.lT (q 0 _ rfl rfl) rfl);(try have q1:=Rg.lT (q 1 _ rfl rfl) rfl);(try have q2:=Rg.lT (q 2 _ rfl rfl) rfl);(try have q3:=Rg.lT (q 3 _ rfl rfl) rfl);(try have q4:=Rg.lT (q 4 _ rfl rfl) rfl);(try have q5:=Rg.lT (q 6 _ rfl rfl) rfl);(try have q6:=Rg.lT (q 7 _ rfl rfl) rfl);(try have q7:=Rg.lT (q 8 _ rfl rfl) rfl);(try have q8:=Rg.lT (q 9 _ rfl rfl) rfl);(try have q9:=Rg.lT (q 10 _ rfl rfl) rfl);clear t q;go_simp;exact⟨_,rfl,.refl _ _,rfl⟩)|skip
       ·have e1':=Rg.lT (q 11 _ rfl rfl) rfl;have e2':=Rg.lT (q 12 _ rfl rfl) rfl;have hB:=(Z _ wr).drew.trans W;clear t q;go_simp;refine(KJ _ _ _ vs A (hxv.below hB) ((OV.below hT hB).reads) (λx hx h1=>by have h:=hvl.2 x hx;have:=hln.out;unfold KL at h;omega) (by have:=hvl.1;dsimp only at this;omega)).mono ?_;rintro e w3 ⟨⟨r,rfl,ho⟩,G⟩;replace ho:=ho.less (show wr.heap.size<=_ by have:=hB.size;omega);rw[<-hVL.out]at ho;exact⟨_,rfl,G,ho⟩
       ·have e1':=Rg.lT (q 5 _ rfl rfl) rfl;have e2':OV w2 wr ((x2.tmps[89]?).getD undef) O:=q 13 _ rfl rfl;obtain⟨ay,my,f1,-⟩:=aF e2';rw[f1]at e2';clear t q;go_simp;exact⟨_,rfl,.refl _ _,_,rfl,e2'⟩
       ·clear t q;go_simp;exact⟨_,rfl,af _ _,_,rfl,ω _ _,by have:=W.size;simp at this;omega⟩
      ·rintro fb w3 G ⟨_,_,_,_,_,_,_,_,_,_,_,_,_,_,⟨y,s14,hy⟩,⟨gb,s15,hgb,agR⟩,_⟩;simp[go_sem,s14,s15];clear s14 s15;have hB:=(Z _ wr).drew.trans G;obtain⟨ay,my,rfl,-⟩:=aF hy;obtain⟨c0',c1',f0',f1'⟩:=f6 hgb;clear c0 c1 d1
       go_upto_region 18 with(fail)
       have hBW:I wr wr ((w3.setCell gb pk).setCell (gb,1)<|.slice ay O.length my):=(hB.setCell (p:=(gb:ZN)) agR _).setCell (p:=((gb,1):ZN)) agR _;have fl:OV _ wr (.slice ay O.length my) O:=vX (w':=(w3.setCell gb pk).setCell (gb,1)<|.slice ay O.length my) hy hgb (by decide) λj _ _ hj=>(aa hj).trans<|aa hj;have X:=heap_setCell_same (i:=1) (v:=.slice ay O.length my)<|heap_setCell_same (i:=0) (v:=Ω Ψ pk) hgb;clear c0' c1' f0' f1' hy hgb hB G;generalize (w3.setCell gb pk).setCell (gb,1) (.slice ay O.length my)=w5 at hBW fl X⊢;have X:w5.heap[gb]?=U (Θ #[pk,.slice ay O.length my] 76 (0,0)):=X;have KU:=hBW.size;have hk5:kE B wr w5:=kE.below hBW;have aeO:wX (w.heap.size+1) bx B w5:=λj hb hj hn=>(hBW.block j<|by omega).trans<|L j hb hj hn;have g1:=(hBW.block bx<|by omega).trans g1;have g0:=(hBW.block w<|by omega).trans g0;replace ho1:=ho1.keep hk5;replace ho2:=ho2.keep hk5;replace P:=dI P hk5;replace hw:=hw.below hBW;have hT5:=(OV.below hT hBW).reads;clear hT hBW L e1 hxv hbb hbr;obtain⟨a3,m3,he,_,_,S⟩:=hT5;simp only[ZP]at he;obtain⟨rfl,-,-⟩:=he;obtain⟨bt,ot,rfl,hbt,S⟩:=S (by have:=hln.out;omega);obtain⟨p2,q2,e2⟩:=ep (show k<A.length by have:=hln.out;omega);obtain⟨t0,t1⟩:=S k p2 q2 e2;have hp2:=hp.at_ _<|Δ e2;dsimp only at hp2;have aiG:gb<w5:=(Ξ.1 X).1;clear S;have hkl:k<A.length:=by have:=hln.out;omega
       obtain⟨l1,u,C⟩:=ho1;obtain⟨a1,n1,rfl,-⟩:=aF u;obtain⟨l2,z,D⟩:=ho2;obtain⟨a2',n2,rfl,-⟩:=aF z;obtain⟨a3',n3,rfl,-⟩:=aF P;obtain⟨r0,r1,-,-,-,r5⟩:=sS g1;obtain⟨x0,x1,-,-⟩:=f6 X;have hfr:∀i,w5.frozen? ⟨bx,i,Y⟩=Z8:=λi=>cD g1;have hl1:new.length<=n:=by have:=wO.news;have:=hp.news;have:=ZC (p:=λv:HV=>v.1==3) (l:=A.take k);simp at this;omega
       have hl2:old.length<=n:=by have:=wO.bw;have:=ZC (p:=λv:HV=>v.1==4) (l:=A.take k);simp at this;omega
       have hh1:=V C.1;have hh2:=V D.1;clear hlen2;obtain⟨rfl,-⟩|⟨rfl,-⟩:=hp2
       ·have s:=af w5 (Θ #[pk,.slice ay O.length my] 76);have hxk:=u.below s
        go_wp2_with (at_builtin;refine JU rfl _ _ rfl B _ _ rfl hxk w5.heap.size _ (pk,.slice ay O.length my) rfl rfl (by simp[go_sem,Z7]) (by have:=hh1.out;omega) (by simp;omega) ?_;intro v' w6 J E Re hn6;obtain⟨a6,m6,rfl,-⟩:=aF J;have t1:=(E.block bx<|by omega).trans<|(s.block bx<|by omega).trans g1;obtain⟨s0,-⟩:=sS t1;have sf:=λi=>cD (i:=i) t1)
        have Rf:HO w6 B (l1++[(pk,.slice ay O.length my)]) (new++[(pk,O)]):=((C.snoc<|fl.less (by omega:B.heap.size<=wr)).keep<|kE.below s).types hxk Re;have agS:=uW (z.below s) hap.symm Re;have agT:=(D.keep<|kE.below s).types hxk Re;have ae3:=fy (OI.below P s) hxk (by decide) Re;have aag:Apart (.slice a6 (l1++[(pk,ZU ay O.length my)]).length m6) (.slice a2' l2.length n2):=λg e1 e2=>by
         obtain hn|hn:=hn6
         exact hap g (hn.symm.trans e1) e2;rw[hn]at e1;have:=(z.lt g e2).2;simp at e1;omega
        have T:(l1++[(pk,ZU ay O.length my)]).length=l1.length+1:=by simp
        rw[T]at J aag;have Xe:=E.size;simp at Xe;have Q:kE B w6 (w6.setCell bx<|.slice a6 (l1.length+1) m6):=kE.set aeL;have ae6:wX (w.heap.size+1) bx B (w6.setCell bx<|.slice a6 (l1.length+1) m6):=λj hb hj hn=>(aa hn).trans<|(E.block j hj).trans<|(s.block j<|by omega).trans<|aeO j hb hj hn;have hw7:hQ w c (mB+(k+1)) (w6.setCell bx<|.slice a6 (l1.length+1) m6):=(hw.upto hc0<|((s.mono<|by omega).trans<|E.mono<|by omega).setCell (p:=(bx:ZN)) (by show w.heap.size<=bx;omega) _).more (by omega);have t0':=(E.block w<|by omega).trans<|(s.block w<|by omega).trans g0;have wP:=wO.Pi e2 rfl<|Δ ek;dsimp only at wP;rw[<-hVL.out]at wP
        go_roundw
        case rel=>exact⟨k+1,_,_,_,_,_,_,by omega,by go_num,wP,by omega,⟨ae6,by simp;omega⟩,heap_setCell_same (i:=0) t1,OX.keep ⟨_,J,Rf⟩ Q,OX.keep ⟨_,agS,agT⟩ Q,aag,dI ae3 Q,(aa<|by omega).trans t0',hw7⟩
        case measure=>simp[intOf];omega
       ·clear r0 r1 r5 x0 x1 hfr t1
        go_wp2_with fail
        refine(Kt _ c _ 4 hw.1 (by omega) (by omega)<|by omega).mono ?_;rintro e w6 ⟨⟨nb,rfl⟩,hw6⟩;have hkw:kE (w.heap.size+1) w5 w6:=kE.oq hw6 (by omega);have Xc:kE B w5 w6:=kE.oq hw6 (by omega);have Xe:=hw6.2.size;have g1:=(hkw bx (by omega)<|by omega).trans g1;have X:=(hkw gb (by omega) aiG).trans X;have g0:=(hw6.2.block w (by omega) (by simp;omega)).trans g0;have aah:wX (w.heap.size+1) bx B w6:=λj hb hj hn=>(hkw j hb<|by omega).trans<|aeO j hb hj hn;have fl:=dI fl (kE.oq hw6 (by omega):kE wr w5 w6);replace hw6:hQ w c (mB+(k+1)) w6:=hw.trans hw6;replace u:=dI u Xc;replace z:=dI z Xc;replace P:=dI P Xc;replace C:=C.keep Xc;replace D:=D.keep Xc;have aoL:gb<w6:=by omega
        clear hkw Xc hw aeO t0;obtain⟨x0,x1,-,-⟩:=f6 X;have HY:=V<|OV.reads fl
        go_wp2_with fail
        go_loopw [14,15] (λyv iv wx=>∃(j:Nat) (nb:Bool),yv=.bool nb/\j<=O.length/\iv=Ω Ψ j/\(nb=Z8->(O.take j).any dy=Z8)/\wx=w6) (λ_ iv _=>O.length-(intOf iv).toNat)
        case atStart=>exact⟨0,nb,rfl,Γ _,rfl,(λ_=>rfl),rfl⟩
        case round=>
         obtain⟨j,nb,rfl,hj,rfl,hnb,hwx⟩:=hrel;replace hwx:=hwx.symm;subst hwx;by_cases hlj:j<O.length
         ·obtain⟨a4,m4,he,_,_,S⟩:=HY.out;simp only[ZP]at he;obtain⟨rfl,-,-⟩:=he;obtain⟨b4,o4,rfl,hb4,S⟩:=S (by omega);obtain⟨p4,q4,e4⟩:=ep hlj;obtain⟨d0,d1⟩:=S j p4 q4 e4;clear S;cases nb
          ·by_cases h3:p4=3
           ·subst h3
            go_wp2_with fail
            exact⟨⟨j+1,ZO,rfl,by omega,by go_num,(λh=>by cases h),trivial⟩,by simp[intOf];omega⟩
           ·have h3':(p4==3)=Z8:=by simp[h3]
            go_wp2_with fail
            exact⟨⟨j+1,Z8,rfl,by omega,by go_num,(λ_=>by rw[bW e4,Zv,hnb rfl];simp[dy,h3]),trivial⟩,by simp[intOf];omega⟩
          ·go_wp2_with fail
           exact⟨⟨j+1,ZO,rfl,by omega,by go_num,(λh=>by cases h),trivial⟩,by simp[intOf];omega⟩
         ·have hyc:jW (pk,O)=ZO->nb=ZO:=λh=>by
           cases nb
           have:=hnb rfl;rw[υ (by omega)]at this;exact this.symm.trans h;rfl
          have HYC:=V hyc;clear hnb hyc;obtain⟨-,r1,-,-,-,r5⟩:=sS g1;have hfr:∀i,w6.frozen? ⟨bx,i,Y⟩=Z8:=λi=>cD g1
          go_upto_if 122 with(fail)
          go_cut []from 123 to 130 λwx=>∃xm',wx.heap[bx]?=U (Θ #[.slice a1 l1.length n1,.slice a2' l2.length n2,.slice y0 RL.length m0,.slice y1 WL.length m1,.slice y2 DL.length m2,xm'] 26 (0,0))/\OI wx B xm' (if nb then marked++[(l2.length:Int)]else marked)/\(OC wx B (.slice a1 l1.length n1) l1/\HO wx B l1 new)/\(OC wx B (.slice a2' l2.length n2) l2/\HO wx B l2 old)/\OV wx B (.slice ay O.length my) O/\wx.heap[gb]?=U (Θ #[pk,.slice ay O.length my] 76 (0,0))/\wX (w.heap.size+1) bx B wx/\B.heap.size<=wx/\wx.heap[w.heap.size]?=U (.cells aaf 26 (0,0))/\hQ w c (mB+(k+1)) wx
          case first=>
           cases nb
           ·go_wp2_with fail
            go_meet
            exact⟨_,g1,P,⟨u,C⟩,⟨z,D⟩,OV.less fl<|by omega,X,aah,by omega,g0,hw6⟩
           ·have s:=af w6 (Θ #[l2.length] 3);have hI:=OI.below P s
            go_wp2_with (at_builtin;refine od rfl _ _ rfl B _ _ rfl hI w6.heap.size _ (l2.length:Int) rfl (by simp[go_sem,Z7]) (by omega) (by simp;omega) ?_;intro v' w8 H K no;obtain⟨a8,m8,rfl,-⟩:=aF H;have t1:=(K.block bx<|by omega).trans<|(s.block bx<|by omega).trans g1;obtain⟨-,-,-,-,-,s0⟩:=sS t1;have sf:=λi=>cD (i:=i) t1)
            go_meet
            have T:(marked++[(l2.length:Int)]).length=marked.length+1:=by simp
            rw[T]at H;have tT:=K.size;simp at tT;have Q:kE B w8 (w8.setCell (bx,5)<|.slice a8 (marked.length+1) m8):=kE.set aeL;have hHO:∀{l:List (Int×ZQ)} {cs:List HC},HO w6 B l cs->HO w8 B l cs:=λh=>⟨h.1,λi k x k' vs e1 e2=>⟨(h.2 i k x k' vs e1 e2).1,fy (OV.below (h.2 i k x k' vs e1 e2).2 s) hI (by decide) no⟩⟩;have aaT:=(s.block gb<|by omega).trans X;have aaT:=(no.block gb (by simp;omega) λe=>eJ hI aaT (by decide) e.symm).trans aaT;have aiJ:gb≠bx:=by omega
            have hk8:wX (w.heap.size+1) bx B (w8.setCell (bx,5)<|.slice a8 (marked.length+1) m8):=λj hb hj hn=>(aa hn).trans<|(K.block j hj).trans<|(s.block j<|by omega).trans<|aah j hb hj hn;have hw8:hQ w c (mB+(k+1)) (w8.setCell (bx,5)<|.slice a8 (marked.length+1) m8):=hw6.upto hc0<|((s.mono<|by omega).trans<|K.mono<|by omega).setCell (p:=((bx,5):ZN)) (by show w.heap.size<=bx;omega) _;have t0':=(K.block w<|by omega).trans<|(s.block w<|by omega).trans g0;exact⟨_,heap_setCell_same (i:=5) t1,dI H Q,⟨dI (fy (OC.below u s) hI (by decide) no) Q,(hHO C).keep Q⟩,⟨dI (fy (OC.below z s) hI (by decide) no) Q,(hHO D).keep Q⟩,dI (fy (OV.below (OV.less fl<|by omega) s) hI (by decide) no) Q,(aa aiJ).trans aaT,hk8,by simp;omega,(aa<|by omega).trans t0',hw8⟩
          case rest=>
           obtain⟨xm',g1,P,⟨u,C⟩,⟨z,D⟩,fl,X,aah,Xe,g0,hw6⟩:=hcut;generalize wc=w5 at g1 P u C z D fl X aah Xe g0 hw6⊢;obtain⟨ax,mx,rfl,-⟩:=aF P;obtain⟨-,r1,-,-,-,-⟩:=sS g1;obtain⟨x0,x1,-,-⟩:=f6 X;have s:=af w5<|Θ #[pk,.slice ay O.length my] 76;have hxk:=z.below s
           go_wp2_with (at_builtin;refine JU rfl _ _ rfl B _ _ rfl hxk w5.heap.size _ (pk,.slice ay O.length my) rfl rfl (by simp[go_sem,Z7]) (by have:=hh2.out;omega) (by simp;omega) ?_;intro v' w7 J E Re hn6;obtain⟨a6,m6,rfl,-⟩:=aF J;have t1:=(E.block bx<|by omega).trans<|(s.block bx<|by omega).trans g1;obtain⟨-,s0,-⟩:=sS t1;have sf:=λi=>cD (i:=i) t1)
           have Rf:HO w7 B (l2++[(pk,.slice ay O.length my)]) (old++[(pk,O)]):=((D.snoc fl).keep<|kE.below s).types hxk Re;have agU:=uW (OC.below u s) hap Re;have agV:=(C.keep<|kE.below s).types hxk Re;have ae3:=fy (OI.below P s) hxk (by decide) Re;have aag:Apart (.slice a1 l1.length n1) (.slice a6 (l2++[(pk,ZU ay O.length my)]).length m6):=λg e1 e2=>by
            obtain hn|hn:=hn6
            exact hap g e1<|hn.symm.trans e2;rw[hn]at e2;have:=(u.lt g e1).2;simp at e2;omega
           have T:(l2++[(pk,ZU ay O.length my)]).length=l2.length+1:=by simp
           rw[T]at J aag;have hz7:=E.size;simp at hz7;have Q:kE B w7 (w7.setCell (bx,1)<|.slice a6 (l2.length+1) m6):=kE.set aeL;have ae6:wX (w.heap.size+1) bx B (w7.setCell (bx,1)<|.slice a6 (l2.length+1) m6):=λj hb hj hn=>(aa hn).trans<|(E.block j hj).trans<|(s.block j<|by omega).trans<|aah j hb hj hn;have hw7:hQ w c (mB+(k+1)) (w7.setCell (bx,1)<|.slice a6 (l2.length+1) m6):=hw6.upto hc0<|((s.mono<|by omega).trans<|E.mono<|by omega).setCell (p:=((bx,1):ZN)) (by show w.heap.size<=bx;omega) _;have t0':=(E.block w<|by omega).trans<|(s.block w<|by omega).trans g0;have wP:=wO.aeC e2 rfl (Δ ek) nb (by dsimp only;rw[<-hVL.out];exact HYC.out);dsimp only at wP;rw[<-hVL.out,<-hh2.out]at wP
           go_roundw
           case rel=>exact⟨k+1,_,_,_,_,_,_,by omega,by go_num,wP,(by cases nb<;>simp<;>omega),⟨ae6,by simp;omega⟩,heap_setCell_same (i:=1) t1,OX.keep ⟨_,agU,agV⟩ Q,OX.keep ⟨_,J,Rf⟩ Q,aag,dI ae3 Q,(aa<|by omega).trans t0',hw7⟩
           case measure=>simp[intOf];omega
     ·obtain⟨l1,u,C⟩:=ho1;obtain⟨a1,n1,rfl,-⟩:=aF u;obtain⟨l2,z,D⟩:=ho2;obtain⟨a2,n2,rfl,-⟩:=aF z;obtain⟨a3,n3,rfl,-⟩:=aF P;obtain⟨⟨d1,-⟩,-⟩:=dT e1;obtain⟨r0,r1,r2,r3,r4,r5⟩:=sS g1;obtain⟨d,f⟩:=JJ g0;have f0:=f 0;have f1:=f 1;have f2:=f 2;have f3:=f 3;have f4:=f 4;have f5:=f 5;have d0':=d 0 (by omega);have d1':=d 1 (by omega);have d2':=d 2 (by omega);have d3':=d 3 (by omega);have d4':=d 4 (by omega);have d5':=d 5 (by omega);clear d f
      go_wp2_with fail
      obtain⟨s1,s2,s3,s4⟩:=kn (v0:=.slice a1 l1.length n1) (v1:=.slice a2 l2.length n2) (v2:=.slice y0 RL.length m0) (v3:=.slice y1 WL.length m1) (v4:=.slice y2 DL.length m2) (v5:=.slice a3 marked.length n3) g0;rw[show(((((wr.setCell w.heap.size<|.slice a1 l1.length n1).setCell (w.heap.size,1)<|.slice a2 l2.length n2).setCell (w.heap.size,2)<|.slice y0 RL.length m0).setCell (w.heap.size,3)<|.slice y1 WL.length m1).setCell (w.heap.size,4)<|.slice y2 DL.length m2).setCell (w.heap.size,5) (.slice a3 marked.length n3)=io wr w (.slice a1 l1.length n1) (.slice a2 l2.length n2) (.slice y0 RL.length m0) (.slice y1 WL.length m1) (.slice y2 DL.length m2) (.slice a3 marked.length n3)from rfl];have hwf:=(hw.upto hc0<|s4 w .refl).more (by omega:mB+k<=m+200000);have kb:kE (w.heap.size+1) wr (io wr w (.slice a1 l1.length n1) (.slice a2 l2.length n2) (.slice y0 RL.length m0) (.slice y1 WL.length m1) (.slice y2 DL.length m2)<|.slice a3 marked.length n3):=λj hb _=>s2 j (by omega);have afh:kE B wr (io wr w (.slice a1 l1.length n1) (.slice a2 l2.length n2) (.slice y0 RL.length m0) (.slice y1 WL.length m1) (.slice y2 DL.length m2)<|.slice a3 marked.length n3):=λj hb _=>s2 j (by omega);have hle:w.heap.size<=B:=by omega
      have hown:Pd _ w (.agg #[.slice a1 l1.length n1,.slice a2 l2.length n2,.slice y0 RL.length m0,.slice y1 WL.length m1,.slice y2 DL.length m2,.slice a3 marked.length n3]) ⟨new,old,RL,WL,DL,marked⟩:=⟨_,_,_,_,_,_,rfl,(OX.keep ⟨l1,u,C⟩ afh).less hle,(OX.keep ⟨l2,z,D⟩ afh).less hle,eV (dI (vX hv0 q1 (by decide) L) kb)<|by omega,eV (dI (vX hv1 q1 (by decide) L) kb)<|by omega,eV (dI (vX hv2 q1 (by decide) L) kb)<|by omega,eV (dI P afh) hle⟩
      generalize io wr w (.slice a1 l1.length n1) (.slice a2 l2.length n2) (.slice y0 RL.length m0) (.slice y1 WL.length m1) (.slice y2 DL.length m2) (.slice a3 marked.length n3)=wf at s1 hwf hown⊢;obtain⟨k0,k1,k2,k3,k4,k5⟩:=sS s1;have hkn':k=n:=by omega
      subst hkn';have hV:=Rp hp hN hM hok hln.out wO;rw[<-hRL.out,<-hWL.out,<-hDL.out]at hV;have hlen':new.length+old.length<=tG:=by have a1:=wO.news;have a2:=wO.bw;have a3:=hln.out;rw[υ (by omega)]at a1 a2;rw[hp.news]at a1;rw[hp.bw]at a2;have:=hp.len;omega
      exact Z0 (v:=.agg #[.slice a1 l1.length n1,.slice a2 l2.length n2,.slice y0 RL.length m0,.slice y1 WL.length m1,.slice y2 DL.length m2,.slice a3 marked.length n3]) (by simp[ZL,results20,go_sem,k0,k1,k2,k3,k4,k5]) rfl ⟨⟨_,_,rfl,hown,hV,hlen'⟩,hwf⟩
end
section
variable{fr:Nat×Nat}{J:Nat->Prop}{r:Md.RS}{t:TypeId}{x:ZQ}{b br:Nat}{w:ι}{B:Nat}{k:Int}
def tV{ty}{m bx:Nat}{a l}(h:RC w B (.slice a l.length m) l)(D:w.heap[bx]?=U (Θ #[Ω Ψ k,x] t fr))(E:x.oneCell'=ZO)(L:l.length<=1000000):
 ∃b w',(Builtin.append_ #[22,22] ty #[.slice a l.length l.length,.slice bx 1 1]).run prog w=.ok b w'/\(OC w' w b (l++[(k,x)])/\I w w w'/\∃g r,b=.slice (g:Nat) (l.length+1) r):=by
 obtain⟨A,hi,i,o,p⟩:=Zs ni;have c:∀j u,(dW (k,x))[j]?=U u->w ((bx:ZN).add j)=U u:=by
  intro j u f
  match j,f with
  |0,f=>cases f;simp[ψ,D,Z7]
  |1,f=>cases f;simp[ψ,D,Z7]
  |j+2,f=>simp[dW]at f
 have y:∀u∈dW (k,x),u.oneCell'=ZO:=by
  intro u C;simp[dW]at C;obtain rfl|rfl:=C
  rfl;exact E
 have fin:∀b w',w'.ownsRow w 76 2 b (l.length+1) (l.flatMap dW++dW (k,x)) ->OC w' w b (l++[(k,x)])/\∃g r,b=.slice (g:Nat) (l.length+1) r:=by
  intro b w' r1;have s:OC w' w b (l++[(k,x)]):=by unfold OC;rw[List.flatMap_append,Zz];simpa using r1
  refine⟨s,?_⟩;obtain⟨g,v,e,_⟩:=r1.form (by omega);exact⟨g,v,e⟩
 obtain⟨H,r,e,K,G,F,J⟩:=id h;cases e
 obtain _|ad:=a
 have q:l=[]:=ZH (by have:=F rfl;omega);subst q;obtain⟨b,w',d,r1,r2,_⟩:=run_append_own (P:=prog) w w 22 ty 76 A _ 2 32 mF hi i o p rfl (by decide) (ZU Y 0 0) 0 [] (World.ownsRow_nil w _ 76 2) bx 1 1 (dW (k,x)) rfl c y (by unfold Zt;omega) (by omega) .refl;obtain⟨q1,z⟩:=fin b w' (by simpa using r1);exact⟨b,w',d,q1,(Z _ w).grown r2 .refl (λk e=>by cases e),z⟩;obtain⟨b,w',d,r1,r2⟩:=run_append_arg_grows (P:=prog) w 22 ty 76 A _ 2 32 mF hi i o p rfl (by decide) ad l.length l.length (l.flatMap dW) (iu l) (λj u f=>by
  have n:0<l.length:=by
   obtain h0|h0:=Nat.eq_zero_or_pos l.length
   have:=ZH h0;subst this;simp at f;exact h0
  obtain⟨g,m2,e,_,_,_,_,hc⟩:=h.cells n;cases e
  have:=hc j u f;unfold Z7;split
  rename_i h0;subst h0;exact this;simpa using this) bx 1 1 (dW (k,x)) rfl c (by omega) (by unfold Zt;omega) (by omega)
 obtain⟨q1,z⟩:=fin b w' r1;exact⟨b,w',d,q1,(Z _ w).grown r2 .refl (λk e=>by cases e),z⟩
def mJ{ty}{m bx n:Nat}{a l}(f:l.length=n)(h:RC w B (.slice a l.length m) l)(i:w.heap[bx]?=U (Θ #[Ω Ψ k,x] t fr))(d:x.oneCell'=ZO)(c:l.length<=1000000):
 ∃b w',(Builtin.append_ #[22,22] ty #[.slice a n n,.slice bx 1 1]).run prog w=.ok b w'/\(OC w' w b (l++[(k,x)])/\I w w w'/\∃g e,b=.slice (g:Nat) (n+1) e):=by
 subst f;exact tV h i d c
def wQ{row a kind cs c}(h:∀i,i<cs.length->a (kind,(i:Int))=row (kind,(i:Int))):cellsOf a kind (cs++[c])=cellsOf row kind cs++[(c.1,a (kind,(cs.length:Int)))]:=by
 apply List.ext_getElem?;intro i;obtain hi|hi|hi:=Zw i cs.length
 obtain⟨p,q,e⟩:=cQ hi;rw[bH (row:=a) (kind:=kind) (c:=(p,q)) (by rw[Z1 hi];exact e),Z1 (by rw[aT];exact hi),bH e,h i hi];subst hi;rw[bH (row:=a) (kind:=kind) (c:=c) (by simp)];simp[aT];rw[ZB (by rw[aT];simp;omega),ZB (by simp[aT];omega)]
def cR.Pi{w2 g n o m s row vs}(S:∀j,J j->j<w)(L:∀j,J j->j≠b/\∀k,IsKey g k->(row k).ownBlock≠U j)(N:B<=b)(hb:w.heap[b]?=U (Θ #[n,o,row (0,0),row (0,1),row (0,2),m] 114 (0,0)))(O:RC w B o (cellsOf row 4 g.old))(T:OI w B m g.marked)(G:kD w B row g)(v:B<=w)(u:I w w w2)(E:OC w2 B s (cellsOf row 3 g.new++[(k,x)]))(H:OV w2 w x vs):
 cR (w2.setCell b s) B b {g with new:=g.new++[(k,vs)]} J/\I B w (w2.setCell b s):=by
 have f:=(u.block b (Ξ.1 hb).1).trans hb;have l:∀k,k≠b->(w2.setCell b s).heap[k]?=w2.heap[k]?:=λk h=>aa h;have keep:∀i:Nat,i<g.new.length->(if((3,(i:Int)):HV)=(3,(g.new.length:Int))then x else row (3,(i:Int)))=row (3,(i:Int)):=λi hi=>if_neg λe=>by have:=congrArg Prod.snd e;dsimp only at this;omega
 have hold:∀d,IsKey {g with new:=g.new++[(k,vs)]} d->d≠(3,(g.new.length:Int)) ->IsKey g d/\bd {g with new:=g.new++[(k,vs)]} d=bd g d:=by
  rintro⟨a,c⟩ h z;obtain⟨e1,e2,e3⟩|⟨e1,e2,e3⟩|⟨e1,e2,e3⟩:=h
  dsimp only at e1 e2 e3;subst e1;exact⟨.inl ⟨rfl,e2,e3⟩,by simp[bd]⟩;dsimp only at e1 e2 e3;subst e1;have F:c<g.new.length:=by have:c≠g.new.length:=λe=>z (by rw[e]);simp at e3;omega
  refine⟨.inr<|.inl ⟨rfl,e2,F⟩,?_⟩;simp only[bd,cellAt];have:c.toNat<g.new.length:=by omega
  simp[ZY,Z1 this];dsimp only at e1 e2 e3;subst e1;exact⟨.inr<|.inr ⟨rfl,e2,e3⟩,by simp[bd,cellAt]⟩
 refine⟨⟨s,o,m,λd=>if d=(3,(g.new.length:Int))then x else row d,N,?_,?_,?_,?_,⟨?_,?_⟩,?_⟩,?_⟩;rw[aB f];simp;dsimp only;rw[wQ (row:=row) (λi hi=>keep i hi),if_pos rfl];exact OC.rc (B:=B)<|hZ E f (by decide) l;have:cellsOf (λd=>if d=(3,(g.new.length:Int))then x else row d) 4 g.old=cellsOf row 4 g.old:=by
  unfold cellsOf;refine List.map_congr_left λy _=>?_;have Q:¬((4,(y.2:Int)):HV)=(3,(g.new.length:Int)):=λe=>by have:=congrArg Prod.fst e;simp at this
  simp only[if_neg Q]
 dsimp only;rw[this];exact(O.low u).below λC P t=>l C λe=>by subst e;rw[f]at t;cases t
 ·exact hZ (T.below u) f (by decide) l
 intro d q;dsimp only;by_cases e:d=(3,(g.new.length:Int))
 subst e;rw[if_pos rfl];have:bd {g with new:=g.new++[(k,vs)]} (3,(g.new.length:Int))=vs:=by simp[bd,cellAt,ZY]
 rw[this];exact eV (hZ H f (by decide) l) v;rw[if_neg e];obtain⟨e1,e2⟩:=hold d q e;rw[e2];exact hZ ((G.1 d e1).below u) f (by decide) l;intro A D e1 e2 r;dsimp only;have wl:∀d,IsKey g d->Apart x (row d):=λd q C a1 W=>by have:=(H.lt C a1).1;have:=((G.1 d q).lt C W).2;omega
 by_cases c1:A=(3,(g.new.length:Int))<;>by_cases c2:D=(3,(g.new.length:Int))
 exact absurd (c1.trans c2.symm) r;rw[if_pos c1,if_neg c2];exact wl _ (hold D e2 c2).1;rw[if_neg c1,if_pos c2];exact Apart.symm<|wl _ (hold A e1 c1).1;rw[if_neg c1,if_neg c2];exact G.2 A D (hold A e1 c1).1 (hold D e2 c2).1 r;intro j K;refine⟨(L j K).1,λd q e=>?_⟩;dsimp only at e;by_cases c1:d=(3,(g.new.length:Int))
 rw[if_pos c1]at e;have:=(H.lt j e).1;have:=S j K;omega;rw[if_neg c1]at e;exact(L j K).2 d (hold d q c1).1 e;exact(u.mono v).setCell (p:=⟨b,0,Y⟩) N _
def Aj(k:Nat):Prop:=∀W:ι,OV (W.alloc<|.cells (ZW #[Ω Ψ 0,Ω Ψ 0]<|k*2) 50) W (.slice W.heap.size k k) (ZV k (0,0))
def Jy:Aj 1:=λW=>⟨rfl,.inr ⟨W.heap.size,1,_,rfl,.refl,ω _ _,.refl,by unfold Zt;omega,by kernel_rfl,by kernel_rfl⟩⟩
def bD.more(h:bD w B br b r J):bD w B br b r (λj=>J j\/w.heap.size<=j):=by
 obtain⟨l,i,⟨n,o,m,row,p,hb,g,f,q,c,g5⟩,s⟩:=h;refine⟨l,i,⟨n,o,m,row,p,hb,g,f,q,c,λj a=>?_⟩,λj a=>?_⟩;obtain a|a:=a
 ·exact g5 j a
 refine⟨λe=>?_,λk d e=>?_⟩
 ·grind
 have:=((c.1 k d).lt j e).2;omega
 grind
def bD.sub{J'}(h:bD w B br b r J)(hs:∀j,J' j->J j):bD w B br b r J':=by obtain⟨g,f,⟨n,o,m,row,i,hb,e,d,l,c,g5⟩,k⟩:=h;exact⟨g,f,⟨n,o,m,row,i,hb,e,d,l,c,λj a=>g5 j<|hs j a⟩,λj a=>k j<|hs j a⟩
def bD.ne(h:bD w B br b r J):¬br=b:=λe=>by
 obtain⟨_,d,a,_⟩:=h;obtain⟨_,_,c,hc⟩:=a.own.obj
 grind
def bD.free{w' j c}(h:bD w B br b r J)(s:J j)(hc:w.heap[j]?=U (.cells c t fr))(p:t≠76/\t≠3)(d:∀k,k≠j->w'.heap[k]?=w.heap[k]?):bD w' B br b r J:=by
 obtain⟨C,z,⟨n,o,m,row,E,hb,D,A,F,x,g5⟩,y⟩:=h;have v:∀{k:Nat} {u:Array ZQ} {l:TypeId} {f:Nat×Nat},w.heap[k]?=U (.cells u l f) ->t≠l->w'.heap[k]?=w.heap[k]?:=λ{k u l f} a G=>d k λe=>by grind
 exact⟨C,(d br<|Ne.symm<|y j s).trans z,⟨n,o,m,row,E,(d b<|Ne.symm (g5 j s).1).trans hb,D.below λg q i=>v i p.1,A.below λg q i=>v i p.1,hZ F hc p.2 d,⟨λk a=>aS (x.1 k a) λg i=>d g λe=>(g5 j s).2 k a<|by grind,x.2⟩,g5⟩,y⟩
def bD.Pi{w w2 B q b r J x k vs}(h:bD w B q b r J)(E:∀j,J j->j<w)(s:B<=w)(u:I w w w2)(G:OV w2 w x vs):
 ∃a m row,w b=U (.slice a r.g.new.length m)/\r.g.new.length<=m/\RC w B (.slice a (cellsOf row 3 r.g.new).length m) (cellsOf row 3 r.g.new)/\(cellsOf row 3 r.g.new).length=r.g.new.length/\
  ∀d f,I w2 w2 d->OC d B f (cellsOf row 3 r.g.new++[(k,x)]) ->bD (d.setCell b f) B q b {r with g:={r.g with new:=r.g.new++[(k,vs)]}} J/\I B w (d.setCell b f)/\tc J w (d.setCell b f):=by
 have p:=h.ne;obtain⟨A,t,⟨n,o,m,row,L,hb,y,z,O,C,g5⟩,F⟩:=h;obtain⟨a,H,e,v,P,S,Q⟩:=id y;refine⟨a,H,row,?_,?_,e▸y,aT _ _ _,λd f i l=>?_⟩;rw[aT]at e;rw[<-e];simp[ψ,hb];rw[aT]at v;exact v;have c:=u.trans<|i.mono u.size;obtain⟨q1,N⟩:=cR.Pi E g5 L hb z O C s c l<|G.below i;refine⟨⟨A,?_,q1,F⟩,N,λj K D=>?_⟩;rw[aa p,c.block q (Ξ.1 t).1];exact t;rw[aa (g5 j K).1,c.block j D]
def afi(w B N b k r r')(hr:bD w B N b r J)(hB:B<=w)(hJ:∀j,J j->j<w)(hm:Roomy r r')(hz:Aj k)(hk:k<=1000)(hl:r'.g.new.length<=1000):
 R prog 202 #[.pointer N,Ω Ψ 0,Ω Ψ (k:Int),ZU Y 0 0] w λe w'=>e=.returned (.agg #[Ω Ψ 3,Ω Ψ (r'.g.new.length:Int)])/\bD w' B N b {r' with g:={r'.g with new:=r'.g.new++[(0,ZV k (0,0))]}} J/\I B w w'/\tc J w w':=by
 have HM:=V hm;have hb1:=af w<|Θ #[Ω Ψ 0,Ω Ψ 0] 50;have HR:=V<|(hr.more.below hb1).sub (J':=λj=>J j\/j=w) λj z=>z.imp id λe=>by omega
 have HZ:=V hz;have O:=V hb1;clear hr hm hz;have hmk:=λW=>BC k k .refl (by omega) W
 go_enter (fU func202 rfl),ntmps202
 go_wp2_with fail
 refine wp_loop_rounds 1 ?_;rw[rounds_succ]
 go_wp2_with fail
 refine(WD _ B N b r r' HR.out (by simp;omega) HM.out).mono ?_;rintro e F ⟨rfl,X,hb2,q⟩;have s:=V X;have y2:=(q w (.inr rfl)<|by simp).trans<|ω w _;have HB2:=V<|ZG hb2 q;have HY2:=V y2;clear X hb2 q y2
 go_wp2_with fail
 refine wp_loop_rounds 1 ?_;rw[rounds_succ];have f:=af F<|.cells (ZW #[Ω Ψ 0,Ω Ψ 0]<|k*2) 50;have hsz:w.heap.size<F:=by have:=(Ξ.1 HY2.out).1;exact this
 have hJ2:∀j,(J j\/j=w) ->j<F:=by
  intro j z;obtain h|h:=z
  have:=hJ j h;omega;omega
 obtain⟨a,m,row,L,hlm,hrc,P,C⟩:=s.out.Pi (x:=.slice F.heap.size k k) (k:=0) (vs:=ZV k (0,0)) hJ2 (by omega) f<|HZ.out F;obtain⟨c0,_,hbr⟩:=s.out.ptr;have H:=az L;have S:=cG f c0 hbr;have e1:=cG f L H;have ef:=f.frozen (p:=⟨b,0,Y⟩) H;have ef0:F.frozen? b=Z8:=by obtain⟨_,_,c,hc⟩:=s.out.2.2.1.own.obj;exact cD hc
 rw[ef0]at ef;have y:=hrc.low f;have E:=χ hbr f.size;have t:=χ H f.size;have HA:=V C;have HC3:=V y;have hll:(cellsOf row 3 r'.g.new).length<=1000000:=by omega
 have HL:=V P;have hne:=s.out.ne;rw[P]at y;generalize hw3:(F.alloc<|.cells (ZW #[Ω Ψ 0,Ω Ψ 0]<|k*2) 50)=A at f HA S e1 ef HC3 E t⊢;clear hw3 C L c0 hrc y ef0 P;have hl0:(0:Int)<=(r'.g.new.length:Int):=by omega
 have hl1:(r'.g.new.length:Int)<=(m:Int):=by omega
 clear hmk
 go_wp2_with fail
 have hnr:¬b=N:=λe=>hne e.symm;refine Rg.wp_cut (n:=34) (λx=>x N=U (.pointer b)/\x b=U (.slice a r'.g.new.length m)) (by kernel_rfl) (by kernel_rfl) (λc a d v w h=>by cases d<;>exact h) ⟨S,e1⟩ ?_;simp only[μ,Z4,κ,Z3]
 iterate 34
  (refine Rg.fp.step (v:=?_) (by rfl) (λu hu=>?_) ?_
   rotate_left
   (obtain⟨hu0,hu1⟩:=hu
    go_simp;rfl))
 refine Rg.fp.nil ?_;simp only[ZI,φ,θ,η];refine ZK rfl λK hK=>?_;go_simp;refine hK _ _ ⟨⟨dB<|dO S,dB<|dO e1⟩,?_⟩;clear hK K;refine ZK rfl λK hK=>?_;refine aX rfl _ _ 22 (by rfl) (.slice a r'.g.new.length r'.g.new.length) (.slice A.heap.size 1 1) (by rfl) (by rfl) _ (mJ (k:=0) (x:=.slice F.heap.size k k) HL.out (HC3.out.low<|by first|exact(af A _).drew|exact(af A _)|exact((Z _ A).drew.alloc .refl _)|exact((Z _ A).drew.alloc .refl _).drew) (ω A _) (by rfl) hll) ?_;intro v' w4 h2;obtain⟨hoc,o,gg,mg,rfl⟩:=h2;have l:=Below.trans (by first|exact(af A _).drew|exact(af A _)|exact((Z _ A).drew.alloc .refl _)|exact((Z _ A).drew.alloc .refl _).drew)<|o.mono<|by simp
 have gc:=cG l e1 t;have gr:=cG l S E;have gf:=(l.frozen (p:=⟨b,0,Y⟩) t).trans ef;refine hK _ _ ⟨⟨gr,gc⟩,?_⟩;clear hK K;obtain⟨p1,T,Q⟩:=HA.out w4 _ l<|hoc.less (by have:=f.size;simp;omega);have HP:=V<|ZG p1<|ZG T Q;have o:¬b=w:=λe=>(s.out.2.2.1.ne<|.inr rfl) e.symm;have y4:=(l.block w (by have:=f.size;omega)).trans<|(f.block w hsz).trans HY2.out;have HY4:=V y4;have z0:(w4.setCell b<|.slice gg (r'.g.new.length+1) mg) w.heap.size=U (Ω Ψ 0):=da o (by simp[ψ,y4]);have z1:(w4.setCell b<|.slice gg (r'.g.new.length+1) mg) (w.heap.size,1)=U (Ω Ψ 0):=da o (by simp[ψ,y4]);have y5:=(aa (w:=w4) (i:=0) (v:=.slice gg (r'.g.new.length+1) mg)<|Ne.symm o).trans y4;have zf0:=cD (i:=0) y5;have zf1:=cD (i:=1) y5;have zr:(w4.setCell b<|.slice gg (r'.g.new.length+1) mg) N=U (.pointer b):=da hnr gr;have hw1:IntKind.i64.wrap ((r'.g.new.length:Int)+1-1)=(r'.g.new.length:Int):=by rw[show((r'.g.new.length:Int)+1-1)=(r'.g.new.length:Int) by omega];exact wrap_small _ (by omega) (by omega)
 have HY5:=V y5;clear p1 T Q hoc o S e1 ef y4 y5
 go_wp2_with fail
 obtain⟨p1,T,Q⟩:=HP.out;have G:=HY5.out;clear z0 z1 zf0 zf1 zr;generalize (w4.setCell b<|.slice gg (r'.g.new.length+1) mg)=w5 at p1 T Q G⊢;have y6:=aB (aB G 0<|Ω Ψ 3) 1<|Ω Ψ (r'.g.new.length:Int);have D:=(p1.free (w':=(w5.setCell w.heap.size<|Ω Ψ 3).setCell (w.heap.size,1)<|Ω Ψ (r'.g.new.length:Int)) (.inr rfl) G (by decide) λk hk=>cr hk).sub (J':=J) λj z=>.inl z;have hbf:I B w ((w5.setCell w.heap.size<|Ω Ψ 3).setCell (w.heap.size,1)<|Ω Ψ (r'.g.new.length:Int)):=((((O.out.mono hB).trans HB2.out.1).trans T).setCell (p:=⟨w.heap.size,0,Y⟩) hB _).setCell (p:=⟨w.heap.size,1,Y⟩) hB _;have hfj:tc J w ((w5.setCell w.heap.size<|Ω Ψ 3).setCell (w.heap.size,1)<|Ω Ψ (r'.g.new.length:Int)):=λj z hl=>(cr (by have:=hJ j z;omega)).trans<|(Q j (.inl z) (by have:=hJ j z;omega)).trans<|(HB2.out.2 j (.inl z)<|χ hl O.out.size).trans<|O.out.block j hl;generalize (w5.setCell w.heap.size<|Ω Ψ 3).setCell (w.heap.size,1) (Ω Ψ (r'.g.new.length:Int))=w6 at y6 D hbf hfj⊢;refine Z0 (v:=.agg #[Ω Ψ 3,Ω Ψ (r'.g.new.length:Int)]) (by simp[ZL,results202,go_sem,ψ,y6]) rfl ⟨rfl,D,hbf,hfj⟩
end
section
variable{J:Nat->Prop}
def fZ{w:ι}{b:Nat}{t v0 v1 v2 v3}(h:w.heap[b]?=U (Θ #[v0,v1,v2,v3] t (0,0))):w b=U v0/\w (b,1)=U v1/\w (b,2)=U v2/\w (b,3)=U v3:=by refine⟨?_,?_,?_,?_⟩<;>simp[ψ,h]
def Jz(r:Md.RS)(k:Nat):Md.RS:={r with g:={r.g with new:=r.g.new++[(0,ZV k (0,0))]}}
def bD.one{w B a b r}(h:bD w B a b r J)(o):bD (w.alloc o) B a b r (λj=>J j\/j=w):=(h.more.below<|af w o).sub (λj c=>c.imp id λe=>by omega)
def JA(w)(B u b c k:Nat)(r r' p q)(hr:bD w B u b r J)(hB:B<=w)(hJ:∀j,J j->j<w)(ht:r.g.roots[c]?=U (p,q))(hrl:r.g.roots.length<=1000)(hm:Roomy r r')(hz:Aj k)(hk:k<=4)(W:r'.g.new.length<=1000)(S:c<r'.g.roots.length):
 R prog 153 #[.pointer u,.agg #[Ω Ψ 0,c,k,Ω Ψ 0]] w λe w'=>e=.returned (.tuple #[])/\bD w' B u b (Md.el (Jz r' k) c (3,(r'.g.new.length:Int))) J/\I B w w'/\tc J w w':=by
 have HM:=V hm;have HZ:=V hz;have f:=af w<|Θ #[Ω Ψ 0,c,k,Ω Ψ 0] 44;have HR:=V<|hr.one<|Θ #[Ω Ψ 0,c,k,Ω Ψ 0] 44;have F:=V f;clear hr hm hz;have hk0:¬((k:Int)<0):=by omega
 have hk4:¬(4<(k:Int)):=by omega
 go_enter (fU func153 rfl),ntmps153
 go_wp2_with fail
 ((with_reducible refine(cd _ _).mono ?_))
 rintro e w1 ⟨rfl,l⟩;have N:w1.heap[w.heap.size]?=U (Θ #[Ω Ψ 0,c,k,Ω Ψ 0] 44 (0,0)):=by rw[l];exact ω w _
 rw[<-l]at HR F f;have E:w1.heap.size=w.heap.size+1:=by rw[l];simp
 clear l;obtain⟨c0,c1,c2,c3⟩:=fZ N
 go_wp2_with fail
 refine(sQ _ B u b r c p q HR.out ht<|by omega).mono ?_;rintro e w2 ⟨rfl,a⟩;have H:=(a.block w<|by omega).trans N;have C:=V<|HR.out.below a;have m:=V<|f.trans<|a.mono f.size;have d:w.heap.size<w2:=by have:=a.size;omega
 clear N HR c0 c1 c2 c3 f a F E;obtain⟨c0,c1,c2,c3⟩:=fZ H
 go_wp2_with fail
 rw[show(decide ((k:Int)<0)||decide (4<(k:Int)))=Z8 by simp;omega]
 ((with_reducible refine(cd _ _).mono ?_))
 rintro e w3 ⟨rfl,z⟩;rw[<-z]at C m H c0 c1 c2 c3 d;clear z
 go_wp2_with fail
 have o:∀j,(J j\/j=w) ->j<w3:=by
  intro j i;obtain h|h:=i
  have:=hJ j h;omega;omega
 have hne1:((0:Int)==0)=ZO:=rfl
 go_region_held3 (λx=>x (w.heap.size,1)=U (Ω Ψ (c:Int))/\x (w.heap.size,2)=U (Ω Ψ (k:Int))) ((refine⟨?_,?_⟩<;>(repeat (first|with_reducible assumption|with_reducible refine dO ?_))))
  (first
    |(go_at_call 202;(with_reducible refine(afi _ B u b k r r' (C.out.below (Z _ _).drew) (by simp;omega) (λj i=>by have:=o j i;simpa using this) HM.out HZ.out (by omega) W).mono ?_);rintro e w4 ⟨rfl,v,G,s⟩;have y4:=(s w (.inr rfl) d).trans H;have HR4:=V v;have t:=V G;have A:=V s;obtain⟨d0,d1,d2,d3⟩:=fZ y4;clear v G s y4)
    |(go_at_call 201;(with_reducible refine(afB _ B u b _ c 3 (r'.g.new.length:Int) HR4.out S (by have:=t.out.size;simp at this;omega)).mono ?_);rintro e w5 ⟨rfl,y,D,n⟩;have y5:=(n w (.inr rfl) (az d0)).trans ((A.out w (.inr rfl) d).trans H:_=U (Θ #[Ω Ψ 0,c,k,Ω Ψ 0] 44 (0,0)));have P:=V y;have O:=V D;have X:=V n;obtain⟨g0,g1,g2,g3⟩:=fZ y5;clear y D n y5))
 have Q:=t.out.size;have hs2:=m.out.size;have K:=P.out.sub λj i=>.inl i;have L:=(((m.out.mono hB).trans<|(Z B w3).drew).trans t.out).trans O.out;have T:tc J w w5:=λj i W=>(X.out j (.inl i) (by have:=o j<|.inl i;simp at Q;omega)).trans<|(A.out j (.inl i) (by have:=o j<|.inl i;simpa using this)).trans<|m.out.block j W;go_end0;exact⟨rfl,K,L,T⟩
def E'(w B m b n r g' p q)(v:Nat)(N:bD w B m b r J)(W:B<=w)(Q:∀j,J j->j<w)(O:r.g.roots[v]?=U (p,q))(P:r.g.roots.length<=1000)(x:Jn r.g)(K:im (Md.iF r.g))(h:Md.collect .major r.g=U (n,g'))(T:0<=r.fk/\r.fk<=1000)(D:0<=r.dA/\r.dA<=100000)(S:n<=1000):
 R prog 153 #[.pointer m,.agg #[Ω Ψ 10,v,Ω Ψ 0,Ω Ψ 0]] w λe w'=>e=.returned (.tuple #[])/\bD w' B m b (Md.counted r .major n g') J/\I B w w'/\tc J w w':=by
 have a:=af w<|Θ #[Ω Ψ 10,v,Ω Ψ 0,Ω Ψ 0] 44;have HR:=V<|N.below a;have u:=V a;have F:=V<|ZG x<|ZG K h;clear N x K h
 go_enter (fU func153 rfl),ntmps153
 go_wp2_with fail
 ((with_reducible refine(cd _ _).mono ?_))
 rintro e H ⟨rfl,d⟩;have A:H.heap[w.heap.size]?=U (Θ #[Ω Ψ 10,v,Ω Ψ 0,Ω Ψ 0] 44 (0,0)):=by rw[d];exact ω w _
 rw[<-d]at HR u a;have t:H.heap.size=w.heap.size+1:=by rw[d];simp
 clear d;obtain⟨c0,c1,c2,c3⟩:=fZ A
 go_wp2_with fail
 refine(sQ _ B m b r v p q HR.out O<|by omega).mono ?_;rintro e w2 ⟨rfl,f⟩;have X:=(f.block w<|by omega).trans A;have C:=V<|HR.out.below f;have c:=V<|a.trans<|f.mono a.size;clear A HR c0 c1 c2 c3 a f u t;obtain⟨c0,c1,c2,c3⟩:=fZ X
 go_wp2_with fail
 refine(wN _ B m b n r g' (λj G=>by have:=Q j G;have:=c.out.size;omega) F.out.1 F.out.2.1 C.out (by have:=c.out.size;omega) F.out.2.2 T D S).mono ?_;rintro e w3 ⟨rfl,y,z,k⟩;have o:=V y;have l:=V z;have s:=V k;clear y z k
 go_wp2_with fail
 ((with_reducible refine(cd _ _).mono ?_))
 rintro e w4 ⟨rfl,i⟩;rw[<-i]at o l s;clear i
 go_wp2_with fail
 have E:tc J w w4:=λj G L=>(s.out j G<|χ L c.out.size).trans<|c.out.block j L;go_end0;exact⟨rfl,o.out,(c.out.mono W).trans l.out,E⟩
end
end Kn
