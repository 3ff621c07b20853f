/- A part of the proof of GcWhole; no conditions. -/
import Derived.Test.YtbnmpafbfoaggaaGreatDoorU0
import Derived.Test.YtbnmpafbfoaggaaGreatDoorU9
import Derived.Conc.FxWorld
set_option linter.defProp false
set_option linter.unusedVariables false
set_option linter.unusedSimpArgs false
set_option maxRecDepth 100000
set_option maxHeartbeats 16000000
noncomputable section
open Bool renaming false->V,true->U
open Go renaming Goroutine->R,World->η,Frame->ZV,Value->ZG,Event->ZE,Addr->ZC,Trace->Zr
open Go.Conc renaming mem_ofEvents->Ω,QuitsD->ZT,Deaf_other->ZS,Deaf->ZR,woken->ZK,awake_of->ZI,runT_crowd_go->ZA,g?_old->Zx,woken_quitsD->Zw,ofEvents_eq->Zt,Leavers->Zq
open Option renaming some->I,map_eq_some_iff->υ,none->Z8
open Go.MemOp renaming ofEvents->Ψ
open Go.Value renaming pointer->Ξ,int->κ,slice->ε,agg->Z7
open Go.Obj renaming cells->Θ
open Array renaming getElem?_eq_getElem->Δ,getElem?_push_lt->ω,size_setIfInBounds->χ,mem_singleton->φ,mem_of_getElem?->ZX,getElem?_setIfInBounds_ne->ZN,size_push->ZL,size_map->ZJ,getElem?_eq_some_iff->ZH,getElem?_push_size->ZF,mem_iff_getElem?->ZD
open Go.MemAct renaming ofEvent->Γ,touch?->Z1
open Go.IntKind renaming wrap->ψ,i64->ο,wrap_i64->ZO
open Nat renaming not_lt_zero->ξ,lt_of_lt_of_le->μ,lt_succ_of_lt->Z4,lt_irrefl->Z2,le_refl->ZZ,not_lt->ZP,le_trans->ZM,zero_le->ZB,sub_add_cancel->Zy,eq_zero_or_pos->Zv,pos_of_ne_zero->Zu,lt_succ_self->Zs
open Prod.Lex renaming right->ι,left->ZU
open List renaming mem_cons_self->θ,mem_cons_of_mem->Z9,not_mem_nil->Z3,mem_cons->Z0,mem_toArray->ZY,mem_singleton->Zz
open Classical renaming byContradiction->ζ
open Option.some renaming injEq->ZW
open Go.ConcM renaming OsLater->ZQ
namespace Go.Proofs.YtbnmpafbfoaggaaGreatDoor
namespace Ph
open Go Go.Conc
open Go.ConcM (muA msA MuAt ShAt Eff BookOK Bk2)
open Go.ConcR (stA smA WgAt mk)
section
inductive cZ where
 |Pj|KQ|k9|vL|iJ|iK
 |ad (s:Ma)
 |mq (s:Mq)
section
variable(K:PC)(r i c:Nat)
def lj(s:cZ)(g:R):Prop:=
 match s with
 |.Pj=>aQ (kl K.b K.q GD [iv 25 r,iv 23 r]) [] (K.c0::K.cs) g
 |.KQ=>∃a,K.ca=I a/\aQ (kl K.b K.q GE [pv 26 (a.add<|r*2),iv 25 r,iv 23 r]) [] (K.c0::K.cs) g
 |.k9=>aQ (kl K.b K.q OH [(27,.agg #[K.v1 r,K.v2 r]),iv 25 r,iv 23 r]) [] (K.c0::K.cs) g
 |.vL=>aQ (kl K.b K.q GF [pv 9 i,(27,.agg #[K.v1 r,K.v2 r]),iv 25 r,iv 23 r]) [] (K.c0::K.cs) g
 |.iJ=>aQ (kl K.b K.q yl [pv 10 c,pv 9 i,(27,.agg #[K.v1 r,K.v2 r]),iv 25 r,iv 23 r]) [] (K.c0::K.cs) g
 |.iK=>aQ (kl K.b K.q ym [pv 10 c,pv 9 i,(27,.agg #[K.v1 r,K.v2 r]),iv 23 r]) [] (K.c0::K.cs) g
 |.ad s=>jO K.b K.q r i c (K.c0::K.cs) s g
 |.mq s=>ey K.b K.q (K.c0::K.cs) s g
def tD(s:cZ)(w:η):Prop:=
 match s with
 |.vL=>w.heap[i]?=I (Θ #[κ ο 0] 3)
 |.iJ=>w.heap[i]?=I (Θ #[κ ο 0] 3)/\∃u v,w.heap[c]?=I (Θ #[u,v] 76)
 |.iK=>w.heap[i]?=I (Θ #[κ ο r] 3)/\∃u v,w.heap[c]?=I (Θ #[u,v] 76)
 |.ad _=>uy K w r i c
 |_=>True
inductive o9:cZ->Nat->Nat->R->Prop
 |go {s:cZ} {k:Nat} {g g':R} (h:Path P0 U k g g') (hs:lj K r i c s g'):o9 s k 1 g
 |blk {g:R} (hs:lj K r i c (.mq .rJ) g):o9 (.mq .rJ) 0 0 {g with status:=.blocked}
end
def mE:cZ->Nat
 |.ad s=>CU s
 |.mq s=>CR s
 |_=>0
def wa:cZ->Bool
 |.mq .GQ|.mq .Eg|.mq .rJ=>U
 |_=>V
def xa:cZ->Nat
 |.ad .QR|.ad .GS|.ad .ar|.ad .yt=>1
 |_=>0
def gone:cZ->Bool
 |.mq .qm|.mq .MB|.mq .Eh|.mq .yq|.mq .QO|.mq .KO|.mq .Bd|.mq .kI=>U
 |_=>V
def Au:cZ->Bool
 |.mq _=>V
 |_=>U
def rM(h:Sh):cZ->Nat
 |.Pj=>20|.KQ=>19|.k9=>18|.vL=>17|.iJ=>16|.iK=>15
 |.ad .GR=>14|.ad .tA=>13|.ad .QR=>12|.ad .GS=>11|.ad .ar=>10|.ad .yt=>9
 |.mq .q7=>13|.mq .ql=>11
 |.mq (.qc k0)=>if k0=h.k then 10 else 12
 |.mq .GQ=>9|.mq .Eg=>8|.mq .rJ=>7|.mq .qm=>6|.mq .MB=>5|.mq .Eh=>4|.mq .yq=>3
 |.mq .QO=>9|.mq .KO=>8|.mq .Bd=>7
 |.mq .kI=>0
def QT(s:cZ)(h:Sh)(s':cZ)(h':Sh):Prop:=
 match s with
 |.Pj=>s'=.KQ/\h'=h
 |.KQ=>s'=.k9/\h'=h
 |.k9=>s'=.vL/\h'=h
 |.vL=>s'=.iJ/\h'=h
 |.iJ=>s'=.iK/\h'=h
 |.iK=>s'=.ad .GR/\h'=h
 |.ad s=>∃t,s'=.ad t/\Ax s h t h'
 |.mq s=>∃t,s'=.mq t/\Mx s h t h'
def iE:cZ->Prop
 |.mq (.qc k0)=>0<k0
 |_=>True
def pb{s s' h h'}(a:QT s h s' h'):h'.mu=h.mu/\h'.ms=h.ms/\rM h' s'<rM h s/\Au s'=Au s/\h'.ws<=h.ws/\(iE s->iE s')/\(gone s=U->h.k=0->gone s'=U/\h'.k=0):=by
 cases s with
 |ad s=>
  obtain⟨t,rfl,a⟩:=a;cases s with
  |yt=>exact a.elim
  |tA=>obtain⟨rfl,rfl⟩:=a;split<;>simp[rM,Au,iE,gone]
  |_=>obtain⟨rfl,rfl⟩:=a;simp[rM,Au,iE,gone]
 |mq s=>
  obtain⟨t,rfl,a⟩:=a;cases s with
  |kI=>exact a.elim
  |ql=>
   obtain⟨rfl,rfl⟩:=a;split
   simp[rM,Au,iE,gone];rename_i d;simp[rM,Au,iE,gone];omega
  |qc c=>
   obtain⟨b,rfl,rfl⟩|⟨b,rfl,rfl⟩:=a
   simp[rM,Au,iE,gone,b];have:¬(c=h'.k):=λe=>b e.symm;simp[rM,Au,iE,gone,this]
  |rJ=>obtain⟨b,rfl,rfl⟩:=a;simp[rM,Au,iE,gone]
  |_=>obtain⟨rfl,rfl⟩:=a;simp[rM,Au,iE,gone]
 |_=>obtain⟨rfl,rfl⟩:=a;simp[rM,Au,iE,gone]
def Ru{s s' h h' G L M}(a:QT s h s' h')(i:iE s)(b:mW (wa s) (xa s) h G L M):mW (wa s') (xa s') h' G L M/\(gone s'=U->gone s=U\/h'.k=0):=by
 cases s with
 |ad s=>
  obtain⟨t,rfl,a⟩:=a;cases s with
  |yt=>exact a.elim
  |tA=>
   obtain⟨rfl,rfl⟩:=a;obtain⟨e,g,h3,h4⟩:=b;simp only[wa,xa]at e h3 h4;split
   exact⟨⟨by simp only[xa];omega,g,λ_=>h3 trivial,λh=>by cases h⟩,by simp[gone]⟩;exact⟨⟨by simp only[xa];omega,g,λ_=>h3 trivial,λh=>by cases h⟩,by simp[gone]⟩
  |_=>obtain⟨rfl,rfl⟩:=a;exact⟨b,by simp[gone]⟩
 |mq s=>
  obtain⟨t,rfl,a⟩:=a;cases s with
  |kI=>exact a.elim
  |ql=>
   obtain⟨rfl,rfl⟩:=a;split
   rename_i f;exact⟨b,λ_=>.inr f⟩;exact⟨b,by simp[gone]⟩
  |qc l=>
   obtain⟨e,rfl,rfl⟩|⟨e,rfl,rfl⟩:=a
   ·obtain⟨q1,j,d,c⟩:=b;simp only[wa,xa]at q1 d c;have d:=d trivial;have i:0<l:=i;exact⟨⟨q1,.refl,(λh=>by cases h),λ_=>⟨rfl,by(try dsimp only);omega,.inr ⟨by omega,λ_=>by(try dsimp only);omega,λh=>by cases h⟩⟩⟩,by simp[gone]⟩
   exact⟨b,by simp[gone]⟩
  |rJ=>
   obtain⟨e,rfl,rfl⟩:=a;obtain⟨q1,j,d,c⟩:=b;simp only[wa,xa]at q1 d c;have c:=c trivial;have f:h.k=0:=by omega
   exact⟨⟨q1,j,(λ_=>⟨by(try dsimp only);omega,by(try dsimp only);omega,by omega,by omega⟩),λh=>by cases h⟩,λ_=>.inr f⟩
  |q7=>obtain⟨rfl,rfl⟩:=a;exact⟨b,by simp[gone]⟩
  |GQ=>obtain⟨rfl,rfl⟩:=a;exact⟨b,by simp[gone]⟩
  |Eg=>obtain⟨rfl,rfl⟩:=a;exact⟨b,by simp[gone]⟩
  |_=>obtain⟨rfl,rfl⟩:=a;exact⟨b,λ_=>.inl rfl⟩
 |_=>obtain⟨rfl,rfl⟩:=a;exact⟨b,by simp[gone]⟩
structure OW(K:PC)(r i c i' c':Nat)(dn:Bool)(s s':cZ)(h':Sh)(w w':η):Prop where
 tape:w'.tape=w.tape
 output:w'.output=w.output
 os:ZQ w.os w'.os
 size:w.heap.size<=w'
 sh:ShAt 249 255 (K.B0+3) (K.B0+4) w' (dU h')
 others:∀x,x<w.heap.size->x≠K.B0+3->x≠K.B0+4->(dn=U->s=.iJ->x≠i) ->(dn=U->s=.iK->x≠c) ->w'.heap[x]?=w.heap[x]?
 rows:∀x,w.heap.size<=x->x<w'->∃cs e f,w'.heap[x]?=I (.cells cs e f)/\K.TT e
 adG:∀x,dn=U->(s=.iJ/\x=i\/s=.iK/\x=c) ->∃cs e f,w'.heap[x]?=I (.cells cs e f)/\K.TT e
 box:tD K r i' c' s' w'
 bi:(i'=i/\(dn=U->s≠.k9))\/(dn=U/\s=.k9/\i'=w/\w'.heap.size=w.heap.size+1)
 bc:(c'=c/\(dn=U->s≠.vL))\/(dn=U/\s=.vL/\c'=w/\w'.heap.size=w.heap.size+1)
 only:w.heap.size<w'->dn=U/\(s=.k9\/s=.vL)
structure OZ(K:PC)(i c:Nat)(s s':cZ)(w':η)(es:Array ZE):Prop where
 ok:∀e∈es,∀x,(Γ e).touch?=I x->x.loc.isMemory=U->(K.ic x.loc/\x.kind≠.plain)\/(x.write=V/\blk x.loc<K.B0/\¬K.S (blk x.loc))\/(s=.iJ/\blk x.loc=i)\/(s=.iK/\blk x.loc=c)
 low:∀e∈es,(Γ e).low w'
 dfb:deafBehind (mE s) es=mE s'
 norel:∀e∈es,e.loc≠.mark (.release (stA (K.B0+4)))
 acq:s'=.mq .kI->s≠.mq .kI->es=#[mk (.acquire (stA (K.B0+4)))]
def nW:cZ->Bool
 |.vL|.iJ|.iK|.ad _=>U
 |_=>V
def pc:cZ->Bool
 |.iJ|.iK|.ad _=>U
 |_=>V
def Hb{s s' h h'}(a:Mx s h s' h')(b:s'=.kI):s=.Bd\/s=.yq:=by
 subst b;cases s with
 |Bd=>exact .inl rfl
 |yq=>exact .inr rfl
 |kI=>exact a.elim
 |qc c=>obtain⟨_,_,h⟩|⟨_,_,h⟩:=a<;>cases h
 |rJ=>obtain⟨_,_,h⟩:=a;cases h
 |ql=>obtain⟨_,h⟩:=a;split at h<;>cases h
 |_=>obtain⟨h,_⟩:=a;cases h
def Ak(dn:Bool)(s s':cZ)(h h':Sh)(i i' c c' k k' z z':Nat)(g':R):Prop:=(dn=V/\s'=s/\h'=h/\i'=i/\c'=c/\((k'<k/\z'=z)\/(k'=k/\z'<z/\h.ws=0/\g'.status=.blocked)))\/(dn=U/\QT s h s' h'/\z'=1)
section
variable{K:PC}{r i c i' c':Nat}{s s':cZ}{k z:Nat}{h h':Sh}{val:Nat->Int}{g:R}{w w':η}{es:Array ZE}
def nX(hd:mE s=mE s')(d:s'=.mq .kI->s=.mq .kI):OZ K i c s s' w' #[]:=⟨by simp,by simp,hd,by simp,λa b=>absurd (d a) b⟩
def yJ(hb:BookOK (K.B0+3) (K.B0+4) (mE s) (mE s') es)(hs:K.B0+5<=w')(k:s'=.mq .kI->s=.mq .kI):OZ K i c s s' w' es:=by
 obtain⟨d,g,h3⟩:=hb;refine⟨λe b x f l=>?_,λe b=>?_,g,λe b=>?_,λd g=>absurd (k d) g⟩;obtain h|h|⟨a,y,rfl,ha⟩:=d e b
 ·obtain⟨loc,wr,j⟩:=e;dsimp only at h;subst h;simp[Γ,Z1]at f
 obtain⟨loc,wr,j⟩:=e;dsimp only at h;subst h;simp[Γ,Z1]at f;simp only[Γ,Z1,ZW]at f;subst f;exact .inl ⟨⟨a,rfl,ha⟩,by simp⟩;obtain h|h|⟨a,y,rfl,ha⟩:=d e b
 ·obtain⟨loc,wr,j⟩:=e;dsimp only at h;subst h;trivial
 obtain⟨loc,wr,j⟩:=e;dsimp only at h;subst h;trivial;show a.block<_;omega;obtain h|h|⟨a,y,rfl,ha⟩:=d e b
 ·rw[h];simp
 rw[h];simp;simp
def nY{mm}(b:mm=.acquire (stA<|K.B0+4)\/mm=.write (smA<|K.B0+4)\/mm=.read (smA<|K.B0+4))(hd:mE s=mE s')(hs:K.B0+5<=w')(f:s'=.mq .kI->mm=.acquire (stA<|K.B0+4)):OZ K i c s s' w' #[mk mm]:=by
 refine⟨λe a x d h=>?_,λe a=>?_,?_,λe a=>?_,λg _=>by rw[f g]⟩;rw[φ.1 a]at d;obtain rfl|rfl|rfl:=b
 cases d
 cases d
 exact .inl ⟨⟨_,rfl,.inr rfl⟩,by simp⟩;cases d
 exact .inl ⟨⟨_,rfl,.inr rfl⟩,by simp⟩;rw[φ.1 a];obtain rfl|rfl|rfl:=b
 trivial;show K.B0+4<_;omega;show K.B0+4<_;omega;rw[<-hd];exact deafBehind_still (λe a=>by rw[φ.1 a];obtain rfl|rfl|rfl:=b<;>simp[mk]) _;rw[φ.1 a];obtain rfl|rfl|rfl:=b<;>simp[mk]
def yK(W:db K val h w)(a:tD K r i c s' w)(d:s≠.k9)(b:s≠.vL)(h3:s≠.iJ)(h4:s≠.iK):OW K r i c i c U s s' h w w:=⟨rfl,rfl,.refl _,.refl,W.sh,λ_ _ _ _ _ _=>rfl,λx d b=>absurd b<|ZP.2 d,λx _ f=>by obtain⟨e,_⟩|⟨e,_⟩:=f<;>contradiction,a,.inl ⟨rfl,λ_=>d⟩,.inl ⟨rfl,λ_=>b⟩,λh=>absurd h<|Z2 _⟩
def C7(W:db K val h w)(d:ShAt 249 255 (K.B0+3) (K.B0+4) w' (dU h'))(a:Eff (K.B0+3) (K.B0+4) w w')(b:tD K r i c s' w')(g:s≠.k9)(f:s≠.vL)(h3:s≠.iJ)(h4:s≠.iK):OW K r i c i c U s s' h' w w':=⟨a.tape,a.output,a.os,Nat.le_of_eq a.size.symm,d,λx _ q1 j _ _=>a.block x q1 j,λx g f=>absurd f (by rw[a.size];exact ZP.2 g),λx _ k=>by obtain⟨e,_⟩|⟨e,_⟩:=k<;>contradiction,b,.inl ⟨rfl,λ_=>g⟩,.inl ⟨rfl,λ_=>f⟩,λh=>absurd h (by rw[a.size];exact Z2 _)⟩
def MW(K:PC)(r i c:Nat)(s:cZ)(k z:Nat)(h:Sh)(g:R)(w:η):Prop:=∃dn s' k' z' h' i' c' g' w' es,stepG P0 U g w=.go g' w' es/\o9 K r i' c' s' k' z' g'/\OW K r i c i' c' dn s s' h' w w'/\OZ K i c s s' w' es/\Ak dn s s' h h' i i' c c' k k' z z' g'
def nZ:K.q.wg=stA (K.B0+4):=rfl
def gt{t}(W:db K val h w)(v:nR 249 255 (K.B0+3) (K.B0+4) K.b K.q (K.c0::K.cs) t h g w):MW K r i c (.mq t) 0 1 h g w:=by
 obtain⟨p,u,x,o,y,j,k,l,n,a,z,s,A,f,m⟩:=v;have d:K.B0+5<=o:=by rw[n.size];exact W.size
 refine⟨U,.mq p,z,1,u,i,c,x,o,y,k,.go f m,C7 W l n trivial (by simp) (by simp) (by simp)<|by simp,?_,.inr ⟨rfl,⟨p,rfl,j⟩,rfl⟩⟩;cases t with
 |Bd=>obtain⟨rfl,_⟩:=j;have:=a;rw[this];exact nY (.inl rfl) rfl d λ_=>rfl
 |yq=>obtain⟨rfl,_⟩:=j;have:=a;rw[this];exact nY (.inl rfl) rfl d λ_=>rfl
 |Eg=>obtain⟨rfl,_⟩:=j;have:=a;rw[this];exact nY (.inr<|.inl rfl) rfl d (by simp)
 |_=>exact yJ a d (λe=>by obtain h|h:=Hb j<|cZ.mq.inj e<;>cases h)
def rN{t}(W:db K val h w)(hi:i<w)(A:K.B0+5<=i)(B:K.B0+5<=c)(a:uy K w r i c)(y:Ej 249 255 (K.B0+3) (K.B0+4) K.b K.q r i c (K.c0::K.cs) t h g w):MW K r i c (.ad t) 0 1 h g w:=by
 obtain⟨o,u,v,n,z,p,k,m,j,f,x,s,C,d,l⟩:=y;have e:K.B0+5<=n:=by rw[j.size];exact W.size
 refine⟨U,.ad o,x,1,u,i,c,v,n,z,k,.go d l,C7 W m j ⟨by rw[j.block _ (by omega) (by omega)];exact a.1,by rw[j.block _ (by omega) (by omega)];exact a.2⟩ (by simp) (by simp) (by simp)<|by simp,?_,.inr ⟨rfl,⟨o,rfl,p⟩,rfl⟩⟩;cases t with
 |GS=>obtain⟨rfl,_⟩:=p;have:=f;rw[this];exact nY (.inr<|.inr rfl) rfl e (by simp)
 |_=>exact yJ f e (by simp)
def Hc(W:db K val h w)(b:tD K r i c s w){g1}(d:∀w,stepG P0 U g w=.go g1 w #[])(a:o9 K r i c s k z g1):MW K r i c s (k+1) z h g w:=by exact⟨V,s,k,z,h,i,c,g1,w,#[],d w,a,⟨rfl,rfl,.refl _,.refl,W.sh,λ_ _ _ _ _ _=>rfl,λx f e=>absurd e<|ZP.2 f,(λx h=>by cases h),b,.inl ⟨rfl,λh=>by cases h⟩,.inl ⟨rfl,λh=>by cases h⟩,λh=>absurd h<|Z2 _⟩,nX rfl id,.inl ⟨rfl,rfl,rfl,rfl,rfl,.inl ⟨by omega,rfl⟩⟩⟩
def Bg{i ib cb cs t b q}(h:jO b q i ib cb cs t g):g.status=.running/\g.offers=Z8:=by
 have a:∀{d:bG} {ds:List bG},aQ d ds cs g->g.status=.running/\g.offers=Z8:=λh=>by obtain⟨F,rfl⟩:=h;exact⟨rfl,rfl⟩
 cases t<;>exact a h
def Bh{cs t b q}(h:ey b q cs t g):g.status=.running/\g.offers=Z8:=by
 have a:∀{d:bG} {ds:List bG},aQ d ds cs g->g.status=.running/\g.offers=Z8:=λh=>by obtain⟨F,rfl⟩:=h;exact⟨rfl,rfl⟩
 cases t with
 |qc c=>exact a h.1
 |GQ=>obtain⟨_,h,_⟩:=h;exact a h
 |Eg=>obtain⟨_,h,_⟩:=h;exact a h
 |_=>exact a h
def jQ(h:lj K r i c s g):g.status=.running/\g.offers=Z8:=by
 have a:∀{d:bG} {ds:List bG} {cs:List ZV},aQ d ds cs g->g.status=.running/\g.offers=Z8:=λh=>by obtain⟨F,rfl⟩:=h;exact⟨rfl,rfl⟩
 cases s with
 |ad t=>exact Bg h
 |mq t=>exact Bh h
 |KQ=>obtain⟨_,_,h⟩:=h;exact a h
 |_=>exact a h
def o9.status(h:o9 K r i c s k z g):(g.status=.running/\z=1)\/(g.status=.blocked/\z=0/\g.offers=Z8/\s=.mq .rJ):=by
 cases h with
 |go h hs=>exact .inl ⟨h.running (jQ hs).1,rfl⟩
 |blk hs=>exact .inr ⟨rfl,rfl,(jQ hs).2,rfl⟩
def Bi(A:dX K)(F:Au s=U->r<K.n)(W:db K val h w)(l:tD K r i c s w)(hi:nW s=U->K.B0+5<=i/\i<w)(hc:pc s=U->K.B0+5<=c/\c<w/\i≠c)(hsit:o9 K r i c s k z g)(hr:g.status=.running)(hgo:s=.ad .yt->0<k)(hend:s=.mq .kI->0<k)(hk:h.k<1073741823){G L M}(hI:mW (wa s) (xa s) h G L M)(T:gone s=U->h.k=0):MW K r i c s k z h g w:=by
 have hsz:=W.size;cases hsit with
 |blk hs=>cases hr
 |@go _ k _ X Q hs=>
  cases k with
  |succ k=>obtain⟨_,g1,B,h1'⟩:=Q;exact Hc W l B<|.go h1' hs
  |zero=>
   have:=Q;subst this;cases s with
   |Pj=>obtain⟨a,ha,D,O,S,cs,e,f,q1,q2,q3⟩:=A.data r<|F rfl;have hh:=Uq (h:=hs);have hca:K.q.ca=I a:=ha;rw[hca]at hh;obtain⟨N,J,g2,j,p⟩:=TG K.b K.q r (a.add<|r*2) K.cs K.c0 X hs;exact⟨U,.KQ,N,1,h,i,c,_,w,_,jr (P:=P0) (main:=U) (w:=w) (ad:=a) (k:=ο) (i:=r) hh ak6 L7<|F rfl,.go j ⟨a,ha,p⟩,yK W trivial (by simp) (by simp) (by simp)<|by simp,nX rfl<|by simp,.inr ⟨rfl,⟨rfl,rfl⟩,rfl⟩⟩
   |KQ=>
    obtain⟨a,ha,hs⟩:=hs;obtain⟨a',ha',D,O,S,cs,e,f,q1,q2,q3⟩:=A.data r<|F rfl;rw[ha]at ha';cases ha'
    obtain⟨ab,ao,asp⟩:=a;dsimp only at S q1 q2 q3 D O;subst S;rw[aP]at hs;obtain⟨N,J,g2,j,p⟩:=TH K.b K.q r (ab,ao+r*2) (.agg #[K.v1 r,K.v2 r]) K.cs K.c0 X hs;refine⟨U,.k9,N,1,h,i,c,_,w,_,jp (P:=P0) (main:=U) (w:=w) (Ur (h:=hs)) acb L7 (v:=K.v1 r) (v2:=K.v2 r) (by rw[aP,bM (by rw[W.low _ D];exact q1)];exact q2) (by rw[aP,bM (by rw[W.low _ D];exact q1)];exact q3) (by rw[aQ.cg hs];exact uw),.go j p,yK W trivial (by simp) (by simp) (by simp)<|by simp,⟨λe C x m hm=>?_,λe C=>?_,rfl,λe C=>?_,by simp⟩,.inr ⟨rfl,⟨rfl,rfl⟩,rfl⟩⟩
    all_goals
     simp only[aP,ZY,Z0,Z3,or_false]at C
    right;left;obtain rfl|rfl:=C
    cases m;exact⟨rfl,D,O⟩
    cases m;exact⟨rfl,D,O⟩
    obtain rfl|rfl:=C
    ·show ab<_;omega
    show ab<_;omega;obtain rfl|rfl:=C<;>simp
   |k9=>
    obtain⟨N,J,g2,j,p⟩:=acs K.b K.q r w.heap.size (.agg #[K.v1 r,K.v2 r]) K.cs K.c0 X hs;have d:(w.alloc<|.cells (κ IntKind.i64 0).cells 3).heap=w.heap.push (Θ #[κ ο 0] 3):=rfl;refine⟨U,.vL,N,1,h,w.heap.size,c,_,_,_,gq (P:=P0) (main:=U) (w:=w) (acM (h:=hs)) z3,.go j p,⟨rfl,rfl,.refl _,by rw[d];simp,W.sh.of_block (by rw[d,ω<|by omega];simp[Δ (by omega:K.B0+3<w.heap.size)]) (by rw[d,ω<|by omega];simp[Δ (by omega:K.B0+4<w.heap.size)]),λx m _ _ _ _=>?_,λx Q H=>?_,λx _ m=>?_,?_,.inr ⟨rfl,rfl,rfl,by rw[d];simp⟩,.inl ⟨rfl,by simp⟩,λ_=>⟨rfl,.inl rfl⟩⟩,nX rfl<|by simp,.inr ⟨rfl,⟨rfl,rfl⟩,rfl⟩⟩;rw[d,ω m,Δ m];rw[d]at H⊢;simp only[ZL]at H;have:x=w.heap.size:=by omega
    subst this;exact⟨#[κ ο 0],3,(0,0),by simp,A.TT.2.2.2.2.2.1⟩;obtain⟨e,_⟩|⟨e,_⟩:=m<;>cases e
    show(w.alloc _).heap[w.heap.size]?=_;rw[d];simp
   |vL=>
    have hi:=hi rfl;obtain⟨zv,hz⟩:=z76;obtain⟨N,J,g2,j,p⟩:=TJ K.b K.q r ⟨i,0,Z8⟩ ⟨w.heap.size,0,Z8⟩ (.agg #[K.v1 r,K.v2 r]) K.cs K.c0 X hs;have d:(w.alloc<|.cells (Z7 #[κ ο 0,zv]).cells 76).heap=w.heap.push (Θ #[κ ο 0,zv] 76):=rfl;refine⟨U,.iJ,N,1,h,i,w.heap.size,_,_,_,gq (P:=P0) (main:=U) (w:=w) (Us (h:=hs)) hz,.go j p,⟨rfl,rfl,.refl _,by rw[d];simp,W.sh.of_block (by rw[d,ω<|by omega];simp[Δ (by omega:K.B0+3<w.heap.size)]) (by rw[d,ω<|by omega];simp[Δ (by omega:K.B0+4<w.heap.size)]),λx m _ _ _ _=>?_,λx Q H=>?_,λx _ m=>?_,⟨?_,κ ο 0,zv,?_⟩,.inl ⟨rfl,by simp⟩,.inr ⟨rfl,rfl,rfl,by rw[d];simp⟩,λ_=>⟨rfl,.inr rfl⟩⟩,nX rfl<|by simp,.inr ⟨rfl,⟨rfl,rfl⟩,rfl⟩⟩;rw[d,ω m,Δ m];rw[d]at H⊢;simp only[ZL]at H;have:x=w.heap.size:=by omega
    subst this;exact⟨#[κ ο 0,zv],76,(0,0),by simp,A.TT.2.2.2.2.2.2⟩;obtain⟨e,_⟩|⟨e,_⟩:=m<;>cases e
    rw[d,ω hi.2,<-Δ hi.2];exact l;rw[d];simp
   |iJ=>
    have hi:=hi rfl;obtain⟨E,hc2,hic⟩:=hc rfl;obtain⟨b1,u,v,b2⟩:=l;have B:=iS (P:=P0) (main:=U) (w:=w) (ME (h:=hs)) si3 rfl rfl (v:=κ ο 0) (by rw[aP,bM b1];rfl) (by rw[aP];exact g8 b1) (by rw[aQ.cg hs];exact uw);rw[aP]at B;obtain⟨N,J,g2,j,p⟩:=Mw K.b K.q r ⟨i,0,Z8⟩ ⟨c,0,Z8⟩ (.agg #[K.v1 r,K.v2 r]) K.cs K.c0 X hs;have e1:=jP (o:=0) (v:=κ ο r) b1;refine⟨U,.iK,N,1,h,i,c,_,_,_,B,.go j p,⟨rfl,rfl,.refl _,by rw[cE];exact ZZ _,W.sh.of_block (dh (by show K.B0+3≠i;omega))<|dh (by show K.B0+4≠i;omega),λx _ _ _ q1 _=>dh<|q1 rfl rfl,λx Q H=>absurd H (by rw[cE];omega),λx _ m=>?_,⟨e1,u,v,?_⟩,.inl ⟨rfl,by simp⟩,.inl ⟨rfl,by simp⟩,λh=>absurd h (by rw[cE];exact Z2 _)⟩,⟨λe C x m hm=>?_,λe C=>?_,rfl,λe C=>?_,by simp⟩,.inr ⟨rfl,⟨rfl,rfl⟩,rfl⟩⟩;obtain⟨_,rfl⟩|⟨e,_⟩:=m
    ·exact⟨_,_,_,e1,A.TT.2.2.2.2.2.1⟩
    cases e
    rw[dh (by exact Ne.symm hic)];exact b2;rw[φ.1 C]at m;cases m
    exact .inr<|.inr<|.inl ⟨rfl,rfl⟩;rw[φ.1 C,cE];exact hi.2;rw[φ.1 C];simp
   |iK=>
    have hi:=hi rfl;have hc:=hc rfl;obtain⟨b1,u,v,b2⟩:=l;have e1:=jP (o:=0) (v:=K.v1 r) b2;have e2:=jP (o:=1) (v:=K.v2 r) e1;have B:=ut (P:=P0) (main:=U) (w:=w) (MF (h:=hs)) L7 (A.ads r<|F rfl).1 (A.ads r<|F rfl).2 (v:=u) (v2:=v) (by rw[aP,bM b2];rfl) (by rw[aP];exact g8 b2) (by rw[aP,aP,bM e1];rfl) (by rw[aP,aP];exact g8 e1) (by rw[aQ.cg hs];exact uw);rw[aP,aP]at B;obtain⟨N,J,g2,j,p⟩:=My K.b K.q r ⟨i,0,Z8⟩ ⟨c,0,Z8⟩ (.agg #[K.v1 r,K.v2 r]) K.cs K.c0 X hs;have so:∀{x:Nat},x≠c->((w.setCell ⟨c,0,Z8⟩<|K.v1 r).setCell ⟨c,1,Z8⟩<|K.v2 r).heap[x]?=w.heap[x]?:=λm=>by rw[dh (by exact m),dh<|by exact m]
    refine⟨U,.ad .GR,N,1,h,i,c,_,_,_,B,.go j p,⟨rfl,rfl,.refl _,by rw[cE,cE];exact ZZ _,W.sh.of_block (so<|by omega)<|so<|by omega,λx _ _ _ _ q1=>so<|q1 rfl rfl,λx Q H=>absurd H (by rw[cE,cE];omega),λx _ m=>?_,⟨?_,?_⟩,.inl ⟨rfl,by simp⟩,.inl ⟨rfl,by simp⟩,λh=>absurd h (by rw[cE,cE];exact Z2 _)⟩,⟨λe C x m hm=>?_,λe C=>?_,rfl,λe C=>?_,by simp⟩,.inr ⟨rfl,⟨rfl,rfl⟩,rfl⟩⟩;obtain⟨e,_⟩|⟨_,rfl⟩:=m
    ·cases e
    exact⟨_,_,_,e2,A.TT.2.2.2.2.2.2⟩;rw[so hc.2.2];exact b1;exact e2
    all_goals
     simp only[ZY,Z0,Z3,or_false]at C
    right;right;right;obtain rfl|rfl:=C
    cases m;exact⟨rfl,rfl⟩
    cases m;exact⟨rfl,rfl⟩
    rw[cE,cE];obtain rfl|rfl:=C<;>exact hc.2.1
    obtain rfl|rfl:=C<;>simp
   |ad t=>
    have y:=hi rfl;have E:=hc rfl;have hid:wa (.ad t)=V:=rfl;cases t with
    |GR=>exact rN W y.2 y.1 E.1 l<|Um W.sh hs
    |tA=>exact rN W y.2 y.1 E.1 l<|MC nZ (by omega) hk ((hI.idle hid).1) W.sh hs
    |QR=>exact rN W y.2 y.1 E.1 l<|Un nZ W.sh hs
    |GS=>exact rN W y.2 y.1 E.1 l<|Uo nZ W.sh hs
    |ar=>exact rN W y.2 y.1 E.1 l<|acH W.sh hs
    |yt=>exact absurd (hgo rfl) (by omega)
   |mq t=>
    cases t with
    |q7=>exact gt W<|acD W.sh hs
    |ql=>exact gt W<|acE nZ (by omega) (hI.idle rfl).1 W.sh hs
    |qc k0=>exact gt W<|acF nZ (by omega) (by omega) (hI.idle rfl).1 W.sh hs
    |QO=>exact gt W<|Ud W.sh hs
    |KO=>exact gt W<|Ue nZ W.sh hs
    |Bd=>exact gt W<|Uf nZ W.sh hs
    |GQ=>exact gt W<|Ug nZ W.sh hs
    |Eg=>exact gt W<|Uh nZ W.sh hs
    |rJ=>
     by_cases h0:h.ws=0
     have B:=yr (tM:=249) (tW:=255) (Mu:=K.B0+3) nZ h0 W.sh hs;exact⟨V,.mq .rJ,0,0,h,i,c,_,w,#[],B,.blk hs,⟨rfl,rfl,.refl _,.refl,W.sh,λ_ _ _ _ _ _=>rfl,λx Q H=>absurd H<|ZP.2 Q,(λx h=>by cases h),trivial,.inl ⟨rfl,λh=>by cases h⟩,.inl ⟨rfl,λh=>by cases h⟩,λh=>absurd h<|Z2 _⟩,nX rfl id,.inl ⟨rfl,rfl,rfl,rfl,rfl,.inr ⟨rfl,by omega,h0,rfl⟩⟩⟩;exact gt W<|Ui nZ (by omega) (by omega) W.sh hs
    |qm=>exact gt W<|acG nZ (T rfl) (hI.idle rfl).1 W.sh hs
    |MB=>exact gt W<|Uj W.sh hs
    |Eh=>exact gt W<|Uk nZ W.sh hs
    |yq=>exact gt W<|Ul nZ W.sh hs
    |kI=>exact absurd (hend rfl) (by omega)
end
end
end Ph
namespace Ph
open Go Go.Conc
open Go.ConcN (sumTo upd sumTo_upd upd_ne upd_same RelBy)
open Go.ConcM (muA msA MuAt ShAt Eff BookOK Bk2)
open Go.ConcR (stA smA WgAt mk)
open Go.ConcX (again_blocked)
section
variable{g':R}{w':η}{p:WP}
structure CD where
 r:Nat
 s:cZ
 i:Nat
 c:Nat
 k:Nat
 z:Nat
 st:Nat->St
 X:Nat->Nat->Prop
 l:Nat->Nat
 kk:Nat->Nat
 zz:Nat->Nat
 ib:Nat->Nat
 cb:Nat->Nat
 H:Nat->Nat
 Z:Nat
 h:Sh
 q:Nat->Nat
 f:Nat->Nat->Nat
def valOf(K:PC)(D:CD)(i:Nat):Int:=if i<D.r/\cu (D.st i)=U then K.ev i else 0
structure CW(K:PC)(w0:η)(D:CD)(w:η):Prop where
 tape:w.tape=w0.tape
 output:w.output=w0.output
 os:ZQ w0.os w.os
 at_:db K (valOf K D) D.h w
 box:∀j,j<D.r->uy K w j (D.ib j) (D.cb j)
 Hd:tD K D.r D.i D.c D.s w
 hz:∀j,j<D.r->K.B0+5<=D.ib j/\D.ib j<D.H j/\K.B0+5<=D.cb j/\D.cb j<D.H j/\D.H j<=D.Z
 zs:K.B0+5<=D.Z/\D.Z<=w
 Bj:∀j,j<D.r->∀k,¬D.X k (D.ib j)/\¬D.X k (D.cb j)
 hi:nW D.s=U->D.Z<=D.i/\D.i<w/\∀k,¬D.X k D.i
 hc:pc D.s=U->D.Z<=D.c/\D.c<w/\D.i≠D.c/\∀k,¬D.X k D.c
 xr:∀k x,D.X k x->k<D.r/\K.B0+5<=x/\x<w
 xd:∀k k' x,D.X k x->D.X k' x->k=k'
 x4:∀j,j<D.r->4<=D.l j->D.X j=λ_=>False
 rows:∀x,K.B0+5<=x->x<w->(∃j,j<D.r/\D.st j=.pv/\D.X j x)\/∃cs e f,w.heap[x]?=I (.cells cs e f)/\K.TT e
 B4:∀x,K.B0+5<=x->x<w->(∃j,j<D.r/\D.st j=.pv/\D.X j x)\/(∃j,j<D.r/\D.l j<=2/\∃i,i<K.C/\x=D.f j i)\/(∃j,j<D.r/\(x=D.ib j\/x=D.cb j))\/(nW D.s=U/\x=D.i)\/(pc D.s=U/\x=D.c)
structure CN(K:PC)(D:CD):Prop where
 rn:D.r<=K.n
 inr:Au D.s=U->D.r<K.n
 out:Au D.s=V->D.r=K.n
 gi:GI D.r D.st D.h
 vM:∀j,j<D.r->rG K.n (D.st j)
 wg:mW (wa D.s) (xa D.s) D.h (cnt D.r nG D.st) (cnt D.r nL D.st) (cnt D.r nM D.st)
 mf:iE D.s
 gone:gone D.s=U->D.h.k=0
 zs:D.z=0->D.h.ws=0
 zw:∀j,j<D.r->D.zz j=0->D.h.ms=0
structure CT(K:PC)(D:CD)(B:Nat)(t:Zr):Prop where
 d0:ZR t 0=mE D.s
 dw:∀j,j<D.r->ZR t (K.p0+j)=deaf (D.st j)
 dz:∀j,K.p0+D.r<=j->ZR t j=0
 ti:D.s≠.mq .kI->TI K.Shun K.ic (K.Own D.X) K.p0 D.r D.Z D.H B t/\(∀j,j<D.r->dC (D.st j)=U->∃i,RelBy (stA (K.B0+4)) t (K.p0+j) i)/\NoRelease (stA (K.B0+4)) t
 pa:D.s=.mq .kI->Past (λl=>K.Shun l\/K.ic l) B t/\∀i x,touchAt t i=I x->K.ic x.loc->x.kind≠.plain
structure CI(K:PC)(w0:η)(D:CD)(gs:Array R)(w:η)(t:Zr):Prop where
 size:gs.size=K.p0+D.r
 g0:∃g,gs[0]?=I g/\o9 K D.r D.i D.c D.s D.k D.z g
 old:∀j g,0<j->j<K.p0->gs[j]?=I g->ZT P0 (D.q j) (ZR t j) g
 wk:∀j,j<D.r->∃g,gs[K.p0+j]?=I g/\WSit K j (K.wp (D.ib j) (D.cb j)) (D.st j) (D.X j) (D.l j) (D.kk j) (D.zz j) g w
 cw:CW K w0 D w
 cn:CN K D
 ct:CT K D w t
def mu(K:PC)(D:CD):Nat×Nat×Nat×Nat×Nat:=(K.n-D.r,sumTo D.r D.l,meas D.r D.st D.h+rM D.h D.s,sumTo D.r D.kk+D.k+sumTo K.p0 D.q,sumTo D.r D.zz+D.z)
def vN(a b:Nat×Nat×Nat×Nat×Nat):Prop:=a.1<b.1\/(a.1=b.1/\(a.2.1<b.2.1\/(a.2.1=b.2.1/\(a.2.2.1<b.2.2.1\/(a.2.2.1=b.2.2.1/\(a.2.2.2.1<b.2.2.2.1\/(a.2.2.2.1=b.2.2.2.1/\a.2.2.2.2<b.2.2.2.2)))))))
def MX:WellFounded vN:=by
 have h:=(inferInstance:WellFoundedRelation (Nat×Nat×Nat×Nat×Nat)).wf;refine Subrelation.wf (λ{a b} c=>?_) h;obtain⟨e,d,b3,b4,b5⟩:=b;obtain h|⟨rfl,h|⟨rfl,h|⟨rfl,h|⟨rfl,h⟩⟩⟩⟩:=c
 exact ZU _ _ h;exact ι _<|ZU _ _ h;exact ι _<|ι _<|ZU _ _ h;exact ι _<|ι _<|ι _<|ZU _ _ h;exact ι _<|ι _<|ι _<|ι _ h
def dY(g g':R):Bool:=mayWake P0 g&&g'.status !=.blocked&&g'.status !=.waiting
def yL{g o}:woken P0 g g' w' o=if dY g g' then o.again w' else o:=rfl
def WSit.woken{K j s X l k z g a a' w}(h:WSit K j p s X l k z g w):WSit K j p s X l k (if dY a a' then 1 else z) (ZK P0 a a' w' g) w:=by
 rw[yL];by_cases hw:dY a a'=U
 rw[if_pos hw,if_pos hw];have b:∀{g:R},g.status=.running\/g.status=.finished->g.again w'=g:=λh=>again_running _ h;cases h with
 |go h hs n f i=>rw[b (.inl<|h.running (rK hs).1)];exact .go h hs n f i
 |w8 h hs=>rw[b (.inl<|h.running (by obtain⟨F,rfl⟩:=hs;rfl))];exact .w8 h hs
 |blk hs=>have:=js hs;rw[again_blocked this.1 this.2];exact .go rfl hs (by simp) (by simp) (by simp)
 |ap c h e d=>rw[b (.inl<|h.running rfl)];exact .ap c h e d
 |pv c m O q h o e d=>rw[b (.inl h.running)];exact .pv c m O q h o e d
 |fin h=>rw[b (.inr h)];exact .fin h
 grind
def o9.woken{K r i c s k z g a a'}(h:o9 K r i c s k z g):o9 K r i c s k (if dY a a' then 1 else z) (ZK P0 a a' w' g):=by
 rw[yL];by_cases hw:dY a a'=U
 rw[if_pos hw,if_pos hw];cases h with
 |go h hs=>rw[again_running _ (.inl<|h.running (jQ hs).1)];exact .go h hs
 |blk hs=>have:=jQ hs;rw[again_blocked this.1 this.2];exact .go rfl hs
 grind
def WSit.others{K j p s X l k z g}{w w':η}(h:WSit K j p s X l k z g w)(hs:w.heap.size<=w')(r:∀b,b<K.B0->w'.heap[b]?=w.heap[b]?)(q:s=.pv->∀x,X x->w'.heap[x]?=w.heap[x]?):WSit K j p s X l k z g w':=by
 cases h with
 |go h hs m f i=>exact .go h hs m f i
 |w8 h hs=>exact .w8 h hs
 |blk hs=>exact .blk hs
 |ap a h d c=>exact .ap a h d c
 |pv a n O e h o d c=>exact .pv a n O e h (o.others hs r λx t=>q rfl x<|by simp_all) d c
 |fin h=>exact .fin h
def WSit.at{K j s X l k z g w}(h:WSit K j p s X l k z g w)(d):WSit K j p s X l k z g (w.at d):=h.others .refl (λ_ _=>rfl) (λ_ _ _=>rfl)
def WSit.lv3{K j s X l k z g w}(h:WSit K j p s X l k z g w):(s=.pv->2<l)/\(s=.ld->l=2):=by
 cases h with
 |go h hs i b f=>exact⟨(λh=>absurd h b),λh=>by rw[h];rfl⟩
 |w8 h hs=>exact⟨(λh=>by cases h),λh=>by cases h⟩
 |blk hs=>exact⟨(λh=>by cases h),λh=>by cases h⟩
 |ap a h d c=>exact⟨(λ_=>by omega),λh=>by cases h⟩
 |pv a m O e h n d c=>exact⟨(λ_=>by omega),λh=>by cases h⟩
 |fin h=>exact⟨(λh=>by cases h),λh=>by cases h⟩
def db.at{K a h w}(W:db K a h w)(d):db K a h (w.at d):=⟨W.size,W.low,W.gb,W.er,W.eb,W.sh.of_block rfl rfl⟩
def MY{K r i c s w}(h:tD K r i c s w)(d):tD K r i c s (w.at d):=by trivial
def CW.at{K w0 w D}(C:CW K w0 D w)(d):CW K w0 D (w.at d):=⟨C.tape,C.output,C.os,C.at_.at d,C.box,MY C.Hd d,C.hz,C.zs,C.Bj,C.hi,C.hc,C.xr,C.xd,C.x4,C.rows,C.B4⟩
def C8{f i r x}(hi:i<r):sumTo r (upd f i x)+f i=sumTo r f+x:=sumTo_upd f x id hi
def J3{α}(f:Nat->α)(i):upd f i (f i)=f:=by
 funext a
 simp only[upd]
 grind
def np{F n st i s'}(hi:i<n)(h:F s'=F (st i)):cnt n F (upd st i s')=cnt n F st:=by have:=lO (F:=F) (st:=st) hi s';omega
def pd{gs:Array R}{f a}(h:a<gs.size):((gs.map f).setIfInBounds a g')[a]?=I g':=by simp[h]
def fw{gs:Array R}{f a j}(h:a≠j):((gs.map f).setIfInBounds a g')[j]?=gs[j]?.map f:=by grind
def gu{g fn pos es}:∀op∈Ψ g fn pos es,op.g=g:=λop a=>by obtain⟨e,_,rfl⟩:=Ω a;rfl
def gw{K:PC}{X k l}(h:K.Own X k l):(l=.cell (K.B0+1,k))\/X k (blk l):=h.elim (λh=>.inl h.1) λh=>.inr h.2
def fam{K w0 w D}(A:dX K)(C:CW K w0 D w):OS K.Shun K.ic (K.Own D.X) K.p0 D.r D.Z D.H:=by
 have c:∀{k x},D.X k x->K.B0+5<=x:=λh=>(C.xr _ _ h).2.1;refine⟨λk i l b f=>?_,λk l b=>⟨λhs=>?_,λhs=>?_⟩,λj d=>(C.hz j d).2.2.2.2,A.pos,λl e=>by obtain⟨a,rfl,_⟩:=e;rfl⟩;obtain e1|e1:=gw b<;>obtain e2|e2:=gw f
 ·grind
 rw[e1]at e2;have:K.B0+5<=K.B0+1:=c e2;omega;rw[e2]at e1;have:K.B0+5<=K.B0+1:=c e1;omega;exact C.xd _ _ _ e1 e2;obtain⟨a,rfl,g⟩:=hs;obtain e1|e1:=gw b
 simp only[Loc.cell.injEq]at e1;subst e1;dsimp only at g;omega;have:K.B0+5<=a.block:=c e1;omega;obtain e1|e1:=gw b
 ·subst e1;have:K.B0+1<K.B0:=A.SB _ hs;omega
 have h5:=c e1;cases l with
 |cell a=>have:=A.SB _ hs;simp only[blk]at h5;omega
 |obj r=>have:=A.SB _ hs;simp only[blk]at h5;omega
 |_=>exact hs.elim
end
end Ph
namespace Ph
open Go Go.Conc
open Go.ConcN (sumTo upd sumTo_upd upd_ne upd_same RelBy)
open Go.ConcM (muA msA MuAt ShAt Eff BookOK Bk2)
open Go.ConcR (stA smA WgAt mk)
def alp{s s' h h'}(a:Nx s h s' h'):h'.k<=h.k:=by
 cases s with
 |w7=>exact a.elim
 |w8=>exact a.elim
 |pv=>exact a.elim
 |fin=>exact a.elim
 |ga=>obtain⟨rfl,_⟩:=a;exact Nat.sub_le _ _
 |gs=>obtain⟨_,rfl⟩:=a;exact ZB _
 |l0=>obtain⟨_,_,rfl⟩|⟨_,_,rfl⟩:=a<;>exact .refl
 |c1 x=>obtain⟨_,_,rfl⟩|⟨_,_,rfl⟩:=a<;>exact .refl
 |c2 x=>obtain⟨_,rfl,_⟩|⟨_,_,rfl⟩:=a<;>exact .refl
 |uc x=>obtain⟨_,_,rfl⟩|⟨_,_,rfl⟩:=a<;>exact .refl
 |s1 x=>obtain⟨_,rfl,_⟩:=a;exact .refl
 |sq x=>obtain⟨rfl,_⟩:=a;exact .refl
 |t1 x=>obtain⟨rfl,_⟩:=a;exact .refl
 |t2 x=>obtain⟨rfl,_⟩:=a;exact .refl
 |r2 x=>obtain⟨rfl,_⟩:=a;exact .refl
 |u0=>obtain⟨rfl,_⟩:=a;exact .refl
 |gm=>obtain⟨_,rfl⟩:=a;exact .refl
 |us=>obtain⟨_,rfl⟩:=a;exact .refl
 |uh=>obtain⟨_,rfl⟩:=a;exact .refl
 |a1 x=>obtain⟨_,rfl⟩:=a;exact .refl
 |_=>obtain⟨_,rfl⟩:=a;exact .refl
def early:St->Bool
 |.w7|.w8|.pv|.ld=>U
 |_=>V
def rO{s}(h:early s=U):nO s=0/\nA s=0/\nT s=0/\nQ s=0/\nH s=0/\nU s=0/\nV s=0/\nC s=0/\nG s=1/\nL s=0/\nM s=0/\cu s=V/\dC s=V/\ez s=V/\il s=V:=by cases s<;>first|(cases h;done)|exact⟨rfl,rfl,rfl,rfl,rfl,rfl,rfl,rfl,rfl,rfl,rfl,rfl,rfl,rfl,rfl⟩
def Ep{s h B}(a:early s=U):aaA h s/\rG B s:=by cases s<;>first|(cases a;done)|exact⟨trivial,trivial⟩
structure PgF(K:PC)(D:CD)(j:Nat)(dn:Bool)(s':St)(h':Sh)(l' k' z':Nat)(g g':R):Prop where
 gi:GI D.r (upd D.st j s') h'
 wg:mW (wa D.s) (xa D.s) h' (cnt D.r nG (upd D.st j s')) (cnt D.r nL (upd D.st j s')) (cnt D.r nM (upd D.st j s'))
 vM:rG K.n s'
 GZ:cu s'=(cu (D.st j)||(dn&&ez (D.st j)))
 rel:dC s'=(dC (D.st j)||(dn&&il (D.st j)))
 le:l'<=D.l j
 k:h'.k<=D.h.k
 wake:dY g g'=V->h'.ms<=D.h.ms/\h'.ws<=D.h.ws
 z:z'=0->h'.ms=0
 low:(l'<D.l j)\/(l'=D.l j/\h'.k=D.h.k/\meas D.r (upd D.st j s') h'<meas D.r D.st D.h)\/(l'=D.l j/\s'=D.st j/\h'=D.h/\(k'<D.kk j\/(k'=D.kk j/\z'<D.zz j/\dY g g'=V)))
def He{K D j S s' h' J k' z' g g'}(C:CN K D)(a:j<D.r)(pg:WPg S (D.st j) s' D.h h' (D.l j) J (D.kk j) k' (D.zz j) z' g g')(hg':g'.status≠.waiting):PgF K D j S s' h' J k' z' g g':=by
 have o:=C.vM j a;obtain⟨rfl,rfl,rfl,rfl,P⟩|⟨rfl,d,q,t,hz,A⟩|⟨rfl,rfl,q,hz,hs⟩:=pg
 rw[<-J3 D.st j]at o;refine⟨by rw[J3];exact C.gi,by rw[J3];exact C.wg,C.vM j a,by simp,by simp,.refl,.refl,λ_=>⟨ZZ _,.refl⟩,λh0=>?_,.inr<|.inr ⟨rfl,rfl,rfl,?_⟩⟩;obtain⟨_,h⟩|⟨_,h,b,_⟩:=P
 ·exact C.zw j a (by rw[<-h];exact h0)
 exact b;obtain⟨h,_⟩|⟨b,O,_,h4⟩:=P
 ·exact .inl h
 refine .inr ⟨b,O,?_⟩;unfold dY;rw[h4];simp;have u:=G8 d;have e:∀F:St->Nat,cnt D.r F D.st-F (D.st j)+F (D.st j)=cnt D.r F D.st:=λF=>Zy<|gj a;have y:∀F:St->Nat,cnt D.r F (upd D.st j s')=cnt D.r F D.st-F (D.st j)+F s':=λF=>by have b:=lO (F:=F) (st:=D.st) a s';have O:=gj (F:=F) (st:=D.st) a;omega
 have c:mW (wa D.s) (xa D.s) D.h ((cnt D.r nG D.st-nG (D.st j))+nG (D.st j)) ((cnt D.r nL D.st-nL (D.st j))+nL (D.st j)) ((cnt D.r nM D.st-nM (D.st j))+nM (D.st j)):=by rw[e,e,e];exact C.wg
 refine⟨C.gi.step a d,by rw[y,y,y];exact c.core d,d.akU (ZM C.gi.wW.1 C.rn) o,by rw[u.GZ];simp,by rw[u.rel];simp,by rw[t,q];exact u.lv,alp d,λhw=>?_,λh0=>by omega,?_⟩;apply ζ;intro hn;obtain⟨q1,q2⟩:=A (by omega);unfold dY at hw;rw[q1,q2]at hw;cases hw
 obtain h|h:=Nat.lt_or_ge J<|D.l j
 ·exact .inl h
 right;left;refine⟨Nat.le_antisymm (by rw[t,q];exact u.lv) h,?_,C.gi.lower a d⟩;apply ζ;intro p;obtain b|b:=adt d p
 omega;have m:=d;rw[b]at m c;obtain⟨_,rfl⟩:=m;have n1:nL .gs=1:=rfl;cases Q9:wa D.s with
 |false=>have:=(c.idle Q9).2.2.1;omega
 |true=>have:=(c.wait Q9).2.2;apply p;show 0=D.h.k;omega
 have f:early (D.st j)=U/\early s'=U:=by obtain⟨b,rfl⟩|⟨b,rfl⟩|⟨b,rfl|rfl⟩:=hs<;>rw[b]<;>exact⟨rfl,rfl⟩
 obtain⟨a1,a2,a3,a4,a5,a6,a7,T,a9,z,E,L,N,GR,G⟩:=rO f.1;obtain⟨X,b2,b3,b4,b5,b6,b7,b8,b9,w,v,H,x,W,b15⟩:=rO f.2;have Q:=Ep (h:=D.h) (B:=K.n) f.2;refine⟨⟨?_,λi hi=>?_⟩,?_,Q.2,by rw[H,L,GR];rfl,by rw[x,N,G];rfl,Nat.le_of_lt q,.refl,λ_=>⟨ZZ _,.refl⟩,λh0=>by omega,.inl q⟩;rw[np a (by rw[X,a1]),np a<|by rw[b2,a2],np a<|by rw[b3,a3],np a<|by rw[b4,a4],np a<|by rw[b5,a5],np a<|by rw[b6,a6],np a<|by rw[b7,a7],np a<|by rw[b8,T]];exact C.gi.Ee;simp only[upd];split
 exact Q.1;exact C.gi.loc i hi;rw[np a (by rw[b9,a9]),np a<|by rw[w,z],np a<|by rw[v,E]];exact C.wg
def MZ{K r i c s w w'}(h:tD K r i c s w)(hi:nW s=U->w'.heap[i]?=w.heap[i]?)(hc:pc s=U->w'.heap[c]?=w.heap[c]?):tD K r i c s w':=by
 cases s with
 |vL=>show w'.heap[i]?=_;rw[hi rfl];exact h
 |iJ=>obtain⟨b,u,v,a⟩:=h;exact⟨by rw[hi rfl];exact b,u,v,by rw[hc rfl];exact a⟩
 |iK=>obtain⟨b,u,v,a⟩:=h;exact⟨by rw[hi rfl];exact b,u,v,by rw[hc rfl];exact a⟩
 |ad t=>obtain⟨b,a⟩:=h;exact⟨by rw[hi rfl];exact b,by rw[hc rfl];exact a⟩
 |_=>trivial
def adK{h h' s}(a:h'.k=h.k):rM h' s=rM h s:=by
 cases s with
 |mq t=>cases t<;>simp[rM,a]
 |ad t=>cases t<;>rfl
 |_=>rfl
def Er{Sh B g t fn pos es}(h:Past Sh B t)(P:g≠0)(S:∀i x,touchAt t i=I x->(∃e∈es,∃y,(Γ e).touch?=I y/\y.loc=x.loc) ->x.loc.isMemory=U->x.kind≠.plain)(s:∀i e,es[i]?=I e->(Γ e).touch?=Z8\/((∃ad wr,e=⟨.cell ad,wr,U⟩)/\0<deafBehind (ZR t g) (es.extract 0 i)))(k:∀e∈es,∀x,(Γ e).touch?=I x->x.loc.isMemory=U->Sh x.loc/\x.kind=.atomic)(T:∀e∈es,(Γ e).low B):Past Sh B (t++Ψ g fn pos es):=by
 have o:∀e∈es,∀x,(Γ e).touch?=I x->x.loc.isMemory=U:=by
  intro e d x n;obtain⟨i,hi⟩:=ZD.1 d;obtain h0|⟨⟨ad,wr,rfl⟩,_⟩:=s i e hi
  rw[h0]at n;cases n;simp only[Γ,Z1,ZW]at n;subst n;rfl
 refine⟨λp=>noRace_append (g:=g) (h.clean p) gu λi a J op f b hb hc=>?_,λi a J w=>?_,λi v q D hc=>?_,?_,seen_app h.seen λop f=>?_⟩;exfalso;obtain⟨e,d,rfl⟩:=Ω f;obtain⟨c1,c2,c3,W⟩:=hc;obtain⟨hs,l⟩:=k e d b hb<|o e d b hb;obtain e1|e1|⟨_,_,e1⟩:=W
 exact S i a J ⟨e,d,b,hb,c1.symm⟩ c2 e1;rw[l]at e1;cases e1;rw[l]at e1;cases e1;obtain⟨hi,c⟩|⟨op,f,c,m⟩:=cc J
 ·exact(h.known i a c w).imp (·.app _) id
 obtain⟨e,d,rfl⟩:=Ω f;exact .inr<|k e d a c w;obtain⟨op,m,K⟩:=υ.1 q;obtain⟨hi,_⟩|⟨C,w⟩:=getElem?_append_cases m
 obtain⟨j,N,O⟩:=h.over i v (by rw[<-Zx (u:=Ψ g fn pos es) hi];exact q) D<|(counts_old hi).1 hc;have A:j<t.size:=by obtain⟨z,hz,_⟩:=υ.1 N;exact lt_size_of_getElem? hz
 exact⟨j,by rw[Zx A];exact N,hb_app _ O⟩;exfalso;have H:v=g:=by rw[<-K];exact gu op w
 subst H;obtain⟨x,n,_,l⟩:=hc;obtain⟨Q,r,c⟩:=touch_of n;rw[m]at r;cases r
 have A:(Ψ v fn pos es)[i-t.size]?=I op:=by rw[Array.getElem?_append]at m;simpa[ZP.2 C]using m
 rw[Zt,Array.getElem?_map]at A;obtain⟨e,d,rfl⟩:=υ.1 A;have E:i-t.size<=es.size:=by
  obtain L|L:=Nat.lt_or_ge (i-t.size) es.size
  omega;rw[Array.getElem?_eq_none L]at d;cases d
 obtain h0|⟨⟨ad,wr,rfl⟩,hd⟩:=s _ e d
 simp only at c;rw[h0]at c;cases c;have G:=(k _ (ZX d) x c<|o _ (ZX d) x c).2;obtain l|⟨g2,hg2,hdf⟩:=l
 exact l G;have F:g2=v:=by simp[Trace.g?,m]at hg2;exact hg2.symm
 subst F;have:=deaf_inside t g2 fn pos es (i-t.size) E;rw[show t.size+(i-t.size)=i by omega,hdf]at this;omega;rw[ZS t P _ gu];exact h.hears;obtain⟨e,d,rfl⟩:=Ω f;exact T e d
section
def CD.qu(D:CD)(j:Nat)(s':St)(X':Nat->Prop)(l' k' z':Nat)(h':Sh)(wk:Bool)(f':Nat->Nat):CD:={D with st:=upd D.st j s',X:=upd D.X j X',l:=upd D.l j l',kk:=upd D.kk j k',zz:=upd (λa=>if wk then 1 else D.zz a) j z',z:=if wk then 1 else D.z,h:=h',f:=upd D.f j f'}
section
variable{K:PC}{w0 w w':η}{D:CD}{gs:Array R}{t:Zr}{j:Nat}{dn:Bool}{s':St}{X':Nat->Prop}{l' k' z':Nat}{h':Sh}{g g':R}{es:Array ZE}{f':Nat->Nat}
def Bk(c:j<D.r){wk}(b:cu s'=(cu (D.st j)||(dn&&ez (D.st j))))(i):(if(dn=U/\ez (D.st j)=U)/\i=j then K.ev j else valOf K D i)=valOf K (D.qu j s' X' l' k' z' h' wk f') i:=by
 show(if(dn=U/\ez (D.st j)=U)/\i=j then K.ev j else if i<D.r/\cu (D.st i)=U then K.ev i else 0)=(if i<D.r/\cu (upd D.st j s' i)=U then K.ev i else 0);by_cases a:i=j
 subst a;simp only[upd_same]
 grind
 rw[if_neg (λh=>a h.2)];simp only[upd_ne _ _ a]
def M0(A:dX K)(C:CW K w0 D w)(S:j<D.r){wk}(F:uz K j dn (D.st j) s' (D.X j) X' h' (valOf K D) w w')(hp:cu s'=(cu (D.st j)||(dn&&ez (D.st j))))(hl:l'<=D.l j)(h4:4<=l'->X'=D.X j)(hf1:D.st j=.pv->s'≠.pv->(∀x,X' x->∃i,i<K.C/\x=f' i)/\l'<=2)(hf2:¬(D.st j=.pv/\s'≠.pv) ->f'=D.f j)(hpl:D.st j=.pv->2<D.l j):CW K w0 (D.qu j s' X' l' k' z' h' wk f') w':=by
 have W:=C.at_;have hsz:=W.size;have H:∀x,D.X j x->K.B0+5<=x:=λx t=>(C.xr j x t).2.1;have keep:∀x,x<w.heap.size->x≠K.B0+1->x≠K.B0+3->x≠K.B0+4->¬D.X j x->w'.heap[x]?=w.heap[x]?:=λx B z h3 h4 h5=>F.others x B z h3 h4 λ_=>h5;have u:∀x,x<w.heap.size->(∀k,¬D.X k x) ->∀k,¬upd D.X j X' k x:=by
  intro x t hn k n;by_cases d:k=j
  subst d;rw[upd_same]at n;have:=(F.fresh x n<|hn k).1;omega;rw[upd_ne _ _ d]at n;exact hn k n
 have Q:=C.zs;refine⟨F.tape.trans C.tape,F.output.trans C.output,C.os.trans F.os,⟨by have:=F.size;omega,λb hb=>?_,?_,?_,?_,F.sh⟩,λk n=>?_,?_,C.hz,⟨Q.1,by have:=F.size;exact ZM Q.2 this⟩,λk n=>?_,λh=>?_,λh=>?_,λk x t=>?_,λk L x B z=>?_,λk n y=>?_,λx J G=>?_,λx J G=>?_⟩;rw[keep b (by omega) (by omega) (by omega) (by omega) λh=>by have:=H b h;omega];exact W.low b hb;rw[keep K.B0 (by omega) (by omega) (by omega) (by omega) λh=>by have:=H K.B0 h;omega];exact W.gb;obtain⟨cs,B,z,h3⟩:=F.er;exact⟨cs,B,z,λi hi=>by rw[h3 i hi,Bk S hp]⟩;rw[keep (K.B0+2) (by omega) (by omega) (by omega) (by omega) λh=>by have:=H (K.B0+2) h;omega];exact W.eb;obtain⟨b1,b2⟩:=C.box k n;obtain⟨q1,p,v,q4,q5⟩:=C.hz k n;obtain⟨n1,n2⟩:=C.Bj k n j;exact⟨by show w'.heap[D.ib k]?=_;rw[keep (D.ib k) (by omega) (by omega) (by omega) (by omega) n1];exact b1,by show w'.heap[D.cb k]?=_;rw[keep (D.cb k) (by omega) (by omega) (by omega) (by omega) n2];exact b2⟩;refine MZ C.Hd (λh=>?_) λh=>?_
 ·obtain⟨q1,p,v⟩:=C.hi h;exact keep D.i (by omega) (by omega) (by omega) (by omega)<|v j
 obtain⟨q1,p,_,v⟩:=C.hc h;exact keep D.c (by omega) (by omega) (by omega) (by omega)<|v j;obtain⟨q1,p,v,q4,q5⟩:=C.hz k n;have hb:=C.Bj k n
 exactλL=>⟨u _ (by show D.ib k<_;omega) (λm=>(hb m).1) L,u _ (by show D.cb k<_;omega) (λm=>(hb m).2) L⟩
 obtain⟨q1,p,v⟩:=C.hi h;exact⟨q1,μ p F.size,u _ p v⟩;obtain⟨q1,p,v,q4⟩:=C.hc h;exact⟨q1,μ p F.size,v,u _ p q4⟩;have t:upd D.X j X' k x:=t;by_cases d:k=j
 subst d;rw[upd_same]at t;by_cases P:D.X k x
 obtain⟨q1,p,v⟩:=C.xr k x P;exact⟨q1,p,μ v F.size⟩;obtain⟨q1,p⟩:=F.fresh x t P;exact⟨S,by omega,p⟩;rw[upd_ne _ _ d]at t;obtain⟨q1,p,v⟩:=C.xr k x t;exact⟨q1,p,μ v F.size⟩;have B:upd D.X j X' k x:=B;have z:upd D.X j X' L x:=z;have O:∀{a b:Nat},a=j->b≠j->upd D.X j X' a x->upd D.X j X' b x->a=b:=by
  intro a b ha hb p1 p2;subst ha;rw[upd_same]at p1;rw[upd_ne _ _ hb]at p2;by_cases P:D.X a x
  exact C.xd _ _ _ P p2;have:=(F.fresh x p1 P).1;have:=(C.xr _ _ p2).2.2;omega
 by_cases e1:k=j<;>by_cases e2:L=j
 rw[e1,e2];exact O e1 e2 B z;exact(O e2 e1 z B).symm;rw[upd_ne _ _ e1]at B;rw[upd_ne _ _ e2]at z;exact C.xd _ _ _ B z;have y:4<=upd D.l j l' k:=y;show upd D.X j X' k=_;by_cases d:k=j
 subst d;rw[upd_same]at y⊢;rw[h4 y];exact C.x4 k n (by omega);rw[upd_ne _ _ d]at y⊢;exact C.x4 k n y;show(∃k,k<D.r/\upd D.st j s' k=.pv/\upd D.X j X' k x)\/_;have o:D.st j=.pv->X' x->(∃k,k<D.r/\upd D.st j s' k=.pv/\upd D.X j X' k x)\/∃cs e f,w'.heap[x]?=I (.cells cs e f)/\K.TT e:=by
  intro g t;by_cases hs:s'=.pv
  exact .inl ⟨j,S,by rw[upd_same];exact hs,by rw[upd_same];exact t⟩;exact .inr<|F.rows g hs x t
 by_cases E:x<w.heap.size
 obtain⟨k,n,g,N⟩|⟨cs,e,f,hc,hT⟩:=C.rows x J E
 ·by_cases d:k=j
  ·subst d;exact o g<|F.grow x N
  exact .inl ⟨k,n,by rw[upd_ne _ _ d];exact g,by rw[upd_ne _ _ d];exact N⟩
 by_cases hm:D.st j=.pv/\D.X j x
 ·exact o hm.1<|F.grow x hm.2
 exact .inr ⟨cs,e,f,by rw[F.others x E (by omega) (by omega) (by omega) λB z=>hm ⟨B,z⟩];exact hc,hT⟩;have q:=F.full x (by omega) G;by_cases g:D.st j=.pv
 exact o g q;rw[F.keep g]at q;have:=(C.xr _ _ q).2.2;omega;show(∃k,k<D.r/\upd D.st j s' k=.pv/\upd D.X j X' k x)\/(∃k,k<D.r/\upd D.l j l' k<=2/\∃i,i<K.C/\x=upd D.f j f' k i)\/(∃k,k<D.r/\(x=D.ib k\/x=D.cb k))\/(nW D.s=U/\x=D.i)\/(pc D.s=U/\x=D.c);have o:D.st j=.pv->X' x->(∃k,k<D.r/\upd D.st j s' k=.pv/\upd D.X j X' k x)\/(∃k,k<D.r/\upd D.l j l' k<=2/\∃i,i<K.C/\x=upd D.f j f' k i)\/(∃k,k<D.r/\(x=D.ib k\/x=D.cb k))\/(nW D.s=U/\x=D.i)\/(pc D.s=U/\x=D.c):=by
  intro g t;by_cases hs:s'=.pv
  exact .inl ⟨j,S,by rw[upd_same];exact hs,by rw[upd_same];exact t⟩;obtain⟨q1,p⟩:=hf1 g hs;exact .inr<|.inl ⟨j,S,by rw[upd_same];exact p,by rw[upd_same];exact q1 x t⟩
 by_cases E:x<w.heap.size
 obtain⟨k,n,g,N⟩|⟨k,n,hl2,i,hi,T⟩|h:=C.B4 x J E
 ·by_cases d:k=j
  ·subst d;exact o g<|F.grow x N
  exact .inl ⟨k,n,by rw[upd_ne _ _ d];exact g,by rw[upd_ne _ _ d];exact N⟩
 refine .inr<|.inl ⟨k,n,?_,i,hi,?_⟩
 ·by_cases d:k=j
  ·subst d;rw[upd_same];omega
  rw[upd_ne _ _ d];exact hl2
 by_cases d:k=j
 ·subst d;rw[upd_same,hf2 (λh=>by have:=hpl h.1;omega)];exact T
 rw[upd_ne _ _ d];exact T;exact .inr<|.inr h;have q:=F.full x (by omega) G;by_cases g:D.st j=.pv
 exact o g q;rw[F.keep g]at q;have:=(C.xr _ _ q).2.2;omega
def M2(A:dX K)(C:CN K D)(d:j<D.r){wk}(P:PgF K D j dn s' h' l' k' z' g g')(hw:wk=dY g g'):CN K (D.qu j s' X' l' k' z' h' wk f'):=by
 refine⟨C.rn,C.inr,C.out,P.gi,λk c=>?_,P.wg,C.mf,λh=>?_,λh=>?_,λk c h=>?_⟩;show rG K.n (upd D.st j s' k);simp only[upd];split
 exact P.vM;exact C.vM k c;have:=C.gone h;have:=P.k;show h'.k=0;omega;have h:=h;cases hwk:wk with
 |true=>rw[hwk]at h;cases h
 |false=>rw[hwk]at h hw;have:=C.zs h;have:=(P.wake hw.symm).2;show h'.ws=0;omega
 have h:upd (λa=>if wk then 1 else D.zz a) j z' k=0:=h;show h'.ms=0;by_cases b:k=j
 subst b;rw[upd_same]at h;exact P.z h;rw[upd_ne _ _ b]at h;cases hwk:wk with
 |true=>rw[hwk]at h;cases h
 |false=>rw[hwk]at h hw;have:=C.zw k c h;have:=(P.wake hw.symm).1;omega
def ll(C:CN K D)(h:D.s=.mq .kI)(a:j<D.r):D.st j=.gn\/D.st j=.gx\/D.st j=.fin:=by
 have f:=C.gone (by rw[h];rfl);have b:=C.wg;have e:nG (D.st j)=0:=by have:=b.k;have:=gj (F:=nG) (st:=D.st) a;omega
 have hi:=b.idle (by rw[h];rfl);have d:=gj (F:=nL) (st:=D.st) a;have c:=gj (F:=nM) (st:=D.st) a;cases hs:D.st j<;>rw[hs]at e d c<;>first|(simp[nG]at e;done)|(simp[nL]at d;omega)|(simp[nM]at c;omega)|simp
def M3(A:dX K)(C:CI K w0 D gs w t)(J:j<D.r){wk}(F:uz K j dn (D.st j) s' (D.X j) X' h' (valOf K D) w w')(E:Va K j (D.ib j) (D.cb j) dn (D.st j) s' X' w' es)(P:PgF K D j dn s' h' l' k' z' g g')(C':CW K w0 (D.qu j s' X' l' k' z' h' wk f') w')(fn pos):
 CT K (D.qu j s' X' l' k' z' h' wk f') w'.heap.size (t++Ψ (K.p0+j) fn pos es):=by
 have hpos:=A.pos;have G:=C.ct;have q:∀k,k≠K.p0+j->ZR (t++Ψ (K.p0+j) fn pos es) k=ZR t k:=λk s=>ZS t (Ne.symm s) _ gu;have dj:=G.dw j J;have own:ZR (t++Ψ (K.p0+j) fn pos es) (K.p0+j)=deaf s':=by rw[Deaf_own,dj];exact E.dfb
 have L:∀op∈Ψ (K.p0+j) fn pos es,op.act.low w'.heap.size:=λop p=>by obtain⟨e,c,rfl⟩:=Ω p;exact E.low e c
 obtain⟨z1,z2,z3,z4,z5⟩:=C.cw.hz j J;have hzs:=C.cw.zs;have N:=C'.Bj j J;have okw:∀op∈Ψ (K.p0+j) fn pos es,OkW K.Shun K.ic (K.Own (D.qu j s' X' l' k' z' h' wk f').X) K.p0 D.H j op:=by
  intro op p;obtain⟨e,c,rfl⟩:=Ω p;refine⟨rfl,λx f d=>?_⟩;obtain h1|⟨h1,B⟩|⟨h1,B,h3⟩:=E.ok e c x f d
  exact .inl h1;refine .inr<|.inl ⟨h1,?_⟩;obtain B|B:=B
  exact .inl ⟨B,μ J C.cn.rn⟩;refine .inr ⟨d,?_⟩;show upd D.X j X' j _;rw[upd_same];exact B;refine .inr<|.inr ⟨h1,B,?_,λhs=>?_,λhs=>?_,λk s=>?_⟩
  ·obtain⟨h3,_⟩|h3|h3|h3|h3:=h3<;>omega
  obtain⟨a,ha,hb⟩:=hs;rw[ha]at h3;simp only[blk]at h3;obtain⟨h3,_⟩|h3|h3|h3|h3:=h3<;>omega
  have O:K.S (blk x.loc):=by
   cases hl:x.loc with
   |cell a=>rw[hl]at hs;exact hs
   |obj r=>rw[hl]at hs;exact hs
   |_=>rw[hl]at hs;exact hs.elim
  have:=A.SB _ O;obtain⟨_,h3⟩|h3|h3|h3|h3:=h3
  exact h3 O;omega;omega;omega;omega
  ·obtain e1|e1:=gw s
   ·rw[e1]at h3;simp only[blk]at h3;obtain⟨h3,_⟩|h3|h3|h3|h3:=h3<;>omega
   have hx5:=(C'.xr k _ e1).2.1;obtain⟨h3,_⟩|h3|h3|h3|h3:=h3
   omega;omega;omega;rw[h3]at e1;exact(N k).1 e1;rw[h3]at e1;exact(N k).2 e1
 refine⟨?_,λk s=>?_,λk s=>?_,λhs=>?_,λhs=>?_⟩;rw[q 0 (by omega)];exact G.d0;show _=deaf (upd D.st j s' k);by_cases b:k=j
 subst b;rw[upd_same];exact own;rw[q _ (by omega),upd_ne _ _ b];exact G.dw k s;have s:K.p0+D.r<=k:=s;rw[q _ (by omega)];exact G.dz k s;obtain⟨t1,t2,t3⟩:=G.ti hs;refine⟨?_,λk s v=>?_,t3.app λop p d=>?_⟩;have g1:TI K.Shun K.ic (K.Own (D.qu j s' X' l' k' z' h' wk f').X) K.p0 D.r D.Z D.H w.heap.size t:=by
  refine t1.grow (λk l o=>?_) λk l o=>?_;refine o.imp id λo=>⟨o.1,?_⟩;show upd D.X j X' k _;by_cases b:k=j
  subst b;rw[upd_same];exact F.grow _ o.2;rw[upd_ne _ _ b];exact o.2;obtain o|⟨d,o⟩:=o
  ·exact .inl<|.inl o
  have o:upd D.X j X' k (blk l):=o;by_cases b:k=j
  subst b;rw[upd_same]at o;by_cases f:D.X k (blk l)
  exact .inl<|.inr ⟨d,f⟩;exact .inr (F.fresh _ o f).1;rw[upd_ne _ _ b]at o;exact .inl<|.inr ⟨d,o⟩
 exact(g1.mono F.size).appW (fam A C') J okw L
 ·have v:dC (upd D.st j s' k)=U:=v;by_cases b:k=j
  subst b;rw[upd_same,P.rel]at v;cases h1:dC (D.st k)with
  |true=>obtain⟨i,hi⟩:=t2 k s h1;exact⟨i,hi.appOwn fn pos es λn e c=>by rw[dj];exact E.after h1 n e c⟩
  |false=>
   rw[h1]at v;simp only[Bool.false_or,Bool.and_eq_true]at v;have hg:D.st k=.gr:=by have:=v.2;cases hs:D.st k<;>rw[hs]at this<;>first|rfl|cases this
   rw[(E.rel v.1 hg)];exact⟨_,RelBy.new (by rw[dj,hg];rfl) fn pos⟩
  rw[upd_ne _ _ b]at v;obtain⟨i,hi⟩:=t2 k s v;exact⟨i,hi.appOther gu<|by omega⟩
 obtain⟨e,c,rfl⟩:=Ω p;refine E.norel e c ?_;obtain⟨loc,wr,sy⟩:=e;cases loc with
 |mark m=>simp only[Γ,MemAct.mark.injEq]at d;rw[d]
 |obj r=>cases wr<;>cases sy<;>cases d
 |_=>first|cases d|(simp[Γ]at d)
 ·obtain⟨t1,t2⟩:=G.pa hs;have hrel:dC (D.st j)=U:=by obtain h|h|h:=ll C.cn hs J<;>rw[h]<;>rfl
  have W:=E.after hrel;have u:∀e∈es,∀x,(Γ e).touch?=I x->x.loc.isMemory=U->K.ic x.loc/\x.kind=.atomic:=by
   intro e c x f d;obtain h1|⟨h1,_⟩|⟨h1,_⟩:=E.ok e c x f d
   exact h1
   all_goals
    exfalso;obtain⟨n,hn⟩:=ZD.1 c;obtain h0|⟨⟨ad,wr,rfl⟩,_⟩:=W n e hn
    rw[h0]at f;cases f;simp only[Γ,Z1,ZW]at f;subst f;exact h1 rfl
  refine⟨?_,λi x f T=>?_⟩;refine Er (g:=K.p0+j) (t1.mono F.size) (by omega) (λi x f c d=>?_) (by rw[dj];exact W) (λe c x f d=>⟨.inr (u e c x f d).1,(u e c x f d).2⟩) E.low;obtain⟨e,c,y,hy,Q⟩:=c;exact t2 i x f<|Q▸(u e c y hy<|Q▸d).1;obtain⟨_,z⟩|⟨op,p,z,_⟩:=cc f
  ·exact t2 i x z T
  obtain⟨e,c,rfl⟩:=Ω p;obtain⟨a,ha,_⟩:=T;rw[(u e c x z (by rw[ha];rfl)).2];simp
def M4(b:j<D.r){wk}(P:PgF K D j dn s' h' l' k' z' g g')(hw:wk=dY g g'):vN (mu K<|D.qu j s' X' l' k' z' h' wk f') (mu K D):=by
 have e:∀(f:Nat->Nat) (x:Nat),sumTo D.r (upd f j x)+f j=sumTo D.r f+x:=λf x=>C8 b;refine .inr ⟨rfl,?_⟩;show sumTo D.r (upd D.l j l')<_\/(sumTo D.r (upd D.l j l')=_/\(meas D.r (upd D.st j s') h'+rM h' D.s<_\/(meas D.r (upd D.st j s') h'+rM h' D.s=_/\(sumTo D.r (upd D.kk j k')+D.k+sumTo K.p0 D.q<_\/(sumTo D.r (upd D.kk j k')+D.k+sumTo K.p0 D.q=_/\sumTo D.r (upd (λa=>if wk then 1 else D.zz a) j z')+(if wk then 1 else D.z)<_)))));have c:=e D.l l';have d:=e D.kk k';show _<sumTo D.r D.l\/(_=sumTo D.r D.l/\(_<meas D.r D.st D.h+rM D.h D.s\/(_=meas D.r D.st D.h+rM D.h D.s/\(_<sumTo D.r D.kk+D.k+sumTo K.p0 D.q\/(_=sumTo D.r D.kk+D.k+sumTo K.p0 D.q/\_<sumTo D.r D.zz+D.z)))));obtain h1|⟨h1,h2,h3⟩|⟨h1,h2,h3,h4⟩:=P.low
 exact .inl (by omega);rw[adK h2];exact .inr ⟨by omega,.inl<|by omega⟩;subst h2 h3;rw[J3];refine .inr ⟨by omega,.inr ⟨rfl,?_⟩⟩;obtain h4|⟨h4,h5,h6⟩:=h4
 exact .inl (by omega);rw[<-hw]at h6;subst h6
 grind
def yM(A:dX K)(C:CI K w0 D gs w t)(m:j<D.r)(hg:gs[K.p0+j]?=I g)(hr:g.status=.running)(d):
 ∃D' g' w' es,stepG P0 V g (w.at d)=.go g' w' es/\CI K w0 D' ((gs.map<|woken P0 g g' w').setIfInBounds (K.p0+j) g') w' (t++Ψ (K.p0+j) g.frame.fn g.frame.place es)/\vN (mu K D') (mu K D):=by
 obtain⟨g1,O,v⟩:=C.wk j m;rw[hg]at O;cases O
 have hpos:=A.pos;have n:=C.cw.at d;have hzj:=C.cw.hz j m;have hzs:=C.cw.zs;have wW:=C.cn.gi.wW;have J:=C.cn.rn;have hnB:=A.nB;have S:=C.cn.wg;have e:∀F:St->Nat,cnt D.r F D.st-F (D.st j)+F (D.st j)=cnt D.r F D.st:=λF=>Zy<|gj m;have hk:D.h.k<1073741824:=by
  have p:=S.k;have q:cnt D.r nG D.st<=D.r*1:=mV λi hi=>by cases D.st i<;>simp[nG]
  have h3:xa D.s<=1:=by cases D.s with
   |ad t=>cases t<;>simp[xa]
   |_=>simp[xa]
  omega
 have W:D.h.ws<1000:=by
  cases Q9:wa D.s with
  |false=>have:=S.idle Q9;omega
  |true=>have:=S.wait Q9;omega
 obtain⟨dn,z,Q,T,N,L,h',g',w',es,hst,c,F,E,pg,h4⟩:=Eo A (μ m J) n.at_ (λx o=>(C.cw.xr j x o).2.1) (n.box j m) (by omega:D.ib j<w.heap.size) (by omega:D.cb j<w.heap.size) (λh=>C.cw.x4 j m h) (v.at d) hr
  (C.cn.gi.inv m) (C.cn.gi.loc j m) (C.cn.vM j m) hnB (ZM wW.1 J) wW.2 (by rw[e nG,e nL,e nM];exact S) hk W
 have hnw:g'.status≠.waiting:=by
  obtain h|h|h:=c.status
  rw[h.1];simp;rw[h.1];simp;rw[h.1];simp
 have P:=He C.cn m pg hnw;have hf:∃H:Nat->Nat,(D.st j=.pv->z≠.pv->∀x,Q x->∃i,i<K.C/\x=H i)/\(¬(D.st j=.pv/\z≠.pv) ->H=D.f j):=by
  by_cases h:D.st j=.pv/\z≠.pv
  obtain⟨H,hf'⟩:=F.enum h.1 h.2;exact⟨H,λ_ _=>hf',λhn=>absurd h hn⟩;exact⟨D.f j,λp q=>absurd ⟨p,q⟩ h,λ_=>rfl⟩
 obtain⟨H,hf1,hf2⟩:=hf;have hl2:D.st j=.pv->z≠.pv->T<=2:=by
  intro p q;obtain⟨_,h,_⟩|⟨_,o,_⟩|⟨_,_,_,_,h|h|⟨_,h⟩⟩:=pg
  exact absurd (h.trans p) q;rw[p]at o;exact o.elim;rw[p]at h;cases h.1;rw[p]at h;cases h.1;obtain h|h:=h
  ·exact absurd h q
  rw[c.lv3.2 h];exact .refl
 have u:=M0 (wk:=dY g g') (k':=N) (z':=L) A n m F P.GZ P.le h4 (λp q=>⟨hf1 p q,hl2 p q⟩) hf2 v.lv3.1;refine⟨D.qu j z Q T N L h' (dY g g') H,g',w',es,hst,⟨?_,?_,λi x h0 hi o=>?_,λi hi=>?_,u,M2 A C.cn m P rfl,M3 (w:=w.at d) A ⟨C.size,C.g0,C.old,λi hi=>?_,n,C.cn,C.ct⟩ m F E P u _ _⟩,M4 m P rfl⟩;simp only[χ,ZJ];exact C.size;obtain⟨g0,h0,hs0⟩:=C.g0;exact⟨_,by rw[fw (by omega),h0];rfl,hs0.woken⟩;rw[fw (by omega)]at o;obtain⟨y,hy,rfl⟩:=υ.1 o;have hq:=C.old i y h0 hi hy;rw[Zw hq,ZS t (by omega:K.p0+j≠i) _ gu];exact hq;have hi:=hi;by_cases B:i=j
 subst B;refine⟨g',pd (by rw[C.size];omega),?_⟩;show WSit K i (K.wp (D.ib i)<|D.cb i) (upd D.st i z i) (upd D.X i Q i) (upd D.l i T i) (upd D.kk i N i) (upd (λa=>if dY g g' then 1 else D.zz a) i L i) g' w';simp only[upd_same];exact c;obtain⟨x,o,G⟩:=C.wk i hi;refine⟨_,by rw[fw (by omega),o];rfl,?_⟩;show WSit K i (K.wp (D.ib i)<|D.cb i) (upd D.st j z i) (upd D.X j Q i) (upd D.l j T i) (upd D.kk j N i) (upd (λa=>if dY g g' then 1 else D.zz a) j L i) (ZK P0 g g' w' x) w';simp only[upd_ne _ _ B];refine((G.at d).woken (a:=g) (a':=g') (w':=w')).others F.size (λb hb=>?_) λhp b hb=>?_;have hsz:=n.at_.size;exact F.others b (by omega) (by omega) (by omega) (by omega) λ_ h=>by have:=(C.cw.xr _ _ h).2.1;omega
 obtain⟨q1,q2,q3⟩:=C.cw.xr _ _ hb;exact F.others b q3 (by omega) (by omega) (by omega) λ_ h=>B<|C.cw.xd _ _ _ hb h;obtain⟨x,o,G⟩:=C.wk i hi;exact⟨x,o,G.at d⟩
end
end
section
def CD.tick(D:CD)(s':cZ)(i' c' k' z':Nat)(h':Sh)(wk:Bool):CD:={D with s:=s',i:=i',c:=c',k:=k',z:=z',h:=h',zz:=λa=>if wk then 1 else D.zz a}
section
variable{K:PC}{w0 w w':η}{D:CD}{gs:Array R}{t:Zr}{dn:Bool}{s':cZ}{i' c' k' z':Nat}{h':Sh}{g g':R}{es:Array ZE}{wk:Bool}
def Hf{s s' h h'}(a:QT s h s' h')(hi:nW s'=U):nW s=U\/s=.k9:=by
 cases s with
 |k9=>exact .inr rfl
 |vL=>exact .inl rfl
 |iJ=>exact .inl rfl
 |iK=>exact .inl rfl
 |ad t=>exact .inl rfl
 |mq t=>obtain⟨b,rfl,_⟩:=a;cases hi
 |Pj=>obtain⟨rfl,_⟩:=a;cases hi
 |KQ=>obtain⟨rfl,_⟩:=a;cases hi
def Hg{s s' h h'}(a:QT s h s' h')(hi:pc s'=U):pc s=U\/s=.vL:=by
 cases s with
 |k9=>obtain⟨rfl,_⟩:=a;cases hi
 |vL=>exact .inr rfl
 |iJ=>exact .inl rfl
 |iK=>exact .inl rfl
 |ad t=>exact .inl rfl
 |mq t=>obtain⟨b,rfl,_⟩:=a;cases hi
 |Pj=>obtain⟨rfl,_⟩:=a;cases hi
 |KQ=>obtain⟨rfl,_⟩:=a;cases hi
def Es{s s' h h'}(a:QT s h s' h')(hi:nW s=U):nW s'=U:=by
 cases s with
 |vL=>obtain⟨rfl,_⟩:=a;rfl
 |iJ=>obtain⟨rfl,_⟩:=a;rfl
 |iK=>obtain⟨rfl,_⟩:=a;rfl
 |ad t=>obtain⟨b,rfl,_⟩:=a;rfl
 |_=>cases hi
def Et{s s' h h'}(a:QT s h s' h')(hi:pc s=U):pc s'=U:=by
 cases s with
 |iJ=>obtain⟨rfl,_⟩:=a;rfl
 |iK=>obtain⟨rfl,_⟩:=a;rfl
 |ad t=>obtain⟨b,rfl,_⟩:=a;rfl
 |_=>cases hi
def C9(d:Ak dn D.s s' D.h h' D.i i' D.c c' D.k k' D.z z' g'):h'.mu=D.h.mu/\h'.ms=D.h.ms/\Au s'=Au D.s/\h'.ws<=D.h.ws/\(iE D.s->iE s')/\(s'=.mq .kI->D.s=.mq .kI\/(dn=U/\∃t,D.s=.mq t/\(t=.Bd\/t=.yq)))/\
 (dn=V->s'=D.s/\h'=D.h/\i'=D.i/\c'=D.c)/\(dn=U->QT D.s D.h s' h'/\z'=1):=by
 obtain⟨rfl,rfl,rfl,rfl,rfl,_⟩|⟨rfl,a,rfl⟩:=d
 simp;obtain⟨q1,l,n,e,m,f,q7⟩:=pb a;refine⟨q1,l,e,m,f,λh=>.inr ⟨rfl,?_⟩,(λh=>by cases h),λ_=>⟨a,rfl⟩⟩;subst h;cases hs:D.s with
 |mq t=>rw[hs]at a;obtain⟨g,b,a⟩:=a;exact⟨t,rfl,Hb a (cZ.mq.inj b).symm⟩
 |ad t=>rw[hs]at a;obtain⟨g,b,a⟩:=a;cases b
 |_=>rw[hs]at a;obtain⟨j,_⟩:=a;cases j
def M5(A:dX K)(C:CW K w0 D w)(F:OW K D.r D.i D.c i' c' dn D.s s' h' w w')(O:Ak dn D.s s' D.h h' D.i i' D.c c' D.k k' D.z z' g'):CW K w0 (D.tick s' i' c' k' z' h' wk) w':=by
 have W:=C.at_;have N:=W.size;obtain⟨p1,p2,Q,T,S,p6,B,v⟩:=C9 O;have l:=C.zs;have keep:∀x,x<D.Z->x≠K.B0+3->x≠K.B0+4->w'.heap[x]?=w.heap[x]?:=λx t m h3=>F.others x (by omega) m h3 (λ_ h=>by have:=(λh=>(C.hi (by rw[h];rfl)).1) h;omega) (λ_ h=>by have:=(λh=>(C.hc (by rw[h];rfl)).1) h;omega);refine⟨F.tape.trans C.tape,F.output.trans C.output,C.os.trans F.os,⟨by have:=F.size;omega,λb hb=>?_,?_,?_,?_,F.sh⟩,λk d=>?_,F.box,C.hz,⟨l.1,ZM l.2 F.size⟩,C.Bj,λh=>?_,λh=>?_,λk x g=>?_,C.xd,C.x4,λx o u=>?_,λx o u=>?_⟩;rw[keep b (by omega) (by omega) (by omega)];exact W.low b hb;rw[keep K.B0 (by omega) (by omega) (by omega)];exact W.gb;obtain⟨cs,t,m,h3⟩:=W.er;exact⟨cs,by rw[keep (K.B0+1) (by omega) (by omega) (by omega)];exact t,m,h3⟩;rw[keep (K.B0+2) (by omega) (by omega) (by omega)];exact W.eb;obtain⟨L,P⟩:=C.box k d;obtain⟨q1,q,n,J,q5⟩:=C.hz k d;exact⟨by show w'.heap[D.ib k]?=_;rw[keep _ (by omega) (by omega) (by omega)];exact L,by show w'.heap[D.cb k]?=_;rw[keep _ (by omega) (by omega) (by omega)];exact P⟩;have h:=h;show D.Z<=i'/\i'<w'.heap.size/\∀k,¬D.X k i';obtain⟨rfl,p⟩|⟨hd,d,rfl,hs⟩:=F.bi
 have H:nW D.s=U:=by
  cases hd:dn with
  |false=>rw[(B hd).1]at h;exact h
  |true=>exact(Hf (v hd).1 h).resolve_right<|p hd
 obtain⟨q1,q,n⟩:=C.hi H;exact⟨q1,μ q F.size,n⟩
 ·exact⟨l.2,by omega,λk d=>by have:=(C.xr _ _ d).2.2;omega⟩
 have h:=h;show D.Z<=c'/\c'<w'.heap.size/\i'≠c'/\∀k,¬D.X k c';obtain⟨rfl,p⟩|⟨hd,d,rfl,hs⟩:=F.bc
 have E:pc D.s=U:=by
  cases hd:dn with
  |false=>rw[(B hd).1]at h;exact h
  |true=>exact(Hg (v hd).1 h).resolve_right<|p hd
 obtain⟨q1,q,n,J⟩:=C.hc E;refine⟨q1,μ q F.size,?_,J⟩;obtain⟨e,_⟩|⟨_,d,_⟩:=F.bi
 rw[e];exact n;rw[d]at E;cases E
 ·have H:nW D.s=U:=by rw[d];rfl
  obtain⟨q1,q,n⟩:=C.hi H;refine⟨l.2,by omega,?_,λk d=>by have:=(C.xr _ _ d).2.2;omega⟩;obtain⟨e,_⟩|⟨_,G,_⟩:=F.bi
  omega;rw[G]at d;cases d
 obtain⟨q1,q,n⟩:=C.xr k x g;exact⟨q1,q,μ n F.size⟩;by_cases j:x<w.heap.size
 ·by_cases t:dn=U/\D.s=.iJ/\x=D.i
  ·exact .inr<|F.adG x t.1<|.inl t.2
  by_cases m:dn=U/\D.s=.iK/\x=D.c
  ·exact .inr<|F.adG x m.1<|.inr m.2
  obtain h|⟨cs,e,f,hc,hT⟩:=C.rows x o j
  ·exact .inl h
  exact .inr ⟨cs,e,f,by rw[F.others x j (by omega) (by omega) (λa b g=>t ⟨a,b,g⟩) (λa b g=>m ⟨a,b,g⟩)];exact hc,hT⟩
 exact .inr<|F.rows x (by omega) u;show _\/_\/_\/(nW s'=U/\x=i')\/(pc s'=U/\x=c');have y:dn=V\/dn=U:=by cases dn<;>simp
 by_cases j:x<w.heap.size
 obtain h|h|h|⟨h,g⟩|⟨h,g⟩:=C.B4 x o j
 ·exact .inl h
 exact .inr<|.inl h;exact .inr<|.inr<|.inl h;refine .inr<|.inr<|.inr<|.inl ?_;obtain⟨e,_⟩|⟨_,d,_⟩:=F.bi
 refine⟨?_,by rw[e];exact g⟩;obtain hd|hd:=y
 rw[(B hd).1];exact h;exact Es (v hd).1 h;rw[d]at h;cases h;refine .inr<|.inr<|.inr<|.inr ?_;obtain⟨e,_⟩|⟨_,d,_⟩:=F.bc
 refine⟨?_,by rw[e];exact g⟩;obtain hd|hd:=y
 rw[(B hd).1];exact h;exact Et (v hd).1 h;rw[d]at h;cases h;obtain⟨hd,d⟩:=F.only (by omega);have g:=(v hd).1;obtain d|d:=d
 refine .inr<|.inr<|.inr<|.inl ?_;obtain⟨_,p⟩|⟨_,_,e1,e2⟩:=F.bi
 exact absurd d<|p hd;rw[d]at g;obtain⟨rfl,_⟩:=g;exact⟨rfl,by omega⟩;refine .inr<|.inr<|.inr<|.inr ?_;obtain⟨_,p⟩|⟨_,_,e1,e2⟩:=F.bc
 exact absurd d<|p hd;rw[d]at g;obtain⟨rfl,_⟩:=g;exact⟨rfl,by omega⟩
def Vh{h h'}(e:h'.mu=h.mu){s}(a:aaA h s):aaA h' s:=by
 cases s with
 |a1 x=>unfold aaA at a⊢;rw[e];exact a
 |_=>exact a
def M6{n st h h'}(e1:h'.mu=h.mu)(e2:h'.ms=h.ms):meas n st h'=meas n st h:=by unfold meas;rw[e1,e2]
def M7(C:CN K D)(f:Ak dn D.s s' D.h h' D.i i' D.c c' D.k k' D.z z' g')(hw:wk=dY g g'):CN K (D.tick s' i' c' k' z' h' wk):=by
 obtain⟨e,j,d,o,m,p,l,b⟩:=C9 f;have hd:dn=V\/dn=U:=by cases dn<;>simp
 refine⟨C.rn,λh=>C.inr (by rw[<-d];exact h),λh=>C.out (by rw[<-d];exact h),⟨?_,λi hi=>Vh e<|C.gi.loc i hi⟩,C.vM,?_,m C.mf,λh=>?_,λh=>?_,λk n h=>?_⟩;show ia h'.mu h'.ms _ _ _ _ _ _ _ _;rw[e,j];exact C.gi.Ee;show mW (wa s') (xa s') h' _ _ _;obtain hd|hd:=hd
 obtain⟨rfl,rfl,_⟩:=l hd;exact C.wg;exact(Ru (b hd).1 C.mf C.wg).1;have h:=h;show h'.k=0;obtain hd|hd:=hd
 obtain⟨rfl,rfl,_⟩:=l hd;exact C.gone h;obtain a|a:=(Ru (b hd).1 C.mf C.wg).2 h
 ·exact((pb (b hd).1).2.2.2.2.2.2 a<|C.gone a).2
 exact a;have h:z'=0:=h;show h'.ws=0;obtain⟨_,_,rfl,_,_,⟨_,hz⟩|⟨_,_,hz,_⟩⟩|⟨_,_,hz⟩:=f
 exact C.zs (by omega);exact hz;omega;have h:=h;show h'.ms=0;rw[j];obtain _|_:=wk
 exact C.zw k n h;cases h
def M8(A:dX K)(C:CI K w0 D gs w t)(F:OW K D.r D.i D.c i' c' dn D.s s' h' w w')(E:OZ K D.i D.c D.s s' w' es)(pg:Ak dn D.s s' D.h h' D.i i' D.c c' D.k k' D.z z' g')(fn pos):
 CT K (D.tick s' i' c' k' z' h' wk) w'.heap.size (t++Ψ 0 fn pos es):=by
 have hpos:=A.pos;have N:=C.ct;obtain⟨p1,p2,p3,p4,p5,p6,p7,p8⟩:=C9 pg;have B:∀k,k≠0->ZR (t++Ψ 0 fn pos es) k=ZR t k:=λk q=>ZS t (Ne.symm q) _ gu;have own:ZR (t++Ψ 0 fn pos es) 0=mE s':=by rw[Deaf_own,N.d0];exact E.dfb
 have fm:=fam A C.cw;have L:∀op∈Ψ 0 fn pos es,op.act.low w'.heap.size:=λop d=>by obtain⟨e,v,rfl⟩:=Ω d;exact E.low e v
 have hzs:=C.cw.zs;have H:∀x:Touch,x.loc.isMemory=U->blk x.loc<K.B0->¬K.S (blk x.loc) ->¬K.ic x.loc/\¬K.Shun x.loc:=by
  intro x y n o;refine⟨λhs=>?_,λhs=>?_⟩;obtain⟨a,ha,hb⟩:=hs;rw[ha]at n;simp only[blk]at n;omega;cases G:x.loc with
  |cell a=>rw[G]at hs o;exact o hs
  |obj r=>rw[G]at hs o;exact o hs
  |_=>rw[G]at hs;exact hs.elim
 have ok0:∀op∈Ψ 0 fn pos es,Ok0 K.Shun K.ic (K.Own D.X) D.Z op:=by
  intro op d;obtain⟨e,v,rfl⟩:=Ω d;refine⟨rfl,λx u y=>?_⟩;have box:∀b,D.Z<=b->(∀k,¬D.X k b) ->blk x.loc=b->(¬K.ic x.loc/\¬K.Shun x.loc/\(∀k,¬K.Own D.X k x.loc)/\(x.write=U->D.Z<=blk x.loc)):=by
   intro b n o h3;refine⟨λhs=>?_,λhs=>?_,λk q=>?_,λ_=>by omega⟩;obtain⟨a,ha,hb⟩:=hs;rw[ha]at h3;simp only[blk]at h3;omega;have W:K.S (blk x.loc):=by
    cases G:x.loc with
    |cell a=>rw[G]at hs;exact hs
    |obj r=>rw[G]at hs;exact hs
    |_=>rw[G]at hs;exact hs.elim
   have:=A.SB _ W;omega
   ·obtain e1|e1:=gw q
    ·rw[e1]at h3;simp only[blk]at h3;omega
    rw[h3]at e1;exact o k e1
  obtain n|⟨n,o,h3⟩|⟨n,o⟩|⟨n,o⟩:=E.ok e v x u y
  exact .inl n;obtain⟨q1,P⟩:=H x y o h3;refine .inr ⟨q1,P,λk q=>?_,λhw=>by rw[n]at hw;cases hw⟩;obtain e1|e1:=gw q
  rw[e1]at o;simp only[blk]at o;omega;have:=(C.cw.xr k _ e1).2.1;omega;obtain⟨q1,P,q3⟩:=C.cw.hi (by rw[n];rfl);exact .inr<|box _ q1 q3 o;obtain⟨q1,P,q4,q3⟩:=C.cw.hc (by rw[n];rfl);exact .inr<|box _ q1 q3 o
 refine⟨own,λk q=>?_,λk q=>?_,λhs=>?_,λhs=>?_⟩;rw[B _ (by omega)];exact N.dw k q;have q:=q;rw[B _ (by omega)];exact N.dz k q;have hs:=hs;have J:D.s≠.mq .kI:=by
  intro h;cases hd:dn with
  |false=>exact hs<|(p7 hd).1.trans h
  |true=>have u:=(p8 hd).1;rw[h]at u;obtain⟨t',_,u⟩:=u;exact u
 obtain⟨t1,t2,T⟩:=N.ti J;refine⟨(t1.mono F.size).app0 fm ok0 L,λk q hr=>?_,T.app λop d y=>?_⟩;obtain⟨i,hi⟩:=t2 k q hr;exact⟨i,hi.appOther gu<|by omega⟩;obtain⟨e,v,rfl⟩:=Ω d;refine E.norel e v ?_;obtain⟨loc,wr,sy⟩:=e;cases loc with
 |mark m=>simp only[Γ,MemAct.mark.injEq]at y;rw[y]
 |obj r=>cases wr<;>cases sy<;>cases y
 |_=>first|cases y|(simp[Γ]at y)
 have hs:s'=.mq .kI:=hs;obtain h0|⟨hd,t',ht,htt⟩:=p6 hs
 obtain⟨t1,t2⟩:=N.pa h0;have O:∀e∈es,∀x,(Γ e).touch?=I x->x.loc.isMemory=U->(K.Shun x.loc\/K.ic x.loc) ->x.kind≠.plain:=by
  intro e v x u y f;obtain n|⟨n,o,h3⟩|⟨n,o⟩|⟨n,o⟩:=E.ok e v x u y
  exact n.2;obtain⟨q1,P⟩:=H x y o h3;exact absurd f λh=>h.elim P q1;rw[h0]at n;cases n;rw[h0]at n;cases n
 have mem:∀l,(K.Shun l\/K.ic l) ->l.isMemory=U:=by
  intro l G;obtain G|⟨a,rfl,_⟩:=G
  cases l with
  |cell a=>rfl
  |obj r=>rfl
  |_=>exact G.elim
  rfl
 refine⟨(t1.mono F.size).app0 gu (λop d x u f=>?_) (by rw[own,N.d0,h0,hs]) L,λi x u f=>?_⟩;obtain⟨e,v,rfl⟩:=Ω d;exact O e v x u (mem _ f) f;obtain⟨_,p⟩|⟨op,d,p,_⟩:=cc u
 ·exact t2 i x p f
 obtain⟨e,v,rfl⟩:=Ω d;exact O e v x p (mem _<|.inr f)<|.inr f;have J:D.s≠.mq .kI:=by rw[ht];obtain rfl|rfl:=htt<;>simp
 obtain⟨t1,t2,T⟩:=N.ti J;have v:=E.acq hs J;subst v;have q:=C.cn.gone (by rw[ht];obtain rfl|rfl:=htt<;>rfl);have hrel:∀j,j<D.r->dC (D.st j)=U:=by
  intro j Q;have hG:=gj (F:=nG) (st:=D.st) Q;have hW:=C.cn.wg.k;have:nG (D.st j)=0:=by omega
  cases hst:D.st j<;>rw[hst]at this<;>first|rfl|cases this
 have e1:Ψ 0 fn pos #[mk (.acquire<|stA<|K.B0+4)]=#[{g:=0,fn,pos,act:=.mark<|.acquire<|stA<|K.B0+4}]:=by rw[Zt];simp[Go.ConcR.ofEvent_mk]
 rw[e1];have hsz:=C.cw.at_.size;refine⟨(t1.GZ fm (a:=stA<|K.B0+4) (λj Q=>t2 j Q<|hrel j Q) T (by rw[N.d0,ht];obtain rfl|rfl:=htt<;>rfl) ⟨rfl,rfl⟩ (by omega:K.B0+4<_)).mono F.size,λi x u f=>?_⟩;obtain⟨_,p⟩|⟨op,d,p,_⟩:=cc u
 exact(t1.quiet i x p f).1;simp only[ZY,Z0,Z3,or_false]at d;subst d;cases p
def M9(b:Ak dn D.s s' D.h h' D.i i' D.c c' D.k k' D.z z' g')(hw:wk=dY g g'):vN (mu K<|D.tick s' i' c' k' z' h' wk) (mu K D):=by
 obtain⟨d,f,m,o,n,p,u,t⟩:=C9 b;refine .inr ⟨rfl,.inr ⟨rfl,?_⟩⟩;show meas D.r D.st h'+rM h' s'<meas D.r D.st D.h+rM D.h D.s\/(meas D.r D.st h'+rM h' s'=meas D.r D.st D.h+rM D.h D.s/\(sumTo D.r D.kk+k'+sumTo K.p0 D.q<sumTo D.r D.kk+D.k+sumTo K.p0 D.q\/(sumTo D.r D.kk+k'+sumTo K.p0 D.q=sumTo D.r D.kk+D.k+sumTo K.p0 D.q/\sumTo D.r (λa=>if wk then 1 else D.zz a)+z'<sumTo D.r D.zz+D.z)));rw[M6 d f];obtain⟨_,rfl,rfl,_,_,⟨j,e⟩|⟨j,e,h3,h4⟩⟩|⟨_,l,_⟩:=b
 omega;have:wk=V:=by rw[hw];unfold dY;rw[h4];simp
 simp_all
 ·have:=(pb l).2.2.1;exact .inl (by omega)
def vO(A:dX K)(C:CI K w0 D gs w t)(Q:gs[0]?=I g)(hr:g.status=.running)(d)(z:D.s=.ad .yt->0<D.k)(m:D.s=.mq .kI->0<D.k):
 ∃J g' w' es,stepG P0 U g (w.at d)=.go g' w' es/\CI K w0 J ((gs.map<|woken P0 g g' w').setIfInBounds 0 g') w' (t++Ψ 0 g.frame.fn g.frame.place es)/\vN (mu K J) (mu K D):=by
 obtain⟨g1,n,o⟩:=C.g0;rw[Q]at n;cases n
 have H:=A.pos;have c:=C.cw.at d;have hzs:=C.cw.zs;have L:=C.cn.rn;have hnB:=A.nB;have B:=C.cn.wg;have S:D.h.k<1073741823:=by
  have h1:=B.k;have h2:cnt D.r nG D.st<=D.r*1:=mV λi hi=>by cases D.st i<;>simp[nG]
  have h3:xa D.s<=1:=by cases D.s with
   |ad t=>cases t<;>simp[xa]
   |_=>simp[xa]
  omega
 obtain⟨dn,N,W,P,T,i',O,g',w',es,v,f,F,E,q⟩:=Bi A C.cn.inr c.at_ c.Hd (λh=>by
  obtain⟨q1,u,p⟩:=C.cw.hi h;exact⟨by omega,u⟩) (λh=>by
  obtain⟨q1,u,p,q4⟩:=C.cw.hc h;exact⟨by omega,u,p⟩) o hr z m S B C.cn.gone
 refine⟨D.tick N i' O W P T<|dY g g',g',w',es,v,⟨?_,⟨g',?_,f⟩,λi x h0 hi e=>?_,λi hi=>?_,M5 (wk:=dY g g') A c F q,M7 C.cn q rfl,M8 (w:=w.at d) A ⟨C.size,C.g0,C.old,λi hi=>?_,c,C.cn,C.ct⟩ F E q _ _⟩,M9 q rfl⟩;simp only[χ,ZJ];exact C.size;exact pd (by rw[C.size];omega);rw[fw (by omega)]at e;obtain⟨y,hy,rfl⟩:=υ.1 e;have G:=C.old i y h0 hi hy;rw[Zw G,ZS t (by omega:0≠i) _ gu];exact G;have hi:=hi;obtain⟨x,e,j⟩:=C.wk i hi;refine⟨_,by rw[fw (by omega),e];rfl,?_⟩;show WSit K i (K.wp (D.ib i)<|D.cb i) (D.st i) (D.X i) (D.l i) (D.kk i) (if dY g g' then 1 else D.zz i) _ w';refine((j.at d).woken (a:=g) (a':=g') (w':=w')).others F.size (λb hb=>?_) λhp b hb=>?_;have hsz:=c.at_.size;exact F.others b (by omega) (by omega) (by omega) (λ_ h=>by have:=(C.cw.hi (by rw[h];rfl)).1;omega) (λ_ h=>by have:=(C.cw.hc (by rw[h];rfl)).1;omega);obtain⟨q1,u,p⟩:=C.cw.xr _ _ hb;exact F.others b p (by omega) (by omega) (λ_ h e=>(C.cw.hi (by rw[h];rfl)).2.2 i<|e▸hb) λ_ h e=>(C.cw.hc (by rw[h];rfl)).2.2.2 i<|e▸hb;obtain⟨x,e,j⟩:=C.wk i hi;exact⟨x,e,j.at d⟩
end
end
section
theorem Na(f:Nat->Nat)(x:Nat):∀{n r:Nat},n<=r->sumTo n (upd f r x)=sumTo n f
 |0,_,_=>rfl
 |n+1,r,h=>by have:=Na f x (n:=n) (r:=r) (by omega);simp only[sumTo];rw[this,upd_ne _ _<|by omega]
theorem Da(F:St->Nat)(st:Nat->St)(s:St):∀{n r:Nat},n<=r->cnt n F (upd st r s)=cnt n F st
 |0,_,_=>rfl
 |n+1,r,h=>by have:=Da F st s (n:=n) (r:=r) (by omega);have e:∀st,cnt (n+1) F st=cnt n F st+F (st n):=λ_=>rfl;rw[e,e,this,upd_ne _ _<|by omega]
def Hh(F st s r):cnt (r+1) F (upd st r s)=cnt r F st+F s:=by have e:∀st,cnt (r+1) F st=cnt r F st+F (st r):=λ_=>rfl;rw[e,Da F st s .refl,upd_same]
def CD.fork(D:CD)(n k' k'' B:Nat):CD:={D with r:=D.r+1,s:=if D.r+1<n then .Pj else .mq .q7,k:=k',z:=1,st:=upd D.st D.r .w7,l:=upd D.l D.r 6,kk:=upd D.kk D.r k'',zz:=upd D.zz D.r 1,ib:=upd D.ib D.r D.i,cb:=upd D.cb D.r D.c,H:=upd D.H D.r B,Z:=B}
section
variable{K:PC}{w0 w w':η}{D:CD}{gs:Array R}{t:Zr}{g:R}{k' k'':Nat}
def Bl(D:CD)(n k' a B):(D.fork n k' a B).s=.Pj\/(D.fork n k' a B).s=.mq .q7:=by
 show(if D.r+1<n then cZ.Pj else cZ.mq .q7)=.Pj\/_;split
 simp;exact .inr (by show(if D.r+1<n then cZ.Pj else cZ.mq .q7)=_;rename_i h;rw[if_neg h])
def Nb(A:dX K)(C:CW K w0 D w)(p:D.s=.ad .yt):CW K w0 (D.fork K.n k' k'' w) w:=by
 have W:=C.at_;have z:=C.zs;obtain⟨J,E,v⟩:=C.hi (by rw[p];rfl);obtain⟨c1,c2,c3,B⟩:=C.hc (by rw[p];rfl);have hb:uy K w D.r D.i D.c:=by have:=C.Hd;rw[p]at this;exact this
 have hs:=Bl D K.n k' k'' w;refine⟨C.tape,C.output,C.os,⟨W.size,W.low,W.gb,?_,W.eb,W.sh⟩,λj b=>?_,?_,λj b=>?_,⟨W.size,.refl⟩,λj b k=>?_,λh=>?_,λh=>?_,λk x y=>?_,C.xd,λj b h4=>?_,λx m e=>?_,λx m e=>?_⟩;obtain⟨cs,d,g,h3⟩:=W.er;refine⟨cs,d,g,λi hi=>?_⟩;rw[h3 i hi];unfold valOf;show I (κ ο (if i<D.r/\cu (D.st i)=U then K.ev i else 0))=I (κ ο (if i<D.r+1/\cu (upd D.st D.r .w7 i)=U then K.ev i else 0));by_cases o:i=D.r
 subst o;rw[upd_same,if_neg λh=>absurd h.1<|by omega,if_neg λh=>by cases h.2];rw[upd_ne _ _ o];by_cases h:i<D.r
 simp only[h,show i<D.r+1 from by omega,true_and];rw[if_neg (λq=>h q.1),if_neg λq=>h<|by omega];have b:j<D.r+1:=b;show uy K w j (upd D.ib D.r D.i j) (upd D.cb D.r D.c j);by_cases a:j=D.r
 subst a;rw[upd_same,upd_same];exact hb;rw[upd_ne _ _ a,upd_ne _ _ a];exact C.box j (by omega);obtain hs|hs:=hs<;>rw[hs]<;>trivial
 have b:j<D.r+1:=b;show K.B0+5<=upd D.ib D.r D.i j/\upd D.ib D.r D.i j<upd D.H D.r w j/\K.B0+5<=upd D.cb D.r D.c j/\upd D.cb D.r D.c j<upd D.H D.r w j/\upd D.H D.r w j<=w;by_cases a:j=D.r
 subst a;simp only[upd_same];omega;simp only[upd_ne _ _ a];obtain⟨q1,u,t,G,F⟩:=C.hz j (by omega);omega;have b:j<D.r+1:=b;show¬D.X k (upd D.ib D.r D.i j)/\¬D.X k (upd D.cb D.r D.c j);by_cases a:j=D.r
 subst a;rw[upd_same,upd_same];exact⟨v k,B k⟩;rw[upd_ne _ _ a,upd_ne _ _ a];exact C.Bj j (by omega) k;obtain hs|hs:=hs<;>rw[hs]at h<;>cases h
 obtain hs|hs:=hs<;>rw[hs]at h<;>cases h
 obtain⟨q1,u,t⟩:=C.xr k x y;exact⟨Z4 q1,u,t⟩;have b:j<D.r+1:=b;show D.X j=_;by_cases a:j=D.r
 subst a
 funext x
 exact propext ⟨λh=>by have:=(C.xr _ _ h).1;omega,λh=>h.elim⟩;have h4:4<=upd D.l D.r 6 j:=h4;rw[upd_ne _ _ a]at h4;exact C.x4 j (by omega) h4;obtain⟨j,b,d,g⟩|h:=C.rows x m e
 ·exact .inl ⟨j,Z4 b,by show upd D.st D.r .w7 j=_;rw[upd_ne _ _ (by omega)];exact d,g⟩
 exact .inr h;show(∃j,j<D.r+1/\upd D.st D.r .w7 j=.pv/\D.X j x)\/(∃j,j<D.r+1/\upd D.l D.r 6 j<=2/\∃i,i<K.C/\x=D.f j i)\/(∃j,j<D.r+1/\(x=upd D.ib D.r D.i j\/x=upd D.cb D.r D.c j))\/_;obtain⟨j,b,d,g⟩|⟨j,b,d,g⟩|⟨j,b,d⟩|⟨_,d⟩|⟨_,d⟩:=C.B4 x m e
 exact .inl ⟨j,Z4 b,by rw[upd_ne _ _ (by omega)];exact d,g⟩;exact .inr<|.inl ⟨j,Z4 b,by rw[upd_ne _ _ (by omega)];exact d,g⟩;exact .inr<|.inr<|.inl ⟨j,Z4 b,by rw[upd_ne _ _ (by omega),upd_ne _ _<|by omega];exact d⟩;exact .inr<|.inr<|.inl ⟨D.r,Zs _,.inl (by rw[upd_same];exact d)⟩;exact .inr<|.inr<|.inl ⟨D.r,Zs _,.inr (by rw[upd_same];exact d)⟩
def Nc(A:dX K)(C:CN K D)(f:D.s=.ad .yt)(B):CN K (D.fork K.n k' k'' B):=by
 have m:=C.inr (by rw[f];rfl);have hs:=Bl D K.n k' k'' B;have hd:(D.fork K.n k' k'' B).s=if D.r+1<K.n then cZ.Pj else cZ.mq .q7:=rfl
 have e:∀F:St->Nat,cnt (D.r+1) F (upd D.st D.r .w7)=cnt D.r F D.st+F .w7:=λF=>Hh F D.st .w7 D.r;refine⟨m,λh=>?_,λh=>?_,⟨?_,λi hi=>?_⟩,λj c=>?_,?_,?_,λh=>?_,λh=>?_,λj c h=>?_⟩;show D.r+1<K.n;rw[hd]at h;split at h
 assumption
 cases h
 show D.r+1=K.n;rw[hd]at h;split at h
 cases h
 omega;show ia D.h.mu D.h.ms (cnt (D.r+1) nO<|upd D.st D.r .w7) (cnt (D.r+1) nA<|upd D.st D.r .w7) (cnt (D.r+1) nT<|upd D.st D.r .w7) (cnt (D.r+1) nQ<|upd D.st D.r .w7) (cnt (D.r+1) nH<|upd D.st D.r .w7) (cnt (D.r+1) nU<|upd D.st D.r .w7) (cnt (D.r+1) nV<|upd D.st D.r .w7) (cnt (D.r+1) nC<|upd D.st D.r .w7);rw[e,e,e,e,e,e,e,e];exact C.gi.Ee;show aaA D.h (upd D.st D.r .w7 i);have hi:i<D.r+1:=hi;by_cases b:i=D.r
 subst b;rw[upd_same];trivial;rw[upd_ne _ _ b];exact C.gi.loc i (by omega);show rG K.n (upd D.st D.r .w7 j);have c:j<D.r+1:=c;by_cases a:j=D.r
 subst a;rw[upd_same];trivial;rw[upd_ne _ _ a];exact C.vM j (by omega);show mW (wa (D.fork K.n k' k'' B).s) (xa (D.fork K.n k' k'' B).s) D.h (cnt (D.r+1) nG<|upd D.st D.r .w7) (cnt (D.r+1) nL<|upd D.st D.r .w7) (cnt (D.r+1) nM<|upd D.st D.r .w7);rw[e,e,e];have d:=C.wg;rw[f]at d;obtain⟨o,g,h3,h4⟩:=d;simp only[wa,xa]at o h3 h4;have l:nG .w7=1:=rfl;have k:nL .w7=0:=rfl;have p:nM .w7=0:=rfl;rw[l,k,p];obtain hs|hs:=hs<;>rw[hs]
 exact⟨by simp only[xa];omega,g,λ_=>by have:=h3 trivial;omega,λh=>by cases h⟩;exact⟨by simp only[xa];omega,g,λ_=>by have:=h3 trivial;omega,λh=>by cases h⟩;obtain hs|hs:=hs<;>rw[hs]<;>trivial
 obtain hs|hs:=hs<;>rw[hs]at h<;>cases h
 cases h
 have h:upd D.zz D.r 1 j=0:=h;have c:j<D.r+1:=c;by_cases a:j=D.r
 subst a;rw[upd_same]at h;cases h;rw[upd_ne _ _ a]at h;exact C.zw j (by omega) h
def rP(t){x y a b}(i:x.act=a)(h:y.act=b)(g:∀m,a≠.mark m)(hb:∀m,b≠.mark m)(k):ZR (t++#[x,y]) k=ZR t k:=by
 have e:t++#[x,y]=(t++#[x])++#[y]:=by apply Array.ext';simp
 rw[e,Deaf_push,Deaf_push];have f:∀{z:MemOp} {c:MemAct} (d:Nat),z.act=c->(∀m,c≠.mark m) ->deafStep k d z=d:=by
  unfold deafStep
  grind
 rw[f _ h hb,f _ i g]
def Nd(A:dX K)(C:CI K w0 D gs w t)(o:D.s=.ad .yt)(fn f pos b):
 CT K (D.fork K.n k' k'' w) w (t++#[{g:=0,fn,pos,act:=.go<|K.p0+D.r},{g:=K.p0+D.r,fn:=f,pos:=b,act:=.start}]):=by
 have p:=A.pos;have l:=C.ct;have hs:=Bl D K.n k' k'' w;have hd:∀k,ZR (t++#[({g:=0,fn,pos,act:=.go<|K.p0+D.r}:MemOp),{g:=K.p0+D.r,fn:=f,pos:=b,act:=.start}]) k=ZR t k:=λk=>rP t rfl rfl (by simp) (by simp) k;have h0:ZR t 0=0:=by rw[l.d0,o];rfl
 refine⟨?_,λj d=>?_,λj d=>?_,λ_=>?_,λh=>?_⟩;rw[hd,h0];obtain hs|hs:=hs<;>rw[hs]<;>rfl
 rw[hd];show _=deaf (upd D.st D.r .w7 j);have d:j<D.r+1:=d;by_cases c:j=D.r
 subst c;rw[upd_same];exact l.dz _ .refl;rw[upd_ne _ _ c];exact l.dw j (by omega);rw[hd];have d:K.p0+(D.r+1)<=j:=d;exact l.dz j (by omega);obtain⟨t1,t2,q⟩:=l.ti (by rw[o];simp);refine⟨t1.fork (H':=upd D.H D.r w) (Z':=w.heap.size) (fam A C.cw) ⟨rfl,rfl⟩ ⟨rfl,rfl⟩ h0 (l.dz _ .refl) (λj d=>upd_ne _ _<|by omega) C.cw.zs.2,λj d m=>?_,q.app λop a=>?_⟩;have d:j<D.r+1:=d;have m:dC (upd D.st D.r .w7 j)=U:=m;by_cases c:j=D.r
 subst c;rw[upd_same]at m;cases m;rw[upd_ne _ _ c]at m;obtain⟨i,hi⟩:=t2 j (by omega) m;refine⟨i,?_⟩;have e:t++#[({g:=0,fn,pos,act:=.go<|K.p0+D.r}:MemOp),{g:=K.p0+D.r,fn:=f,pos:=b,act:=.start}]=(t++#[{g:=0,fn,pos,act:=.go<|K.p0+D.r}])++#[{g:=K.p0+D.r,fn:=f,pos:=b,act:=.start}]:=by apply Array.ext';simp
 rw[e];refine(hi.appOther (g:=0) (λop a=>?_)<|by omega).appOther (g:=K.p0+D.r) (λop a=>?_) (by omega);simp at a;rw[a];simp at a;rw[a];simp only[ZY,Z0,Z3,or_false]at a;obtain rfl|rfl:=a<;>simp
 obtain hs|hs:=hs<;>rw[hs]at h<;>cases h
def o9.here{r i c s k z}(h:o9 K r i c s k z g)(a:k=0)(b:g.status=.running):lj K r i c s g:=by
 cases h with
 |go h hs=>subst a;have:=h;subst this;exact hs
 |blk hs=>cases b
def Eu(A:dX K)(C:CI K w0 D gs w t)(T:gs[0]?=I g)(hr:g.status=.running)(d)(y:D.s=.ad .yt)(J:D.k=0):
 ∃Q g' e,stepG P0 U g (w.at d)=.spawn g' e (w.at d) #[]/\CI K w0 Q ((gs.setIfInBounds 0 g').push e) (w.at d) (t++#[{g:=0,fn:=g.frame.fn,pos:=g.frame.place,act:=.go gs.size},{g:=gs.size,fn:=e.frame.fn,pos:=g.frame.place,act:=.start}])/\vN (mu K Q) (mu K D):=by
 obtain⟨g1,z,o⟩:=C.g0;rw[T]at z;cases z
 have O:=A.pos;have S:=C.cn.inr (by rw[y];rfl);have hnB:=A.nB;rw[y]at o;have hs:=o.here J hr;have hh:=aeA K.b K.q D.r D.c D.i K.cs K.c0 _ hs;have a:=TR K.b K.q D.r _ K.cs K.c0 _ hs;have W:ψ ο ((D.r:Int)+1)=((D.r+1:Nat):Int):=by
  rw[ZO]
  push_cast
  omega
 rw[W]at a;have m:∃u,∃h,Path P0 U u (fin undef g) h/\lj K (D.r+1) D.i D.c (if D.r+1<K.n then .Pj else .mq .q7) h:=by
  by_cases v:D.r+1<K.n
  rw[show decide (((D.r+1:Nat):Int)<(K.q.n:Int))=U from decide_eq_true (by show((D.r+1:Nat):Int)<(K.n:Int);omega)]at a;obtain⟨u,_,h,E,j⟩:=a.trans λh H=>GM K.b K.q ((D.r+1:Nat):Int) K.cs K.c0 h H;exact⟨u,h,E,by rw[if_pos v];exact j⟩;rw[show decide (((D.r+1:Nat):Int)<(K.q.n:Int))=V from decide_eq_false (by show¬((D.r+1:Nat):Int)<(K.n:Int);omega)]at a;obtain⟨u,_,h,E,j⟩:=a.trans λh H=>GN K.b K.q ((D.r+1:Nat):Int) K.cs K.c0 h H;exact⟨u,h,E,by rw[if_neg v];exact j⟩
 obtain⟨u,h,E,j⟩:=m;obtain⟨p,_,g3,L,G⟩:=LJ (K.wp D.i D.c) {frame:={(default:ZV)with fn:=P0.funcs.size,defers:=[vA (K.wp D.i D.c)],mode:=.panicking [goexitEntry]},callers:=[],status:=.running,dying:=Z8} ⟨λ_ _=>undef,rfl⟩;refine⟨D.fork K.n u p w,_,_,Ba (P:=P0) (main:=U) (w:=w.at d) (f:=.func 211) (tx:=(K.wp D.i D.c).tx) hh,⟨?_,⟨_,?_,.go E j⟩,λi x h0 hi F=>?_,λi hi=>?_,Nb A (C.cw.at d) y,Nc A C.cn y _,?_⟩,?_⟩;simp only[ZL,χ];show _=K.p0+(D.r+1);rw[C.size];omega;rw[ω (by simp only[χ];rw[C.size];omega),<-Δ,Array.getElem?_setIfInBounds_self_of_lt (by rw[C.size];omega)];have hi:=hi;rw[ω (by simp only[χ];rw[C.size];omega),<-Δ,ZN<|by omega]at F;rw[rP t rfl rfl (by simp) (by simp)];exact C.old i x h0 hi F;have hi:i<D.r+1:=hi;by_cases B:i=D.r
 subst B;refine⟨_,by rw[<-C.size,<-χ (xs:=gs) (i:=0),ZF],?_⟩;show WSit K D.r (K.wp (upd D.ib D.r D.i D.r)<|upd D.cb D.r D.c D.r) (upd D.st D.r .w7 D.r) (D.X D.r) (upd D.l D.r 6 D.r) (upd D.kk D.r p D.r) (upd D.zz D.r 1 D.r) _ (w.at d);simp only[upd_same];exact .go (s:=.w7) L G (by simp) (by simp) (by simp);obtain⟨x,F,N⟩:=C.wk i (by omega);refine⟨x,?_,?_⟩;rw[ω (by simp only[χ];rw[C.size];omega),<-Δ,ZN<|by omega];exact F;show WSit K i (K.wp (upd D.ib D.r D.i i)<|upd D.cb D.r D.c i) (upd D.st D.r .w7 i) (D.X i) (upd D.l D.r 6 i) (upd D.kk D.r p i) (upd D.zz D.r 1 i) _ (w.at d);simp only[upd_ne _ _ B];exact N.at d;rw[C.size];exact Nd A C y _ _ _ _;left;show K.n-(D.r+1)<K.n-D.r;omega
def yN(A:dX K)(C:CI K w0 D gs w t){i}(h0:0<i)(hi:i<K.p0)(hg:gs[i]?=I g)(v:g.status=.running)(d):
 ∃X g' es,stepG P0 V g (w.at d)=.go g' (w.at d) es/\CI K w0 X ((gs.map<|woken P0 g g'<|w.at d).setIfInBounds i g') (w.at d) (t++Ψ i g.frame.fn g.frame.place es)/\vN (mu K X) (mu K D):=by
 have J:=C.old i g h0 hi hg;cases hqi:D.q i with
 |zero=>rw[hqi]at J;rw[J.1]at v;cases v
 |succ k=>
  rw[hqi]at J;obtain⟨hf,_⟩|⟨_,g',es,L,O,Q⟩:=J
  rw[hf]at v;cases v;have b:=C.cw.at d;have F:=C.ct;have c:∀k,k≠i->ZR (t++Ψ i g.frame.fn g.frame.place es) k=ZR t k:=λk hk=>ZS t (Ne.symm hk) _ gu;have E:∀op∈Ψ i g.frame.fn g.frame.place es,op.act.touch?=Z8:=λop l=>by obtain⟨e,H,rfl⟩:=Ω l;exact touch_mute<|L e H
  have B:∀op∈Ψ i g.frame.fn g.frame.place es,op.act.low w:=λop l=>by obtain⟨e,H,rfl⟩:=Ω l;exact low_mute (L e H) _
  refine⟨{D with q:=upd D.q i k,z:=if dY g g' then 1 else D.z,zz:=λa=>if dY g g' then 1 else D.zz a},g',es,O _,⟨?_,?_,λj x S o p=>?_,λj o=>?_,?_,?_,?_⟩,?_⟩;simp only[χ,ZJ];exact C.size;obtain⟨x,p,P⟩:=C.g0;exact⟨_,by rw[fw (by omega),p];rfl,P.woken⟩;by_cases u:j=i
  ·subst u;rw[pd (by rw[C.size];have:j<K.p0:=o;omega)]at p;cases p
   rw[Deaf_own];show ZT P0 (upd D.q j k j) _ _;rw[upd_same];exact Q
  rw[fw (λh=>u h.symm)]at p;obtain⟨y,hy,rfl⟩:=υ.1 p;have G:=C.old j y S o hy;rw[Zw G,c j u];show ZT P0 (upd D.q i k j) _ _;rw[upd_ne _ _ u];exact G;obtain⟨x,p,W⟩:=C.wk j o;exact⟨_,by rw[fw (by omega),p];rfl,(W.at d).woken⟩;exact⟨b.tape,b.output,b.os,b.at_,b.box,b.Hd,b.hz,b.zs,b.Bj,b.hi,b.hc,b.xr,b.xd,b.x4,b.rows,b.B4⟩;have N:=C.cn;refine⟨N.rn,N.inr,N.out,N.gi,N.vM,N.wg,N.mf,N.gone,λh=>?_,λj o h=>?_⟩;have h:=h;split at h
  cases h
  exact N.zs h;have h:=h;split at h
  cases h
  exact N.zw j o h
  ·refine⟨by rw[c 0 (by omega)];exact F.d0,λj o=>by rw[c _ (by omega)];exact F.dw j o,λj o=>by rw[c _ (by have:K.p0+D.r<=j:=o;omega)];exact F.dz j o,λhs=>?_,λhs=>?_⟩
   ·obtain⟨t1,t2,t3⟩:=F.ti hs;refine⟨t1.CZ (g:=i) gu E B,λj o v=>?_,t3.app λop l=>?_⟩;obtain⟨n,hn⟩:=t2 j o v;exact⟨n,hn.appOther gu<|by omega⟩
    ·obtain⟨e,H,rfl⟩:=Ω l;have:=L e H;obtain⟨loc,wr,sy⟩:=e;cases loc with
     |mark m=>cases m<;>first|(simp[Γ];done)|cases this
     |_=>cases this
   obtain⟨t1,t2⟩:=F.pa hs;refine⟨t1.mute (by omega) L,λn x p T=>?_⟩;obtain⟨_,s⟩|⟨op,l,s,_⟩:=cc p
   exact t2 n x s T;rw[E op l]at s;cases s
  refine .inr ⟨rfl,.inr ⟨rfl,.inr ⟨rfl,.inl ?_⟩⟩⟩;show sumTo D.r D.kk+D.k+sumTo K.p0 (upd D.q i k)<sumTo D.r D.kk+D.k+sumTo K.p0 D.q;have:=C8 (f:=D.q) (x:=k) hi;omega
def Hi(A:dX K)(C:CI K w0 D gs w t):∃(i:Nat) (g:R),gs[i]?=I g/\g.status=.running:=by
 apply ζ;intro l;have u:∀(i:Nat) (g:R),gs[i]?=I g->g.status≠.running:=λi g m v=>l ⟨i,g,m,v⟩;obtain⟨g0,s,p⟩:=C.g0;obtain⟨h,_⟩|⟨_,hz,_,hs⟩:=p.status
 exact u _ _ s h;have z:=C.cn.zs hz;have wk:∀j,j<D.r->(∃x,D.st j=.s1 x/\D.h.ms=0)\/D.st j=.fin:=by
  intro j d;obtain⟨g,m,f⟩:=C.wk j d;obtain⟨h,_⟩|⟨_,hz,_,x,a⟩|⟨_,h,_⟩:=f.status
  exact absurd h<|u _ _ m;exact .inl ⟨x,a,C.cn.zw j d hz⟩;exact .inr h
 have zero:∀F:St->Nat,(∀x,F (.s1 x)=0) ->F .fin=0->cnt D.r F D.st=0:=by
  intro F G B;have:=mV (n:=D.r) (F:=F) (st:=D.st) (c:=0) λj d=>by
   obtain⟨x,a,_⟩|a:=wk j d<;>rw[a]
   rw[G];exact .refl;rw[B];exact .refl
  omega
 have o:=C.cn.wg;rw[hs,zero nL (λ_=>rfl) rfl,zero nM (λ_=>rfl) rfl]at o;have h4:=o.wait rfl;have N:=o.k;have L:0<D.h.k:=by omega
 have H:xa (.mq .rJ)=0:=rfl;have E:cnt D.r nG D.st=cnt D.r nQ D.st:=by
  have q:∀r,r<=D.r->cnt r nG D.st=cnt r nQ D.st:=by
   intro r
   induction r with
   |zero=>intro _;rfl
   |succ r J=>intro v;have e:∀F:St->Nat,cnt (r+1) F D.st=cnt r F D.st+F (D.st r):=λ_=>rfl;rw[e,e,J<|by omega];obtain⟨x,a,_⟩|a:=wk r (by omega)<;>rw[a]<;>rfl
  exact q D.r .refl
 have b:D.h.ms=0:=by
  apply ζ;intro b;apply (by omega);have:=mV (n:=D.r) (F:=nG) (st:=D.st) (c:=0) λj d=>by
   obtain⟨x,_,h⟩|a:=wk j d
   exact absurd h b;rw[a];exact .refl
  omega
 have y:=C.cn.gi.Ee;rw[b,zero nO (λ_=>rfl) rfl,zero nA (λ_=>rfl) rfl,zero nT (λ_=>rfl) rfl,zero nH (λ_=>rfl) rfl,zero nU (λ_=>rfl) rfl,zero nV (λ_=>rfl) rfl,zero nC (λ_=>rfl) rfl]at y;have:=Gw y;omega
def all_awake(C:CI K w0 D gs w t):∀g∈gs,awake g:=by
 intro g e;obtain⟨i,hi,rfl⟩:=Array.mem_iff_getElem.1 e;have a:=Δ hi;obtain rfl|c:=Zv i
 obtain⟨g0,d,f⟩:=C.g0;rw[a]at d;cases d
 obtain h|h:=f.status
 exact ZI<|.inl h.1;exact ZI<|.inr<|.inl h.1;by_cases j:i<K.p0
 ·exact ZI<|(C.old i _ c j a).status.elim .inl λx=>.inr<|.inr x
 have hs:=C.size;obtain⟨g,e,b⟩:=C.wk (i-K.p0) (by omega);rw[show K.p0+(i-K.p0)=i by omega,a]at e;cases e
 obtain h|h|h:=b.status
 exact ZI<|.inl h.1;exact ZI<|.inr<|.inl h.1;exact ZI<|.inr<|.inr h.1
def crowd_step(A:dX K)(C:CI K w0 D gs w t)(sl)(q:¬(D.s=.mq .kI/\D.k=0)):
 ∃m r w' l ops,stepT P0 (crowd gs w sl)=(.next<|crowd r w' l,ops)/\CI K w0 m r w' (t++ops)/\vN (mu K m) (mu K D):=by
 have E:=A.pos;obtain⟨i,g,d,l,hi,n,c⟩:=crowd_pick (P:=P0) (w:=w) (sl:=sl) (all_awake C)<|Hi A C;obtain rfl|x:=Zv i
 by_cases z:D.s=.ad .yt/\D.k=0
 ·obtain⟨m,B,y,f,o,p⟩:=Eu A C hi n d z.1 z.2;refine⟨m,_,_,_,_,c.trans<|runT_crowd_spawn (P:=P0) (sl:=l) (i:=0) hi f,?_,p⟩;have e:∀a b:MemOp,((Ψ 0 g.frame.fn g.frame.place #[]).push a).push b=#[a,b]:=λa b=>by rw[Zt];simp
  rw[e];exact o
 obtain⟨m,B,w',F,f,o,p⟩:=vO A C hi n d (λh=>Zu λh0=>z ⟨h,h0⟩) λh=>Zu λh0=>q ⟨h,h0⟩;exact⟨m,_,_,_,_,c.trans<|ZA (P:=P0) (sl:=l) (i:=0) hi f,o,p⟩;have u:(i==0)=V:=by simp;omega
 by_cases v:i<K.p0
 obtain⟨m,B,F,f,o,p⟩:=yN A C x v hi n d;exact⟨m,_,_,_,_,c.trans<|ZA (P:=P0) (sl:=l) (i:=i) hi (by rw[u];exact f),o,p⟩;have hs:=C.size;have G:=(ZH.1 hi).1;obtain⟨j,rfl⟩:∃j,i=K.p0+j:=⟨i-K.p0,by omega⟩;obtain⟨m,B,w',F,f,o,p⟩:=yM A C (by omega) hi n d;exact⟨m,_,_,_,_,c.trans<|ZA (P:=P0) (sl:=l) (i:=K.p0+j) hi (by rw[u];exact f),o,p⟩
def Ev(A:dX K):∀D gs w t sl,CI K w0 D gs w t->
 ∃N e a w' c f,runNT P0 N (crowd gs w sl) t=(.next<|crowd a w' c,f)/\CI K w0 e a w' f/\e.s=.mq .kI/\e.k=0:=by
 intro D;generalize v:mu K D=m
 induction m using MX.induction generalizing D with
 |_ m x=>
  intro gs w t sl C;subst v;by_cases b:D.s=.mq .kI/\D.k=0
  exact⟨0,D,gs,w,sl,t,rfl,C,b⟩;obtain⟨o,g,j,i,q,h,u,r⟩:=crowd_step A C sl b;obtain⟨N,e,a,w',c,f,d,l,p,n⟩:=x _ r o rfl g j _ i u;exact⟨N+1,e,a,w',c,f,by rw[runNT];simp only[h];exact d,l,p,n⟩
end
end
end Ph
namespace Ph
open Go Go.Conc
open Go.ConcM (muA msA MuAt ShAt Eff BookOK Bk2)
open Go.ConcR (stA smA WgAt mk)
section
def hw(w:η)(H:Array Obj):η:={w with heap:=H}
def bA(w:η)(D:η->η->Array ZE->Prop)(Stop:R->η->Prop)(g:R)(H:Array Obj):Prop:=∃n,∀d,Goes P0 U AtRel D Stop n g ((hw w H).at d)
section
variable{w:η}{D:η->η->Array ZE->Prop}{Stop:R->η->Prop}{g g':R}{H H':Array Obj}{S:R->Prop}
def bA.stop(h:∀d,Stop g ((hw w H).at d)):bA w D Stop g H:=⟨0,λd c a=>by obtain⟨b,rfl⟩:=a;exact h b⟩
def bA.step{es}(c:g.status=.running)(h:∀d,stepG P0 U g ((hw w H).at d)=.go g' ((hw w H').at d) es)(i:∀d,D ((hw w H).at d) ((hw w H').at d) es)(f:bA w D Stop g' H'):bA w D Stop g H:=by obtain⟨n,e⟩:=f;refine⟨n+1,λd=>Goes.step c λj b=>?_⟩;obtain⟨a,rfl⟩:=b;show(stepG P0 U g<|(hw w H).at a).goes _;rw[h a];exact⟨i a,e a⟩
def bA.path{k:Nat}(c:∀d,D ((hw w H).at d) ((hw w H).at d) #[])(b:bA w D Stop g' H):∀{k} {g},Path P0 U k g g'->bA w D Stop g H
 |0,g,h=>by have:=h;rw[<-this];exact b
 |k+1,g,h=>by obtain⟨e,i,a,f⟩:=h;exact bA.step e (λd=>a _) c<|bA.path (k:=k) c b f
def bA.to{k}(e:∀d,D ((hw w H).at d) ((hw w H).at d) #[])(h:bZ P0 U k S g)(b:∀g',S g'->bA w D Stop g' H):bA w D Stop g H:=by obtain⟨c,_,g',a,hs⟩:=h;exact bA.path (k:=c) e (b g' hs) a
end
def aH{d ds cs g}(h:aQ d ds cs g):g.status=.running:=by obtain⟨F,rfl⟩:=h;rfl
def mZ(kd:CallKind)(c0:ZV):ZV:=
 match kd with
 |.normal|.wrapped=>c0.finish<|.tuple #[]
 |.early=>c0
 |_=>match c0.mode with
  |.panicking ({recovered:=U,..}::older)=>
   match older.dropWhile (!·.goexit)with
   |[]=>{c0 with mode:=.returning}
   |rest=>{c0 with mode:=.panicking rest}
  |_=>c0
def Vi(b tmps T c0 cs w):stepG P0 U (G {fn:=166,tmps,todo:=T,defers:=[],mode:=.returning,kind:=jq b} (c0::cs)) w=.go (G (mZ (jq b) c0) cs) w #[]:=by cases b<;>kernel_rfl
def Db(e:Int):List PanicEntry:=[{v:=.iface 177<|.agg #[e],recovered:=V}]
def alq(fr:ZV)(h:fr.fn=84):fr.catches P0=V:=by obtain⟨fn,a,todo,defers,mode,kind,b⟩:=fr;subst h;kernel_rfl
def adL(fr:ZV)(h:fr.fn=166):fr.catches P0=V:=by obtain⟨fn,a,todo,defers,mode,kind,b⟩:=fr;subst h;kernel_rfl
def rQ(b:Bool)(c0:ZV)(cs:List ZV):Option Int->R
 |none=>G (mZ (jq b) c0) cs
 |some e=>G (c0.raise<|Db e) cs
section
variable{w:η}{D:η->η->Array ZE->Prop}{Stop:R->η->Prop}{H:Array Obj}
def yO(c:∀d,D ((hw w H).at d) ((hw w H).at d) #[])(b e T l a c0 cs g)(h:aQ {fF OG U e with l:=(7,.iface 177<|.agg #[e])::l} [fK b T a] (c0::cs) g)(i:∀w,∃s,dl g=I s/\s.runT P0 w #[]=(.halt (.panic<|.iface 177<|.agg #[e]) w,#[]))(hs:bA w D Stop (rQ b c0 cs<|I e) H):bA w D Stop g H:=by
 obtain⟨F,rfl⟩:=h;have s1:∀d,stepG P0 U (SC {fF OG U e with l:=(7,.iface 177<|.agg #[e])::l} [fK b T a] (c0::cs) F) ((hw w H).at d)=.go (G ((({fF OG U e with l:=(7,.iface 177<|.agg #[e])::l}:bG).fr<|Jv 8<|cO ((7,.iface 177<|.agg #[e])::l)<|F 0).raise<|Db e) (((fK b T a).fr<|Jv 43<|cO a<|F 1)::c0::cs)) ((hw w H).at d) #[]:=λd=>by obtain⟨s,j,f⟩:=i<|(hw w H).at d;exact Bc j f
 refine bA.step rfl s1 c<|bA.step rfl (λd=>uu rfl rfl<|alq _ rfl) c<|bA.step rfl (λd=>uu rfl rfl<|adL _ rfl) c hs
end
def DG:List Item:=(Frame.enter P0 166 #[] .normal).todo
def Hj(b v0 ca n m room cs c0 g)(h:aQ (fK b DG [(0,v0),(1,.slice ca n m),iv 2 room]) [] (c0::cs) g):bZ P0 U 300 (aQ (fK b tk3 [(0,v0),(1,.slice ca n m),iv 2 room]) [] (c0::cs)) g:=by cases b<;>exact aQ.QF (ah 166 3) 300 (λF=>by kernel_rfl) (λF=>by kernel_rfl) (λF=>by kernel_rfl) g h
def H5(h0:Array Obj)(B0 n:Nat)(v0:ZG):Array Obj:=((((h0.push<|Θ #[v0] 104).push<|.cells (bP n) 34).push<|Θ #[.slice (B0+1:Nat) n n] 83).push<|Θ #[κ .i32 0,κ .u32 0] 249).push<|Θ #[κ .u64 0,κ .u32 0] 255
def Hk{w}{H:Array Obj}{d cs e f o v B}(b:H.size=B):((hw w<|H.push<|.cells cs e f).at d).setCell (B,o) v=(hw w<|H.push<|.cells (cs.setIfInBounds o v) e f).at d:=by
 have:(H.push (.cells cs e f)).modify B (λa=>match a with
  |.cells cs e f=>.cells (cs.setIfInBounds o v) e f
  |a=>a)=H.push (.cells (cs.setIfInBounds o v) e f):=by
  grind
 exact congrArg (λx=>({(hw w<|H.push<|.cells cs e f).at d with heap:=x}:η)) this
section
variable{w:η}{D:η->η->Array ZE->Prop}{Stop:R->η->Prop}
def yP(K)(t:K.n<1048576)(hs:K.h0.size=K.B0)(c:∀a b,D a b #[])(k:∀a b,D a b #[⟨.cell (K.B0+2:Nat),U,V⟩])(room)(i:¬((K.n:Int)>room))(f:∀g,lj K 0 0 0 (if 0<K.n then .Pj else .mq .q7) g->bA w D Stop g (H5 K.h0 K.B0 K.n<|Ξ<|I K.v0)):
 ∀g,aQ (fK K.b DG [pv 0 K.v0,(1,.slice K.ca K.n K.m),iv 2 room]) [] (K.c0::K.cs) g->bA w D Stop g K.h0:=by
 intro g l;have j:((K.h0.push<|Θ #[Ξ (I K.v0)] 104).push<|.cells (bP K.n) 34).size=K.B0+2:=by simp[hs]
 have r:∀o,(((K.h0.push<|Θ #[Ξ (I K.v0)] 104).push<|.cells (bP K.n) 34).push o).size=K.B0+3:=λo=>by simp[hs]
 have s:∀o p,((((K.h0.push<|Θ #[Ξ (I K.v0)] 104).push<|.cells (bP K.n) 34).push o).push p).size=K.B0+4:=λo p=>by simp[hs]
 refine bA.to (λd=>c _ _) (Hj K.b (Ξ<|I K.v0) K.ca K.n K.m room K.cs K.c0 g l) λg h=>?_;refine bA.step (aH h) (λd=>?_) (λd=>c _ _)<|bA.to (H:=K.h0.push<|Θ #[Ξ (I K.v0)] 104) (λd=>c _ _) (acn K.b (Ξ<|I K.v0) K.ca K.n K.m room K.B0 K.cs K.c0 g h) λg h=>?_;have:=rI (P:=P0) (main:=U) (w:=(hw w K.h0).at d)<|acI (h:=h);rw[show((hw w K.h0).at d).heap.size=K.B0 from hs]at this;exact this;rw[decide_eq_false i]at h;refine bA.to (λd=>c _ _) (akV K.b (Ξ<|I K.v0) K.ca K.n K.m room K.B0 K.cs K.c0 g h) λg h=>?_;refine bA.step (aH h) (λd=>?_) (λd=>c _ _)<|bA.to (H:=(K.h0.push<|Θ #[Ξ (I K.v0)] 104).push<|.cells (bP K.n) 34) (λd=>c _ _) (TF K.b (Ξ<|I K.v0) K.ca K.n K.m room K.B0 (K.B0+1:Nat) K.cs K.c0 g h) λg h=>?_;have:=Ef (main:=U) (w:=(hw w<|K.h0.push<|Θ #[Ξ (I K.v0)] 104).at d) t<|Up (h:=h);rw[show((hw w<|K.h0.push<|Θ #[Ξ (I K.v0)] 104).at d).heap.size=K.B0+1 from(by simp[hs]:(K.h0.push<|Θ #[Ξ (I K.v0)] 104).size=K.B0+1)]at this;exact this;refine bA.step (aH h) (λd=>?_) (λd=>c _ _)<|bA.to (H:=((K.h0.push<|Θ #[Ξ (I K.v0)] 104).push<|.cells (bP K.n) 34).push<|Θ #[()] 83) (λd=>c _ _) (aco K.b (Ξ<|I K.v0) K.ca K.n K.m room K.B0 (K.B0+2:Nat) (K.B0+1:Nat) K.cs K.c0 g h) λg h=>?_;have:=gq (P:=P0) (main:=U) (w:=(hw w<|(K.h0.push<|Θ #[Ξ (I K.v0)] 104).push<|.cells (bP K.n) 34).at d) (acJ (h:=h)) z83;rw[show((hw w<|(K.h0.push<|Θ #[Ξ (I K.v0)] 104).push<|.cells (bP K.n) 34).at d).heap.size=K.B0+2 from j]at this;exact this;refine bA.step (es:=#[⟨.cell (K.B0+2:Nat),U,V⟩]) (aH h) (λd=>?_) (λd=>k _ _)<|bA.to (H:=((K.h0.push<|Θ #[Ξ (I K.v0)] 104).push<|.cells (bP K.n) 34).push<|Θ #[.slice (K.B0+1:Nat) K.n K.n] 83) (λd=>c _ _) (Mv K.b (Ξ<|I K.v0) K.ca K.n K.m room K.B0 (K.B0+2:Nat) (K.B0+1:Nat) K.cs K.c0 g h) λg h=>?_;have e:((hw w<|((K.h0.push<|Θ #[Ξ (I K.v0)] 104).push<|.cells (bP K.n) 34).push<|Θ #[()] 83).at d).heap[K.B0+2]?=I (Θ #[()] 83):=by show(((K.h0.push<|Θ #[Ξ (I K.v0)] 104).push<|.cells (bP K.n) 34).push<|Θ #[()] 83)[K.B0+2]?=_;rw[<-j,ZF]
 have:=iS (P:=P0) (main:=U) (w:=(hw w<|((K.h0.push<|Θ #[Ξ (I K.v0)] 104).push<|.cells (bP K.n) 34).push<|Θ #[()] 83).at d) (MD (h:=h)) ak7 rfl rfl (v:=()) (by rw[aP,bM e];rfl) (by rw[aP];exact g8 e) (by rw[aQ.cg h];exact uw);rw[aP,Hk j]at this;exact this;refine bA.step (aH h) (λd=>?_) (λd=>c _ _)<|bA.to (H:=(((K.h0.push<|Θ #[Ξ (I K.v0)] 104).push<|.cells (bP K.n) 34).push<|Θ #[.slice (K.B0+1:Nat) K.n K.n] 83).push<|Θ #[κ .i32 0,κ .u32 0] 249) (λd=>c _ _) (acp K.b (Ξ<|I K.v0) K.ca K.n K.m room K.B0 (K.B0+2:Nat) (K.B0+3:Nat) K.cs K.c0 g h) λg h=>?_;have:=gq (P:=P0) (main:=U) (w:=(hw w<|((K.h0.push<|Θ #[Ξ (I K.v0)] 104).push<|.cells (bP K.n) 34).push<|Θ #[.slice (K.B0+1:Nat) K.n K.n] 83).at d) (acK (h:=h)) akX;rw[show((hw w<|((K.h0.push<|Θ #[Ξ (I K.v0)] 104).push<|.cells (bP K.n) 34).push<|Θ #[.slice (K.B0+1:Nat) K.n K.n] 83).at d).heap.size=K.B0+3 from r _]at this;exact this;refine bA.step (aH h) (λd=>?_) (λd=>c _ _)<|bA.to (H:=H5 K.h0 K.B0 K.n<|Ξ<|I K.v0) (λd=>c _ _) (acr K.b (Ξ<|I K.v0) K.ca K.n K.m room K.B0 (K.B0+2:Nat) (K.B0+3:Nat) (K.B0+4:Nat) K.cs K.c0 g h) λg h=>?_;have:=gq (P:=P0) (main:=U) (w:=(hw w<|(((K.h0.push<|Θ #[Ξ (I K.v0)] 104).push<|.cells (bP K.n) 34).push<|Θ #[.slice (K.B0+1:Nat) K.n K.n] 83).push<|Θ #[κ .i32 0,κ .u32 0] 249).at d) (acL (h:=h)) akY;rw[show((hw w<|(((K.h0.push<|Θ #[Ξ (I K.v0)] 104).push<|.cells (bP K.n) 34).push<|Θ #[.slice (K.B0+1:Nat) K.n K.n] 83).push<|Θ #[κ .i32 0,κ .u32 0] 249).at d).heap.size=K.B0+4 from s _ _]at this;exact this;by_cases h0:0<K.n
 rw[show decide ((0:Int)<(K.n:Int))=U from decide_eq_true<|by omega]at h;refine bA.to (λd=>c _ _) (GM K.b K.q 0 K.cs K.c0 g h) λg h=>?_;exact f g (by rw[if_pos h0];exact h);rw[show decide ((0:Int)<(K.n:Int))=V from decide_eq_false<|by omega]at h;refine bA.to (λd=>c _ _) (GN K.b K.q 0 K.cs K.c0 g h) λg h=>?_;exact f g (by rw[if_neg h0];exact h)
def cU(ev:Nat->Int):Nat->Nat->Option Int
 |0,_=>Z8
 |k+1,i=>if ev i≠0 then I (ev i)else cU ev k (i+1)
theorem rR(K:PC)(r:K.n<1048576)(H:Array Obj)(c:∀a b,D a b #[])(l:∀a b i,i<K.n->D a b #[⟨.cell (K.B0+1,i),V,V⟩]){cs:Array ZG}(o:H[K.B0+1]?=I (.cells cs 34))(m:∀i,i<K.n->cs[i]?=I (κ ο<|K.ev i)):
 ∀(k i:Nat),k+i=K.n->bA w D Stop (rQ K.b K.c0 K.cs<|cU K.ev k i) H->∀g,aQ (kl K.b K.q rH [bv 35 (decide<|(i:Int)<K.n),(32,ε (I K.E) K.n K.n),iv 33 K.n,iv 34 i]) [] (K.c0::K.cs) g->bA w D Stop g H
 |0,i,hi,hs,g,h=>by rw[show decide ((i:Int)<(K.n:Int))=V from decide_eq_false<|by omega]at h;refine bA.to (λd=>c _ _) (Uc K.b K.q K.E K.n i K.cs K.c0 g h) λg h=>?_;obtain⟨F,rfl⟩:=h;exact bA.step rfl (λd=>Vi K.b _ _ _ _ _) (λd=>c _ _) hs
 |k+1,i,hi,hs,g,h=>by
  have j:i<K.n:=by omega
  rw[show decide ((i:Int)<(K.n:Int))=U from decide_eq_true<|by omega]at h;refine bA.to (λd=>c _ _) (T9 K.b K.q K.E K.n i K.cs K.c0 g h) λg h=>?_;refine bA.step (H':=H) (aH h) (λd=>jr (P:=P0) (main:=U) (Uu (h:=h)) L8 aex j) (λd=>c _ _)<|bA.to (λd=>c _ _) (Ua K.b K.q K.E (K.E.add<|i*1) K.n i K.cs K.c0 g h) λg h=>?_;have p:K.E.add (i*1)=⟨K.B0+1,i,Z8⟩:=by show((K.B0+1:Nat):ZC).add _=_;rw[aP,Nat.mul_one,Nat.zero_add]
  rw[p]at h;refine bA.step (H':=H) (es:=#[⟨.cell (K.B0+1,i),V,V⟩]) (aH h) (λd=>?_) (λd=>l _ _ i j)<|bA.to (λd=>c _ _) (Ub K.b K.q K.E (K.B0+1,i) K.n i (K.ev i) K.cs K.c0 g h) λg h=>?_;exact du (q:=V) (P:=P0) (main:=U) (w:=(hw w H).at d) (Uv (h:=h)) Tv (by rw[bM (cs:=cs) (e:=34) (f:=(0,0)) o];exact m i j) (by rw[aQ.cg h];exact uw);by_cases hz:K.ev i=0
  have hb:(K.ev i !=0)=V:=by rw[hz];rfl
  rw[hb]at h;refine bA.to (λd=>c _ _) (acB K.b K.q K.E K.n i (K.ev i) K.cs K.c0 g h) λg h=>?_;rw[show ψ ο ((i:Int)+1)=((i+1:Nat):Int) by rw[ZO];push_cast;omega]at h
  refine rR K r H c l o m k (i+1) (by omega) ?_ g h;rw[cU,if_neg<|by simp[hz]]at hs;exact hs;have hb:(K.ev i !=0)=U:=by simp[hz]
  rw[hb]at h;rw[cU,if_pos hz]at hs;refine bA.to (λd=>c _ _) (acC K.b K.q K.E K.n i (K.ev i) K.cs K.c0 g h) λg h=>?_;exact yO (λd=>c _ _) K.b (K.ev i) _ _ _ K.c0 K.cs g h (λw=>Uw (h:=h) (w:=w)) hs
def Ew(K:PC)(p:K.n<1048576)(H)(c:∀a b,D a b #[])(k:∀a b i,i<K.n->D a b #[⟨.cell (K.B0+1,i),V,V⟩])(j:∀a b,D a b #[⟨.cell (K.B0+2:Nat),V,V⟩]){cs}(o:H[K.B0+1]?=I (.cells cs 34))(l:∀i,i<K.n->cs[i]?=I (κ ο<|K.ev i))(m:H[K.B0+2]?=I (Θ #[ε (I K.E) K.n K.n] 83))(hs:bA w D Stop (rQ K.b K.c0 K.cs<|cU K.ev K.n 0) H)(g)(h:aQ (kl K.b K.q A9 []) [] (K.c0::K.cs) g):bA w D Stop g H:=by refine bA.step (H':=H) (aH h) (λd=>?_) (λd=>j _ _)<|bA.to (λd=>c _ _) (T8 K.b K.q K.E K.n K.cs K.c0 g h) λg h=>?_;exact du (q:=V) (P:=P0) (main:=U) (w:=(hw w H).at d) (Ut (h:=h)) ab9 (by rw[bM (e:=83) (f:=(0,0)) m];rfl) (by rw[aQ.cg h];exact uw);exact rR K p H c k o l K.n 0 rfl hs g h
end
end
end Ph
namespace Ph
open Go Go.Conc
open Go.ConcN (sumTo upd sumTo_upd upd_ne upd_same RelBy)
open Go.ConcM (muA msA MuAt ShAt Eff BookOK Bk2)
open Go.ConcR (stA smA WgAt mk)
section
def Ex{w B}(h3:w.heap[B+3]?=I (Θ #[κ .i32 0,κ .u32 0] 249))(h4:w.heap[B+4]?=I (Θ #[κ .u64 0,κ .u32 0] 255)):ShAt 249 255 (B+3) (B+4) w (dU ⟨Wd.zero,0,0,0,0⟩):=by trivial
def Nf{w M W s}(h:ShAt 249 255 M W w s):(∃cs f,w.heap[M]?=I (.cells cs 249 f))/\∃cs f,w.heap[W]?=I (.cells cs 255 f):=⟨⟨_,_,h.1⟩,⟨_,_,h.2⟩⟩
theorem jR{d n:Nat}{g':R}(b:ZT P0 n d g'):∀{k:Nat} {g:R},Path P0 V k g g'->ZT P0 (k+n) d g
 |0,g,h=>by have:=h;rw[<-this,Nat.zero_add];exact b
 |k+1,g,h=>by obtain⟨e,c,a,f⟩:=h;have:=jR b f;rw[show k+1+n=(k+n)+1 by omega];exact .inr ⟨e,c,#[],by simp,a,this⟩
def yQ{p e g}(h:bh p e .gx g):ZT P0 1 0 g:=.inr ⟨(js h).1,_,#[],by simp,λw=>QN h,⟨rfl,rfl⟩⟩
def Hl{p e g}(h:bh p e .gn g):∃n,ZT P0 n 1 g:=by
 have b:∀{c:R},bZ P0 V 2000 (bh p e .gx) c->g.status=.running->(∀w,stepG P0 V g w=.go c w #[mk .enable]) ->∃n,ZT P0 n 1 g:=by intro c i j d;obtain⟨k,_,l,a,f⟩:=i;exact⟨(k+1)+1,.inr ⟨j,c,#[mk .enable],by simp[mk,Event.mute],d,jR (yQ f) a⟩⟩
 obtain hs|hs:=h
 obtain⟨F,rfl⟩:=hs;exact b ((Gz p _ ⟨F,rfl⟩).le<|by omega) rfl λw=>wY .enable (λg h=>by cases h) tw rfl rfl;obtain⟨F,rfl⟩:=hs;exact b ((CJ p _ ⟨F,rfl⟩).le<|by omega) rfl λw=>wY .enable (λg h=>by cases h) tw rfl rfl
def vP{K:PC}{j:Nat}{p:WP}{s:St}{X:Nat->Prop}{l k z:Nat}{g:R}{w:η}(h:WSit K j p s X l k z g w)(hs:s=.gn\/s=.gx\/s=.fin):∃n,ZT P0 n (deaf s) g:=by
 cases h with
 |go h a r m o=>
  obtain rfl|rfl|rfl:=hs
  obtain⟨n,i⟩:=Hl (p:=p) (e:=K.ev j) a;exact⟨_,jR i h⟩;exact⟨_,jR (yQ (p:=p) (e:=K.ev j) a) h⟩
  grind
 |w8 h a=>obtain h|h|h:=hs<;>cases h
 |blk a=>obtain h|h|h:=hs<;>cases h
 |ap b h d c=>obtain h|h|h:=hs<;>cases h
 |pv b q O f h t d c=>obtain h|h|h:=hs<;>cases h
 |fin h=>exact⟨0,h,rfl⟩
section
variable{K:PC}{w0 w:η}{D:CD}{gs:Array R}{t:Zr}
def Bm(A:dX K)(C:CI K w0 D gs w t)(hs:D.s=.mq .kI):∃q,Zq P0 t gs q:=by
 have hw:∀j,j<D.r->∃n,∀g,gs[K.p0+j]?=I g->ZT P0 n (ZR t<|K.p0+j) g:=by
  intro j a;obtain⟨g,c,b⟩:=C.wk j a;obtain⟨n,k⟩:=vP b<|ll C.cn hs a;refine⟨n,λo d=>?_⟩;rw[c]at d;cases d
  rw[C.ct.dw j a];exact k
 have m:∀j,∃n,j<D.r->∀g,gs[K.p0+j]?=I g->ZT P0 n (ZR t<|K.p0+j) g:=by
  intro j;by_cases a:j<D.r
  obtain⟨n,k⟩:=hw j a;exact⟨n,λ_=>k⟩;exact⟨0,λh=>absurd h a⟩
 obtain⟨f,l⟩:=Classical.axiomOfChoice m;refine⟨λi=>if i<K.p0 then D.q i else f (i-K.p0),λi g h0 c=>?_,λj a=>?_⟩;have e:=(ZH.1 c).1;rw[C.size]at e;by_cases hi:i<K.p0
 simp only[hi,if_true];exact C.old i g h0 hi c;simp only[hi,if_false];have:=l (i-K.p0) (by omega) g (by rw[show K.p0+(i-K.p0)=i by omega];exact c);rwa[show K.p0+(i-K.p0)=i by omega]at this;rw[C.size]at a;exact C.ct.dz j a
def E8(n B0:Nat)(q:Nat->Nat):CD:={r:=0,s:=if 0<n then .Pj else .mq .q7,i:=0,c:=0,k:=0,z:=1,st:=λ_=>.w7,X:=λ_ _=>False,l:=λ_=>0,kk:=λ_=>0,zz:=λ_=>1,ib:=λ_=>0,cb:=λ_=>0,H:=λ_=>0,Z:=B0+5,h:=⟨Wd.zero,0,0,0,0⟩,q,f:=λ_ _=>0}
def adM(n B0 q):(E8 n B0 q).s=.Pj\/(E8 n B0 q).s=.mq .q7:=by
 show(if 0<n then cZ.Pj else cZ.mq .q7)=.Pj\/_;split
 simp;exact .inr (by show(if 0<n then cZ.Pj else cZ.mq .q7)=_;rename_i h;rw[if_neg h])
def adN(h0 B0 n v0)(hs:h0.size=B0):(H5 h0 B0 n v0).size=B0+5/\(∀b,b<B0->(H5 h0 B0 n v0)[b]?=h0[b]?)/\(H5 h0 B0 n v0)[B0]?=I (Θ #[v0] 104)/\(H5 h0 B0 n v0)[B0+1]?=I (.cells (bP n) 34)/\(H5 h0 B0 n v0)[B0+2]?=I (Θ #[ε (I ⟨B0+1,0,Z8⟩) n n] 83)/\
 (H5 h0 B0 n v0)[B0+3]?=I (Θ #[κ .i32 0,κ .u32 0] 249)/\(H5 h0 B0 n v0)[B0+4]?=I (Θ #[κ .u64 0,κ .u32 0] 255):=by
 unfold H5
 grind
def Hm(A:dX K)(c:gs.size=K.p0){g}(C:gs[0]?=I g)(f:lj K 0 0 0 (if 0<K.n then .Pj else .mq .q7) g){q}(z:Zq P0 t gs q)(r:Past K.Shun (K.B0+3) t)(hw:w.heap=H5 K.h0 K.B0 K.n (Ξ<|I K.v0))(D:w.tape=w0.tape)(B:w.output=w0.output)(h3:w.os=w0.os):
 CI K w0 (E8 K.n K.B0 q) gs w t:=by
 have hs:=adM K.n K.B0 q;have hd:(E8 K.n K.B0 q).s=if 0<K.n then .Pj else .mq .q7:=rfl
 obtain⟨u,e1,e2,e3,e4,v,y⟩:=adN K.h0 K.B0 K.n (Ξ<|I K.v0) A.size;rw[<-hw]at u e1 e2 e3 e4 v y;have c0:∀F:St->Nat,cnt 0 F (λ_=>.w7)=0:=λ_=>rfl;refine⟨by rw[c];rfl,⟨g,C,.go (g':=g) rfl f⟩,λj g h0 b o=>z.old j g h0 o,λj b=>absurd b<|ξ _,?_,?_,?_⟩;refine⟨D,B,by rw[h3];exact .refl _,⟨by omega,e1,e2,⟨bP K.n,e3,by simp[bP],λi hi=>?_⟩,e4,?_⟩,λj b=>absurd b<|ξ _,?_,λj b=>absurd b<|ξ _,⟨ZZ _,by rw[u];exact ZZ _⟩,λj b=>absurd b<|ξ _,λh=>?_,λh=>?_,λk x p=>p.elim,λk H x p=>p.elim,λj b=>absurd b<|ξ _,λx m d=>by omega,λx m d=>by omega⟩
 ·unfold valOf bP;rw[Array.getElem?_replicate,if_pos hi,if_neg λh=>absurd h.1<|ξ _]
 exact Ex v y;obtain hs|hs:=hs<;>rw[hs]<;>trivial
 obtain hs|hs:=hs<;>rw[hs]at h<;>cases h
 obtain hs|hs:=hs<;>rw[hs]at h<;>cases h
 refine⟨ZB _,λh=>?_,λh=>?_,⟨?_,λi hi=>absurd hi<|ξ _⟩,λj b=>absurd b<|ξ _,?_,?_,λh=>rfl,λh=>rfl,λj b=>absurd b<|ξ _⟩
 ·rw[hd]at h;split at h
  assumption
  cases h
 rw[hd]at h;split at h
 cases h
 show 0=K.n;omega;show ia Wd.zero 0 0 0 0 0 0 0 0 0;simp[ia,Wd.zero];show mW (wa (E8 K.n K.B0 q).s) (xa (E8 K.n K.B0 q).s) ⟨Wd.zero,0,0,0,0⟩ 0 0 0;obtain hs|hs:=hs<;>rw[hs]<;>exact⟨rfl,ZB _,λ_=>⟨rfl,rfl,rfl,rfl⟩,λh=>by cases h⟩
 obtain hs|hs:=hs<;>rw[hs]<;>trivial
 refine⟨?_,λj b=>absurd b<|ξ _,λj b=>z.above j (by rw[c];exact b),λ_=>⟨(TI.start r (λl G=>?_) A.pos).mono<|by omega,λj b=>absurd b<|ξ _,λi hi=>?_⟩,λh=>?_⟩
 ·rw[r.hears];obtain hs|hs:=hs<;>rw[hs]<;>rfl
 obtain⟨a,rfl,J⟩:=G;exact⟨by show K.B0+3<=a.block;omega,rfl⟩;obtain⟨op,E,e⟩:=υ.1 hi;have:=r.seen op<|ZX E;rw[e]at this;have:K.B0+4<K.B0+3:=this;omega;obtain hs|hs:=hs<;>rw[hs]at h<;>cases h
end
theorem Hn:∀(m a b:Nat) (g:Nat->Nat),(∀x,a<=x->x<b->∃i,i<m/\x=g i) ->b<=a+m
 |0,a,b,g,h=>by simp_all
 |m+1,a,b,g,h=>by
  apply ζ;intro e;obtain⟨i,hi,hb⟩:=h (b-1) (by omega) (by omega);have:=Hn m a (b-1) (λk=>if k=i then g m else g k) λx c d=>by grind
  omega
structure After(K:PC)(w w':η):Prop where
 tape:w'.tape=w.tape
 output:w'.output=w.output
 os:ZQ w.os w'.os
 size:K.B0+5<=w'.heap.size
 low:∀b,b<K.B0->w'.heap[b]?=K.h0[b]?
 rows:∀b,K.B0<=b->b<w'.heap.size->∃cs e f,w'.heap[b]?=I (.cells cs e f)/\K.TT e
 wW:w'.heap.size<=K.B0+5+K.n*(K.C+2)
def Dc(Sh B):∀e∈(#[]:Array ZE),EvL Sh B e:=by simp
def Ey{K}(A:dX K){gs w sl t q room}(F:¬((K.n:Int)>room))(hsz:gs.size=K.p0)(hw:w.heap=K.h0){g0}(hg0:aQ (fK K.b DG [pv 0 K.v0,(1,.slice K.ca K.n K.m),iv 2 room]) [] (K.c0::K.cs) g0)(hg:gs[0]?=I g0)(hL:Zq P0 t gs q)(hP:Past K.Shun w.heap.size t):
 ∃N G w' sl' t' q',runNT P0 N (crowd gs w sl) t=(.next<|crowd G w' sl',t')/\G[0]?=I (rQ K.b K.c0 K.cs<|cU K.ev K.n 0)/\Zq P0 t' G q'/\Past (λl=>K.Shun l\/K.ic l) w'.heap.size t'/\After K w w':=by
 have hb:=yP (w:=w) (D:=λ_ _ es=>∀e∈es,EvL K.Shun (K.B0+3) e) (Stop:=λg w'=>lj K 0 0 0 (if 0<K.n then .Pj else .mq .q7) g/\∃d,w'=(Ph.hw w (H5 K.h0 K.B0 K.n (Ξ (I K.v0)))).at d) K A.nB A.size (λ_ _=>Dc _ _) (λ_ _ e he=>by
  rw[φ.1 he];refine⟨λx y hs=>?_,by simp,by simp,by show K.B0+2<K.B0+3;omega⟩;cases y
  have:=A.SB _ hs;dsimp only at this;omega) room F (λg h=>bA.stop λd=>⟨h,d,rfl⟩) g0 hg0
 obtain⟨n,W⟩:=hb;have ew:(Ph.hw w K.h0).at w.drawn=w:=by rw[<-hw];rfl
 have W:=W w.drawn;rw[ew]at W;obtain⟨N1,gs1,g1,w1,sl1,t1,q1,hr1,hs1,hg1,⟨Q,d1,v⟩,hL1,hP1⟩:=walk_beside (P:=P0) (Shun:=K.Shun) (B:=K.B0+3) (λ_ _ _ h=>h) _ n gs _ w sl t q .refl hg hL (hP.mono (by rw[hw,A.size];omega)) W;obtain⟨N2,L,gs2,u,sl2,t2,X,p,c,T⟩:=Ev A _ gs1 w1 t1 sl1<|Hm (w0:=w) (w:=w1) A (hs1.trans hsz) hg1 Q hL1 hP1 (by rw[v];rfl) (by rw[v];rfl) (by rw[v];rfl) (by rw[v];rfl);obtain⟨q2,hL2⟩:=Bm A p c;obtain⟨g2,hg2,k⟩:=p.g0;rw[c,T]at k;have hrn:=p.cn.out (by rw[c];rfl);have H:=p.cw.at_;obtain⟨cs2,O,he2,he3⟩:=H.er;have hev:∀i,i<K.n->cs2[i]?=I (κ ο<|K.ev i):=by
  intro i hi;rw[he3 i hi];unfold valOf;have:cu (L.st i)=U:=by obtain h|h|h:=ll p.cn c (by omega:i<L.r)<;>rw[h]<;>rfl
  rw[if_pos ⟨by omega,this⟩]
 have S:=H.size;have E:g2.status=.running:=by
  obtain h|⟨_,_,_,h⟩:=k.status
  exact h.1;cases h
 ·have rd:∀o b,(b=K.B0+1\/b=K.B0+2) ->∀e∈(#[⟨.cell ⟨b,o,Z8⟩,V,V⟩]:Array ZE),EvL (λl=>K.Shun l\/K.ic l) u.heap.size e:=by
   intro o b hbb e he;rw[φ.1 he];refine⟨λx y hs=>?_,by simp,by simp,by show b<_;omega⟩;cases y
   exfalso;obtain hs|⟨a,ha,hs⟩:=hs
   have:=A.SB _ hs;dsimp only at this;omega;simp only[Loc.cell.injEq]at ha;rw[<-ha]at hs;dsimp only at hs;omega
  obtain⟨n3,hn3⟩:=Ew (w:=u) (D:=λ_ _ es=>∀e∈es,EvL (λl=>K.Shun l\/K.ic l) u.heap.size e) (Stop:=λg w'=>g=rQ K.b K.c0 K.cs (cU K.ev K.n 0)/\∃d,w'=u.at d) K A.nB u.heap (λ_ _=>Dc _ _) (λ_ _ i hi=>rd _ _<|.inl rfl) (λ_ _=>rd _ _<|.inr rfl) O hev H.eb (bA.stop λd=>⟨rfl,d,rfl⟩) _<|k.here rfl E;obtain⟨N3,gs3,g3,w3,sl3,t3,q3,hr3,hs3,hg3,⟨rfl,d3,rfl⟩,hL3,hP3⟩:=walk_beside (P:=P0) (λ_ _ _ h=>h) _ n3 gs2 _ u sl2 t2 q2 .refl hg2 hL2 ((p.ct.pa c).1)<|hn3 u.drawn;refine⟨N1+(N2+N3),gs3,u.at d3,sl3,t3,q3,?_,hg3,hL3,hP3,⟨p.cw.tape,p.cw.output,p.cw.os,S,H.low,λb hb1 hb2=>?_,?_⟩⟩;rw[runNT_add,hr1];dsimp only;rw[runNT_add,X];exact hr3;show∃cs e f,u.heap[b]?=_/\_;by_cases hb5:K.B0+5<=b
  obtain⟨j,z,s,_⟩|h:=p.cw.rows b hb5 hb2
  ·obtain h|h|h:=ll p.cn c z<;>rw[h]at s<;>cases s
  exact h;obtain⟨m1,m2⟩:=Nf H.sh;obtain rfl|rfl|rfl|rfl|rfl:=(by omega:b=K.B0\/b=K.B0+1\/b=K.B0+2\/b=K.B0+3\/b=K.B0+4)
  exact⟨_,_,_,H.gb,A.TT.1⟩;exact⟨_,_,_,O,A.TT.2.1⟩;exact⟨_,_,_,H.eb,A.TT.2.2.1⟩;obtain⟨cs,f,h⟩:=m1;exact⟨cs,249,f,h,A.TT.2.2.2.1⟩;obtain⟨cs,f,h⟩:=m2;exact⟨cs,255,f,h,A.TT.2.2.2.2.1⟩;show u.heap.size<=_;have:=Hn (K.n*(K.C+2)) (K.B0+5) u.heap.size (λm=>if m %(K.C+2)=0 then L.ib (m/(K.C+2))else if m %(K.C+2)=1 then L.cb (m/(K.C+2))else L.f (m/(K.C+2)) (m %(K.C+2) -2)) λx h1 h2=>by
   have J:∀j i,j<L.r->i<K.C+2->j*(K.C+2)+i<K.n*(K.C+2)/\(j*(K.C+2)+i)%(K.C+2)=i/\(j*(K.C+2)+i)/(K.C+2)=j:=by intro j i z hi;refine⟨?_,?_,?_⟩;have:(j+1)*(K.C+2)<=K.n*(K.C+2):=Nat.mul_le_mul_right _ (by omega);rw[Nat.succ_mul]at this;omega;rw[Nat.mul_comm,Nat.mul_add_mod,Nat.mod_eq_of_lt hi];rw[Nat.mul_comm,Nat.mul_add_div<|by omega,Nat.div_eq_of_lt hi,Nat.add_zero]
   obtain⟨j,z,s,_⟩|⟨j,z,_,i,hi,y⟩|⟨j,z,y|y⟩|⟨h,_⟩|⟨h,_⟩:=p.cw.B4 x h1 h2
   obtain h|h|h:=ll p.cn c z<;>rw[h]at s<;>cases s
   obtain⟨e1,e2,e3⟩:=J j (i+2) z (by omega);refine⟨_,e1,?_⟩;rw[e2,e3,if_neg<|by omega,if_neg<|by omega];exact y;obtain⟨e1,e2,e3⟩:=J j 0 z (by omega);refine⟨_,e1,?_⟩;rw[e2,e3,if_pos rfl];exact y;obtain⟨e1,e2,e3⟩:=J j 1 z (by omega);refine⟨_,e1,?_⟩;rw[e2,e3,if_neg<|by omega,if_pos rfl];exact y;rw[c]at h;cases h;rw[c]at h;cases h
  omega
end
end Ph
namespace Ph
open Go Go.Conc
section
def Vj:(P0.funcs[213]?).map (λf=>f.results)=I #[.cell 4 34]:=by kernel_rfl
def alr(v0 b a f):(Jv 48<|cO [pv 0 v0,(3,pz b),(4,pz a)] f).getD 4 undef=pz a:=by kernel_rfl
def Ng{v0 b a W0 rest g w}(h:aQ (As v0 b a OP) [] (W0::rest) g)(j:w.heap[a]?=I (Θ #[κ ο 0] 34)):stepG P0 V g w=.go (G (W0.finish<|κ ο 0) rest) w #[⟨.cell a,V,V⟩]:=by
 obtain⟨F,rfl⟩:=h;obtain⟨fn,e,c⟩:=υ.1 Vj;have d:stepG P0 V (SC (As v0 b a OP) [] (W0::rest) F) w=unwind P0 V ((As v0 b a OP).fr<|Jv 48<|cO [pv 0 v0,(3,pz b),(4,pz a)]<|F 0) (W0::rest) Z8 w:=rfl;have i:(results fn<|Jv 48<|cO [pv 0 v0,(3,pz b),(4,pz a)]<|F 0).runT P0 w #[]=(.ok (κ ο 0) w,#[⟨.cell a,V,V⟩]):=by
  unfold results;rw[c,Sem.runT_eq];have hc:w a=I (κ ο 0):=by rw[bM j];rfl
  have h4:=alr v0 b a<|F 0;generalize Jv 48 (cO [pv 0 v0,(3,pz b),(4,pz a)]<|F 0)=f at h4⊢;have h5:f[4]?.getD undef=.pointer a:=by rw[<-Array.getD_eq_getD_getElem?];exact h4
  simp[h5,Array.mapM_eq_mapM_toList,List.mapM_cons,h4,pz,asAddr,loadVar,Tv.run,Tv.events,hc,Result.andThen,Result.evThen,events_load]
 rw[d];unfold unwind;dsimp only[As,bG.fr];rw[e];dsimp only;rw[i];dsimp only[doReturn];rw[rF (q:=V) _ _ (λg h=>by cases h) li];rfl
section
variable{K:PK}{v0:ZC}{xc xe:Nat}{W0:ZV}{rest:List ZV}{g:R}{X:List Nat}{O:List (Nat×Obj)}{N:Nat}
def Ez:Obj:=Θ #[κ ο 0] 34
def yR(W0:ZV)(rest:List ZV):R:=G (W0.finish<|κ ο 0) rest
def PX.ne{a x y o o'}(d:g.status=.running)(f:(x,o)∈O)(c:(y,o')∈O)(b:o≠o')(h:x≠y->PX K a (N+1) X O g):PX K a (N+1) X O g:=by
 by_cases e:x=y
 refine⟨d,λw hw=>?_⟩;have j:=(hw.known _ f).2;have i:=(hw.known _ c).2
 grind
 grind
def Vk(b:X.length<=K.C)(a:(xe,Ez)∈O)(h:aQ (As v0 xc xe OP) [] (W0::rest) g):PX K (yR W0 rest) 1 X O g:=by refine⟨aH h,λw hw=>.inl ⟨b,w,_,Ng h (hw.known _ a).2,mY λe c=>?_,hw⟩⟩;rw[φ.1 c];exact⟨.inl (hw.known _ a).1,rfl⟩
def adO(d:X.length<=K.C)(a:(xe,Ez)∈O)(h:aQ (fR xe GX [iv 2 0]) [As v0 xc xe KP] (W0::rest) g):PX K (yR W0 rest) 302 X O g:=PX.adE (O':=[(xe,Ez)]) (aH h) a (λp b=>.inl<|Zz.1 b) (U9 v0 xc xe _ g h) aex rfl rfl (by rw[h.cg];exact adB) (U' v0 xc xe _ g h) λe c=>Vk d (by simp) c
def adP(c:X.length<=K.C)(a:(xe,Ez)∈O)(h:aQ (fR xe OK []) [As v0 xc xe KP] (W0::rest) g):PX K (yR W0 rest) 603 X O g:=PX.look (aH h) (λw hw=>GY v0 xc xe _ g h w) (by simp) (adq v0 xc xe _ g h) λd b=>adO c a b
def alt(d:X.length<=K.C)(a:(xe,Ez)∈O)(h:aQ (fX v0 xc xe OJ []) [] (W0::rest) g):PX K (yR W0 rest) 904 X O g:=PX.adE (O':=[(xe,Ez)]) (aH h) a (λp b=>.inl<|Zz.1 b) (adm v0 xc xe _ g h) aex rfl rfl (by rw[h.cg];exact li) (adp v0 xc xe _ g h) λe c=>adP d (by simp) c
def Nh(ca:Option ZC)(n m:Nat)(i:Int):List (Nat×ZG):=[bv 41 (decide<|i<n),(38,.slice ca n m),iv 39 n,iv 40 i]
def EA{i:Nat}(h:i<1000):ψ ο ((i:Int)+1)=((i+1:Nat):Int):=by rw[ZO];omega
section
variable{ca:Option ZC}{n m:Nat}{i:Nat}{cs:List ZV}{gE:R}
def Bn(hi:i<1000)(c:∀g,aQ (fX v0 xc xe Ar<|Nh ca n m ((i+1:Nat):Int)) [] cs g->PX K gE N X O g){ds k b}(hb:b=V)(h:aQ (CV CX b k) ds cs g)(a:aQ (CV CX V k) ds cs g->bZ P0 V 300 (aQ (fX v0 xc xe Ar [bv 41 (decide<|ψ ο ((i:Int)+1)<n),(38,.slice ca n m),iv 39 n,iv 40<|ψ ο<|(i:Int)+1]) [] cs) g):PX K gE (N+300) X O g:=by subst hb;have:=a h;rw[EA hi]at this;exact PX.to this c
variable{nN nO:Nat}{xv xw:Nat}{b0:Nat}{o0:Nat}
structure Ni(K:PK)(b0 o0 nN nO:Nat):Prop where
 lt:b0<K.B0
 Y:K.Y b0
 ex:∃cs e f oa om pa pm,K.h0[b0]?=I (.cells cs e f)/\cs[o0]?=I (.slice oa nN om)/\cs[o0+1]?=I (.slice pa nO pm)
def adQ(hi:i<1000){b:Int}(hb:-99<=b/\b<=99)(a:(xw,Θ #[κ ο 0,b] 50)∈O)
 (c:∀g,aQ (fX v0 xc xe Ar<|Nh ca n m ((i+1:Nat):Int)) [] cs g->PX K gE N X O g) (h:aQ (iX v0 GU [(9,q1 xw),(3,pz xw)]) [fX v0 xc xe ja [(38,.slice ca n m),iv 39 n,iv 40 i]] cs g):PX K gE (N+2000) X O g:=by
 refine PX.mono ?_<|PX.o8 (aH h) a (U1 v0 xc xe ca n m i xw cs g h) ag3 rfl (by rw[h.cg];exact yH) (UI v0 xc xe ca n m i xw b cs g h) λg h=>PX.o8 (N:=_) (o:=1) (aH h) a (U2 v0 xc xe ca n m i xw _ cs g h) ag3 rfl (by rw[h.cg];exact yH) (UJ v0 xc xe ca n m i xw _ b cs g h) λg h=>Bn hi c ?_ h<|ac7 v0 xc xe ca n m i cs g;omega
 grind
def Vl(hi:i<1000)(a:(xw,Θ #[κ ο 2,κ ο 0] 50)∈O)
 (b:∀g,aQ (fX v0 xc xe Ar<|Nh ca n m ((i+1:Nat):Int)) [] cs g->PX K gE N X O g) (h:aQ (iX v0 GW [(19,q1 xw),(3,pz xw)]) [fX v0 xc xe ja [(38,.slice ca n m),iv 39 n,iv 40 i]] cs g):PX K gE (N+2000) X O g:=by
 refine PX.mono ?_<|PX.o8 (aH h) a (U3 v0 xc xe ca n m i xw cs g h) ag3 rfl (by rw[h.cg];exact yH) (UK v0 xc xe ca n m i xw 0 cs g h) λg h=>Bn hi b ?_ h<|ac8 v0 xc xe ca n m i cs g;omega;rfl
def Dd{xx}{k:Int}{q b:Nat}(hi:i<1000)(hb:b<q)(a:(xx,Θ #[k,b] 50)∈O)(c:∀g,aQ (fX v0 xc xe Ar<|Nh ca n m ((i+1:Nat):Int)) [] cs g->PX K gE N X O g)(h:aQ (mX v0 Be [(20,q1 xx),iv 4 q,(3,pz xx)]) [iX v0 fi [],fX v0 xc xe ja [(38,.slice ca n m),iv 39 n,iv 40 i]] cs g):PX K gE (N+2000) X O g:=by
 refine PX.mono ?_<|PX.o8 (aH h) a (U7 v0 xc xe ca n m i xx q cs g h) ag3 rfl (by rw[h.cg];exact yI) (UO v0 xc xe ca n m i xx q b cs g h) λg h=>PX.o8 (N:=_) (o:=1) (aH h) a (U8 v0 xc xe ca n m i xx q cs g h) ag3 rfl (by rw[h.cg];exact yI) (UP v0 xc xe ca n m i xx q b cs g h) λg h=>Bn hi c ?_ h<|ade v0 xc xe ca n m i cs g;omega
 grind
def Ho{k:Int}{b}(p:K.TT 50)(hi:i<1000)(f:v0=⟨b0,o0,Z8⟩)(d:Ni K b0 o0 nN nO)(s:(k=3/\b<nN)\/(k=4/\b<nO))(q:(xw,Θ #[k,b] 50)∈O)(u:∀x g,aQ (fX v0 xc xe Ar<|Nh ca n m ((i+1:Nat):Int)) [] cs g->PX K gE N (x::X) ((x,Θ #[k,b] 50)::O) g)(h:aQ (iX v0 El [pv 26 v0,(3,pz xw)]) [fX v0 xc xe ja [(38,.slice ca n m),iv 39 n,iv 40 i]] cs g):PX K gE (N+4000) X O g:=by
 obtain⟨A,e1,D,B,C,pa,w,t,y,h3⟩:=d.ex;have eb:(v0.add 0).add 0=⟨b0,o0,Z8⟩:=by rw[f,aP,aP];rfl
 refine PX.mono ?_<|PX.adC (N:=_) (n:=300) (aH h) q (U4 v0 xc xe ca n m i xw cs g h) Vd Ha (by rw[h.cg];exact yH) (UM v0 xc xe ca n m i xw _ _ cs g h) λg h=>PX.box (N:=N+3000) (n:=300) (aH h) p (adk v0 xc xe ca n m i _ cs g h) (λc=>ac9 v0 xc xe ca n m i _ c cs g h) λc g z h=>?_;omega;have j:=adl v0 xc xe ca n m i c cs g h;rw[(by rw[f,aP,aP]:(v0.add 0).add 1=⟨b0,o0+1,Z8⟩)]at j;refine PX.mono ?_<|PX.adD (N:=_) (n:=300) (aH h) d.lt d.Y t j adA h3 (by rw[h.cg];exact yI) (ada v0 xc xe ca n m i c pa nO w cs g h) λr l=>PX.o8 (N:=N+2301) (n:=300) (o:=0) (aH l) θ (U5 v0 xc xe ca n m i c nO cs r l) ag3 rfl (by rw[l.cg];exact yI) (S:=λg=>(k=3/\aQ (mX v0 MO [pv 17 ((v0.add 0).add 0),(3,pz c)]) [iX v0 fi [],fX v0 xc xe ja [(38,.slice ca n m),iv 39 n,iv 40 i]] cs g)\/(k=4/\aQ (mX v0 Be [(20,q1 c),iv 4 nO,(3,pz c)]) [iX v0 fi [],fX v0 xc xe ja [(38,.slice ca n m),iv 39 n,iv 40 i]] cs g)) ?_ λv a=>?_;omega;obtain⟨e,_⟩|⟨e,_⟩:=s<;>rw[e]
 ·exact(adb v0 xc xe ca n m i c nO cs r l).mono .refl λg h=>.inl ⟨rfl,h⟩
 exact(adc v0 xc xe ca n m i c nO cs r l).mono .refl λg h=>.inr ⟨rfl,h⟩;obtain⟨e,a⟩|⟨e,a⟩:=a
 have hb:b<nN:=by grind
 have j:=U6 v0 xc xe ca n m i c cs v a;rw[eb]at j;exact PX.mono (by omega)<|PX.adD (N:=N+2000) (n:=300) (aH a) d.lt d.Y t j adA y (by rw[a.cg];exact yI) (UN v0 xc xe ca n m i c B nN C cs v a) λg h=>Dd hi hb θ (u c) h
 ·have hb:b<nO:=by
   obtain⟨h,_⟩|⟨_,h⟩:=s
   rw[e]at h;cases h;exact h
  exact PX.mono (by omega)<|Dd hi hb θ (u c) a
def Nj{k a}(e:K.TT 50)(hi:i<1000)(q:v0=⟨b0,o0,Z8⟩)(y:Ni K b0 o0 nN nO)(B:Fu nN nO k a)(s:(xe,Ez)∈O)(u:(xv,Θ #[k,a] 50)∈O)(v:∀X' O',X'.length<=X.length+2->(xe,Ez)∈O'->∀g,aQ (fX v0 xc xe Ar<|Nh ca n m ((i+1:Nat):Int)) [] cs g->PX K gE N X' O' g)(h:aQ (fX v0 xc xe GT [pv 44 v0,(8,pz xv),(38,.slice ca n m),iv 39 n,iv 40 i]) [] cs g):PX K gE (N+6000) X O g:=by
 refine PX.mono ?_<|PX.adC (N:=_) (n:=300) (aH h) u (U0 v0 xc xe ca n m i xv cs g h) Vd Ha (by rw[h.cg];exact li) (UH v0 xc xe ca n m i xv _ _ cs g h) λz t=>PX.box (N:=N+5000) (n:=300) (aH t) e (adi v0 xc xe ca n m i _ cs z t) (λc=>ac6 v0 xc xe ca n m i _ c cs z t) λc f A d=>?_;omega;have r:(c,Θ #[k,a] 50)∈(c,Θ (Z7 #[k,a]).cells 50)::O:=θ;have j:(xe,Ez)∈(c,Θ (Z7 #[k,a]).cells 50)::O:=Z9 _ s;have own:∀{S:R->Prop},bZ P0 V 300 S (fin k f) ->(∀l,S l->PX K gE (N+4000) (c::X) ((c,Θ (Z7 #[k,a]).cells 50)::O) l) ->PX K gE (N+5000) (c::X) ((c,Θ (Z7 #[k,a]).cells 50)::O) f:=λC D=>PX.mono (by omega) (PX.o8 (n:=300) (o:=0) (aH d) r (adj v0 xc xe ca n m i c cs f d) ag3 rfl (by rw[d.cg];exact yH) C D)
 have p:=v (c::X) ((c,Θ (Z7 #[k,a]).cells 50)::O) (by simp) j;obtain⟨rfl,q1,w⟩|⟨rfl,rfl⟩|⟨rfl,q1,w⟩|⟨rfl,q1,w⟩:=B
 exact own (alf v0 xc xe ca n m i c cs f d) λl h3=>PX.mono (by omega)<|adQ hi ⟨q1,w⟩ r p h3;exact own (alg v0 xc xe ca n m i c cs f d) λl h3=>PX.mono (by omega)<|Vl hi r p h3;obtain⟨b,rfl⟩:=Int.eq_ofNat_of_zero_le q1;exact own (alh v0 xc xe ca n m i c cs f d) λl h3=>Ho e hi q y (.inl ⟨rfl,by omega⟩) r (λx g h=>v _ _ (by simp) (Z9 _ j) g h) h3;obtain⟨b,rfl⟩:=Int.eq_ofNat_of_zero_le q1;exact own (ali v0 xc xe ca n m i c cs f d) λl h3=>Ho e hi q y (.inr ⟨rfl,by omega⟩) r (λx g h=>v _ _ (by simp) (Z9 _ j) g h) h3
end
theorem Hp{nN nO b0 o0 n m:Nat}{ca:Option ZC}{vk vn:Nat->Int}(b:K.TT 50)(T:n<1000)(k:v0=⟨b0,o0,Z8⟩)(z:Ni K b0 o0 nN nO)
 (G:∀i,i<n->Fu nN nO (vk i) (vn i)/\∃a,ca=I a/\a.spot=Z8/\a.block<K.B0/\K.Y a.block/\∃cs e f,K.h0[a.block]?=I (.cells cs e f)/\cs[a.off+i*2]?=I (κ ο<|vk i)/\cs[a.off+i*2+1]?=I (κ ο<|vn i)):
 ∀(r i:Nat) (X:List Nat) (O:List (Nat×Obj)) (g:R),r+i=n->X.length+3*r<=K.C->(xe,Ez)∈O->aQ (fX v0 xc xe Ar<|Nh ca n m i) [] (W0::rest) g->PX K (yR W0 rest) (1300+r*12000) X O g
 |0,i,X,O,g,hi,hC,hxe,h=>by unfold Nh at h;rw[show decide ((i:Int)<(n:Int))=V from decide_eq_false<|by omega]at h;exact PX.mono (by omega)<|PX.to (ale v0 xc xe ca n m i _ g h) λg h=>alt (by omega) hxe h
 |r+1,i,X,O,g,hi,hC,hxe,h=>by
  have l:i<n:=by omega
  obtain⟨ok,a,rfl,o,d,A,S,ev,fv,q1,H,y⟩:=G i l;obtain⟨ab,W,Q⟩:=a;dsimp only at o d A q1 H y;subst o;unfold Nh at h;rw[show decide ((i:Int)<(n:Int))=U from decide_eq_true<|by omega]at h;refine PX.mono ?_<|PX.to (ald v0 xc xe _ n m i _ g h) λE u=>PX.look (N:=1300+r*12000+10000) (n:=300) (es:=#[]) (aH u) (λw hw=>jr (UX v0 xc xe _ n m i _ E u) alj Ha l) (by simp) (UE v0 xc xe _ n m i _ _ E u) λv j=>?_;omega;rw[(aP _ _ _)]at j;refine PX.mono ?_<|PX.alm (N:=1300+r*12000+9000) (n:=300) (aH j) d A q1 (UY v0 xc xe _ n m i _ _ v j) Vd Ha H y (by rw[j.cg];exact li) (UF v0 xc xe _ n m i _ _ _ v j) λJ h3=>PX.mono (by omega)<|PX.var (N:=1300+r*12000+8000) (n:=300) (aH h3) b (adh v0 xc xe _ n m i _ _ J h3) z50 (λc=>ac5 v0 xc xe _ n m i _ c _ J h3) λc D P h4=>?_;omega;have F:(c,Θ #[κ ο 0,κ ο 0] 50)∈(c,Θ (Z7 #[κ ο 0,κ ο 0]).cells 50)::O:=θ;refine PX.mono (N:=1300+r*12000+7000+1) (by omega)<|PX.ne (N:=1300+r*12000+7000) (aH h4) F (Z9 _ hxe) (by simp[Ez]) λs=>?_;refine PX.mono ?_<|PX.aln (N:=1300+r*12000+6000) (n:=300) (O':=[(c,Θ #[(vk i),(vn i)] 50),(xe,Ez)]) (aH h4) F (λp B=>?_) (UZ v0 xc xe _ n m i _ c _ D h4) Ha rfl rfl (by rw[h4.cg];exact li) (UG v0 xc xe _ n m i _ c _ D h4) λg5 h5=>Nj b (by omega) k z ok (by simp) (θ) (λL x t q g h=>Hp b T k z G r (i+1) L x g (by omega) (by simp at t;omega) q h) h5;omega;simp only[Z0,Z3,or_false]at B;obtain rfl|rfl:=B
  exact .inl rfl;exact .inr ⟨Z9 _ hxe,λe=>s e.symm⟩
def Bo{nN nO b0 o0 n m ca kd}{vk vn:Nat->Int}(j:K.TT 50/\K.TT 34/\K.TT 76)(Q:14<=K.C)(t:v0=⟨b0,o0,Z8⟩)(F:Ni K b0 o0 nN nO)(w:Ai kd n)(J:∀i,i<n->Fu nN nO (vk i) (vn i)/\∃a,ca=I a/\a.spot=Z8/\a.block<K.B0/\K.Y a.block/\∃cs e f,K.h0[a.block]?=I (.cells cs e f)/\cs[a.off+i*2]?=I (κ ο<|vk i)/\cs[a.off+i*2+1]?=I (κ ο<|vn i)):
 PX K (yR W0 rest) 60000 [] [] {frame:=Frame.enter P0 213 #[Ξ (I v0),.agg #[kd,.slice ca n m]] .normal,callers:=W0::rest,status:=.running,dying:=Z8}:=by
 have z:n<=4:=by obtain h|h|h:=w<;>omega
 refine PX.mono ?_<|PX.to (N:=58000) (MR v0 _ _ (W0::rest)) λx s=>PX.mono ?_<|PX.box (N:=57000) (n:=300) (aH s) j.2.2 (adf v0 _ _ x s) (λb=>acS v0 _ b _ x s) λb v P r=>PX.mono ?_<|PX.var (N:=56000) (n:=300) (aH r) j.2.1 (adg v0 b _ v r) z34 (λc=>acT v0 b c _ v r) λc l D h3=>?_;omega;omega;omega;have d:(b,Θ #[kd,.slice ca n m] 76)∈[(c,Θ (κ ο 0).cells 34),(b,Θ (Z7 #[kd,.slice ca n m]).cells 76)]:=Z9 _ θ;have q:(c,Ez)∈[(c,Θ (κ ο 0).cells 34),(b,Θ (Z7 #[kd,.slice ca n m]).cells 76)]:=θ;generalize S:[(c,Θ (κ ο 0).cells 34),(b,Θ (Z7 #[kd,.slice ca n m]).cells 76)]=O at d q⊢;have p:∀(lo hi:Int),lo<=n->(n:Int)<=hi->∀g,aQ (fX v0 b c yx [(25,q1 b),iv 5 lo,iv 6 hi]) [] (W0::rest) g->PX K (yR W0 rest) 54000 [c,b] O g:=by intro lo hi s r g h;refine PX.mono ?_<|PX.o8 (N:=53000) (n:=300) (o:=1) (aH h) d (UU v0 b c lo hi _ g h) Ve rfl (by rw[h.cg];exact li) (UB v0 b c lo hi ca n m _ g h) λg h=>?_;omega;rw[show decide ((n:Int)<lo)=V from decide_eq_false<|by omega]at h;refine PX.mono ?_<|PX.to (N:=52000) (ac3 v0 b c hi _ g h) λg h=>PX.mono ?_<|PX.o8 (N:=51000) (n:=300) (o:=1) (aH h) d (UV v0 b c hi _ g h) Ve rfl (by rw[h.cg];exact li) (UC v0 b c hi ca n m _ g h) λg h=>?_;omega;omega;rw[show decide ((n:Int)>hi)=V from decide_eq_false<|by omega]at h;refine PX.mono ?_<|PX.to (N:=50400) (ac4 v0 b c _ g h) λg h=>PX.mono ?_<|PX.o8 (N:=1300+n*12000) (n:=300) (o:=1) (aH h) d (UW v0 b c _ g h) Ve rfl (by rw[h.cg];exact li) (UD v0 b c ca n m _ g h) λg h=>?_;omega;omega;exact Hp j.1 (by omega) t F J n 0 [c,b] O g (by omega) (by simp only[List.length_cons,List.length_nil];omega) q h
 have three:∀{u S2 S3:R->Prop},bZ P0 V 300 u (fin kd l) ->(∀g,u g->aQ (fX v0 b c tB [(14,pz b),bv 13 V]) [] (W0::rest) g) ->(∀g,aQ (fX v0 b c tB [(14,pz b),bv 13 V]) [] (W0::rest) g->bZ P0 V 300 (aQ (fX v0 b c tC [(20,pz b)]) [] (W0::rest)) (fin kd g)) ->
  (∃lo hi:Int,lo<=n/\(n:Int)<=hi/\∀g,aQ (fX v0 b c tC [(20,pz b)]) [] (W0::rest) g->bZ P0 V 300 (aQ (fX v0 b c yx [(25,q1 b),iv 5 lo,iv 6 hi]) [] (W0::rest)) (fin kd g)) ->PX K (yR W0 rest) 56000 [c,b] O l:=by
  intro u S2 S3 G s1 E ⟨lo,hi,q1,L,B⟩;refine PX.mono ?_<|PX.o8 (N:=55400) (n:=300) (o:=0) (aH h3) d (UQ v0 b c _ l h3) ag3 rfl (by rw[h3.cg];exact li) G λk h4=>PX.mono ?_<|PX.o8 (N:=55000) (n:=300) (o:=0) (aH<|s1 k h4) d (UR v0 b c _ k<|s1 k h4) ag3 rfl (by rw[(s1 k h4).cg];exact li) (E k<|s1 k h4) λg5 h5=>PX.mono ?_<|PX.o8 (N:=54000) (n:=300) (o:=0) (aH h5) d (UT v0 b c _ g5 h5) ag3 rfl (by rw[h5.cg];exact li) (B g5 h5) λA H=>p lo hi q1 L A H;omega;omega;omega
 obtain⟨rfl,y⟩|⟨rfl,y⟩|⟨rfl,y⟩:=w
 exact three (S2:=λ_=>True) (S3:=λ_=>True) (acU v0 b c _ l h3) (λ_ h=>h) (λg h=>acV v0 b c _ g h) ⟨0,4,by omega,by omega,λg h=>acW v0 b c _ g h⟩;exact three (S2:=λ_=>True) (S3:=λ_=>True) (acX v0 b c _ l h3) (λ_ h=>h) (λg h=>acY v0 b c _ g h) ⟨1,1,by omega,by omega,λg h=>acZ v0 b c _ g h⟩;exact three (S2:=λ_=>True) (S3:=λ_=>True) (ac0 v0 b c _ l h3) (λ_ h=>h) (λg h=>ac1 v0 b c _ g h) ⟨2,2,by omega,by omega,λg h=>ac2 v0 b c _ g h⟩
end
end
end Ph
namespace Vc
open Go Go.Conc Ph
section
variable(b:Bool)(v0:ZC)(la:Option ZC)(n m:Nat)(q:Int)(nN nO:Nat)(j:Int)(ca:Option ZC)(cn cm:Nat)(i k:Int)(pe:ZC)(room:Int)
noncomputable abbrev Vg:=Cg PV 400
noncomputable abbrev Vf:=Cf PV 400
def fV(b:Bool)(T:List Item)(l:List (Nat×ZG)):bG:={fn:=166,n:=43,T,l,kind:=jq b}
def dL(d:bG)(stop:R->Bool):R:=bN PV U stop 400<|SC d [] [default] λ_ _=>undef
def rS(d:bG)(v:ZG)(stop:R->Bool):R:=bN PV U stop 400<|fin v<|SC d [] [default] λ_ _=>undef
def KR:List Item:=[.code Hs]
def w4:=aK<|dL (fV V KR [pv 0 a0,(1,ε (I a0) 1 1),iv 2 5])<|aC 166 4
def w41:=aK<|dL (fV V KR [pv 0 a0,(1,ε Z8 0 0),iv 2 5])<|aC 166 41
abbrev Rv:List (Nat×ZG):=[(1,ε (I a0) 1 1)]
def w5:=aK<|dL (fV V w4 (bv 4 V::iv 3 1::pv 0 a0::Rv))<|aC 166 5
def w9:=aK<|dL (fV V w5 (bv 5 V::iv 3 1::pv 0 a0::Rv))<|ah 166 9
def E9:=aK<|rS (fV V w9 (iv 3 1::pv 7 a0::pv 0 a0::Rv)) (ε (I a0) 1 1)<|ah 166 12
def Vn:=aK<|rS (fV V E9 (iv 3 1::iv 10 1::Rv)) (ε (I a0) 1 1)<|aC 166 18
abbrev Qa:List (Nat×ZG):=[iv 17 0,iv 13 1,iv 3 1,iv 10 1,(1,ε (I a0) 1 1)]
def w19:=aK<|dL (fV V Vn (bv 18 U::Qa))<|ah 166 19
def QU:=aK<|rS (fV V w19 Qa) (Ξ<|I a0)<|ah 166 20
def Vo:=aK<|rS (fV V QU Qa) (.agg #[κ ο 0,ε (I a0) 1 1])<|aC 166 25
def Vp:=aK<|rS (fV V QU Qa) (.agg #[κ ο 0,ε Z8 0 0])<|aC 166 41
abbrev ts:List (Nat×ZG):=[(22,ε (I a0) 1 1),iv 24 1,iv 17 0,iv 13 1,iv 3 1,iv 10 1,(1,ε (I a0) 1 1)]
def Nl:=aK<|dL (fV V Vo (bv 25 U::iv 21 0::ts))<|aC 166 26
def Ht:=aK<|dL (fV V Vo (bv 25 V::iv 21 1::ts))<|aC 166 27
def Vq:=aK<|dL (fV V Ht (bv 27 U::iv 21 1::ts))<|aC 166 26
def Nm:=aK<|dL (fV V Ht (bv 27 V::iv 21 2::ts))<|aC 166 23
def Vr:=aK<|dL (fV V Nm (bv 23 U::iv 21 2::ts))<|aC 166 26
def Fv:=aK<|dL (fV V Nl (bv 26 V::ts))<|aC 166 29
def w31:=aK<|dL (fV V Fv (bv 29 U::iv 30 0::ts))<|ah 166 31
def Vs:=aK<|rS (fV V w31 (iv 30 0::ts)) (Ξ<|I a0)<|ah 166 32
def Fb:=aK<|rS (fV V Vs (iv 30 0::ts)) (.agg #[κ ο 0,κ ο 0])<|aC 166 35
def Nn:=aK<|dL (fV V Fb (bv 35 U::iv 33 0::iv 34 0::iv 30 0::ts))<|aC 166 36
def Vt:=aK<|dL (fV V Nn (bv 36 V::iv 33 0::iv 34 0::iv 30 0::ts))<|aC 166 37
def Hu:=aK<|dL (fV V Fb (bv 35 V::iv 33 2::iv 34 0::iv 30 0::ts))<|aC 166 38
def Vu:=aK<|dL (fV V Hu (bv 38 U::iv 33 2::iv 34 0::iv 30 0::ts))<|aC 166 36
def Hv:=aK<|dL (fV V Hu (bv 38 V::iv 33 3::iv 34 0::iv 30 0::ts))<|aC 166 39
def No:=aK<|dL (fV V Hv (bv 39 U::iv 33 3::iv 34 0::iv 30 0::ts))<|aC 166 36
def Vv:=aK<|dL (fV V No (bv 36 V::iv 33 3::iv 34 0::iv 30 0::ts))<|aC 166 37
def Np:=aK<|dL (fV V Hv (bv 39 V::iv 33 4::iv 34 0::iv 30 0::ts))<|aC 166 14
def Nq:=aK<|dL (fV V Np (bv 14 U::iv 33 4::iv 34 0::iv 30 0::ts))<|aC 166 36
def Vw:=aK<|dL (fV V Nq (bv 36 V::iv 33 4::iv 34 0::iv 30 0::ts))<|aC 166 37
def wp:=aK<|dL (fV V Vn (bv 18 V::Qa))<|aC 166 15
def uT:Nat->List Item
 |0=>aK<|dL (fV V wp [bv 15 U,iv 17 0]) never
 |k+1=>aK<|dL (fV V (.inRegion aE [0,1]::(uT k).tail) [iv 17 0]) never
def xT(k:Nat):=aK<|dL (fV V (.inRegion aE [1,0]::(uT k).tail) [iv 17 0])<|ah 166 41
def ty(k:Nat):TypeId:=[104,34,83,249,255,3,76,50].getD k 0
def Fc(k:Nat):List Item:=if k=7 then wp else uT (k+1)
def Jp(k:Nat)(q:Int):List (Nat×ZG):=if k=7 then [bv 15 (decide<|ψ ο (q+1)<2199023255552),iv 17<|ψ ο<|q+1]else [iv 17 q]
def Vx:=aK<|dL (fV V wp [bv 15 V,iv 17 0])<|lQ 166
abbrev cL(ca:Option ZC)(cn:Nat)(cm:Nat)(j:Int)(nO:Nat)(nN:Nat)(n:Nat)(la:Option ZC)(m:Nat):List (Nat×ZG):=[(22,.slice ca cn cm),iv 24 cn,iv 17 j,iv 13 nO,iv 10 nN,iv 3 n,(1,.slice la n m)]
abbrev pf(j:Int)(nO:Nat)(nN:Nat)(n:Nat)(la:Option ZC)(m:Nat):List (Nat×ZG):=[iv 17 j,iv 13 nO,iv 10 nN,iv 3 n,(1,.slice la n m)]
def s_0(a n m room):Vg (fV b KR [pv 0 v0,(1,ε (I a) n m),iv 2 room]) [] (fV b w4 [bv 4 (decide<|(n:Int)>room),iv 3 n,pv 0 v0,(1,ε (I a) n m)]) []:=by cases b<;>exactλ_ _=>bJ (aC 166 4) λ_=>by kernel_rfl
def alw:Vg (fV b KR [pv 0 v0,(1,ε Z8 n m),iv 2 room]) [] (fV b w41 [bv 41 ((n:Int) !=0),iv 3 n,pv 0 v0,(1,ε Z8 n m),iv 2 room]) []:=by cases b<;>exactλ_ _=>bJ (aC 166 41) λ_=>by kernel_rfl
def alx:Vg (fV b w41 [bv 41 V,iv 3 n,pv 0 v0,(1,ε Z8 n m),iv 2 room]) [] (fV b w4 [bv 4 (decide<|(n:Int)>room),iv 3 n,pv 0 v0,(1,ε Z8 n m)]) []:=by cases b<;>exactλ_ _=>bJ (aC 166 4) λ_=>by kernel_rfl
def s_4:Vg (fV b w4 [bv 4 V,iv 3 n,pv 0 v0,(1,.slice la n m)]) [] (fV b w5 [bv 5 (decide<|(n:Int)>1000000),iv 3 n,pv 0 v0,(1,.slice la n m)]) []:=by cases b<;>exactλ_ _=>bJ (aC 166 5) λ_=>by kernel_rfl
def s_5:Vg (fV b w5 [bv 5 V,iv 3 n,pv 0 v0,(1,.slice la n m)]) [] (fV b w9 [pv 8 ((v0.add 0).add 0),pv 7<|v0.add 0,iv 3 n,(1,.slice la n m)]) []:=by cases b<;>exactλ_ _=>bJ (ah 166 9) λ_=>by kernel_rfl
def s_9(a nN c):Vf (.slice a nN c) (fV b w9 [pv 8 ((v0.add 0).add 0),pv 7<|v0.add 0,iv 3 n,(1,.slice la n m)]) [] (fV b E9 [pv 11 ((v0.add 0).add 1),iv 10 nN,iv 3 n,(1,.slice la n m)]) []:=by cases b<;>cases a<;>exactλ_ _=>aR (ah 166 12) λ_=>by kernel_rfl
def aly(pa nO a):Vf (.slice pa nO a) (fV b E9 [pv 11 ((v0.add 0).add 1),iv 10 nN,iv 3 n,(1,.slice la n m)]) [] (fV b Vn [bv 18 (decide<|(0:Int)<n),iv 17 0,iv 13 nO,iv 10 nN,iv 3 n,(1,.slice la n m)]) []:=by cases b<;>cases pa<;>exactλ_ _=>aR (aC 166 18) λ_=>by kernel_rfl
def adU:Vg (fV b Vn (bv 18 U::pf j nO nN n la m)) [] (fV b w19<|pf j nO nN n la m) []:=by cases b<;>exactλ_ _=>bJ (ah 166 19) λ_=>by kernel_rfl
def alz:Vf (Ξ<|I pe) (fV b w19<|pf j nO nN n la m) [] (fV b QU (pv 19 pe::pf j nO nN n la m)) []:=by cases b<;>exactλ_ _=>aR (ah 166 20) λ_=>by kernel_rfl
def alA(ca cn a c k):Vf (.agg #[κ ο k,ε (I ca) cn a]) (fV b QU (pv 19 c::pf j nO nN n la m)) [] (fV b Vo (bv 25 (k==0)::iv 21 k::(22,ε (I ca) cn a)::iv 24 cn::pf j nO nN n la m)) []:=by cases b<;>exactλ_ _=>aR (aC 166 25) λ_=>by kernel_rfl
def adV(k):Vf (.agg #[κ ο k,ε Z8 cn cm]) (fV b QU (pv 19 pe::pf j nO nN n la m)) [] (fV b Vp (bv 41 ((cn:Int) !=0)::iv 21 k::(22,ε Z8 cn cm)::iv 24 cn::pf j nO nN n la m)) []:=by cases b<;>exactλ_ _=>aR (aC 166 41) λ_=>by kernel_rfl
def adW:Vg (fV b Vp (bv 41 V::iv 21 k::(22,ε Z8 cn cm)::iv 24 cn::pf j nO nN n la m)) [] (fV b Vo (bv 25 (k==0)::iv 21 k::(22,ε Z8 cn cm)::iv 24 cn::pf j nO nN n la m)) []:=by cases b<;>exactλ_ _=>bJ (aC 166 25) λ_=>by kernel_rfl
def adX:Vg (fV b Vo (bv 25 U::iv 21 k::cL ca cn cm j nO nN n la m)) [] (fV b Nl (bv 26 (decide<|(cn:Int)>4)::cL ca cn cm j nO nN n la m)) []:=by cases b<;>exactλ_ _=>bJ (aC 166 26) λ_=>by kernel_rfl
def adY:Vg (fV b Vo (bv 25 V::iv 21 k::cL ca cn cm j nO nN n la m)) [] (fV b Ht (bv 27 (k==1)::iv 21 k::cL ca cn cm j nO nN n la m)) []:=by cases b<;>exactλ_ _=>bJ (aC 166 27) λ_=>by kernel_rfl
def Vy:Vg (fV b Ht (bv 27 U::iv 21 k::cL ca cn cm j nO nN n la m)) [] (fV b Vq (bv 26 ((cn:Int) !=1)::cL ca cn cm j nO nN n la m)) []:=by cases b<;>exactλ_ _=>bJ (aC 166 26) λ_=>by kernel_rfl
def Vz:Vg (fV b Ht (bv 27 V::iv 21 k::cL ca cn cm j nO nN n la m)) [] (fV b Nm (bv 23 (k==2)::iv 21 k::cL ca cn cm j nO nN n la m)) []:=by cases b<;>exactλ_ _=>bJ (aC 166 23) λ_=>by kernel_rfl
def VA:Vg (fV b Nm (bv 23 U::iv 21 k::cL ca cn cm j nO nN n la m)) [] (fV b Vr (bv 26 ((cn:Int) !=2)::cL ca cn cm j nO nN n la m)) []:=by cases b<;>exactλ_ _=>bJ (aC 166 26) λ_=>by kernel_rfl
def adZ:Vg (fV b Nl (bv 26 V::cL ca cn cm j nO nN n la m)) [] (fV b Fv (bv 29 (decide<|(0:Int)<cn)::iv 30 0::cL ca cn cm j nO nN n la m)) []:=by cases b<;>exactλ_ _=>bJ (aC 166 29) λ_=>by kernel_rfl
def ad0:Vg (fV b Vq (bv 26 V::cL ca cn cm j nO nN n la m)) [] (fV b Fv (bv 29 (decide<|(0:Int)<cn)::iv 30 0::cL ca cn cm j nO nN n la m)) []:=by cases b<;>exactλ_ _=>bJ (aC 166 29) λ_=>by kernel_rfl
def ad1:Vg (fV b Vr (bv 26 V::cL ca cn cm j nO nN n la m)) [] (fV b Fv (bv 29 (decide<|(0:Int)<cn)::iv 30 0::cL ca cn cm j nO nN n la m)) []:=by cases b<;>exactλ_ _=>bJ (aC 166 29) λ_=>by kernel_rfl
def ad2:Vg (fV b Fv (bv 29 U::iv 30 i::cL ca cn cm j nO nN n la m)) [] (fV b w31 (iv 30 i::cL ca cn cm j nO nN n la m)) []:=by cases b<;>exactλ_ _=>bJ (ah 166 31) λ_=>by kernel_rfl
def alD:Vf (Ξ<|I pe) (fV b w31 (iv 30 i::cL ca cn cm j nO nN n la m)) [] (fV b Vs (pv 31 pe::iv 30 i::cL ca cn cm j nO nN n la m)) []:=by cases b<;>exactλ_ _=>aR (ah 166 32) λ_=>by kernel_rfl
def ahT(N a):Vf (.agg #[κ ο k,κ ο N]) (fV b Vs (pv 31 a::iv 30 i::cL ca cn cm j nO nN n la m)) [] (fV b Fb (bv 35 (k==0)::iv 33 k::iv 34 N::iv 30 i::cL ca cn cm j nO nN n la m)) []:=by cases b<;>exactλ_ _=>aR (aC 166 35) λ_=>by kernel_rfl
def ad3(N):Vg (fV b Fb (bv 35 U::iv 33 k::iv 34 N::iv 30 i::cL ca cn cm j nO nN n la m)) [] (fV b Nn (bv 36 (decide<|N< -99)::iv 33 k::iv 34 N::iv 30 i::cL ca cn cm j nO nN n la m)) []:=by cases b<;>exactλ_ _=>bJ (aC 166 36) λ_=>by kernel_rfl
def ad4(N):Vg (fV b Nn (bv 36 V::iv 33 k::iv 34 N::iv 30 i::cL ca cn cm j nO nN n la m)) [] (fV b Vt (bv 37 (decide<|N>99)::iv 30 i::cL ca cn cm j nO nN n la m)) []:=by cases b<;>exactλ_ _=>bJ (aC 166 37) λ_=>by kernel_rfl
def ad5:Vg (fV b Vt (bv 37 V::iv 30 i::cL ca cn cm j nO nN n la m)) [] (fV b Fv (bv 29 (decide<|ψ ο (i+1)<cn)::iv 30 (ψ ο<|i+1)::cL ca cn cm j nO nN n la m)) []:=by cases b<;>exactλ_ _=>bJ (aC 166 29) λ_=>by kernel_rfl
def ad6(N):Vg (fV b Fb (bv 35 V::iv 33 k::iv 34 N::iv 30 i::cL ca cn cm j nO nN n la m)) [] (fV b Hu (bv 38 (k==2)::iv 33 k::iv 34 N::iv 30 i::cL ca cn cm j nO nN n la m)) []:=by cases b<;>exactλ_ _=>bJ (aC 166 38) λ_=>by kernel_rfl
def VB(N):Vg (fV b Hu (bv 38 U::iv 33 k::iv 34 N::iv 30 i::cL ca cn cm j nO nN n la m)) [] (fV b Vu (bv 36 (N !=0)::iv 30 i::cL ca cn cm j nO nN n la m)) []:=by cases b<;>exactλ_ _=>bJ (aC 166 36) λ_=>by kernel_rfl
def ad7:Vg (fV b Vu (bv 36 V::iv 30 i::cL ca cn cm j nO nN n la m)) [] (fV b Fv (bv 29 (decide<|ψ ο (i+1)<cn)::iv 30 (ψ ο<|i+1)::cL ca cn cm j nO nN n la m)) []:=by cases b<;>exactλ_ _=>bJ (aC 166 29) λ_=>by kernel_rfl
def VC(N):Vg (fV b Hu (bv 38 V::iv 33 k::iv 34 N::iv 30 i::cL ca cn cm j nO nN n la m)) [] (fV b Hv (bv 39 (k==3)::iv 33 k::iv 34 N::iv 30 i::cL ca cn cm j nO nN n la m)) []:=by cases b<;>exactλ_ _=>bJ (aC 166 39) λ_=>by kernel_rfl
def VD(N):Vg (fV b Hv (bv 39 U::iv 33 k::iv 34 N::iv 30 i::cL ca cn cm j nO nN n la m)) [] (fV b No (bv 36 (decide<|N<0)::iv 33 k::iv 34 N::iv 30 i::cL ca cn cm j nO nN n la m)) []:=by cases b<;>exactλ_ _=>bJ (aC 166 36) λ_=>by kernel_rfl
def ad8(N):Vg (fV b No (bv 36 V::iv 33 k::iv 34 N::iv 30 i::cL ca cn cm j nO nN n la m)) [] (fV b Vv (bv 37 (decide<|N>=nN)::iv 30 i::cL ca cn cm j nO nN n la m)) []:=by cases b<;>exactλ_ _=>bJ (aC 166 37) λ_=>by kernel_rfl
def ad9:Vg (fV b Vv (bv 37 V::iv 30 i::cL ca cn cm j nO nN n la m)) [] (fV b Fv (bv 29 (decide<|ψ ο (i+1)<cn)::iv 30 (ψ ο<|i+1)::cL ca cn cm j nO nN n la m)) []:=by cases b<;>exactλ_ _=>bJ (aC 166 29) λ_=>by kernel_rfl
def VE(N):Vg (fV b Np (bv 14 U::iv 33 k::iv 34 N::iv 30 i::cL ca cn cm j nO nN n la m)) [] (fV b Nq (bv 36 (decide<|N<0)::iv 33 k::iv 34 N::iv 30 i::cL ca cn cm j nO nN n la m)) []:=by cases b<;>exactλ_ _=>bJ (aC 166 36) λ_=>by kernel_rfl
def aea(N):Vg (fV b Nq (bv 36 V::iv 33 k::iv 34 N::iv 30 i::cL ca cn cm j nO nN n la m)) [] (fV b Vw (bv 37 (decide<|N>=nO)::iv 30 i::cL ca cn cm j nO nN n la m)) []:=by cases b<;>exactλ_ _=>bJ (aC 166 37) λ_=>by kernel_rfl
def aeb:Vg (fV b Vw (bv 37 V::iv 30 i::cL ca cn cm j nO nN n la m)) [] (fV b Fv (bv 29 (decide<|ψ ο (i+1)<cn)::iv 30 (ψ ο<|i+1)::cL ca cn cm j nO nN n la m)) []:=by cases b<;>exactλ_ _=>bJ (aC 166 29) λ_=>by kernel_rfl
def VF(N):Vg (fV b Hv (bv 39 V::iv 33 k::iv 34 N::iv 30 i::cL ca cn cm j nO nN n la m)) [] (fV b Np (bv 14 (k==4)::iv 33 k::iv 34 N::iv 30 i::cL ca cn cm j nO nN n la m)) []:=by cases b<;>exactλ_ _=>bJ (aC 166 14) λ_=>by kernel_rfl
def aec:Vg (fV b Fv (bv 29 V::iv 30 i::cL ca cn cm j nO nN n la m)) [] (fV b Vn [bv 18 (decide<|ψ ο (j+1)<n),iv 17<|ψ ο<|j+1,iv 13 nO,iv 10 nN,iv 3 n,(1,.slice la n m)]) []:=by cases b<;>exactλ_ _=>bJ (aC 166 18) λ_=>by kernel_rfl
def aed:Vg (fV b Vn (bv 18 V::pf j nO nN n la m)) [] (fV b wp [bv 15 (decide<|(0:Int)<2199023255552),iv 17 0]) []:=by cases b<;>exactλ_ _=>bJ (aC 166 15) λ_=>by kernel_rfl
def Nr:Vg (fV b wp [bv 15 U,iv 17 q]) [] (fV b (uT 0) [iv 17 q]) []:=by cases b<;>exactλ_ _=>bJ never λ_=>by kernel_rfl
def p_f:Vg (fV b wp [bv 15 V,iv 17 q]) [] {fn:=166,n:=43,T:=Vx,l:=[],mode:=.returning,kind:=jq b} []:=by cases b<;>exactλ_ _=>bJ (lQ 166) λ_=>by kernel_rfl
def e8{k}(h:k<8):k=0\/k=1\/k=2\/k=3\/k=4\/k=5\/k=6\/k=7:=by omega
def pD(cs c0 g k)(c:k<8)(h:aQ (fV b (uT k) [iv 17 q]) [] (c0::cs) g):∃a:Nat->R,(∀w,stepG PV U g w=.go (a<|w.tape w.drawn<|.order 166<|100+k) {w with drawn:=w.drawn+1} #[])/\∀t,aQ (fV b (.inRegion aE (Region.schedule U aE t)::(uT k).tail) [iv 17 q]) [] (c0::cs) (a t):=by obtain⟨F,rfl⟩:=h;exact⟨λt=>SC (fV b (.inRegion aE (Region.schedule U aE t)::(uT k).tail) [iv 17 q]) [] (c0::cs) F,λw=>by obtain rfl|rfl|rfl|rfl|rfl|rfl|rfl|rfl:=e8 c<;>cases b<;>kernel_rfl,λt=>⟨F,rfl⟩⟩
def pO1(k)(a:k<8):Vg (fV b (.inRegion aE [1,0]::(uT k).tail) [iv 17 q]) [] (fV b (xT k) [iv 17 q]) []:=by obtain rfl|rfl|rfl|rfl|rfl|rfl|rfl|rfl:=e8 a<;>cases b<;>exactλ_ _=>bJ (ah 166 41) λ_=>by kernel_rfl
def pO0(k)(a:k<8):Vg (fV b (.inRegion aE [0,1]::(uT k).tail) [iv 17 q]) [] (fV b (Fc k)<|Jp k q) []:=by obtain rfl|rfl|rfl|rfl|rfl|rfl|rfl|rfl:=e8 a<;>cases b<;>exactλ_ _=>bJ (aC 166 15) λ_=>by kernel_rfl
def pBX(x k)(a:k<8):Vf x (fV b (xT k) [iv 17 q]) [] (fV b (Fc k)<|Jp k q) []:=by obtain rfl|rfl|rfl|rfl|rfl|rfl|rfl|rfl:=e8 a<;>cases b<;>exactλ_ _=>aR (aC 166 15) λ_=>by kernel_rfl
def pHV(k)(a:k<8):CL (fV b (xT k) [iv 17 q]) [] (mb (ty k)<|.agg #[]):=by obtain rfl|rfl|rfl|rfl|rfl|rfl|rfl|rfl:=e8 a<;>cases b<;>exactλ_ _=>aQ.head λ_=>by kernel_rfl
def ama:CL (fV b w9 [pv 8 ((v0.add 0).add 0),pv 7<|v0.add 0,iv 3 n,(1,.slice la n m)]) [] (bI 22<|Ξ<|I<|(v0.add 0).add 0):=by cases b<;>exactλ_ _=>aQ.head λ_=>by kernel_rfl
def aem:CL (fV b E9 [pv 11 ((v0.add 0).add 1),iv 10 nN,iv 3 n,(1,.slice la n m)]) [] (bI 22<|Ξ<|I<|(v0.add 0).add 1):=by cases b<;>exactλ_ _=>aQ.head λ_=>by kernel_rfl
def aen:CL (fV b w19<|pf j nO nN n la m) [] (l9 22 (.slice la n m)<|κ ο j):=by cases b<;>exactλ_ _=>aQ.head λ_=>by kernel_rfl
def aeo:CL (fV b QU (pv 19 pe::pf j nO nN n la m)) [] (bI 76<|Ξ<|I pe):=by cases b<;>exactλ_ _=>aQ.head λ_=>by kernel_rfl
def aep:CL (fV b w31 (iv 30 i::cL ca cn cm j nO nN n la m)) [] (l9 23 (.slice ca cn cm)<|κ ο i):=by cases b<;>exactλ_ _=>aQ.head λ_=>by kernel_rfl
def aeq:CL (fV b Vs (pv 31 pe::iv 30 i::cL ca cn cm j nO nN n la m)) [] (bI 50<|Ξ<|I pe):=by cases b<;>exactλ_ _=>aQ.head λ_=>by kernel_rfl
end
section
def J4:GStep->Bool
 |.ended (.done _) _ _=>V
 |.ended _ _ _=>U
 |_=>V
def Hw(g:R)(w:η):Bool:=match g.status with
 |.running=>J4<|stepG PV U g w
 |_=>V
def gy(g:R):Prop:=∀w,Hw (bN PV U never 400 g) w=U
section
variable(b:Bool)(cs:List ZV)(c0:ZV)(g:R)
def Ns(c a d)(h:aQ (fV b KR [(0,c),(1,a),(2,d)]) [] (c0::cs) g):(∃la n m,a=.slice la n m)\/gy g:=by obtain⟨F,rfl⟩:=h;cases a<;>first|exact .inl ⟨_,_,_,rfl⟩|(right;intro w;cases b<;>kernel_rfl)
def Nt(d c la n m)(h:aQ (fV b KR [(0,d),(1,.slice la n m),(2,c)]) [] (c0::cs) g):(∃room,c=κ ο room)\/gy g:=by
 obtain⟨F,rfl⟩:=h;cases c with
 |int k room=>cases k<;>first|exact .inl ⟨_,rfl⟩|(right;intro w;cases b<;>cases la<;>kernel_rfl)
 |pointer a=>right;intro w;cases a<;>cases b<;>cases la<;>kernel_rfl
 |_=>right;intro w;cases b<;>cases la<;>kernel_rfl
def Nu(c la n m room)(h:aQ (fV b KR [(0,c),(1,.slice la n m),iv 2 room]) [] (c0::cs) g):(∃v0,c=Ξ (I v0))\/gy g:=by
 obtain⟨F,rfl⟩:=h;cases c with
 |pointer a=>
  obtain _|a:=a
  right;intro w;cases b<;>cases la<;>kernel_rfl;exact .inl ⟨_,rfl⟩
 |_=>right;intro w;cases b<;>cases la<;>kernel_rfl
def amb(v0:ZC)(la)(n m:Nat)(x)(h:aQ (fV b w9 [pv 8 ((v0.add 0).add 0),pv 7<|v0.add 0,iv 3 n,(1,.slice la n m)]) [] (c0::cs) g):(∃a nN c,x=.slice a nN c)\/gy (fin x g):=by obtain⟨F,rfl⟩:=h;cases x<;>first|exact .inl ⟨_,_,_,rfl⟩|(right;intro w;cases b<;>kernel_rfl)
def aer(v0:ZC)(la)(n m nN:Nat)(x)(h:aQ (fV b E9 [pv 11 ((v0.add 0).add 1),iv 10 nN,iv 3 n,(1,.slice la n m)]) [] (c0::cs) g):(∃a nN c,x=.slice a nN c)\/gy (fin x g):=by obtain⟨F,rfl⟩:=h;cases x<;>first|exact .inl ⟨_,_,_,rfl⟩|(right;intro w;cases b<;>kernel_rfl)
def ado(la)(n m nN nO:Nat)(j c x y)(h:aQ (fV b QU [pv 19 c,iv 17 j,iv 13 nO,iv 10 nN,iv 3 n,(1,.slice la n m)]) [] (c0::cs) g):(∃k,x=κ ο k)\/gy (fin (.agg #[x,y]) g):=by
 obtain⟨F,rfl⟩:=h;cases x with
 |int k room=>cases k<;>first|exact .inl ⟨_,rfl⟩|(right;intro w;cases b<;>kernel_rfl)
 |pointer a=>right;intro w;cases a<;>cases b<;>kernel_rfl
 |_=>right;intro w;cases b<;>kernel_rfl
def VH(la)(n m nN nO:Nat)(j c k y)(h:aQ (fV b QU [pv 19 c,iv 17 j,iv 13 nO,iv 10 nN,iv 3 n,(1,.slice la n m)]) [] (c0::cs) g):(∃ca cn a,y=.slice ca cn a)\/gy (fin (.agg #[κ ο k,y]) g):=by obtain⟨F,rfl⟩:=h;cases y<;>first|exact .inl ⟨_,_,_,rfl⟩|(right;intro w;cases b<;>kernel_rfl)
def VI(la)(n m nN nO:Nat)(j ca cn c i d x y)(h:aQ (fV b Vs [pv 31 d,iv 30 i,(22,.slice ca cn c),iv 24 cn,iv 17 j,iv 13 nO,iv 10 nN,iv 3 n,(1,.slice la n m)]) [] (c0::cs) g):(∃k,x=κ ο k)\/gy (fin (.agg #[x,y]) g):=by
 obtain⟨F,rfl⟩:=h;cases x with
 |int k room=>cases k<;>first|exact .inl ⟨_,rfl⟩|(right;intro w;cases b<;>kernel_rfl)
 |pointer a=>right;intro w;cases a<;>cases b<;>kernel_rfl
 |_=>right;intro w;cases b<;>kernel_rfl
def VJ(la)(n m nN nO:Nat)(j ca cn c i d k y)(h:aQ (fV b Vs [pv 31 d,iv 30 i,(22,.slice ca cn c),iv 24 cn,iv 17 j,iv 13 nO,iv 10 nN,iv 3 n,(1,.slice la n m)]) [] (c0::cs) g):(∃N,y=κ ο N)\/gy (fin (.agg #[κ ο k,y]) g):=by
 obtain⟨F,rfl⟩:=h;cases y with
 |int k room=>cases k<;>first|exact .inl ⟨_,rfl⟩|(right;intro w;cases b<;>kernel_rfl)
 |pointer a=>right;intro w;cases a<;>cases b<;>kernel_rfl
 |_=>right;intro w;cases b<;>kernel_rfl
def BQ:List (List Item×Nat×Bool):=[(w4,4,U),(w5,5,U),(w41,41,U),(Vp,41,U),(Nl,26,U),(Vq,26,U),(Vr,26,U),(Nm,23,V),(Nn,36,U),(Vt,37,U),(Vu,36,U),(No,36,U),(Vv,37,U),(Nq,36,U),(Vw,37,U),(Np,14,V)]
def dies{p}(a:p∈BQ){l}(h:aQ (fV b p.1 (bv p.2.1 p.2.2::l)) [] (c0::cs) g):gy g:=by
 obtain⟨F,rfl⟩:=h
 exactλw=>List.map_inj_left.1 (show BQ.map (λp=>Hw (bN PV U never 400<|SC (fV b p.1 (bv p.2.1 p.2.2::l)) [] (c0::cs) F) w)=BQ.map λ_=>U by cases b<;>kernel_rfl) p a
end
end
end Vc
