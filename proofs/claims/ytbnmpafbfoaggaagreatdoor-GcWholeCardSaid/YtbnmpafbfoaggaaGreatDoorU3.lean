/- A part of the proof of GcWhole; no conditions. -/
import Derived.Test.YtbnmpafbfoaggaaGreatDoorU0
import Derived.Test.YtbnmpafbfoaggaaGreatDoorU1
import Derived.Test.YtbnmpafbfoaggaaGreatDoorU2
import Derived.Deep.Cut
import Derived.Deep.DeepCutAuto
import Derived.BigRegion
import Derived.ScopeJumps
import Derived.WalkMore
import Derived.LoopNIn
set_option linter.defProp false
set_option linter.unusedVariables false
set_option linter.unusedSimpArgs false
set_option maxRecDepth 100000
set_option maxHeartbeats 16000000
noncomputable section
open Go.Lib renaming hid->Y
open Array renaming getElem?_eq_some_iff->Ω,replicate_succ->ZC,replicate_zero->ZB
open Go.Obj renaming cells->Ψ
open Option renaming some->U,none->Z
open List renaming mem_cons_of_mem->Ξ,mem_of_getElem?->Δ,mem_append_left->Γ,length_map->χ,mem_cons_self->φ,getElem?_eq_some_iff->ξ,mem_append->μ,mem_map->κ,map_append->ι,map_map->η,mem_append_right->ζ,take_of_length_le->Z7,contains_iff_mem->Z3,nodup_nil->Z2,map_congr_left->Z1,setIfInBounds_toArray->ZY,getElem?_append_left->ZW,append_assoc->ZU,mem_cons->ZT,set_cons_zero->ZO,set_cons_succ->ZN,mem_singleton->ZM,pairwise_map->ZK,nil_append->ZI,nodup_cons->ZH,take_zero->ZF,drop_eq_nil_of_le->ZE,mem_iff_getElem?->ZD,length->ZA,mem_erase_of_ne->Zz,take_succ_cons->Zy,drop_succ_cons->Zx,append_toArray->Zw,getElem?_take->Zv,range->Zu,Nodup->Zt,getElem_idxOf->Zs,size_toArray->Zr,push_toArray->Zq,take_length->Zm,length_cons->Zl,cons_append->Zk,length_nil->Zj,idxOf_cons->Zi,append_nil->Zh,drop_zero->Zf,map_cons->Ze
open Go renaming heap_alloc_new->Θ,World->Z9,Calls->Z0,Value->ZR,step_scope->ZQ,wpOp_step->ZL,bodyPost_ret->ZG,results_none->Zp,step_inScope->Zo
open Go.World renaming cell?->ω,putObj_heap_other->ε,frozen?->Z4,grownBy_alloc->ZZ,size_alloc->Zn,setCell->Zg
open And renaming intro->ψ
open Go.Value renaming int->υ,slice->Z8
open Go.IntKind renaming i64->ο
open Bool renaming false->θ,true->ZX
open Option.some renaming inj->ZV
open Go.Fence renaming wide->ZS
open Ne renaming symm->ZP
open Go.Instr renaming typeAssert->ZJ
namespace Go.Proofs.YtbnmpafbfoaggaaGreatDoor
open Go.Proofs.Tryz hiding prog
open Go.Proofs.aD
namespace Kn
open Go Go.RowKit Md
section
variable{k:Nat}{t:TypeId}{w:Z9}
def eW{ty}{B bx:Nat}{s l k x fr}(h:OC w B s l)(r:w.heap[bx]?=U (Ψ #[υ ο k,x] t fr))(v:x.oneCell'=ZX)(C:l.length<=1000000)(A:B<=w):
 ∃a w',(Builtin.append_ #[22,22] ty #[s,.slice bx 1 1]).run prog w=.ok a w'/\(OC w' B a (l++[(k,x)])/\w.grownBy w' s.ownBlock/\(a.ownBlock=s.ownBlock\/∀g,a.ownBlock=U g->w.heap.size<=g)/\∃g m,a=.slice (g:Nat) (l.length+1) m):=by
 obtain⟨y,hi,d,i,n⟩:=info_parts ni;have b:∀j u,(dW (k,x))[j]?=U u->w ((bx:Addr).add j)=U u:=by
  intro j u c
  match j,c with
  |0,c=>cases c;simp[ω,r,Addr.add]
  |1,c=>cases c;simp[ω,r,Addr.add]
  |j+2,c=>simp[dW]at c
 have o:∀u∈dW (k,x),u.oneCell'=ZX:=by
  intro u q;simp[dW]at q;obtain rfl|rfl:=q
  rfl;exact v
 obtain⟨a,w',z,r1,r2,_,r4⟩:=run_append_own_at (P:=prog) w B 22 ty 76 y _ 2 32 mF hi d i n rfl (by decide) s l.length (l.flatMap dW) h bx 1 1 (dW (k,x)) rfl b o (by unfold maxLen;omega) (by omega) A;refine⟨a,w',z,?_,r2,?_,?_⟩;unfold OC;rw[List.flatMap_append,List.length_append];simpa using r1;obtain e|e:=r4
 ·exact .inl e
 right;intro g p;rw[e]at p;cases p
 exact .refl;obtain⟨g,f,e,_⟩:=r1.form (by omega);exact⟨g,f,e⟩
def I8{cs:List HC}{bw c}(h:cs[k]?=U c)(d:k<bw):(cs.take<|k+1).take bw=(cs.take k).take bw++[c]/\(cs.take<|k+1).drop bw=(cs.take k).drop bw:=by
 rw[bW h];refine⟨?_,?_⟩;have a:(cs.take k++[c]).length<=bw:=by simp;omega
 have b:(cs.take k).length<=bw:=by simp;omega
 rw[Z7 a,Z7 b];have a:(cs.take k++[c]).length<=bw:=by simp;omega
 have b:(cs.take k).length<=bw:=by simp;omega
 rw[ZE a,ZE b]
def I9{cs:List HC}{bw c}(h:cs[k]?=U c)(b:bw<=k):(cs.take<|k+1).take bw=(cs.take k).take bw/\(cs.take<|k+1).drop bw=(cs.take k).drop bw++[c]:=by have a:=(ξ.1 h).1;rw[bW h];refine⟨?_,?_⟩;rw[List.take_append_of_le_length (by simp;omega)];rw[List.drop_append_of_le_length (by simp;omega)]
def DA{c:Array ZR}{a b:ZR}(h:w.heap[k]?=U (.cells c t (0,0)))(hc:c=#[a,b]:=by rfl):w k=U a/\w (k,1)=U b/\w.frozen? k=θ/\w.frozen? (k,1)=θ:=by subst hc;simp[ω,Z4,h]
def cr{g i j:Nat}{u v}(h:k≠g):((w.setCell (g,i) u).setCell (g,j) v).heap[k]?=w.heap[k]?:=by rw[Below.heap_setCell _ _ _ _ h,Below.heap_setCell _ _ _ _ h]
def Om{a b}(h:w.heap[k]?=U (Ψ #[a,b] t (0,0))):w k=U a/\w (k,1)=U b/\w.frozen? k=θ/\w.frozen? (k,1)=θ:=by simp[ω,Z4,h]
def SP.ov(B:Nat)(l:List HV):Rg.SP:=⟨λv w=>OV w B v l,λ_ _ _ hb h=>OV.below h hb⟩
def SP.oi(B:Nat)(l:List Int):Rg.SP:=⟨λv w=>OI w B v l,λ_ _ _ hb h=>OI.below h hb⟩
def SP.agI(B:Nat)(a:List HV)(b c:List Int):Rg.SP:=⟨λv w=>∃x y z,v=.agg #[(),x,y,z]/\OV w B x a/\OI w B y b/\OI w B z c,λ_ _ _ hb ⟨x,y,z,e,h1,h2,h3⟩=>⟨x,y,z,e,OV.below h1 hb,OI.below h2 hb,OI.below h3 hb⟩⟩
def SP.aey(B:Nat):Rg.SP:=⟨λv w=>∃g,v=.pointer (g:Nat)/\w.heap[g]?=U (Ψ #[(),(),(),()] 56 (0,0))/\B<=g,λ_ _ _ hb ⟨g,h1,h2,h3⟩=>⟨g,h1,(hb.block g (Ω.1 h2).1).trans h2,h3⟩⟩
def SP.cell(B:Nat)(p:Int)(vs:List HV):Rg.SP:=⟨λv w=>∃x,v=.agg #[p,x]/\OV w B x vs,λ_ _ _ hb ⟨x,h1,h2⟩=>⟨x,h1,h2.below hb⟩⟩
def SP.agJ(B:Nat):Rg.SP:=⟨λv w=>∃g,v=.pointer (g:Nat)/\w.heap[g]?=U (Ψ #[υ ο 0,()] 76 (0,0))/\B<=g,λ_ _ _ hb ⟨g,h1,h2,h3⟩=>⟨g,h1,(hb.block g (Ω.1 h2).1).trans h2,h3⟩⟩
structure I'(h:PH):Prop where
 cells:∀c∈h.cells,c.2.length<=1000/\∀v∈c.2,Sm v.2
 many:h.cells.length<=1000
 roots:h.roots.length<=1000/\∀v∈h.roots,Sm v.2
 aA:h.aA.length<=1000/\∀v∈h.aA,Sm v
 done:h.done.length<=1000/\∀v∈h.done,Sm v
def On(w v h)(bw:Nat)(hv:tH w v h)(hs:I' h)(hol:bw<=1000000):
 Z0 prog 226 #[v,bw] w λe w'=>(∃b,e=.returned (.pointer (b:Nat))/\dm w' w b (Ij h bw))/\Below w w w':=by
 have HS:=Y hs;obtain⟨c,r,wi,d,rfl,C,H,h3,h4⟩:=hv;have H1:=Y C;have H2:=Y H;have H3:=Y h3;have H4:=Y h4;obtain⟨ac,mc,rfl,_,_,hac⟩:=C;obtain⟨ar,mr,rfl,_,_,_⟩:=H;obtain⟨aw,mw,rfl,_,_,_⟩:=h3;obtain⟨ad,md,rfl,_,_,_⟩:=h4;have HC:=Y hac;have hoi:(0:Int)<=(bw:Int)/\(bw:Int)<=1000000:=by omega
 have hb1:=af w<|Ψ #[.slice ac h.cells.length mc,.slice ar h.roots.length mr,.slice aw h.aA.length mw,.slice ad h.done.length md] 56;have hrl:h.roots.length<=1000000:=by have:=hs.roots.1;omega
 have hwl:h.aA.length<=1000000:=by have:=hs.aA.1;omega
 have hdl:h.done.length<=1000000:=by have:=hs.done.1;omega
 have Oo:(h.aA.map λn=>((1,n):HV)).length<=1000000:=by rw[χ];exact hwl
 have Oq:(h.done.map λn=>((1,n):HV)).length<=1000000:=by rw[χ];exact hdl
 have hws:∀x∈h.aA.map λn=>((1,n):HV),Sm x.2:=λx hx=>by obtain⟨n,hn,rfl⟩:=κ.1 hx;exact hs.aA.2 n hn
 have hds:∀x∈h.done.map λn=>((1,n):HV),Sm x.2:=λx hx=>by obtain⟨n,hn,rfl⟩:=κ.1 hx;exact hs.done.2 n hn
 clear hs hac
 go_enter (fU func226 rfl),ntmps226
 go_wp2_with fail
 have f0:(w.alloc<|Ψ #[.slice ac h.cells.length mc,.slice ar h.roots.length mr,.slice aw h.aA.length mw,.slice ad h.done.length md] 56).drew.cell? w.heap.size=U (.slice ac h.cells.length mc):=by go_simp
 have f1:(w.alloc<|Ψ #[.slice ac h.cells.length mc,.slice ar h.roots.length mr,.slice aw h.aA.length mw,.slice ad h.done.length md] 56).drew.cell? (w.heap.size,1)=U (.slice ar h.roots.length mr):=by go_simp
 have f2:(w.alloc<|Ψ #[.slice ac h.cells.length mc,.slice ar h.roots.length mr,.slice aw h.aA.length mw,.slice ad h.done.length md] 56).drew.cell? (w.heap.size,2)=U (.slice aw h.aA.length mw):=by go_simp
 have f3:(w.alloc<|Ψ #[.slice ac h.cells.length mc,.slice ar h.roots.length mr,.slice aw h.aA.length mw,.slice ad h.done.length md] 56).drew.cell? (w.heap.size,3)=U (.slice ad h.done.length md):=by go_simp
 have hd1:=hb1.drew;have W:w.heap.size<(w.alloc<|Ψ #[.slice ac h.cells.length mc,.slice ar h.roots.length mr,.slice aw h.aA.length mw,.slice ad h.done.length md] 56).drew.heap.size:=by simp
 go_region_held3 (λx=>x (w.heap.size,1)=U (.slice ar h.roots.length mr)/\x (w.heap.size,2)=U (.slice aw h.aA.length mw)/\x (w.heap.size,3)=U (.slice ad h.done.length md))
  (first|(refine⟨?_,?_,?_⟩<;>assumption)|go_keep)
  (first
    |(go_at_call 262;(with_reducible refine(zo _ (.slice ar h.roots.length mr) h.roots _ (H2.out.below hd1) hrl HS.out.roots.2 hoi).mono ?_);rintro e w4 ⟨⟨r4,rfl,Ja⟩,O⟩;have hB4:Below w w w4:=hd1.trans<|O.mono hd1.size;have Fx:=Y Ja;obtain⟨a4,m4,rfl,_⟩:=aF Ja;clear Ja;simp only[χ]at Fx;have q40:=cG O f0 W;have q41:=cG O f1 W;have q42:=cG O f2 W;have q43:=cG O f3 W;have T:=Nat.lt_of_lt_of_le W O.size)
    |(go_at_call 132;(with_reducible refine(Ip _ (.slice aw h.aA.length mw) h.aA (H3.out.below hB4) hwl).mono ?_);rintro e w5 ⟨⟨r5,rfl,Pk⟩,m⟩;have K:Below w w w5:=hB4.trans<|m.mono hB4.size;have E:=Y Pk;obtain⟨J,G,rfl,_⟩:=aF Pk;clear Pk;simp only[χ]at E;have Wk:=cG m q40 T;have Wl:=cG m q41 T;have OE:=cG m q42 T;have q53:=cG m q43 T;have S:=Nat.lt_of_lt_of_le T m.size)
    |(go_at_call 262;(with_reducible refine(zo _ (.slice J h.aA.length G) (h.aA.map λn=>((1,n):HV)) _ E.out.reads Oo hws hoi).mono ?_);rintro e w6 ⟨⟨r6,rfl,Jb⟩,z⟩;have hB6:Below w w w6:=K.trans<|z.mono K.size;have Jc:=Y Jb;obtain⟨a6,m6,rfl,_⟩:=aF Jb;clear Jb;simp only[χ]at Jc;have q60:=cG z Wk S;have q61:=cG z Wl S;have q62:=cG z OE S;have q63:=cG z q53 S;have Q:=Nat.lt_of_lt_of_le S z.size)
    |(go_at_call 132;(with_reducible refine(Ip _ (.slice ad h.done.length md) h.done (H4.out.below hB6) hdl).mono ?_);rintro e w7 ⟨⟨r7,rfl,Jd⟩,o⟩;have Wm:Below w w w7:=hB6.trans<|o.mono hB6.size;have Je:=Y Jd;obtain⟨a7,m7,rfl,_⟩:=aF Jd;clear Jd;simp only[χ]at Je;have q70:=cG o q60 Q;have q71:=cG o q61 Q;have rJ:=cG o q62 Q;have q73:=cG o q63 Q;have X:=Nat.lt_of_lt_of_le Q o.size)
    |(go_at_call 262;(with_reducible refine(zo _ (.slice a7 h.done.length m7) (h.done.map λn=>((1,n):HV)) _ Je.out.reads Oq hds hoi).mono ?_);rintro e w8 ⟨⟨r8,rfl,DF⟩,a⟩;have Wn:Below w w w8:=Wm.trans (a.mono Wm.size);have Or:=Y DF;obtain⟨a8,m8,rfl,_⟩:=aF DF;clear DF;simp only[χ]at Or;have Eh:=cG a q70 X;have yq:=cG a q71 X;have q82:=cG a rJ X;have q83:=cG a q73 X;have hs8:=Nat.lt_of_lt_of_le X a.size))
 clear f1 f2 f3 q40 q41 q42 q43 Wk Wl OE q53 q60 q61 q62 q63 q70 q71 rJ q73 yq q82 q83;have hk8:=Θ w8<|Ψ #[(),(),.slice a4 h.roots.length m4,.slice a6 h.aA.length m6,.slice a8 h.done.length m8,()] 114;have BP:=af w8<|Ψ #[(),(),.slice a4 h.roots.length m4,.slice a6 h.aA.length m6,.slice a8 h.done.length m8,()] 114;have Dv:=Wn.trans<|BP.mono Wn.size;have t4:OV w8 w (.slice a4 h.roots.length m4) (h.roots.map<|ed (bw:Int)):=(((((Fx.out.below m).below z).below o).below a).less hd1.size);have t6:OV w8 w5 (.slice a6 h.aA.length m6) ((h.aA.map λn=>((1,n):HV)).map<|ed (bw:Int)):=(Jc.out.below o).below a;have t8:OV w8 w7 (.slice a8 h.done.length m8) ((h.done.map λn=>((1,n):HV)).map<|ed (bw:Int)):=Or.out;have t4':=(((Fx.out.below m).below z).below o).below a;have l4:∀g,(Z8 a4 h.roots.length m4).ownBlock=U g->g<w4:=λg hg=>(Fx.out.lt g hg).2;have l6:∀g,(Z8 a6 h.aA.length m6).ownBlock=U g->w5.heap.size<=g/\g<w6:=λg hg=>Jc.out.lt g hg;have l8:∀g,(Z8 a8 h.done.length m8).ownBlock=U g->w7.heap.size<=g/\g<w8:=λg hg=>Or.out.lt g hg;have afe:Apart (.slice a4 h.roots.length m4) (.slice a6 h.aA.length m6):=λg C H=>by have:=l4 g C;have:=(l6 g H).1;have:=m.size;omega
 have aff:Apart (.slice a4 h.roots.length m4) (.slice a8 h.done.length m8):=λg C H=>by have:=l4 g C;have:=(l8 g H).1;have:=m.size;have:=z.size;have:=o.size;omega
 have afg:Apart (.slice a6 h.aA.length m6) (.slice a8 h.done.length m8):=λg C H=>by have:=(l6 g C).2;have:=(l8 g H).1;have:=o.size;omega
 have hlow:∀g,((Z8 a4 h.roots.length m4).ownBlock=U g\/(Z8 a6 h.aA.length m6).ownBlock=U g\/(Z8 a8 h.done.length m8).ownBlock=U g) ->g<w8:=by
  rintro g (C|C|C);have:=l4 g C;have:=m.size;have:=z.size;have:=o.size;have:=a.size;omega
  have:=(l6 g C).2;have:=o.size;have:=a.size;omega
  exact(l8 g C).2
 have F:=Wn.size;have h58:w5.heap.size<=w8/\w.heap.size<=w5/\w.heap.size<=w7:=⟨by have:=z.size;have:=o.size;have:=a.size;omega,K.size,Wm.size⟩;have HT:=Y<|ψ t4<|ψ (t6.less h58.2.1)<|ψ (t8.less h58.2.2)<|ψ afe<|ψ aff<|ψ afg hlow;have htw:Ol (w8.alloc<|Ψ #[(),(),.slice a4 h.roots.length m4,.slice a6 h.aA.length m6,.slice a8 h.done.length m8,()] 114) w8 w8 w8 (.slice a4 h.roots.length m4) (.slice a6 h.aA.length m6) (.slice a8 h.done.length m8) [] []:=⟨_,_,[],[],.refl,hk8,OC.nil _ _,⟨rfl,λi k x k' s e1 _=>by simp at e1,λi j p q _ e1 _=>by simp at e1⟩,OC.nil _ _,⟨rfl,λi k x k' s e1 _=>by simp at e1,λi j p q _ e1 _=>by simp at e1⟩,λg e=>(by cases e),λp L=>(by cases L)⟩
 have f9:=cG BP Eh hs8;have HW:=Y<|ψ htw<|ψ BP Wn;have Wo:w8.heap.size<(w8.alloc<|Ψ #[(),(),.slice a4 h.roots.length m4,.slice a6 h.aA.length m6,.slice a8 h.done.length m8,()] 114).heap.size:=by simp
 generalize w8.alloc _=w9 at HW f9 Wo⊢;clear t4 t6 t8 t4' l4 l6 l8 afe aff afg hlow htw hk8 BP Dv Eh O m z o a hB4 K hB6 Wm Wn Fx E Jc Je Or W T S Q X hs8 f0 hd1 hb1;obtain⟨y,hS0⟩:∃y,y=w8.heap.size:=⟨_,rfl⟩;rw[<-hS0]at HW HT Wo F⊢;replace hS0:=Y hS0;clear h58
 go_wp2_with fail
 clear f9
 go_loopw [29] (λi wr=>∃k:Nat,k<=h.cells.length/\i=υ ο k/\Hid (Ol wr y y y (.slice a4 h.roots.length m4) (.slice a6 h.aA.length m6) (.slice a8 h.done.length m8) (((h.cells.take k).drop bw).map<|qO (bw:Int))<|((h.cells.take k).take bw).map<|qO (bw:Int))/\Below y w8 wr/\y<wr.heap.size) (λi _=>h.cells.length-(intOf i).toNat)
 case atStart=>exact⟨0,Nat.zero_le _,rfl,Y<|by simpa using HW.out.1,HW.out.2.1,Wo⟩
 case round=>
  have HB8:=Y HW.out.2.2;clear HW;obtain⟨k,hk,rfl,HK,h8r,A⟩:=hrel;have hbw:Below w.heap.size w wr:=HB8.out.trans<|h8r.mono F;have hsz:=hbw.size;by_cases hlt:k<h.cells.length
  ·obtain⟨ba,oa,e,hba,hat⟩:=HC.out (by omega);cases e
   obtain⟨B,s,e1⟩:=cQ hlt;obtain⟨d1,x,d2,hx⟩:=(hat.below hbw hba) k B s e1;have hsc:=HS.out.cells _<|Δ e1;dsimp only at hsc;have HX:=Y hx;obtain⟨ax,mx,rfl,_,_,_⟩:=hx;have E1:=Y e1;have hvl:s.length<=1000000:=by omega
   clear hat e1
   go_wp2_with fail
   have hb0:=af wr<|Ψ #[B,.slice ax s.length mx] 76;have n0:(wr.alloc<|Ψ #[B,.slice ax s.length mx] 76).cell? ⟨wr.heap.size,0,Z⟩=U (υ ο B):=by go_simp
   have n1:(wr.alloc<|Ψ #[B,.slice ax s.length mx] 76).cell? (wr.heap.size,1)=U (.slice ax s.length mx):=by go_simp
   have hn1:wr.heap.size<(wr.alloc<|Ψ #[B,.slice ax s.length mx] 76).heap.size:=by simp
   generalize wr.alloc _=w1 at hb0 n0 n1 hn1⊢;have hd0:=hb0.drew;have hv1:=HX.out.below hb0;refine Rg.pT [.eq (.pointer wr.heap.size),.eq B,.eq<|.pointer (wr.heap.size,1),.eq<|.slice ax s.length mx,.eq bw,SP.ov w1<|s.map<|ed (bw:Int),SP.cell w1 B<|s.map<|ed (bw:Int),SP.agJ w1] (by kernel_rfl) (by kernel_rfl) (by rfl) ?_ ?_
   ·refine⟨?_,?_,?_,?_,?_,?_,?_,?_,trivial⟩
    all_goals intro a2 w2 hb2 t l
    all_goals have hB:Below w1 w1 w2:=(Below.refl _ w1).drew.trans hb2
    all_goals have y0:=cG hB n0 hn1
    all_goals have y1:=cG hB n1 hn1
    all_goals first|(have k0:=t 1 rfl;have k1:=t 7 rfl;simp at k0 k1;(try have q0:=Rg.lT (l 0 _ rfl rfl) rfl);(try have q1:=Rg.lT (l 2 _ rfl rfl) rfl);clear t l;go_simp;exact⟨_,rfl,.refl _ _,rfl⟩)|skip
    ·have d0:=Rg.lT (l 3 _ rfl rfl) rfl;have d1:=Rg.lT (l 4 _ rfl rfl) rfl;clear t l;go_simp;refine(zo _ _ s _ (hv1.below hB) hvl hsc.2 hoi).mono ?_;rintro e w3 ⟨⟨r,rfl,ho⟩,hb3⟩;exact⟨_,rfl,hb3,OV.less ho hB.size⟩
    ·have d0:=Rg.lT (l 1 _ rfl rfl) rfl;obtain⟨v1,d1,hv1⟩:∃v,(a2.tmps[39]?).getD undef=v/\OV w2 w1 v _:=⟨_,rfl,l 5 _ rfl rfl⟩;obtain⟨_,_,rfl,_⟩:=aF hv1;simp only[χ]at hv1;clear t l;go_simp;exact⟨_,rfl,.refl _ _,_,rfl,hv1⟩
    ·clear t l;go_simp;exact⟨_,rfl,af _ _,_,rfl,Θ _ _,hB.size⟩
   ·rintro fb w5 m ⟨s0,s1,s2,s3,s4,s5,⟨x5,s6,E⟩,⟨P,s7,xo,a⟩,-⟩;have s6:fb 6=_:=s6;have s7:fb 7=_:=s7;obtain⟨J,G,rfl,_⟩:=aF E;have K:Below w1 w1 w5:=(Below.refl _ w1).drew.trans m;simp only[χ]at E s6;simp[go_sem,s6,s7];obtain⟨xc0,xc1,xf0,xf1⟩:=Om xo;clear s0 s1 s2 s3 s4 s5 s6 s7 n0 n1 m
    go_upto_region 6 with fail
    have hk9:=aB (aB xo 0 B) 1<|.slice J s.length G;have Dv:Below w1 w1 ((w5.setCell P B).setCell (P,1)<|.slice J s.length G):=(K.setCell (p:=⟨P,0,Z⟩) a _).setCell (p:=⟨P,1,Z⟩) a _;have pl:Hid (OV ((w5.setCell P B).setCell (P,1)<|.slice J s.length G) w1 (.slice J s.length G)<|s.map<|ed (bw:Int)):=Y<|hZ (w':=(w5.setCell ⟨P,0,Z⟩<|υ ο B).setCell ⟨P,1,Z⟩<|.slice J s.length G) E xo (by decide) λk hk=>cr hk;have hl9:P<((w5.setCell P B).setCell (P,1)<|.slice J s.length G).heap.size:=(Ω.1 hk9).1;generalize hw9:((w5.setCell P B).setCell (P,1)<|.slice J s.length G)=u at hk9 Dv pl hl9⊢;clear hw9 E xo xc0 xc1 xf0 xf1 K a;have f:Below wr wr u:=hb0.trans<|Dv.mono hb0.size;obtain⟨sn,so,ln,lo,hSb,aez,C,H,h3,h4,h5,h6⟩:=HK.out;have JK:=Y<|ψ hSb<|ψ aez<|ψ C<|ψ H<|ψ h3<|ψ h4<|ψ h5 h6;have D:=(f.block y A).trans aez;replace C:=C.below f;replace h3:=h3.below f;have hln:ln.length<=1000000/\lo.length<=1000000:=by have e1:=H.1;have e2:=h4.1;have:=HS.out.many;simp at e1 e2;omega
    obtain⟨an,mn,rfl,_⟩:=aF C;obtain⟨ao,mo,rfl,_⟩:=aF h3;have c8a:u P=U (υ ο B):=(DA hk9).1;have c8b:u (P,1)=U (.slice J s.length G):=(DA hk9).2.1;have cs0:u (y:Nat)=U (.slice an ln.length mn):=by simp[ω,D]
    have cs1:u ⟨y,1,Z⟩=U (.slice ao lo.length mo):=by simp[ω,D]
    have fs0:u.frozen? ⟨y,0,Z⟩=θ:=by simp[Z4,D]
    have fs1:u.frozen? ⟨y,1,Z⟩=θ:=by simp[Z4,D]
    have hSl:y<u.heap.size:=(Ω.1 D).1;have anj:w.heap.size<=u.heap.size:=Nat.le_trans hsz f.size;have agL:(Z8 an ln.length mn).ownBlock≠U y:=eJ C D (by decide);have aaZ:(Z8 ao lo.length mo).ownBlock≠U y:=eJ h3 D (by decide);have HN:=Y<|ψ agL aaZ;clear D aez C H h3 h4 h5 h6 agL aaZ hk9;by_cases hko:k<bw
    ·have hki:(k:Int)<(bw:Int):=by omega
     go_wp2_with fail
     go_region_law ((refine aX rfl _ _ 22 (by rfl) (.slice ao lo.length mo) (Z8 (U ⟨u.heap.size,0,Z⟩) 1 1) (by rfl) (by rfl) _ (eW (k:=B) (x:=.slice J s.length G) ((JK.out.2.2.2.2.1.below f).below<|by first|exact(af u _).drew|exact(af u _)) (Θ u _) (by rfl) (by omega) (by simp;omega)) ?_;intro v' w2 H;obtain⟨hoc,N,hnb,gg,mg,rfl⟩:=H;have gc:=(N.cell_far ⟨y,1,Z⟩ (by simp;omega)<|ZP HN.out.2).trans<|(((af u _).drew).cell (p:=⟨y,1,Z⟩) hSl).trans cs1;have gf:=(N.frozen_far ⟨y,1,Z⟩ (by simp;omega)<|ZP HN.out.2).trans<|(((af u _).drew).frozen (p:=⟨y,1,Z⟩) hSl).trans fs1))
     all_goals
      go_wp2_with fail
      have hx2:=OV.less (B':=wr.heap.size) (pl.out.below<|(af u<|Ψ #[B,.slice J s.length G] 76).drew) (by omega);obtain⟨p1,p2,p3,p4,p5,p6,p7,p8⟩:=JK.out;obtain⟨e1,e2⟩:=I7 (w2:=(u.alloc<|Ψ #[B,.slice J s.length G] 76).drew) p1 p2 p3 p4 p5 p6 p7 p8 (Nat.le_of_lt A) (Nat.le_of_lt A) (f.trans<|(af u _).drew.mono f.size) hx2 N hoc (hnb.imp_right λhh g hg=>by have:=hh g hg;exact this);have htk:=I8 (bw:=bw) E1.out hko
      go_roundw
      case rel=>refine⟨k+1,by omega,by go_num,Y ?_,h8r.trans e2,Nat.lt_of_lt_of_le A e2.size⟩;rw[htk.1,htk.2,ι];exact e1
      case measure=>simp[intOf];omega
    ·have hki:¬(k:Int)<(bw:Int):=by omega
     go_wp2_with fail
     go_region_law ((refine aX rfl _ _ 22 (by rfl) (.slice an ln.length mn) (Z8 (U ⟨u.heap.size,0,Z⟩) 1 1) (by rfl) (by rfl) _ (eW (k:=B) (x:=.slice J s.length G) ((JK.out.2.2.1.below f).below<|by first|exact(af u _).drew|exact(af u _)) (Θ u _) (by rfl) (by omega) (by simp;omega)) ?_;intro v' w2 H;obtain⟨hoc,N,hnb,gg,mg,rfl⟩:=H;have gc:=(N.cell_far ⟨y,0,Z⟩ (by simp;omega)<|ZP HN.out.1).trans<|(((af u _).drew).cell (p:=⟨y,0,Z⟩) hSl).trans cs0;have gf:=(N.frozen_far ⟨y,0,Z⟩ (by simp;omega)<|ZP HN.out.1).trans<|(((af u _).drew).frozen (p:=⟨y,0,Z⟩) hSl).trans fs0))
     all_goals
      go_wp2_with fail
      have hx2:=OV.less (B':=wr.heap.size) (pl.out.below<|(af u<|Ψ #[B,.slice J s.length G] 76).drew) (by omega);obtain⟨p1,p2,p3,p4,p5,p6,p7,p8⟩:=JK.out;obtain⟨e1,e2⟩:=I6 (w2:=(u.alloc<|Ψ #[B,.slice J s.length G] 76).drew) p1 p2 p3 p4 p5 p6 p7 p8 (Nat.le_of_lt A) (Nat.le_of_lt A) (f.trans<|(af u _).drew.mono f.size) hx2 N hoc (hnb.imp_right λhh g hg=>by have:=hh g hg;exact this);have htk:=I9 (bw:=bw) E1.out (by omega)
      go_roundw
      case rel=>refine⟨k+1,by omega,by go_num,Y ?_,h8r.trans e2,Nat.lt_of_lt_of_le A e2.size⟩;rw[htk.1,htk.2,ι];exact e1
      case measure=>simp[intOf];omega
  ·have hke:k=h.cells.length:=by omega
   subst hke;clear hlt;have h8':Below w8.heap.size w8 wr:=hS0.out▸h8r;have HE:Hid (dm wr w.heap.size y (Ij h bw)):=Y (by
    obtain⟨sn,so,ln,lo,q1,q2,q3,q4,q5,q6,q7,q8⟩:=HK.out;obtain⟨t1,t2,t3,t4,t5,t6,t7⟩:=HT.out;rw[Zm]at q4 q6;have wl:∀p,(p∈ln\/p∈lo) ->∀g,p.2.ownBlock=U g->y<=g:=λp L g hg=>by
     obtain L|L:=L
     exact(lY q4 L hg).1;exact(lY q6 L hg).1
    have fr:∀p,(p∈ln\/p∈lo) ->Apart p.2 (.slice a4 h.roots.length m4)/\Apart p.2 (.slice a6 h.aA.length m6)/\Apart p.2 (.slice a8 h.done.length m8):=λp L=>⟨λg e1 e2=>Nat.lt_irrefl _<|Nat.lt_of_lt_of_le (t7 g<|.inl e2)<|wl p L g e1,λg e1 e2=>Nat.lt_irrefl _<|Nat.lt_of_lt_of_le (t7 g<|.inr<|.inl e2)<|wl p L g e1,λg e1 e2=>Nat.lt_irrefl _<|Nat.lt_of_lt_of_le (t7 g<|.inr<|.inr e2)<|wl p L g e1⟩
    exact I5 F q2 (q3.less F) (q4.less F) (q5.less F) (q6.less F) (t1.below h8') (t2.below h8') (t3.below h8') (OI.nil _ _) q8 (λp L=>fr p (.inl L)) (λp L=>fr p (.inr L)) t4 t5 t6)
   have hfin:Below w.heap.size w wr:=HB8.out.trans<|h8r.mono F;clear h8' HT HK
   go_wp2_with fail
   go_ret;exact⟨⟨_,rfl,HE.out⟩,hfin⟩
end
section
variable{x:ZR}{B:Nat}{t:TypeId}{w:Z9}
def km{k:Nat}{a b c d}(h:w.heap[k]?=U (Ψ #[a,b,c,d] t (0,0))):w k=U a/\w (k,1)=U b/\w (k,2)=U c/\w (k,3)=U d/\
 w.frozen? k=θ/\w.frozen? (k,1)=θ/\w.frozen? (k,2)=θ/\w.frozen? (k,3)=θ:=by simp[ω,Z4,h]
def dB{o a}(h:w a=U x):(w.alloc o) a=U x:=by simp[World.cell?_alloc_some,h]
def dO{a}(h:w a=U x):w.drew.cell? a=U x:=h
def da{i b j:Nat}{v}(a:¬B=b)(h:w (b,j)=U x):(w.setCell (B,i) v) (b,j)=U x:=(World.cell?_setCell_far w (B,i) (b,j) v a).trans h
structure Small(g:GH):Prop where
 cells:∀c∈g.old++g.new,c.2.length<=1000/\∀v∈c.2,Sm v.2
 roots:g.roots.length<=1000/\∀v∈g.roots,Sm v.2
 aA:g.aA.length<=1000/\∀v∈g.aA,Sm v.2
 done:g.done.length<=1000/\∀v∈g.done,Sm v.2
 bw:g.old.length<=1000
 news:g.new.length<=1000
def uX(g:GH)(j:Nat):List HC:=if j=0 then []else if j=1 then g.old else g.old++g.new
def qx(w V:Z9)(S B:Nat)(s4 s6 s8:ZR)(l4:List HV)(l6 l8:List Int)(cs:List HC):Prop:=Below S w V/\sK V S B 56 [s4,s6,s8] cs/\OV V S s4 l4/\OI V S s6 l6/\OI V S s8 l8
def Kh{g:Nat}{y z u}(a b c d)(h:w.heap[g]?=U (Ψ #[x,y,z,u] t (0,0))):
 ((((w.setCell g a).setCell (g,1) b).setCell (g,2) c).setCell (g,3) d).heap[g]?=U (Ψ #[a,b,c,d] t (0,0))/\
 (∀j,j≠g->((((w.setCell g a).setCell (g,1) b).setCell (g,2) c).setCell (g,3) d).heap[j]?=w.heap[j]?)/\
 (∀B,B<=g->Below B w ((((w.setCell g a).setCell (g,1) b).setCell (g,2) c).setCell (g,3) d))/\
 ((((w.setCell g a).setCell (g,1) b).setCell (g,2) c).setCell (g,3) d).heap.size=w:=
 ⟨heap_setCell_same (i:=3) (heap_setCell_same (i:=2) (heap_setCell_same (i:=1) (heap_setCell_same (i:=0) h))),
   λj e=>(aa e).trans<|(aa e).trans<|(aa e).trans<|aa e,
   λB f=>((((Below.refl B w).setCell (p:=⟨g,0,Z⟩) f _).setCell (p:=⟨g,1,Z⟩) f _).setCell (p:=⟨g,2,Z⟩) f _).setCell (p:=⟨g,3,Z⟩) f _,by simp[Zg]⟩
def jD{w8 S s4 b c f l h}(r:Below S w w8)(g:S<=B)(d:w8.heap[B]?=U (Ψ #[(),(),(),()] 56 (0,0)))(h4:OV w8 S s4 f)(o:OI w8 S b l)(n:OI w8 S c h):
 qx w ((((w8.setCell B ()).setCell (B,1) s4).setCell (B,2) b).setCell (B,3) c) S B s4 b c f l h []:=by
 obtain⟨m,a,e,_⟩:=Kh () s4 b c d;exact⟨r.trans<|e S g,⟨_,[],g,m,OC.nil _ _,⟨rfl,λi k x t s e1 _=>by simp at e1,λi j p q _ e1 _=>by simp at e1⟩⟩,hZ h4 d (by decide) a,hZ o d (by decide) a,hZ n d (by decide) a⟩
def qx.below{w a e S B s4 d f c g i cs}(h:qx w a S B s4 d f c g i cs)(hs:S<=a)(b:Below a a e):qx w e S B s4 d f c g i cs:=⟨h.1.trans<|b.mono hs,h.2.1.below b,h.2.2.1.below b,h.2.2.2.1.below b,h.2.2.2.2.below b⟩
def tQ{b e size n v xs c fr}(h:w.ownsRow B e size v n xs)(hb:w.heap[b]?=U (.cells c t fr))(d:t≠e):v.ownBlock≠U b:=λa=>cF h hb d a
def qx.step{a w2 j}{S bx:Nat}{s4 o p q s' so v u y t cs l k vs}(h:qx w a S B s4 o p u y t cs)(hs:S<=a)(G:S<=B)(hb:a.heap[B]?=U (Ψ #[q,s4,o,p] 56 (0,0)))(s:OC a S q l)(z:df a S l cs)(n:a.heap[bx]?=U (Ψ #[so,v] 22 (0,0)))(f:Below a a w2)(F:OV w2 a x vs)(m:w2.grownBy j q.ownBlock)(D:OC j S s' (l++[(k,x)])):
 qx w (j.setCell B s') S B s4 o p u y t (cs++[(k,vs)])/\(j.setCell B s').heap[bx]?=U (Ψ #[so,v] 22 (0,0)):=by
 obtain⟨q1,H,A,E,C⟩:=h;obtain⟨r1,r2⟩:=Ok (rest:=[s4,o,p]) G hb s z hs (by decide) f F m D;have b:OC w2 S q l:=s.below f;have g:=(f.block B (Ω.1 hb).1).trans hb;have d:=(f.block bx (Ω.1 n).1).trans n;have i:=(m.block B (Ω.1 g).1 λe=>cF b g (by decide) e.symm).trans g;have r:=(m.block bx (Ω.1 d).1 λe=>cF b d (by decide) e.symm).trans d;have c:∀k,k≠B->(j.setCell B s').heap[k]?=j.heap[k]?:=λk h=>aa h;refine⟨⟨q1.trans r2,r1,hZ (fy (A.below f) b (by decide) m) i (by decide) c,hZ (fy (E.below f) b (by decide) m) i (by decide) c,hZ (fy (C.below f) b (by decide) m) i (by decide) c⟩,?_⟩;rw[c bx (λe=>by subst e;rw[hb]at n;injection n with n;injection n with _ h4 _;exact absurd h4<|by decide)];exact r
def DB(w b g)(h:mi w b g)(hs:Small g):
 Z0 prog 119 #[.pointer b] w λe w'=>(∃r,e=.returned r/\tH w' r (plain g))/\Below w w w':=by
 have HS:=Y hs;obtain⟨n,o,r,wi,d,m,c0,c1,c2,c3,c4,c5,T,h2,h3,h4,h5,h6⟩:=h;have hb:=az c0;have H1:=Y T;have H2:=Y h2;have H3:=Y h3;have H4:=Y h4;have H5:=Y h5;obtain⟨an,mn,rfl,_,_,_⟩:=T;obtain⟨ao,mo,rfl,_,_,_⟩:=h2;obtain⟨ar,mr,rfl,_,_,_⟩:=h3;obtain⟨aw,mw,rfl,_,_,_⟩:=h4;obtain⟨ad,md,rfl,_,_,_⟩:=h5;have hol:(0:Int)<=(g.old.length:Int)/\(g.old.length:Int)<=1000000:=by have:=hs.bw;omega
 have y:=af w<|Ψ #[(),(),(),()] 56;have C:=Y<|ψ c0<|ψ c1<|ψ c2<|ψ c3 c4;clear hs h6 c0 c5
 go_enter (fU func119 rfl),ntmps119
 go_upto_region 2 with fail
 have hob:=Θ w<|Ψ #[(),(),(),()] 56;have D:w.heap.size<(w.alloc<|Ψ #[(),(),(),()] 56).heap.size:=by simp
 generalize w.alloc _=z at y hob D⊢;replace H1:=Y<|H1.out.below y;replace H2:=Y<|H2.out.below y;replace H3:=Y<|H3.out.below y;replace H4:=Y<|H4.out.below y;replace H5:=Y<|H5.out.below y;replace C:=Y<|ψ (cG y C.out.1 hb)<|cG y C.out.2.1 hb;replace c2:=cG y c2 hb;replace c3:=cG y c3 hb;replace c4:=cG y c4 hb;clear c1;replace hb:b<z:=Nat.lt_of_lt_of_le hb y.size;have HB1:=Y y;have HOB:=Y hob;clear y hob;generalize hrb:w.heap.size=rb at HOB D⊢;have hrl:g.roots.length<=1000000:=by have:=HS.out.roots.1;omega
 have hwl:g.aA.length<=1000000:=by have:=HS.out.aA.1;omega
 have hdl:g.done.length<=1000000:=by have:=HS.out.done.1;omega
 obtain⟨RL,hRL⟩:∃x,Hid (x=g.roots.map (cp (g.old.length:Int))):=⟨_,Y rfl⟩;obtain⟨N,hWV⟩:∃x,Hid (x=g.aA.map (cp (g.old.length:Int))):=⟨_,Y rfl⟩;obtain⟨P,hDV⟩:∃x,Hid (x=g.done.map (cp (g.old.length:Int))):=⟨_,Y rfl⟩;have hwv:N.length<=1000000:=by rw[hWV.out,χ];exact hwl
 have hdv:P.length<=1000000:=by rw[hDV.out,χ];exact hdl
 refine Rg.pT [.eq (.pointer b),.eq<|.pointer b,.eq<|.pointer b,.eq<|.pointer (b,2),.eq<|.slice ar g.roots.length mr,.eq g.old.length,SP.ov z RL,.eq<|.pointer b,.eq<|.pointer b,.eq<|.pointer b,.eq<|.pointer (b,3),.eq<|.slice aw g.aA.length mw,.eq g.old.length,SP.ov z N,SP.oi z<|N.map (·.2),.eq<|.pointer b,.eq<|.pointer b,.eq<|.pointer b,.eq<|.pointer (b,4),.eq<|.slice ad g.done.length md,.eq g.old.length,SP.ov z P,SP.oi z<|P.map (·.2),SP.agI z RL (N.map (·.2))<|P.map (·.2),SP.aey z] (by kernel_rfl) (by kernel_rfl) (by rfl) ?_ ?_
 ·refine⟨?_,?_,?_,?_,?_,?_,?_,?_,?_,?_,?_,?_,?_,?_,?_,?_,?_,?_,?_,?_,?_,?_,?_,?_,?_,trivial⟩
  all_goals intro a2 w2 hb2 s q
  all_goals have Q:Below z z w2:=(Below.refl _ z).drew.trans hb2
  all_goals have y2:=cG Q c2 hb
  all_goals have y3:=cG Q c3 hb
  all_goals have y4:=cG Q c4 hb
  all_goals first|(have k0:=s 0 rfl;have k1:=s 3 rfl;simp at k0 k1;(try have q0:=Rg.lT (q 0 _ rfl rfl) rfl);(try have q1:=Rg.lT (q 1 _ rfl rfl) rfl);(try have q2:=Rg.lT (q 2 _ rfl rfl) rfl);(try have q3:=Rg.lT (q 3 _ rfl rfl) rfl);(try have q4:=Rg.lT (q 7 _ rfl rfl) rfl);(try have q5:=Rg.lT (q 8 _ rfl rfl) rfl);(try have q6:=Rg.lT (q 9 _ rfl rfl) rfl);(try have q7:=Rg.lT (q 10 _ rfl rfl) rfl);(try have q8:=Rg.lT (q 15 _ rfl rfl) rfl);(try have q9:=Rg.lT (q 16 _ rfl rfl) rfl);(try have q10:=Rg.lT (q 17 _ rfl rfl) rfl);(try have q11:=Rg.lT (q 18 _ rfl rfl) rfl);clear s q;go_simp;exact⟨_,rfl,.refl _ _,rfl⟩)|skip
  ·have d0:=Rg.lT (q 4 _ rfl rfl) rfl;have d1:=Rg.lT (q 5 _ rfl rfl) rfl;clear s q;go_simp;refine(gz _ _ g.roots _ (H3.out.below Q) hrl HS.out.roots.2 hol).mono ?_;rintro e w3 ⟨⟨r,rfl,O⟩,F⟩;rw[<-hRL.out]at O;exact⟨_,rfl,F,OV.less O Q.size⟩
  ·have d0:=Rg.lT (q 11 _ rfl rfl) rfl;have d1:=Rg.lT (q 12 _ rfl rfl) rfl;clear s q;go_simp;refine(gz _ _ g.aA _ (H4.out.below Q) hwl HS.out.aA.2 hol).mono ?_;rintro e w3 ⟨⟨r,rfl,O⟩,F⟩;rw[<-hWV.out]at O;exact⟨_,rfl,F,OV.less O Q.size⟩
  ·obtain⟨v,d0,hv⟩:∃v,(a2.tmps[28]?).getD undef=v/\OV w2 z v _:=⟨_,rfl,q 13 _ rfl rfl⟩;clear s q;go_simp;refine(lV _ _ _ hv.reads hwv).mono ?_;rintro e w3 ⟨⟨r,rfl,O⟩,F⟩;exact⟨_,rfl,F,OI.less O Q.size⟩
  ·have d0:=Rg.lT (q 19 _ rfl rfl) rfl;have d1:=Rg.lT (q 20 _ rfl rfl) rfl;clear s q;go_simp;refine(gz _ _ g.done _ (H5.out.below Q) hdl HS.out.done.2 hol).mono ?_;rintro e w3 ⟨⟨r,rfl,O⟩,F⟩;rw[<-hDV.out]at O;exact⟨_,rfl,F,OV.less O Q.size⟩
  ·obtain⟨v,d0,hv⟩:∃v,(a2.tmps[36]?).getD undef=v/\OV w2 z v _:=⟨_,rfl,q 21 _ rfl rfl⟩;clear s q;go_simp;refine(lV _ _ _ hv.reads hdv).mono ?_;rintro e w3 ⟨⟨r,rfl,O⟩,F⟩;exact⟨_,rfl,F,OI.less O Q.size⟩
  ·obtain⟨v1,d1,hv1⟩:∃v,(a2.tmps[21]?).getD undef=v/\OV w2 z v _:=⟨_,rfl,q 6 _ rfl rfl⟩;obtain⟨v2,d2,hv2⟩:∃v,(a2.tmps[29]?).getD undef=v/\OI w2 z v _:=⟨_,rfl,q 14 _ rfl rfl⟩;obtain⟨v3,d3,hv3⟩:∃v,(a2.tmps[37]?).getD undef=v/\OI w2 z v _:=⟨_,rfl,q 22 _ rfl rfl⟩;obtain⟨_,_,rfl,_⟩:=aF hv1;obtain⟨_,_,rfl,_⟩:=aF hv2;obtain⟨_,_,rfl,_⟩:=aF hv3;simp only[χ]at hv2 hv3;clear s q;go_simp;exact⟨_,rfl,.refl _ _,_,_,_,rfl,hv1,hv2,hv3⟩
  ·clear s q;go_simp;exact⟨_,rfl,af _ _,_,rfl,Θ _ _,Q.size⟩
 ·rintro fb w8 hb8 ⟨s0,s1,s2,s3,s4,s5,s6,s7,s8,s9,s10,s11,s12,s13,s14,s15,s16,s17,s18,s19,s20,s21,s22,⟨x4,x6,x8,s23,S4,S6,S8⟩,⟨B,s24,xo,hlB⟩,-⟩;have s23:fb 23=_:=s23;have s24:fb 24=_:=s24;obtain⟨a4,m4,rfl,_⟩:=aF S4;obtain⟨a6,m6,rfl,_⟩:=aF S6;obtain⟨a8,m8,rfl,_⟩:=aF S8;simp only[χ]at S4 S6 S8 s23;simp[go_sem,s23,s24];have H:Below z z w8:=(Below.refl _ z).drew.trans hb8;have HP:=Y<|jD H hlB xo S4 S6 S8;obtain⟨xc0,xc1,xc2,xc3,xf0,xf1,xf2,xf3⟩:=km xo;clear S4 S6 S8 s0 s1 s2 s3 s4 s5 s6 s7 s8 s9 s10 s11 s12 s13 s14 s15 s16 s17 s18 s19 s20 s21 s22 s23 s24 hb8 H xo c2 c3 c4
  go_wp2_with fail
  generalize ((((w8.setCell B ()).setCell (B,1)<|.slice a4 RL.length m4).setCell ⟨B,2,Z⟩<|.slice a6 N.length m6).setCell ⟨B,3,Z⟩<|.slice a8 P.length m8)=v9 at HP⊢;clear xc0 xc1 xc2 xc3 xf0 xf1 xf2 xf3;obtain⟨S,J⟩:∃S,S=z.heap.size:=⟨_,rfl⟩;rw[<-J]at HP hlB;have H:Below z.heap.size z v9:=by rw[<-J];exact HP.out.1
  have hlS:S<=v9.heap.size:=by rw[J];exact H.size
  have d0:=(H.cell (p:=⟨b,0,Z⟩) hb).trans C.out.1;have d1:=(H.cell (p:=⟨b,1,Z⟩) hb).trans C.out.2
  go_region_held3 (λx=>x.cell? ⟨b,1,Z⟩=U (.slice ao g.old.length mo)/\x.cell? ⟨b,0,Z⟩=U (.slice an g.new.length mn)) ((refine⟨?_,?_⟩<;>(repeat (first|with_reducible assumption|with_reducible refine dB ?_|with_reducible refine dO ?_)))) (fail)
  go_wp2_with fail
  have hx0:((v9.alloc<|Ψ #[.slice ao g.old.length mo,.slice an g.new.length mn] 22).drew).heap[v9.heap.size]?=U (Ψ #[.slice ao g.old.length mo,.slice an g.new.length mn] 22 (0,0)):=Θ v9 _;have HPX:=Y<|HP.out.below hlS<|(af v9<|Ψ #[.slice ao g.old.length mo,.slice an g.new.length mn] 22).drew;have hlx:S<=((v9.alloc<|Ψ #[.slice ao g.old.length mo,.slice an g.new.length mn] 22).drew).heap.size:=by simp;omega
  clear HP d0 d1 H hlS;generalize (v9.alloc _).drew=u9 at hx0 HPX hlx⊢;generalize v9.heap.size=bx at hx0⊢;have HL:∀j:Nat,j<2->∃ax mx l,(#[Z8 ao g.old.length mo,.slice an g.new.length mn]:Array ZR)[j]?=U (.slice ax l.length mx)/\sa z (.slice ax l.length mx) l/\uX g (j+1)=uX g j++l/\(∀c∈l,c∈g.old++g.new)/\l.length<=1000:=by
   intro j hj
   match j,hj with
   |0,_=>exact⟨ao,mo,g.old,rfl,H2.out,rfl,λc hc=>Γ _ hc,HS.out.bw⟩
   |1,_=>exact⟨an,mn,g.new,rfl,H1.out,rfl,λc hc=>ζ _ hc,HS.out.news⟩
  replace HL:=Y HL
  go_loopw [51] (λi wr=>∃j:Nat,j<=2/\i=υ ο j/\Hid (qx z wr S B (.slice a4 RL.length m4) (.slice a6 N.length m6) (.slice a8 P.length m8) RL (N.map (·.2)) (P.map (·.2))<|(uX g j).map<|Bz (g.old.length:Int))/\wr.heap[bx]?=U (Ψ #[.slice ao g.old.length mo,.slice an g.new.length mn] 22 (0,0))/\S<=wr.heap.size) (λi _=>2-(intOf i).toNat)
  case atStart=>exact⟨0,by omega,rfl,HPX,hx0,hlx⟩
  case round=>
   clear HPX hx0 hlx;obtain⟨j,hj,rfl,HR,G,hlr⟩:=hrel;by_cases hlt:j<2
   ·obtain⟨ax,mx,l,hax,hvl,hpt,hin,hll⟩:=HL.out j hlt;have hcx:wr.cell? ⟨bx,j,Z⟩=U (.slice ax l.length mx):=by simp only[ω,G];exact hax
    have HV:=Y hvl;obtain⟨ax',mx',he,hmx,N4,haz⟩:=hvl;cases he
    have HZ:=Y haz;have HIN:=Y hin;have JK:=Y hpt;clear hax haz hin hpt;have HXR:=Y G;clear G
    go_wp2_with fail
    clear hcx
    go_loopw [57] (λi wr=>∃k:Nat,k<=l.length/\i=υ ο k/\Hid (qx z wr S B (.slice a4 RL.length m4) (.slice a6 N.length m6) (.slice a8 P.length m8) RL (N.map (·.2)) (P.map (·.2))<|(uX g j++l.take k).map<|Bz (g.old.length:Int))/\wr.heap[bx]?=U (Ψ #[.slice ao g.old.length mo,.slice an g.new.length mn] 22 (0,0))/\S<=wr.heap.size) (λi _=>l.length-(intOf i).toNat)
    case atStart=>exact⟨0,by omega,rfl,by simpa using HR,HXR.out,hlr⟩
    case round=>
     clear HR HXR hlr;obtain⟨k,hk,rfl,HR,G,hlr⟩:=hrel;by_cases hlk:k<l.length
     ·obtain⟨ba,oa,e,hba,hat⟩:=HZ.out (by omega);cases e
      obtain⟨kd,X,e1⟩:=cQ hlk;have hbr:Below z.heap.size z wr:=by rw[<-J];exact HR.out.1
      obtain⟨f1,x,f2,hx⟩:=(hat.below hbr hba) k kd X e1;have hsc:=HS.out.cells _<|HIN.out _<|Δ e1;dsimp only at hsc;have HX:=Y hx;obtain⟨av,mv,rfl,_,_,_⟩:=hx;have E1:=Y e1;have hvn:X.length<=1000000:=by omega
      obtain⟨sc,ln,hSb,t,T,h2⟩:=HR.out.2.1;have HXR:=Y G;have HPP:=Y<|ψ t<|ψ T h2;have hln:ln.length<=1000000:=by
       have e1:=h2.1;have:=HS.out.bw;have:=HS.out.news;have e2:(uX g j).length<=g.old.length+g.new.length:=by unfold uX;split<;>(try split)<;>simp
       simp at e1;omega
      obtain⟨an1,mn1,rfl,_⟩:=aF T;have hBl:B<wr.heap.size:=(Ω.1 t).1;have cs0:wr.cell? ⟨B,0,Z⟩=U (.slice an1 ln.length mn1):=by simp[ω,t]
      have fs0:wr.frozen? ⟨B,0,Z⟩=θ:=by simp[Z4,t]
      have HN:=Y<|tQ T t<|by decide
      have HN2:Hid ((Z8 an1 ln.length mn1).ownBlock≠U wr.heap.size):=Y λe=>Nat.lt_irrefl _ (T.lt _ e).2;have hsz:=hbr.size;clear hat e1 G t T h2
      go_wp2_with fail
      have A:=af wr<|Ψ #[kd,.slice av X.length mv] 76;have n0:(wr.alloc<|Ψ #[kd,.slice av X.length mv] 76).cell? ⟨wr.heap.size,0,Z⟩=U (υ ο kd):=by go_simp
      have n1:(wr.alloc<|Ψ #[kd,.slice av X.length mv] 76).cell? (wr.heap.size,1)=U (.slice av X.length mv):=by go_simp
      have D:wr.heap.size<(wr.alloc<|Ψ #[kd,.slice av X.length mv] 76).heap.size:=by simp
      have cs1:=cG A cs0 hBl;have fs1:=(A.frozen (p:=⟨B,0,Z⟩) hBl).trans fs0;generalize wr.alloc _=u1 at A n0 n1 D cs1 fs1⊢;have hd0:=A.drew;have Wq:B<u1:=Nat.lt_of_lt_of_le hBl A.size;have hneb:¬B=wr:=by omega
      clear cs0 fs0 f1 f2;refine Rg.aaH 7 4 (λx=>x wr.heap.size=U (υ ο kd)/\x ⟨wr.heap.size,1,Z⟩=U (.slice av X.length mv)/\x.cell? ⟨B,0,Z⟩=U (.slice an1 ln.length mn1)) (by kernel_rfl) (by kernel_rfl) (λc a d v w h=>by cases d<;>exact h) ⟨n0,n1,cs1⟩ ?_;simp only[Nat.reduceAdd,Zy,ZF,Zx,Zf]
      iterate 7
       (refine Rg.fp.step (v:=?_) (by rfl) (λu hu=>?_) ?_
        rotate_left
        (obtain⟨hu0,hu1,hu2⟩:=hu
         go_simp
         try rfl))
      refine Rg.fp.nil<|Rg.pA.succ ?_;simp only[Act.put,ZY,ZO,ZN];refine ZL rfl λK hK=>?_;go_simp
      with_reducible refine(gz _ (.slice av X.length mv) X _ ((HX.out.below A).below<|(Below.refl _ _).drew) hvn hsc.2 hol).mono ?_
      rintro e w5 ⟨⟨r5,rfl,Pk⟩,hb5⟩;have E:Below u1 u1 w5:=((Below.refl u1 u1).drew).trans hb5;have WE:=Y Pk;obtain⟨a5,m5,rfl,_⟩:=aF Pk;clear Pk;simp only[χ]at WE;have Wk:=cG E n0 D;have Wl:=cG E n1 D;have OE:=cG E cs1 Wq;have q53:=(E.frozen (p:=⟨B,0,Z⟩) Wq).trans fs1;have afj:B<w5:=Nat.lt_of_lt_of_le Wq E.size;have hn5:wr.heap.size<w5:=Nat.lt_of_lt_of_le D E.size;refine hK _ _ ⟨⟨Wk,Wl,OE⟩,Rg.pA.succ ?_⟩;clear hK K;refine ZL rfl λK hK=>?_;go_simp;refine hK _ _ ⟨⟨Wk,Wl,OE⟩,Rg.pA.succ ?_⟩;clear hK K;refine ZL rfl λK hK=>?_;go_simp;refine hK _ _ ⟨⟨dB Wk,dB Wl,dB OE⟩,Rg.pA.succ ?_⟩;clear hK K;refine ZL rfl λK hK=>?_;refine aX rfl _ _ 22 (by rfl) (.slice an1 ln.length mn1) (.slice w5.heap.size 1 1) (by rfl) (by rfl) _ (eW (k:=kd) (x:=.slice a5 X.length m5) ((HPP.out.2.1.below<|A.trans<|E.mono A.size).below<|by first|exact(af w5 _).drew|exact(af w5 _)) (Θ w5 _) (by rfl) (by omega) (by simp;omega)) ?_;intro v' w6 h2;obtain⟨hoc,hgr,hnb,gg,mg,rfl⟩:=h2;have gc:=(hgr.cell_far B (by simp;omega)<|ZP HN.out).trans<|(((af w5 _).drew).cell (p:=⟨B,0,Z⟩) afj).trans OE;have gf:=(hgr.frozen_far B (by simp;omega)<|ZP HN.out).trans<|(((af w5 _).drew).frozen (p:=⟨B,0,Z⟩) afj).trans q53;have gn0:=(hgr.cell_far wr.heap.size (by simp;omega)<|ZP HN2.out).trans<|(((af w5 _).drew).cell (p:=⟨wr.heap.size,0,Z⟩) hn5).trans Wk;have gn1:=(hgr.cell_far ⟨wr.heap.size,1,Z⟩ (by simp;omega)<|ZP HN2.out).trans<|(((af w5 _).drew).cell (p:=⟨wr.heap.size,1,Z⟩) hn5).trans Wl;refine hK _ _ ⟨⟨gn0,gn1,gc⟩,Rg.pA.zero ?_⟩;clear hK K
      all_goals
       go_wp2_with fail
       obtain⟨p1,p2,p3⟩:=HPP.out;obtain⟨e1,e2⟩:=qx.step HR.out hlr hlB p1 p2 p3 HXR.out (by first|exact A.trans ((E.trans<|(af w5 _).mono E.size).mono A.size)|exact A.trans<|(E.trans<|(af w5 _).drew.mono E.size).mono A.size) (by first|exact OV.less (B':=wr.heap.size) (WE.out.below<|af w5 _) (Nat.le_of_lt D)|exact OV.less (B':=wr.heap.size) (WE.out.below (af w5 _).drew)<|Nat.le_of_lt D) hgr hoc;have e3:S<=((w6.setCell B<|.slice gg (ln.length+1) mg)).heap.size:=by have:=e1.1.size;rw[J];exact this
       go_roundw
       case rel=>refine⟨k+1,by omega,by go_num,Y ?_,e2,e3⟩;rw[bW E1.out,<-ZU,ι];exact e1
       case measure=>simp[intOf];omega
     ·have hke:k=l.length:=by omega
      subst hke;rw[Zm,<-JK.out]at HR;clear hlk
      go_wp2_with fail
      go_roundw
      case rel=>exact⟨j+1,by omega,by go_num,HR,G,hlr⟩
      case measure=>simp[intOf];omega
   ·have hje:j=2:=by omega
    subst hje;obtain⟨sc,ln,hSb,t,T,h2⟩:=HR.out.2.1;have Jf:wr.heap[rb]?=U (Ψ #[(),(),(),()] 56 (0,0)):=(HR.out.1.block rb (by rw[J];exact D)).trans HOB.out;have HF:=Y<|ψ t<|ψ T<|ψ h2 Jf;obtain⟨y0,y1,y2,y3,_,_,_,_⟩:=km t;obtain⟨z0,z1,z2,z3,v0,v1,v2,v3⟩:=km Jf;have hfin:Below rb w wr:=by rw[<-hrb];exact HB1.out.trans<|HR.out.1.mono (by rw[J,hrb];exact Nat.le_of_lt D)
    obtain⟨Wr,Ws,rfl,_⟩:=aF T;clear t T h2 Jf G
    go_wp2_with fail
    obtain⟨hk,L,hbl,_⟩:=Kh (.slice Wr ln.length Ws) (.slice a4 RL.length m4) (.slice a6 N.length m6) (.slice a8 P.length m8) HF.out.2.2.2;have W:=hfin.trans<|hbl rb .refl;clear hbl;generalize ((((wr.setCell rb<|.slice Wr ln.length Ws).setCell (rb,1)<|.slice a4 RL.length m4).setCell (rb,2)<|.slice a6 N.length m6).setCell (rb,3)<|.slice a8 P.length m8)=f at hk L W⊢;obtain⟨x0,x1,x2,x3,_,_,_,_⟩:=km hk;refine ZG (v:=.agg #[.slice Wr ln.length Ws,.slice a4 RL.length m4,.slice a6 N.length m6,.slice a8 P.length m8]) (by simp[results,results119,go_sem,x0,x1,x2,x3]) rfl ⟨⟨_,rfl,?_⟩,W⟩;obtain⟨g1,g2,g3,g4⟩:=HF.out;obtain⟨p1,p2,p3,p4,p5⟩:=HR.out;obtain rfl:=hRL.out;obtain rfl:=hWV.out;obtain rfl:=hDV.out;exact⟨_,_,_,_,rfl,N5.reads ⟨ln,hZ g2 g4 (by decide) L,lA g3 g4 (by decide) L⟩,OV.reads (B:=S)<|hZ p3 g4 (by decide) L,OI.reads (B:=S)<|hZ p4 g4 (by decide) L,OI.reads (B:=S)<|hZ p5 g4 (by decide) L⟩
end
structure RE(k:Int)(T F G:Nat)(lo hi:Int):Prop where
 cellOf:∀w a n m,Z0 prog 181 #[.agg #[υ ο k,.slice a n m]] w λe w'=>e=.returned (.iface T (.agg #[υ ο k,.slice a n m]))/\Below w w w'
 m1:∀w s,(method 463 T (.agg #[υ ο k,s]) "caracole/heap.least").run prog w=.ok (F,.agg #[υ ο k,s]) w
 m2:∀w s,(method 463 T (.agg #[υ ο k,s]) "caracole/heap.most").run prog w=.ok (G,.agg #[υ ο k,s]) w
 e1:∀w args,(callFunc F args).run prog w=.ok (.enter F args) w
 e2:∀w args,(callFunc G args).run prog w=.ok (.enter G args) w
 c1:∀w a n m,Z0 prog F #[.agg #[υ ο k,.slice a n m]] w λe w'=>e=.returned lo/\Below w w w'
 c2:∀w a n m,Z0 prog G #[.agg #[υ ο k,.slice a n m]] w λe w'=>e=.returned hi/\Below w w w'
def agr:RE 0 264 317 319 0 4:=⟨sI,λw s=>Oc w s _ 317<|.inl ⟨rfl,rfl⟩,λw s=>Oc w s _ 319<|.inr<|.inl ⟨rfl,rfl⟩,λw a=>Pp 317 a w rfl,λw a=>Pp 319 a w rfl,Oe,Wf⟩
def ags:RE 1 265 323 325 1 1:=⟨sJ,λw s=>Od w s _ 323<|.inl ⟨rfl,rfl⟩,λw s=>Od w s _ 325<|.inr<|.inl ⟨rfl,rfl⟩,λw a=>Pp 323 a w rfl,λw a=>Pp 325 a w rfl,Of,Wh⟩
def agt:RE 2 266 327 329 2 2:=by
 refine⟨λw a n m=>?_,λw s=>by kernel_rfl,λw s=>by kernel_rfl,λw b=>by kernel_rfl,λw b=>by kernel_rfl,λw a n m=>?_,λw a n m=>?_⟩
 ·go_enter (fU func181 rfl),ntmps181
  go_wp2
  go_ret;exact⟨rfl,((Below.refl _ _).alloc .refl _)⟩
 ·go_enter (fU func327 rfl),ntmps327
  go_wp2
  go_ret;exact⟨rfl,((Below.refl _ _).alloc .refl _)⟩
 ·go_enter (fU func329 rfl),ntmps329
  go_wp2
  go_ret;exact⟨rfl,((Below.refl _ _).alloc .refl _)⟩
def ahs:RE 3 267 331 333 0 0:=by
 refine⟨λw a n m=>?_,λw s=>by kernel_rfl,λw s=>by kernel_rfl,λw b=>by kernel_rfl,λw b=>by kernel_rfl,λw a n m=>?_,λw a n m=>?_⟩
 ·go_enter (fU func181 rfl),ntmps181
  go_wp2
  go_ret;exact⟨rfl,((Below.refl _ _).alloc .refl _)⟩
 ·go_enter (fU func331 rfl),ntmps331
  go_wp2
  go_ret;exact⟨rfl,((Below.refl _ _).alloc .refl _)⟩
 ·go_enter (fU func333 rfl),ntmps333
  go_wp2
  go_ret;exact⟨rfl,((Below.refl _ _).alloc .refl _)⟩
def aaG{k}{n:Nat}(h:(k=0/\n<=4)\/(k=1/\n=1)\/(k=2/\n=2)\/(k=3/\n=0)):∃T F G lo hi,RE k T F G lo hi/\lo<=n/\(n:Int)<=hi:=by
 obtain⟨rfl,h⟩|⟨rfl,h⟩|⟨rfl,h⟩|⟨rfl,h⟩:=h
 exact⟨_,_,_,_,_,agr,by omega,by omega⟩;exact⟨_,_,_,_,_,ags,by omega,by omega⟩;exact⟨_,_,_,_,_,agt,by omega,by omega⟩;exact⟨_,_,_,_,_,ahs,by omega,by omega⟩
structure Xh(h:PH):Prop where
 kinds:∀c∈h.cells,(c.1=0/\c.2.length<=4)\/(c.1=1/\c.2.length=1)\/(c.1=2/\c.2.length=2)\/(c.1=3/\c.2.length=0)
 eT:∀c∈h.cells,∀v∈c.2,uI h v=0
 many:h.cells.length<=40
 four:h.roots.length=4
 roots:∀v∈h.roots,uI h v=0
 aA:∀n∈h.aA,Ik h n=0
 Ko:h.aA.Nodup
 NG:h.aA.length<=40
 done:∀n∈h.done,Ik h n=0
 Pq:h.done.Nodup
 Pz:h.done.length<=40
def n9.take{w a m k l}(h:n9 w (.slice a l.length m) l)(d:k<=l.length):n9 w (.slice a k m) (l.take k):=by
 obtain⟨g,p,e,j,f,h3⟩:=h;cases e
 refine⟨a,m,by simp[Nat.min_eq_left d],by simp;omega,f,λh0=>?_⟩;obtain⟨b,o,e,hb,c⟩:=h3 (by simp at h0;omega);refine⟨b,o,e,hb,λi n hi=>c i n ?_⟩;rw[Zv]at hi;split at hi
 exact hi;cases hi
def Ri{l:List Int}{j n}(h:l.Nodup)(e:l[j]?=U n):(l.take j).contains n=θ:=by
 cases hc:(l.take j).contains n with
 |false=>rfl
 |true=>
  obtain⟨i,hi⟩:=ZD.1<|Z3.1 hc;rw[Zv]at hi;split at hi
  rename_i a;obtain⟨b,c⟩:=ξ.1 hi;obtain⟨h3,h4⟩:=ξ.1 e;exact absurd (c.trans h4.symm)<|List.pairwise_iff_getElem.1 h i j b h3 a;cases hi
def XD(w b h)(hp:qw w b h)(O:Xh h):Z0 prog 175 #[.pointer b] w λe w'=>e=.returned (.tuple #[])/\Below w w w':=by
 have H:=Y hp;have K:=Y O;obtain⟨c,r,wi,d,c0,c1,c2,c3,h1,h2,h3,h4⟩:=hp;have hb:=az c0;have HWI:=Y h3;have HDO:=Y h4;obtain⟨ac,mc,rfl,hmc,am9,hac⟩:=h1;obtain⟨ar,mr,rfl,hmr,aeW,har⟩:=h2;have HC:=Y hac;have HR:=Y har;have h40:¬((40:Int)<h.cells.length):=by have:=O.many;omega
 have hr4:decide ((h.roots.length:Int)<4)=θ:=by have:=O.four;simp;omega
 have Xq:decide ((4:Int)<h.roots.length)=θ:=by have:=O.four;simp;omega
 have hl:h.cells.length<=1000000:=by have:=O.many;omega
 have C1:=Y c1;have C2:=Y c2;have C3:=Y c3;clear O hac har c1 c2 c3 h3 h4
 go_enter (fU func175 rfl),ntmps175
 go_wp2_with fail
 ((with_reducible refine(dq _ _).mono ?_))
 rintro e w' ⟨rfl,rfl⟩
 go_wp2_with fail
 clear c0 h40
 go_loopw [27] (λi wr=>∃k:Nat,k<=h.cells.length/\i=υ ο k/\Below w' w' wr) (λi _=>h.cells.length-(intOf i).toNat)
 case atStart=>exact⟨0,Nat.zero_le _,rfl,Below.refl _ _⟩
 case round=>
  obtain⟨k,O,rfl,a⟩:=hrel;by_cases hlt:k<h.cells.length
  ·obtain⟨ba,oa,e,hba,C⟩:=HC.out (by omega);cases e
   obtain⟨kd,v,e1⟩:=cQ hlt;obtain⟨d1,x,d2,hx⟩:=(C.below a hba) k kd v e1;have y:=Δ e1;have agu:=Y<|K.out.eT _ y;obtain⟨T,F,G,lo,hi,hK,ha,t⟩:=aaG<|K.out.kinds _ y;have hkd:decide (kd<0)=θ/\decide (3<kd)=θ:=by have:=K.out.kinds _ y;simp;omega
   obtain⟨hkd,aid⟩:=hkd;have HXV:=Y hx;obtain⟨J,A,rfl,hmx,N4,hax⟩:=hx;have z:=a.size;clear C e1 y hax;have hB0:=af wr<|Ψ #[υ ο kd,.slice J v.length A] 76;have m1:=hK.m1;have m2:=hK.m2;have ce1:=hK.e1;have ce2:=hK.e2;have t1:decide ((v.length:Int)<lo)=θ:=by simp<;>omega
   have t2:decide (hi<(v.length:Int))=θ:=by simp<;>omega
   clear ha t
   go_wp2_with fail
   ((with_reducible refine(dq _ _).mono ?_))
   rintro e w1 ⟨rfl,rfl⟩
   go_wp2_with fail
   refine(hK.cellOf _ _ _ _).mono ?_;rintro e w1 ⟨rfl,hb1⟩;have n2:w1 (wr.heap.size,1)=U (.slice J v.length A):=(hb1.cell (p:=⟨wr.heap.size,1,Z⟩)<|by simp).trans (by go_simp);have q1:Below wr wr w1:=hB0.trans<|hb1.mono<|by simp
   have L:wr.heap.size<w1:=by have:=hb1.size;simp at this;omega
   clear hb1 hB0
   go_wp2_with fail
   refine Rg.pT [.eq (.pointer (wr.heap.size,1)),.eq<|.slice J v.length A,.eq v.length,.eq<|.iface T<|.agg #[υ ο kd,.slice J v.length A],.eq lo] (by kernel_rfl) (by kernel_rfl) (by rfl) ?_ ?_
   ·refine⟨?_,?_,?_,?_,?_,trivial⟩
    all_goals intro a2 w2 hb2 f m
    all_goals have n3:=cG hb2 n2 L
    all_goals first|(have k0:=f 3 rfl;have k1:=f 4 rfl;simp at k0 k1;(try have q0:=Rg.lT (m 0 _ rfl rfl) rfl);(try have q1:=Rg.lT (m 1 _ rfl rfl) rfl);clear f m;go_simp;exact⟨_,rfl,.refl _ _,rfl⟩)|skip
    have d0:=Rg.lT (m 3 _ rfl rfl) rfl;clear f m;go_simp;refine(hK.c1 _ _ _ _).mono ?_;rintro e w3 ⟨rfl,g⟩;exact⟨_,rfl,g,rfl⟩
   ·rintro s w3 g ⟨P,s1,X,W,Q,-⟩;have P:s 0=_:=P;have s1:s 1=_:=s1;have X:s 2=_:=X;have W:s 3=_:=W;have Q:s 4=_:=Q;simp[go_sem,P,s1,X,W,Q];clear P s1 X W Q;replace g:=(Below.refl _ w1).drew.trans g;have hn3:=Nat.lt_of_lt_of_le L g.size;have n3:=cG g n2 L;have q3:=q1.trans<|g.mono q1.size;clear n2 q1 g
    go_wp2_with fail
    ((with_reducible refine(dq _ _).mono ?_))
    rintro e w4 ⟨rfl,rfl⟩
    go_wp2_with fail
    refine Rg.pT [.eq (.pointer (wr.heap.size,1)),.eq<|.slice J v.length A,.eq v.length,.eq<|.iface T<|.agg #[υ ο kd,.slice J v.length A],.eq hi] (by kernel_rfl) (by kernel_rfl) (by rfl) ?_ ?_
    ·refine⟨?_,?_,?_,?_,?_,trivial⟩
     all_goals intro a2 w2 hb2 f m
     all_goals have n5:=cG hb2 n3 hn3
     all_goals first|(have k0:=f 3 rfl;have k1:=f 4 rfl;simp at k0 k1;(try have q0:=Rg.lT (m 0 _ rfl rfl) rfl);(try have q1:=Rg.lT (m 1 _ rfl rfl) rfl);clear f m;go_simp;exact⟨_,rfl,.refl _ _,rfl⟩)|skip
     have d0:=Rg.lT (m 3 _ rfl rfl) rfl;clear f m;go_simp;refine(hK.c2 _ _ _ _).mono ?_;rintro e w3 ⟨rfl,g⟩;exact⟨_,rfl,g,rfl⟩
    ·rintro s w3 g ⟨P,s1,X,W,Q,-⟩;have P:s 0=_:=P;have s1:s 1=_:=s1;have X:s 2=_:=X;have W:s 3=_:=W;have Q:s 4=_:=Q;simp[go_sem,P,s1,X,W,Q];clear P s1 X W Q;replace g:=(Below.refl _ w4).drew.trans g;have n5:=cG g n3 hn3;have q4:=q3.trans<|g.mono q3.size;clear n3 q3 g hn3 L
     go_wp2_with fail
     ((with_reducible refine(dq _ _).mono ?_))
     rintro e w5 ⟨rfl,rfl⟩
     go_wp2_with fail
     clear n5 t1 t2 m1 m2 ce1 ce2 hK hkd aid;have HX5:=Y<|HXV.out.below q4;have hw5:=a.trans<|q4.mono z
     go_loopw [59] (λi wr=>∃j:Nat,j<=v.length/\i=υ ο j/\Below w5 w5 wr) (λi _=>v.length-(intOf i).toNat)
     case atStart=>exact⟨0,Nat.zero_le _,rfl,Below.refl _ _⟩
     case round=>
      obtain⟨j,hj,rfl,o⟩:=hrel;clear q4;have E:=hw5.trans<|o.mono hw5.size;have agv:=E.size;have amU:=o.size;by_cases D:j<v.length
      ·obtain⟨a9,m9,e9,_,_,B⟩:=HX5.out.below o;cases e9
       obtain⟨ba2,oa2,e,afb,u⟩:=B (by omega);cases e
       obtain⟨p,q,e1⟩:=ep D;obtain⟨f1,f2⟩:=u j p q e1;have hv0:=Y<|agu.out _<|Δ e1;clear u e1 B
       go_wp2_with fail
       refine(pq _ b h p q (H.out.below<|E.alloc agv _) hl hv0.out).mono ?_;rintro e w6 ⟨rfl,S⟩
       go_wp2_with fail
       exact⟨⟨j+1,by omega,by go_num,(o.alloc amU _).trans<|S.mono (by simp;omega)⟩,by simp[intOf];omega⟩
      ·go_wp2_with fail
       exact⟨⟨k+1,by omega,by go_num,E⟩,by simp[intOf];omega⟩
  ·have d1:=cG a C1.out hb
   go_wp2_with fail
   ((with_reducible refine(dq _ _).mono ?_))
   rintro e w1 ⟨rfl,rfl⟩
   go_wp2_with fail
   ((with_reducible refine(dq _ _).mono ?_))
   rintro e w1 ⟨rfl,rfl⟩
   go_wp2_with fail
   clear d1 hr4 Xq
   go_loopw [90] (λi wr=>∃k:Nat,k<=h.roots.length/\i=υ ο k/\Below w' w' wr) (λi _=>h.roots.length-(intOf i).toNat)
   case atStart=>exact⟨0,Nat.zero_le _,rfl,a⟩
   case round=>
    clear a;obtain⟨k2,hk2,rfl,a⟩:=hrel;have z:=a.size;by_cases D:k2<h.roots.length
    ·obtain⟨ba,oa,e,hba,C⟩:=HR.out (by omega);cases e
     obtain⟨p,q,e1⟩:=ep D;obtain⟨f1,f2⟩:=(C.below a hba) k2 p q e1;have hv0:=Y<|K.out.roots _<|Δ e1;clear C e1
     go_wp2_with fail
     refine(pq _ b h p q (H.out.below<|a.alloc z _) hl hv0.out).mono ?_;rintro e w3 ⟨rfl,g⟩
     go_wp2_with fail
     exact⟨⟨k2+1,by omega,by go_num,(a.alloc z _).trans<|g.mono (by simp;omega)⟩,by simp[intOf];omega⟩
    ·obtain⟨aw,mw,rfl,-⟩:=id HWI.out;obtain⟨ad,md,rfl,-⟩:=id HDO.out;have e2:=cG a C2.out hb;have e3:=cG a C3.out hb
     go_wp2_with fail
     go_region_held3 (λw'=>w' (b,2)=U (.slice aw h.aA.length mw)/\w' (b,3)=U (.slice ad h.done.length md)) (go_keep) (fail)
     go_wp2_with fail
     have t:Below w' w' ((wr.alloc<|Ψ #[.slice aw h.aA.length mw,.slice ad h.done.length md] 24).drew):=(a.alloc z _).drew;have N:((wr.alloc<|Ψ #[.slice aw h.aA.length mw,.slice ad h.done.length md] 24).drew) wr.heap.size=U (.slice aw h.aA.length mw):=by go_simp
     have hx1:((wr.alloc<|Ψ #[.slice aw h.aA.length mw,.slice ad h.done.length md] 24).drew) (wr.heap.size,1)=U (.slice ad h.done.length md):=by go_simp
     have hbx:wr.heap.size<((wr.alloc<|Ψ #[.slice aw h.aA.length mw,.slice ad h.done.length md] 24).drew).heap.size:=by simp
     generalize (wr.alloc _).drew=w9 at t N hx1 hbx⊢;generalize wr.heap.size=bx at N hx1 hbx z⊢;have hL:∀k:Nat,k<2->∃l J A,w9 (bx,k)=U (.slice J l.length A)/\n9 w9 (.slice J l.length A) l/\(∀n∈l,Ik h n=0)/\l.Nodup/\l.length<=40:=by
      intro k O
      match k,O with
      |0,_=>exact⟨_,_,_,N,HWI.out.below t,K.out.aA,K.out.Ko,K.out.NG⟩
      |1,_=>exact⟨_,_,_,hx1,HDO.out.below t,K.out.done,K.out.Pq,K.out.Pz⟩
     have HL:=Y hL;clear hL N hx1 e2 e3 a
     go_loopw [110] (λi wr=>∃k:Nat,k<=2/\i=υ ο k/\Below w9 w9 wr) (λi _=>2-(intOf i).toNat)
     case atStart=>exact⟨0,by omega,rfl,Below.refl _ _⟩
     case round=>
      obtain⟨k3,hk3,rfl,a⟩:=hrel;by_cases hlt3:k3<2
      ·obtain⟨l,J,A,hc,hv,hin,hnd,h40⟩:=HL.out k3 hlt3;have hcw:=cG a hc hbx;have t40:decide ((40:Int)<l.length)=θ:=by simp;omega
       have HV:=Y hv;have HN:=Y hin;have HD:=Y hnd;clear hc hin hnd
       go_wp2_with fail
       ((with_reducible refine(dq _ _).mono ?_))
       rintro e w1 ⟨rfl,rfl⟩
       go_wp2_with fail
       clear hcw t40
       go_loopw [120] (λi wr=>∃j:Nat,j<=l.length/\i=υ ο j/\Below w9 w9 wr) (λi _=>l.length-(intOf i).toNat)
       case atStart=>exact⟨0,Nat.zero_le _,rfl,a⟩
       case round=>
        clear a;obtain⟨j,hj,rfl,o⟩:=hrel;by_cases hlt4:j<l.length
        ·obtain⟨a9,m9,e9,hm9,agw,B⟩:=HV.out.below o;cases e9
         obtain⟨ba2,oa2,e,afb,u⟩:=B (by omega);cases e
         obtain⟨n,e1⟩:=lw hlt4;have f1:=u j n e1;have hn0:=Y<|HN.out _<|Δ e1;have hct:=Y<|Ri HD.out e1;have hwj:=t.trans<|o.mono t.size;clear u e1 B
         go_wp2_with fail
         refine(I2 _ b h n (H.out.below hwj) hl hn0.out).mono ?_;rintro e w6 ⟨rfl,S⟩;have hs1:(j:Int)<=(A:Int):=by omega
         go_wp2_with fail
         refine(sj _ _ (l.take j) n<|(HV.out.below<|o.trans<|S.mono o.size).take<|by omega).mono ?_;rw[hct.out];rintro e w7 ⟨rfl,rfl⟩
         go_wp2_with fail
         ((with_reducible refine(dq _ _).mono ?_))
         rintro e w8 ⟨rfl,rfl⟩
         go_wp2_with fail
         exact⟨⟨j+1,by omega,by go_num,o.trans<|S.mono o.size⟩,by simp[intOf];omega⟩
        ·go_wp2_with fail
         exact⟨⟨k3+1,by omega,by go_num,o⟩,by simp[intOf];omega⟩
      ·go_wp2_with fail
       go_end0;exact⟨rfl,t.trans<|a.mono t.size⟩
section
def NH(w:Z9)(B b:Nat)(cs:List HC)(roots:List HV)(wi d:List Int):Prop:=∃c r vw vd l,B<=b/\w.heap[b]?=U (Ψ #[c,r,vw,vd] 159 (0,0))/\OI w B vw wi/\OI w B vd d/\
 OC w B c l/\df w B l cs/\OV w B r roots/\(∀(i:Nat) p,l[i]?=U p->∀g,p.2.ownBlock=U g->r.ownBlock≠U g)/\∀g,vd.ownBlock=U g->vw.ownBlock≠U g
section
variable{w w2:Z9}{B b gg mg:Nat}{cs:List HC}{roots vs:List HV}{wi d:List Int}{k:Int}{c r x vw vd:ZR}{l:List (Int×ZR)}
def NH.reads(h:NH w B b cs roots wi d):qw w b ⟨cs,roots,wi,d⟩:=by obtain⟨c,r,f,g,l,i,hb,e,a,h3,h4,h5,_⟩:=h;exact⟨c,r,f,g,by simp[ω,hb],by simp[ω,hb],by simp[ω,hb],by simp[ω,hb],h3.reads h4.hold,h5.reads,e.reads,a.reads⟩
def NH.below(h:NH w B b cs roots wi d)(a:Below w w w2):NH w2 B b cs roots wi d:=by obtain⟨c,r,j,k,l,i,hb,g,f,h3,h4,h5,e⟩:=h;exact⟨c,r,j,k,l,i,(a.block b (Ω.1 hb).1).trans hb,g.below a,f.below a,h3.below a,h4.below a,h5.below a,e⟩
def XE(o:B<=b)(hb:w.heap[b]?=U (Ψ #[c,r,vw,vd] 159 (0,0)))(K:OI w B vw wi)(J:OI w B vd d)
 (h4:df w B l cs) (h5:OV w B r roots) (P:∀(i:Nat) p,l[i]?=U p->∀g,p.2.ownBlock=U g->r.ownBlock≠U g) (L:∀g,vd.ownBlock=U g->vw.ownBlock≠U g)
 (m:Below w w w2) (s:OC w2 w (.slice gg (l.length+1) mg) (l++[(k,x)])) (A:OV w2 w x vs) (C:B<=w):
 NH (w2.setCell b<|.slice gg (l.length+1) mg) B b (cs++[(k,vs)]) roots wi d/\Below B w (w2.setCell b<|.slice gg (l.length+1) mg):=by
 have q:=(m.block b<|(Ω.1 hb).1).trans hb;have a:∀{e:TypeId} {z n:Nat} {y:ZR} {xs:List ZR} {B0:Nat},e≠159->w2.ownsRow B0 e z y n xs->(w2.setCell b<|.slice gg (l.length+1) mg).ownsRow B0 e z y n xs:=λQ E=>aS E λg j=>aa λe=>by subst e;exact cF E q Q.symm j
 have h:=h4.below m;refine⟨⟨.slice gg (l.length+1) mg,r,vw,vd,l++[(k,x)],o,?_,a (by decide)<|K.below m,a (by decide)<|J.below m,a (by decide)<|s.less C,?_,a (by decide)<|h5.below m,?_,L⟩,(m.mono C).setCell (p:=⟨b,0,Z⟩) o _⟩;rw[heap_setCell_same (i:=0) (v:=.slice gg (l.length+1) mg) q];rfl;have u:df (w2.setCell b<|.slice gg (l.length+1) mg) B l cs:=⟨h.1,λi k y D G e1 e2=>⟨(h.2.1 i k y D G e1 e2).1,a (by decide) (h.2.1 i k y D G e1 e2).2⟩,h.2.2⟩;refine u.snoc (OV.less (a (by decide) A) C) λi p hi g j t=>?_;have f:i<cs.length:=by rw[<-h4.1];exact(ξ.1 hi).1
 obtain⟨H,N,e3⟩:=cQ f;have:=((h4.2.1 i p.1 p.2 H N hi e3).2.lt g j).2;have:=(A.lt g t).1;omega;intro i p hi g j F;obtain f|f:=Nat.lt_or_ge i l.length
 rw[ZW f]at hi;exact P i p hi g j F;rw[List.getElem?_append_right f]at hi;have O:p=(k,x):=by
  obtain h0|h0:=Nat.eq_zero_or_pos<|i-l.length
  rw[h0]at hi;simpa using hi.symm;rw[List.getElem?_eq_none (by simp;omega)]at hi;cases hi
 subst O;have:=(A.lt g j).1;have:=(h5.lt g F).2;omega
end
def aef(w B b cs roots wi d k v vs)(h:NH w B b cs roots wi d)(hv:eI w v vs)(hB:B<=w)(hl:cs.length<=1000)(hvl:vs.length<=1000):
 Z0 prog 176 #[.pointer b,υ ο k,v] w λe w'=>e=.returned (υ ο (cs.length:Int))/\NH w' B b (cs++[(k,vs)]) roots wi d/\Below B w w':=by
 obtain⟨a,m,rfl,hm,hm2,ha⟩:=hv;obtain⟨c,r,vw,vd,l,Q,hb,H,h2,h3,h4,h5,h6,h7⟩:=h;obtain⟨i0,hi,J,C,T⟩:=info_parts nh;have N:=Y h4.1;have hll:l.length<=1000:=by have:=h4.1;omega
 obtain⟨S,mc,rfl,hmc,am9,_⟩:=aF h3;have s:=(Ω.1 hb).1;have z:w b=U (.slice S l.length mc):=by simp[ω,hb]
 have hmk:=λW=>BC vs.length vs.length .refl (by omega) W;have HA:=Y ha;have HI:=Y hi;have F:=Y C;have H3:=Y h3;have HF:Hid (w.frozen? b=θ):=Y (by simp[Z4,hb]);have HE:=Y λG X mg (O:Below w w G) (q:OC G w (.slice (X:Nat) (l.length+1) mg) (l++[(k,.slice w.heap.size vs.length vs.length)])) (hx:OV G w (.slice w.heap.size vs.length vs.length) vs)=>XE Q hb H h2 h4 h5 h6 h7 O q hx hB;clear ha hi J C T H h2 h3 hb h4 h5 h6
 go_enter (fU func176 rfl),ntmps176
 go_wp2_with (with_reducible refine iW rfl (.tmp 11) (.tmp 12) 23 23 rfl 50 i0 2 w vs.length vs.length a m _ 50 (vs.flatMap lU) lx HI.out F.out rfl rfl (Θ w _) (fx vs) (λh0=>?H) (by rw[fx,jz];omega) (V1 vs) ?_)
 case H=>obtain⟨bb,o,e,hb2,L⟩:=HA.out h0;refine⟨_,e,λj u hu=>(World.cell?_alloc_lt w _ _ ?_).trans<|zt L j u hu⟩;rw[show(((bb,o):Addr).add j).block=bb by unfold Addr.add;split<;>rfl];exact hb2
 ·intro n t D;rw[<-List.length_flatMap]at t;have f:=(af w _).grown D (by simp) (λk O=>by cases O;exact .refl);have E:=zR rfl .refl t (by omega);have y:=cG f z s;have i:=Nat.lt_of_lt_of_le s f.size;have hf1:=(f.frozen (p:=⟨b,0,Z⟩) s).trans HF.out;have HX:=Y E;clear t D hmk HI F z E;have hl0:(0:Int)<=(l.length:Int):=by omega
  have hl1:(l.length:Int)<=(mc:Int):=by omega
  go_wp2_with fail
  have hd:=(Below.refl n n).drew;refine Rg.aaH 22 2 (λx=>x b=U (.slice S l.length mc)) (by kernel_rfl) (by kernel_rfl) (λc a d v w h=>by cases d<;>exact h) y ?_;simp only[Nat.reduceAdd,Zy,ZF,Zx,Zf]
  iterate 22
   (refine Rg.fp.step (v:=?_) (by rfl) (λx hx=>?_) ?_
    rotate_left
    (go_simp
     try rfl))
  refine Rg.fp.nil<|Rg.pA.succ ?_;simp only[Act.put,ZY,ZO,ZN];refine ZL rfl λK A=>?_;go_simp;have hb6:=af n<|Ψ #[υ ο k,.slice w.heap.size vs.length vs.length] 76;refine A _ _ ⟨(((hd.trans<|af n.drew _).cell (p:=⟨b,0,Z⟩) i).trans y),Rg.pA.succ ?_⟩;clear A K;refine ZL rfl λK A=>?_;refine aX rfl _ _ 22 (by rfl) (.slice S l.length l.length) (.slice n.heap.size 1 1) (by rfl) (by rfl) _ (tP (k:=k) (x:=.slice w.heap.size vs.length vs.length) ((H3.out.below f).below<|hd.trans<|af n.drew _) (Θ n.drew _) (by rfl)<|by omega) ?_;rintro v' G ⟨q,P,X,mg,rfl⟩;have g:=(hd.trans<|af n.drew _).trans<|P.mono<|by simp
  have gc:=cG g y i;have gf:=(g.frozen (p:=⟨b,0,Z⟩) i).trans hf1;refine A _ _ ⟨gc,Rg.pA.zero ?_⟩;clear A K;simp only[Act.put,ZY,ZO,ZN]
  go_wp2_with fail
  go_ret;obtain⟨e1,e2⟩:=HE.out G X mg (f.trans<|g.mono f.size) (q.less (by have:=f.size;simp;omega))<|HX.out.below g;exact⟨by rw[<-N.out];simp,e1,e2⟩
def PY(w v h)(hv:tH w v h)(G:Xh h):Z0 prog 122 #[v] w λe w'=>(∃b,e=.returned (.pointer (b:Nat))/\NH w' w b h.cells h.roots h.aA h.done)/\Below w w w':=by
 have K:=Y G;obtain⟨c,r,wi,d,rfl,h1,h2,h3,h4⟩:=hv;have H1:=Y h1;have H2:=Y h2;have H3:=Y h3;have H4:=Y h4;obtain⟨H,mc,rfl,hmc,am9,T⟩:=h1;obtain⟨ar,z,rfl,hmr,aeW,_⟩:=h2;obtain⟨aw,E,rfl,hmw,aeX,_⟩:=h3;obtain⟨ad,C,rfl,hmd,aeY,_⟩:=h4;have HC:=Y T;have hb1:=af w<|Ψ #[.slice H h.cells.length mc,.slice ar h.roots.length z,.slice aw h.aA.length E,.slice ad h.done.length C] 56;have f:=hb1.alloc (by simp)<|Ψ #[.slice H h.cells.length mc,.slice ar h.roots.length z,.slice aw h.aA.length E,.slice ad h.done.length C] 159;have hP:qw ((w.alloc<|Ψ #[.slice H h.cells.length mc,.slice ar h.roots.length z,.slice aw h.aA.length E,.slice ad h.done.length C] 56).alloc<|Ψ #[.slice H h.cells.length mc,.slice ar h.roots.length z,.slice aw h.aA.length E,.slice ad h.done.length C] 159) (w.heap.size+1) h:=⟨_,_,_,_,by go_simp,by go_simp,by go_simp,by go_simp,H1.out.below f,H2.out.below f,H3.out.below f,H4.out.below f⟩
 have HP:=Y hP;have HB2:=Y f;have L:h.roots.length<=1000000:=by have:=G.four;omega
 have Q:h.aA.length<=1000000:=by have:=G.NG;omega
 have N:h.done.length<=1000000:=by have:=G.Pz;omega
 have WA:=Y L;have HL2:=Y Q;have HL3:=Y N;clear G T hb1 f hP L Q N
 go_enter (fU func122 rfl),ntmps122
 go_wp2_with fail
 refine(XD _ _ h HP.out K.out).mono ?_;rintro e m ⟨rfl,a⟩;have u:=HB2.out.trans<|a.mono (by simp;omega);have f0:m w.heap.size=U (.slice H h.cells.length mc):=(a.cell (p:=⟨w.heap.size,0,Z⟩) (by simp;omega)).trans (by go_simp);have f1:m (w.heap.size,1)=U (.slice ar h.roots.length z):=(a.cell (p:=⟨w.heap.size,1,Z⟩) (by simp;omega)).trans (by go_simp);have f2:m (w.heap.size,2)=U (.slice aw h.aA.length E):=(a.cell (p:=⟨w.heap.size,2,Z⟩) (by simp;omega)).trans (by go_simp);have f3:m (w.heap.size,3)=U (.slice ad h.done.length C):=(a.cell (p:=⟨w.heap.size,3,Z⟩) (by simp;omega)).trans (by go_simp);have hs3:w.heap.size<m:=by have:=a.size;simp at this;omega
 clear a
 go_wp2_with fail
 have hd3:=y7<|(Below.refl m m).drew;have hs4:m.drew.heap.size=m:=rfl
 go_region_held3 (λx=>x w.heap.size=U (.slice H h.cells.length mc)/\x (w.heap.size,1)=U (.slice ar h.roots.length z)/\x (w.heap.size,2)=U (.slice aw h.aA.length E)/\x (w.heap.size,3)=U (.slice ad h.done.length C))
  (go_keep)
  (first
    |(go_at_call 148;(with_reducible refine(J6 _ (.slice ar h.roots.length z) h.roots (H2.out.below u.drew) WA.out).mono ?_);rintro e w6 ⟨⟨r6,rfl,B⟩,D⟩;have A:=u.drew.trans<|D.mono u.size;have P:=y7 D;have Jc:=Y B;obtain⟨a6,m6,rfl,_⟩:=B.reads;clear B;have hs6:=D.size;simp only[World.size_drew]at hs6 P;have ht6:w.heap.size<w6:=by omega)
    |(go_at_call 149;(with_reducible refine(wj _ (.slice aw h.aA.length E) h.aA (H3.out.below A) HL2.out).mono ?_);rintro e w7 ⟨⟨r7,rfl,y⟩,o⟩;have F:=A.trans<|o.mono A.size;have hc7:=y7 o;have O:=Y y;obtain⟨a7,m7,rfl,_⟩:=y.reads;clear y;have hs7:=o.size;have ht7:w.heap.size<w7:=by omega)
    |(go_at_call 149;(with_reducible refine(wj _ (.slice ad h.done.length C) h.done (H4.out.below F) HL3.out).mono ?_);rintro e w8 ⟨⟨r8,rfl,t⟩,l⟩;have Wn:=F.trans (l.mono F.size);have hc8:=y7 l;have J:=Y t;obtain⟨a8,m8,rfl,_⟩:=t.reads;clear t;have hs8:=l.size;have V9:w.heap.size<w8:=by omega))
 clear f1 f2 f3 P hc7 hc8 hd3;have s:NH (w8.alloc<|Ψ #[Z8 Z 0 0,.slice a6 h.roots.length m6,.slice a7 h.aA.length m7,.slice a8 h.done.length m8] 159) w w8.heap.size [] h.roots h.aA h.done:=⟨_,_,_,_,[],by omega,Θ w8 _,((O.out.below l).less<|by omega).alloc _,(J.out.less<|by omega).alloc _,OC.nil _ _,⟨rfl,λi k x k' vs e1 _=>by simp at e1,λi j p q _ e1 _=>by simp at e1⟩,(((Jc.out.below o).below l).less (by simp;omega)).alloc _,λi p e1=>by simp at e1,λg e1 e2=>by have:=(J.out.lt g e1).1;have:=(O.out.lt g e2).2;omega⟩
 have X:=Wn.alloc (by omega)<|Ψ #[Z8 Z 0 0,.slice a6 h.roots.length m6,.slice a7 h.aA.length m7,.slice a8 h.done.length m8] 159;have hs9:w.heap.size<(w8.alloc<|Ψ #[Z8 Z 0 0,.slice a6 h.roots.length m6,.slice a7 h.aA.length m7,.slice a8 h.done.length m8] 159).heap.size:=by simp;omega
 have HO:=Y<|ψ s X;clear s X
 go_wp2_with fail
 go_loopw [27] (λi wr=>∃k:Nat,k<=h.cells.length/\i=υ ο k/\Hid (NH wr w w8 (h.cells.take k) h.roots h.aA h.done)/\Below w w wr) (λi _=>h.cells.length-(intOf i).toNat)
 case atStart=>exact⟨0,Nat.zero_le _,rfl,Y HO.out.1,HO.out.2⟩
 case round=>
  clear HO;obtain⟨k,G,rfl,HO,n⟩:=hrel;have hsz:=n.size;by_cases hlt:k<h.cells.length
  ·obtain⟨ba,oa,e,hba,W⟩:=HC.out (by omega);cases e
   obtain⟨kd,vs,e1⟩:=cQ hlt;obtain⟨d1,x,d2,hx⟩:=(W.below n hba) k kd vs e1;have hvl:vs.length<=1000:=by have:=K.out.kinds _<|Δ e1;dsimp only at this;omega
   have hcl:(h.cells.take k).length<=1000:=by have:=K.out.many;simp;omega
   have HX:=Y hx;obtain⟨ax,mx,rfl,hmx,N4,hax⟩:=hx;have E1:=Y e1;clear W e1 hax
   go_wp2_with fail
   refine(aef _ w w8 (h.cells.take k) h.roots h.aA h.done kd _ vs (HO.out.below<|af wr _) (HX.out.below<|af wr _) (by simp;omega) hcl hvl).mono ?_;rintro e w9 ⟨rfl,S,BP⟩;have pl:=Y S;clear S
   go_wp2_with fail
   exact⟨⟨k+1,by omega,by go_num,Y (by rw[bW E1.out];exact pl.out),(n.alloc hsz _).trans BP⟩,by simp[intOf];omega⟩
  ·have hke:k=h.cells.length:=by omega
   subst hke
   go_wp2_with fail
   go_ret;have:=HO.out;rw[Z7 .refl]at this;exact⟨⟨_,rfl,this⟩,n⟩
end
section
variable(w:Z9){bm:Nat}(B bq:Nat)(s:ZR)
def EY(h:zS w B bq s []):
 Z0 prog 260 #[.pointer bq] w λe w'=>e=.returned (.tuple #[υ ο 0,.bool θ])/\w'=w:=by
 obtain⟨hb,b⟩:=h;obtain⟨a,m,rfl,c,h3,h4,h5⟩:=b;have c0:w bq=U (.slice a 0 m):=by simp[ω,hb]
 go_enter (fU func260 rfl),ntmps260
 go_wp2
 go_ret2
 exact⟨rfl,rfl⟩
def zU{w B bq g o o' m a n l}(hb:w.heap[bq]?=U (Ψ #[.slice (g,o) (l.length+1) m] 305 (0,0)))(v:l.length+1<=m)(h3:m<=9223372036854775807)(H:B<=g/\w.heap[g]?=U (.cells a 3 (0,0))/\o+m<=a.size/\∀i j,(n::l)[i]?=U j->a[o+i]?=U (υ ο j))(q:o'=o+1\/(o'=o/\m=1)):
 ∃s',zS (w.setCell bq<|.slice (g,o') l.length<|m-1).drew B bq s' l/\Kf w (w.setCell bq<|.slice (g,o') l.length<|m-1).drew bq bm (.slice (g,o) (l.length+1) m) s':=by
 obtain⟨c,f,r,h⟩:=H;have d:g≠bq:=λe=>by subst e;rw[hb]at f;cases f
 refine⟨.slice (g,o') l.length<|m-1,⟨?_,U (g,o'),m-1,rfl,by omega,by omega,⟨λe=>(by cases e),λad e=>?_⟩⟩,⟨rfl,rfl,rfl,by simp[Zg],λk s p u t=>Below.heap_setCell _ _ _ _ p,λk e=>.inl ?_⟩⟩;exact aB hb 0 _;cases e
 refine⟨g,o',a,rfl,c,(Below.heap_setCell _ _ _ _ d).trans f,by omega,λi x b=>?_⟩;obtain rfl|⟨rfl,rfl⟩:=q
 have:=h (i+1) x (by simpa using b);rw[show o+1+i=o+(i+1) by omega];exact this;have:=(ξ.1 b).1;omega;exact e
def EZ(bm s n l)(h:zS w B bq s (n::l))(G:l.length<=1000000):
 Z0 prog 260 #[.pointer bq] w λe w'=>e=.returned (.tuple #[υ ο n,.bool ZX])/\∃s',zS w' B bq s' l/\Kf w w' bq bm s s':=by
 obtain⟨hb,v⟩:=h;have x:=Y v;obtain⟨a,m,rfl,k,h3,h4,h5⟩:=v;have c0:w.drew.cell? bq=U (.slice a (n::l).length m):=by show w _=_;simp[ω,hb]
 have p:w bq=U (.slice a (n::l).length m):=c0;have F:w.frozen? bq=θ:=by simp[Z4,hb]
 have t:=Y hb;obtain _|ad:=a
 have:=h4 rfl;subst this;simp at k;obtain⟨g,o,c,rfl,r,q,f,b⟩:=h5 _ rfl;have h0:=b 0 n rfl;have d0:w (g,o)=U (υ ο n):=by simpa[ω,q]using h0
 have H5:=Y (⟨r,q,f,b⟩:B<=g/\w.heap[g]?=U (.cells c 3 (0,0))/\o+m<=c.size/\∀i u,(n::l)[i]?=U u->c[o+i]?=U (υ ο u));have j:(n::l).length=l.length+1:=rfl;rw[j]at c0 p k t x⊢;have A:(1:Int)<=(m:Int):=by omega
 have C:(l.length:Int)+1<=(m:Int):=by omega
 have D:(1:Int)<=(l.length:Int)+1:=by omega
 have y:(0:Int)<(l.length:Int)+1:=by omega
 clear h5 b q f h4 hb c0 h0 j;by_cases z:m=1
 ·subst z;have d:=List.eq_nil_of_length_eq_zero (by omega:l.length=0);subst d
  go_enter (fU func260 rfl),ntmps260
  go_wp2
  go_region
  all_goals go_wp2
  go_ret2
  exact⟨rfl,zU t.out k h3 H5.out<|.inr ⟨rfl,rfl⟩⟩
 ·have E:¬m-1=0:=by omega
  go_enter (fU func260 rfl),ntmps260
  go_wp2
  go_region
  all_goals go_wp2
  go_ret2
  exact⟨rfl,zU t.out k h3 H5.out<|.inl rfl⟩
def Kf.ye{w w' bq s s'}(h:Kf w w' bq bq s s'):Kf w w' bq bm s s':=⟨h.os,h.tape,h.output,h.size,λk c a _ b=>h.block k c a a b,h.own⟩
def Kf.sC{w w' bq s}(h:w.grownBy w' (U bm)):Kf w w' bq bm s s:=⟨h.os,h.tape,h.output,h.size,λk a _ b _=>h.block k a λe=>b<|ZV e,λk e=>.inl e⟩
def iG(x:List Int×List Int)(n:Int):List Int×List Int:=if x.2.contains n then x else(x.1++[n],x.2++[n])
def DC(b3 bq bm r:Nat)(s q met n)(f:zS w B bq s q)(o:bk w bm met)(hc:w r=U (.map<|U bm))(h3:w b3=U (υ ο<|-1))(Q:0<=n)(S:B<=w)(O:q.length<=1000000):
 Z0 prog 257 #[υ ο n,.pointer r,.pointer b3,.pointer bq] w λe w'=>e=.returned (.tuple #[])/\
  ∃s',zS w' B bq s' (iG (q,met) n).1/\bk w' bm (iG (q,met) n).2/\Kf w w' bq bm s s':=by
 have J:=Y f;have G:=Y o;have u:=λW=>ke (w:=W) (b:=bm) (l:=met) n;have i:=ke n o;by_cases m:n∈met
 ·have d:iG (q,met) n=(q,met):=by unfold iG;rw[if_pos (by simpa using m)]
  rw[d];have hd:decide (n∈met)=ZX:=by simpa using m
  rw[hd]at i;clear f o m d hd u
  go_enter (fU func257 rfl),ntmps257
  go_wp2
  go_end0;exact⟨rfl,s,J.out,G.out,Kf.bK<|Below.refl _ _⟩
 ·have d:iG (q,met) n=(q++[n],met++[n]):=by unfold iG;rw[if_neg (by simpa using m)]
  rw[d];have hd:decide (n∈met)=θ:=by simpa using m
  rw[hd]at i;have H:(n==-1)=θ:=by simp;omega
  obtain⟨F,K,k,h,N⟩:=ki n o;have j:ml met n=met++[n]:=by unfold ml;rw[if_neg (by simpa using m)]
  rw[j]at k;have c:bq≠bm:=λe=>by obtain⟨P,y,hb,_⟩:=o;subst e;rw[f.1]at hb;cases hb
  have a:d6 s≠U bm:=λe=>by obtain⟨P,y,hb,_⟩:=o;obtain⟨_,_,L,x⟩:=f.2.lt e;rw[x]at hb;cases hb
  have p:zS F B bq s q:=⟨(h.block bq (Ω.1 f.1).1 λe=>c<|ZV e).trans f.1,f.2.of_block λg E=>h.block g (f.2.lt E).2.1 λe=>a<|by rw[E,e]⟩;have A:=Y p;have v:=Y k;have C:=Y h;have z:=Y<|ψ c a;clear f o m d hd u j k h p c a
  go_enter (fU func257 rfl),ntmps257
  go_wp2_with fail
  refine(afd _ B bq bq s q n A.out (by omega) O).mono ?_;rintro e T ⟨rfl,s',D,t⟩
  go_wp2_with fail
  go_end0;obtain⟨c,a⟩:=z.out;exact⟨rfl,s',D,v.out.of_block<|t.block bm v.out.lt c.symm c.symm a,(Kf.sC C.out).trans t.ye⟩
end
end Kn
namespace Kn
open Go Go.RowKit Go.Shelf Md
section
variable(w:Z9)(b n:Nat)
attribute [local go_sem] Oper.semAt_some
def Jg:Z0 prog 259 #[.pointer b] w λe w'=>e=.returned (.func (.func 276) #[] #[.pointer w.heap.size])/\w'=w.alloc (Ψ #[.pointer b] 155):=by
 go_enter (fU func259 rfl),ntmps259
 go_wp2
 go_ret;exact⟨rfl,rfl⟩
def refsOf(l:List HV):List Int:=(l.filter λv=>v.1==1).map (·.2)
def lB(l v):refsOf (l++[v])=if v.1=1 then refsOf l++[v.2]else refsOf l:=by
 unfold refsOf
 grind
def sL{l:List HV}{k:Nat}{n}(h:l[k]?=U (1,n)):(refsOf<|l.take k).length<(refsOf l).length:=by
 have a:l.drop k=(1,n)::l.drop (k+1):=by
  rw[List.drop_eq_getElem_cons ((ξ.1 h).1)]
  grind
 rw[(by rw[List.take_append_drop]:refsOf l=refsOf (l.take k++l.drop k)),a];unfold refsOf;simp
def n'(h:PH):List Int:=refsOf h.roots++h.done
def JG(x:Nat×Nat):ZR:=.agg #[(x.1:Int),.slice x.2 1 1]
def KT(x:Nat×Nat):Int:=(x.1:Int)
def uY(n0 bg:Nat)(W W':Z9):Prop:=Below n0 W W'/\W'.heap[bg]?=W.heap[bg]?
def uY.trans{c d X a b}(h:uY c d X a)(k:uY c d a b):uY c d X b:=⟨h.1.trans k.1,k.2.trans h.2⟩
def uY.refl(a b X):uY a b X X:=⟨Below.refl _ _,rfl⟩
def uY.book{a b:Nat}{w:Z9}(c:a<=w)(hb:b<w)(W l o o')(d:w.heap.size<=l)(h:W.heap[l]?=U o)(hc:o.isCells=θ)(hw:o.isWalk=θ):uY a b W (W.putObj l o'):=⟨belowK_b c W l o o' d h hc hw,ε<|by omega⟩
def uY.alloc{c b X a}(h:uY c b X a)(d:c<=a)(hb:b<a)(o):uY c b X (a.alloc o):=⟨h.1.alloc d o,(Below.heap_alloc a o b hb).trans h.2⟩
def E0(hn:1<=n)(l b L:Nat)(h)(J Jx:List (Nat×Nat) ->Z9->Prop)(W0 W:Z9)(hJ:AbidesFrom W J) (hY:∀a x W1,J a W1->a.length<(n' h).length->YieldAt ZS (n-1) prog l #[JG x] W1 λe P=>
 (e=.returned (.bool ZX)/\J (a++[x]) P/\uY W0 L W1 P)\/(e=.returned (.bool θ)/\Jx (a++[x]) P)) (o:W.heap[L]?=U (Ψ #[.pointer b] 155 (0,0))) (hg:qw W0 b h) (X:∀v∈h.roots,v.1=1->0<=v.2) (hdp:∀n∈h.done,0<=n) (hW:Below W0 W0 W) (h0:J [] W):
 CallsIn ZS n prog 276 #[.func (.yield l) #[] #[],.pointer L] W λe P=>(∃v,e=.returned v)/\
  ((∃ys,ys.map KT=n' h/\J ys P)\/(∃a,True/\Jx a P)):=by
 obtain⟨c,r,wi,d,c0,c1,c2,c3,_,h2,_,h4⟩:=hg;obtain⟨ar,mr,rfl,_,_,S⟩:=h2;obtain⟨ad,md,rfl,_,_,had⟩:=h4;have hb:=az c0;have hbg:W L=U (.pointer b):=by simp[ω,o]
 have C:=(Ω.1 o).1;have f1:=cG hW c1 hb;have C3:=Y c3;have HBG:=Y o;have HA:=Y S;have HY:=Y hY;have HD:=Y had;clear hY c0 c1 c2 c3 S had o;refine callsIn_of_wp (fU func276 rfl) rfl trivial ?_ rfl;simp only[ntmps276,Zr,Zl,Zj,Nat.reduceAdd,Nat.reduceSub,ZC,ZB,Zq,Zw,ZI,Zk]
 gi_wp2_with fail
 clear hbg
 gi_loopw [13] (λi wr=>∃k:Nat,∃a,k<=h.roots.length/\i=υ ο k/\a.map KT=refsOf (h.roots.take k)/\J a wr/\uY W0 L W wr) (λi _=>h.roots.length-(intOf i).toNat)
 case atStart=>exact⟨0,[],Nat.zero_le _,rfl,rfl,h0,uY.refl _ _ _⟩
 case round=>
  obtain⟨k,a,hk,rfl,K,A,m⟩:=hrel;clear h0 f1;have g:=Nat.lt_of_lt_of_le C m.1.size;have j:=hW.trans m.1;have y:=j.size;by_cases E:k<h.roots.length
  ·obtain⟨ba,oa,e,F,s⟩:=HA.out (by omega);cases e
   obtain⟨p,q,e1⟩:=ep E;obtain⟨d1,d2⟩:=(s.below j F) k p q e1;have E1:=Y e1;have HP:=Y K;by_cases D:p=1
   ·subst D;obtain⟨q,rfl⟩:=Int.eq_ofNat_of_zero_le<|X _ (Δ e1) rfl;have f:a.length<(n' h).length:=by have:=sL e1;rw[<-K]at this;unfold n';simp at this⊢;omega
    have Q:=hJ _ _ (wr.alloc<|Ψ #[υ ο 1,q] 50) Z A (ZZ wr _ Z) (λr e=>by cases e);have t:=hJ _ _ ((wr.alloc<|Ψ #[υ ο 1,q] 50).alloc<|Ψ #[υ ο k] 3) Z Q (ZZ _ _ Z) (λr e=>by cases e);obtain⟨fn,tmps,B,body,hy,hR⟩:=HY.out _ (q,wr.heap.size+1) _ t f;unfold JG at hy;dsimp only at hy;clear s e1 f Q t K
    gi_wp2_with fail
    refine hR.mono ?_;rintro e W3 (⟨rfl,N,O⟩|⟨rfl,z⟩)
    ·gi_wp2_with fail
     go_roundw
     case rel=>exact⟨k+1,a++[(q,wr.heap.size+1)],by omega,by go_num,by rw[bW E1.out,lB,if_pos rfl,ι,HP.out];rfl,N,((m.alloc y g _).alloc (by simp;omega) (by simp;omega) _).trans O⟩
     case measure=>simp[intOf];omega
    ·gi_wp2_with fail
     refine ZG (Zp rfl _ _ _) rfl ?_;exact⟨⟨_,rfl⟩,.inr ⟨_,trivial,z⟩⟩
   ·have hp1':(p==1)=θ:=by simp[D]
    clear s e1 K
    gi_wp2_with fail
    refine⟨λ_ h=>(by cases h),?_⟩
    gi_wp2_with fail
    go_roundw
    case rel=>exact⟨k+1,a,by omega,by go_num,by rw[bW E1.out,lB,if_neg D];exact HP.out,hJ _ _ (wr.alloc<|Ψ #[p,q] 50) Z A (ZZ wr _ Z) (λr e=>by cases e),m.alloc y g _⟩
    case measure=>simp[intOf];omega
  ·have H:k=h.roots.length:=by omega
   subst H;rw[Z7 .refl]at K;have f3:=cG j C3.out hb;have fg:wr L=U (.pointer b):=by simp[ω,m.2.trans HBG.out]
   gi_wp2_with fail
   have HPR:=Y K;clear K
   gi_loopw [38] (λi wr'=>∃(k:Nat) (a:List (Nat×Nat)),k<=h.done.length/\i=υ ο k/\a.map KT=refsOf h.roots++h.done.take k/\J a wr'/\uY W0 L W wr') (λi _=>h.done.length-(intOf i).toNat)
   case atStart=>exact⟨0,a,Nat.zero_le _,rfl,by simpa using HPR.out,A,m⟩
   case round=>
    clear A m f3 fg j g y;obtain⟨k,u,hk2,rfl,w,T,G⟩:=hrel;have j:=hW.trans G.1;have y:=j.size;have g:=Nat.lt_of_lt_of_le C G.1.size;by_cases E:k<h.done.length
    ·obtain⟨ba,oa,e,F,s⟩:=HD.out (by omega);cases e
     obtain⟨q,e1⟩:=lw E;have d1:=(s.below j F) k q e1;have E1:=Y e1;have HP:=Y w;obtain⟨q,rfl⟩:=Int.eq_ofNat_of_zero_le<|hdp _<|Δ e1;have f:u.length<(n' h).length:=by have:=congrArg ZA w;unfold n';simp at this⊢;omega
     have t:=hJ _ _ (wr.alloc<|Ψ #[υ ο (wrap64<|4+k)] 3) Z T (ZZ _ _ Z) (λr e=>by cases e);obtain⟨fn,tmps,B,body,hy,hR⟩:=HY.out _ (q,wr.heap.size) _ t f;unfold JG at hy;dsimp only at hy;clear s e1 f t w
     gi_wp2_with fail
     refine hR.mono ?_;rintro e W3 (⟨rfl,N,O⟩|⟨rfl,z⟩)
     ·gi_wp2_with fail
      go_roundw
      case rel=>exact⟨k+1,u++[(q,wr.heap.size)],by omega,by go_num,by rw[bW E1.out,ι,HP.out,ZU];rfl,N,(G.alloc y g _).trans O⟩
      case measure=>simp[intOf];omega
     ·gi_wp2_with fail
      refine ZG (Zp rfl _ _ _) rfl ?_;exact⟨⟨_,rfl⟩,.inr ⟨_,trivial,z⟩⟩
    ·have H:k=h.done.length:=by omega
     subst H;rw[Z7 .refl]at w
     gi_wp2_with fail
     go_end0;exact⟨⟨_,rfl⟩,.inl ⟨u,w,T⟩⟩
def wH(o:1<=n)(b a:Nat)(h)(w0 w:Z9)(hb:Below w0 w0 w)(c:w.heap[a]?=U (Ψ #[.pointer b] 155 (0,0)))(k:qw w0 b h)(d:∀v∈h.roots,v.1=1->0<=v.2)(e:∀n∈h.done,0<=n):
 SeqStopsK ZS n prog 276 #[.pointer a] (λx=>#[JG x]) (uY w0 a) (λg=>g.map KT=n' h) (λ_=>True) (n' h).length w:=λl J m W f j p i h0=>
 E0 n o l b a h J m w0 W j i ((f.block a (Ω.1 c).1).trans c) k d e (hb.trans<|f.mono hb.size) h0
def BR (t f:Int) (w:Z9) (e:Ending) (w':Z9):Prop:=∃bt bf,e=.returned (.func (.func 321) #[] #[.pointer (bt:Nat),.pointer (bf:Nat)])/\
    w'.heap[bt]?=U (Ψ #[t] 3 (0,0))/\w'.heap[bf]?=U (Ψ #[f] 3 (0,0))/\w.heap.size<=bt/\w.heap.size<=bf/\Below w w w'
def zV(f t:Int):Z0 prog 320 #[f,t] w λe w'=>BR t f w e w':=by
 go_enter (fU func320 rfl),ntmps320
 go_wp2
 go_ret;refine⟨w.heap.size+1,w.heap.size,by simp,by simpa using (Θ (w.alloc<|Ψ #[f] 3)<|Ψ #[t] 3),(heap_alloc_old (w.alloc<|Ψ #[f] 3) (Ψ #[t] 3)<|by simp).trans<|Θ w<|Ψ #[f] 3,Nat.le_succ _,.refl,(af w _).alloc (by simp) _⟩
def tR(k1 k2:Nat)(W W':Z9):Prop:=W'.heap[k1]?=W.heap[k1]?/\W'.heap[k2]?=W.heap[k2]?
def tR.trans{c d X a b}(h:tR c d X a)(k:tR c d a b):tR c d X b:=⟨k.1.trans h.1,k.2.trans h.2⟩
def tR.refl(a b X):tR a b X X:=⟨rfl,rfl⟩
def tR.book{a b:Nat}{w:Z9}(e:a<w)(d:b<w)(W l o o')(c:w.heap.size<=l)(h:W.heap[l]?=U o)(hc:o.isCells=θ)(hw:o.isWalk=θ):tR a b W (W.putObj l o'):=⟨ε<|by omega,ε<|by omega⟩
def tR.bK{b c:Nat}{X a:Z9}(h:Below X X a)(d:b<X)(e:c<X):tR b c X a:=⟨h.block b d,h.block c e⟩
def inV{m:Nat}(f:Nat)(x:Fin m):ZR:=υ ο<|(f:Int)+((x.val:Nat):Int)
def E3(T:1<=n)(l q c m f)(J z:List (Fin m) ->Z9->Prop)(W) (B:∀a x t,J a t->a.length<m->YieldAt ZS (n-1) prog l #[inV f x] t λe d=>
 (e=.returned (.bool ZX)/\J (a++[x]) d/\tR q c t d)\/(e=.returned (.bool θ)/\z (a++[x]) d)) (j:W.heap[q]?=U (Ψ #[υ ο (f+m)] 3 (0,0))) (b:W.heap[c]?=U (Ψ #[υ ο f] 3 (0,0))) (X:m<=1000000) (S:f<=1000) (h0:J [] W):
 CallsIn ZS n prog 321 #[.func (.yield l) #[] #[],.pointer q,.pointer c] W λe d=>(∃v,e=.returned v)/\
  ((∃D,D.map Fin.val=Zu m/\J D d)\/(∃a,True/\z a d)):=by
 have K:W q=U (υ ο<|(f:Int)+m):=by simp[ω,j]
 have F:W c=U (υ ο (f:Int)):=by simp[ω,b]
 have E:=Y b;have L:=Y B;clear B j b;refine callsIn_of_wp (fU func321 rfl) rfl trivial ?_ rfl;simp only[ntmps321,Zr,Zl,Zj,Nat.reduceAdd,Nat.reduceSub,ZC,ZB,Zq,Zw,ZI,Zk]
 gi_wp2_with fail
 clear K F
 gi_loopw [8] (λi wr=>∃k:Nat,∃a:List (Fin m),k<=m/\i=υ ο k/\a.map Fin.val=Zu k/\J a wr/\tR q c W wr) (λi _=>m-(intOf i).toNat)
 case atStart=>exact⟨0,[],Nat.zero_le _,rfl,rfl,h0,tR.refl _ _ _⟩
 case round=>
  obtain⟨k,a,O,rfl,s,h,p⟩:=hrel;clear h0;by_cases g:k<m
  ·have P:wr c=U (υ ο (f:Int)):=by simp[ω,p.2.trans E.out]
   obtain⟨fn,A,r,body,C,N⟩:=L.out _ ⟨k,g⟩ _ h (by have:=congrArg ZA s;simp at this;omega);unfold inV at C;dsimp only at C;have H:=Y s;clear s;have G:(k:Int)<(m:Int):=by omega
   gi_wp2_with fail
   refine N.mono ?_;rintro e Q (⟨rfl,w,y⟩|⟨rfl,o⟩)
   ·gi_wp2_with fail
    go_roundw
    case rel=>exact⟨k+1,a++[⟨k,g⟩],by omega,by go_num,by rw[List.range_succ,ι,H.out];rfl,w,p.trans y⟩
    case measure=>simp[intOf];omega
   ·gi_wp2_with fail
    refine ZG (Zp rfl _ _ _) rfl ?_;exact⟨⟨_,rfl⟩,.inr ⟨_,trivial,o⟩⟩
  ·have u:k=m:=by omega
   subst u
   gi_wp2_with fail
   go_end0;exact⟨⟨_,rfl⟩,.inl ⟨a,s,h⟩⟩
def PZ(o:1<=n)(d b m f:Nat)(w)(c:w.heap[d]?=U (Ψ #[υ ο (f+m)] 3 (0,0)))(a:w.heap[b]?=U (Ψ #[υ ο f] 3 (0,0)))(g:m<=1000000)(h:f<=1000):
 SeqStopsK ZS n prog 321 #[.pointer d,.pointer b] (λx:Fin m=>#[inV f x]) (tR d b) (λi=>i.map Fin.val=Zu m) (λ_=>True) m w:=λl J j W e q p k h0=>
 E3 n o l d b m f J j W k ((e.block d (Ω.1 c).1).trans c) ((e.block b (Ω.1 a).1).trans a) g h h0
def Ou(a n m b):Z0 prog 316 #[.agg #[υ ο 0,.slice a n m],.map<|U b] w λe w'=>BR n 0 w e w':=by
 go_enter (fU func316 rfl),ntmps316
 go_wp2_with fail
 refine(zV _ _ _).mono ?_;rintro e w' ⟨g,f,rfl,c,d,h3,h4,h5⟩
 go_wp2_with fail
 go_ret;simp at h3 h4;exact⟨g,f,rfl,c,d,by omega,by omega,(af w _).trans<|h5.mono<|by simp⟩
def Ov(a n m b):Z0 prog 322 #[.agg #[υ ο 1,.slice a n m],.map<|U b] w λe w'=>BR ((0:Nat):Int) 0 w e w':=by
 go_enter (fU func322 rfl),ntmps322
 go_wp2_with fail
 refine(zV _ _ _).mono ?_;rintro e w' ⟨g,f,rfl,c,d,h3,h4,h5⟩
 go_wp2_with fail
 go_ret;simp at h3 h4;exact⟨g,f,rfl,c,d,by omega,by omega,(af w _).trans<|h5.mono<|by simp⟩
end
end Kn
namespace Kn
open Go Go.RowKit Md
def afC(w s b l v vs)(h:bk w b l)(hs:eI w s (v::vs)):Z0 prog 328 #[.agg #[υ ο 2,s],.map<|U b] w λe w'=>e=.returned (.bool<|!has l v)/\Below w w w':=by
 obtain⟨a,m,rfl,u,t,k⟩:=hs;obtain⟨p,q⟩:=v;obtain⟨bv,o,rfl,hb,d⟩:=k (by simp);obtain⟨r,i⟩:=d 0 p q rfl;have c:=af w<|Ψ #[υ ο 2,.slice (bv,o) ((p,q)::vs).length m] 266;have e1:=cG c r hb;have e2:=cG c i hb;simp only[Nat.zero_mul,Nat.add_zero]at e1 e2;have f:(0:Int)<(((p,q)::vs).length:Int):=by simp
 have j:=Y<|h.below c;generalize ((p,q)::vs).length=n at c e1 e2 f j⊢;clear h d k r i
 go_enter (fU func328 rfl),ntmps328
 go_wp2_with fail
 refine(afa _ b l (p,q) j.out).mono ?_;rintro e x ⟨rfl,g⟩
 go_wp2_with fail
 go_ret;exact⟨rfl,c.trans<|g.mono<|by simp⟩
def aas(w s b l v vs)(h:bk w b l)(hs:eI w s (v::vs))(t)(A:(has l v=ZX/\t=2)\/(has l v=θ/\t=1)):Z0 prog 326 #[.agg #[υ ο 2,s],.map<|U b] w λe w'=>BR t 1 w e w':=by
 obtain⟨a,m,rfl,H,C,y⟩:=hs;obtain⟨p,q⟩:=v;obtain⟨bv,o,rfl,hb,f⟩:=y (by simp);obtain⟨x,u⟩:=f 0 p q rfl;have c:=af w<|Ψ #[υ ο 2,.slice (bv,o) ((p,q)::vs).length m] 266;have e1:=cG c x hb;have e2:=cG c u hb;simp only[Nat.zero_mul,Nat.add_zero]at e1 e2;have i:(0:Int)<(((p,q)::vs).length:Int):=by simp
 have r:=Y<|h.below c;generalize ((p,q)::vs).length=n at c e1 e2 i r⊢;clear h f y x u;have E:w.heap.size<=(w.alloc<|Ψ #[υ ο 2,.slice (bv,o) n m] 266).heap.size:=by simp
 obtain⟨j,rfl⟩|⟨j,rfl⟩:=A
 all_goals
  go_enter (fU func326 rfl),ntmps326
  go_wp2_with fail
  refine(afa _ b l (p,q) r.out).mono ?_;rintro e G ⟨rfl,g⟩;have d:=c.trans<|g.mono<|by simp
  have k:=d.size;clear e1 e2 c g r;rw[j];clear j
  go_wp2_with fail
  refine(zV _ _ _).mono ?_;rintro e w' ⟨F,D,rfl,B,z,h3,h4,h5⟩
  go_wp2_with fail
  go_ret;exact⟨F,D,rfl,B,z,by omega,by omega,d.trans<|h5.mono k⟩
def aeM(w a n m):Z0 prog 261 #[.iface 266 (.agg #[υ ο 2,.slice a n m])] w λe w'=>e=.returned (.slice a n m)/\Below w w w':=by
 have c:∀w:Z9,(ZJ (.iface 266<|.agg #[υ ο 2,.slice a n m]) 208 264 ZX).run prog w=.ok (.tuple #[.agg #[υ ο 0,Z8 Z 0 0],.bool θ]) w:=λw=>by kernel_rfl
 have t1:∀w:Z9,(ZJ (.iface 266<|.agg #[υ ο 2,.slice a n m]) 208 265 ZX).run prog w=.ok (.tuple #[.agg #[υ ο 0,Z8 Z 0 0],.bool θ]) w:=λw=>by kernel_rfl
 have b:∀w:Z9,(ZJ (.iface 266<|.agg #[υ ο 2,.slice a n m]) 208 266 ZX).run prog w=.ok (.tuple #[.agg #[υ ο 2,.slice a n m],.bool ZX]) w:=λw=>by kernel_rfl
 go_enter (fU func261 rfl),ntmps261
 go_wp2
 go_ret;exact⟨rfl,((Below.refl _ _).alloc .refl _)⟩
structure agG(k:Int)(vs:List HV)(A:List Int)(f T F:Nat):Prop where
 cellOf:∀w a n m,Z0 prog 181 #[.agg #[υ ο k,.slice a n m]] w λe w'=>e=.returned (.iface T (.agg #[υ ο k,.slice a n m]))/\Below w w w'
 mt:∀w s,(method 463 T (.agg #[υ ο k,s]) "caracole/heap.keeps").run prog w=.ok (F,.agg #[υ ο k,s]) w
 ent:∀w args,(callFunc F args).run prog w=.ok (.enter F args) w
 keeps:∀w a m b,bk w b A->eI w (.slice a vs.length m) vs->Z0 prog F #[.agg #[υ ο k,.slice a vs.length m],.map (U b)] w λe w'=>BR ((f:Int)+(Md.keeps (k,vs) A).length) f w e w'
 le:f+(Md.keeps (k,vs) A).length<=vs.length+1
 low:f<=1
 eT:0<(Md.keeps (k,vs) A).length->(∀j,j<(Md.keeps (k,vs) A).length->f+j<vs.length/\(Md.keeps (k,vs) A)[j]?=vs[f+j]?)/\∀w a n m,Z0 prog 261 #[.iface T (.agg #[υ ο k,.slice a n m])] w λe w'=>e=.returned (.slice a n m)/\Below w w w'
def ael{k}(vs A)(h:k=0\/k=1\/(k=2/\vs.length=2)):∃f T F,agG k vs A f T F:=by
 obtain rfl|rfl|⟨rfl,h⟩:=h
 refine⟨0,264,316,sI,λw s=>Oc w s _ 316<|.inr<|.inr<|.inl ⟨rfl,rfl⟩,λw c=>Pp 316 c w rfl,λw a m b _ _=>?_,by simp[Md.keeps],by omega,λ_=>⟨λj d=>?_,I1⟩⟩
 ·simpa[Md.keeps]using Ou w a vs.length m b
 simp only[Md.keeps,if_pos]at d⊢;exact⟨by omega,by simp⟩;refine⟨0,265,322,sJ,λw s=>Od w s _ 322<|.inr<|.inr<|.inl ⟨rfl,rfl⟩,λw c=>Pp 322 c w rfl,λw a m b _ _=>?_,by simp[Md.keeps],by omega,λh=>by simp[Md.keeps]at h⟩;simpa[Md.keeps]using Ov w a vs.length m b;obtain⟨x,y,rfl⟩:∃x y,vs=[x,y]:=by
  match vs,h with
  |[x,y],_=>exact⟨x,y,rfl⟩
 have e:Md.keeps (2,[x,y]) A=if has A x then [y]else []:=by simp[Md.keeps]
 refine⟨1,266,326,agt.cellOf,λw s=>by kernel_rfl,λw c=>Pp 326 c w rfl,λw a m b g i=>?_,?_,.refl,λ_=>⟨λj d=>?_,aeM⟩⟩;rw[e];cases h:has A x
 exact aas w _ b A x [y] g i 1<|.inr ⟨h,rfl⟩;exact aas w _ b A x [y] g i 2<|.inl ⟨h,rfl⟩;rw[e];split<;>simp;rw[e]at d⊢;split at d
 rename_i l;have:j=0:=by simp at d;omega
 subst this;simp[l];simp at d
end Kn
namespace Md
section
variable{o:List HV}{mv:HV->Bool}{more:List HV}{g:GH}
def Xr{v x:HV}:x∈meet o v↔x∈o\/x=v:=by
 unfold meet
 grind
def Xs(o v):∃t,meet o v=o++t:=by
 unfold meet;split
 simp;simp
def Nz(a o v l):visit a o (v::l)=visit a (if a v then meet o v else o) l:=rfl
theorem G2{a:HV->Bool}:∀{l o:List HV} {x:HV},x∈visit a o l↔x∈o\/(x∈l/\a x=ZX)
 |[],o,x=>by simp[visit]
 |v::l,o,x=>by
  rw[Nz,G2];split
  rename_i h;rw[Xr]
  grind
  grind
theorem G3(a:HV->Bool):∀(l o:List HV),∃t,visit a o l=o++t
 |[],o=>⟨[],by simp[visit]⟩
 |v::l,o=>by
  rw[Nz];split
  obtain⟨t,h⟩:=Xs o v;obtain⟨b,c⟩:=G3 a l<|meet o v;exact⟨t++b,by rw[c,h,ZU]⟩;exact G3 a l o
theorem Rx(g:GH)(a:HV->Bool):∀(f k:Nat) (o:List HV),∃t,Dm g a f k o=o++t
 |0,k,o=>⟨[],by simp[Dm]⟩
 |f+1,k,o=>by
  unfold Dm;split
  simp;rename_i v d;obtain⟨t,h⟩:=G3 a (cellAt g v).2 o;obtain⟨c,b⟩:=Rx g a f (k+1)<|visit a o (cellAt g v).2;exact⟨t++c,by rw[b,h,ZU]⟩
def Closed(g:GH)(mv:HV->Bool)(N:List HV):Prop:=∀v∈N,∀x∈(cellAt g v).2,mv x=ZX->x∈N
def NA(g:GH)(mv:HV->Bool)(k:Nat)(o:List HV):Prop:=∀i v,i<k->o[i]?=U v->∀x∈(cellAt g v).2,mv x=ZX->x∈o
def NA.all{k:Nat}(h:NA g mv k o)(b:o.length<=k):Closed g mv o:=λv a=>by obtain⟨i,hi⟩:=ZD.1 a;exact h i v (by grind) hi
theorem NB{g:GH}{a:HV->Bool}(c:uQ a)(hc:jB g):∀(f k:Nat) (o:List HV),c9 g a o->g.new.length+g.old.length<k+f->NA g a k o->Closed g a (Dm g a f k o)
 |0,k,o,ho,hf,h=>h.all (by have:=ho.len;omega)
 |f+1,k,o,ho,hf,h=>by
  unfold Dm;split
  rename_i n;exact h.all<|List.getElem?_eq_none_iff.1 n;rename_i v d;obtain⟨t,l⟩:=G3 a (cellAt g v).2 o;refine NB c hc f (k+1) _ (ho.round c hc d) (by omega) λi u hi j x m b=>?_;have p:=(ξ.1 d).1;rw[l,ZW<|by omega]at j;rw[G2];by_cases e:i=k
  grind
  exact .inl<|h i u (by omega) j x m b
def Jw{v:HV}(h:v∈cJ g\/v∈more)(b:mv v=ZX):v∈bV g mv more:=by
 obtain⟨t,a⟩:=Rx g mv (g.new.length+g.old.length+1) 0<|visit mv (visit mv []<|cJ g) more;unfold bV;rw[a];refine Γ _ ?_;rw[G2,G2]
 grind
def NC(b:uQ mv)(hc:jB g)(hs:∀v∈cJ g,zI g v)(c:∀v∈more,zI g v):Closed g mv (bV g mv more):=NB b hc _ _ _ (((c9.nil g mv).visit λv a d=>hs v a<|b.cell d).visit λv a d=>c v a<|b.cell d) (by omega) λi v hi=>absurd hi<|Nat.not_lt_zero _
def Kv{M:HV->Prop}{l:List HV}(c:∀v∈o,M v)(b:∀v∈l,mv v=ZX->M v):∀v∈visit mv o l,M v:=λv a=>(G2.1 a).elim (c v) λh=>b v h.1 h.2
theorem PR{g:GH}{b:HV->Bool}{M:HV->Prop}(a:∀v,M v->∀x∈(cellAt g v).2,b x=ZX->M x):∀(f k:Nat) (o:List HV),(∀v∈o,M v) ->∀v∈Dm g b f k o,M v
 |0,k,o,h=>h
 |f+1,k,o,h=>by
  unfold Dm;split
  exact h;rename_i v c;exact PR a f (k+1) _<|Kv h<|a v<|h v<|Δ c
def PA{M:HV->Prop}(b:∀v,M v->∀x∈(cellAt g v).2,mv x=ZX->M x)(hs:∀v∈cJ g,mv v=ZX->M v)(a:∀v∈more,mv v=ZX->M v):∀v∈bV g mv more,M v:=PR b _ _ _ (Kv (Kv (λv c=>by cases c) hs) a)
end
section
def iZ(o:List Int)(l:List HV):List Int:=l.foldl (λo v=>if v.1=1 then ml o v.2 else o) o
def cellP(h:PH)(n:Int):HC:=h.cells.getD n.toNat (0,[])
def J9(h:PH):Nat->Nat->List Int->List Int
 |0,_,o=>o
 |f+1,k,o=>match o[k]? with
  |none=>o
  |some n=>J9 h f (k+1)<|iZ o (cellP h n).2
def tt(n:Int):HV:=(1,n)
def G4(h:PH):List HV:=h.roots++h.done.map tt++h.aA.map tt
def fd(h:PH):List Int:=J9 h (h.cells.length+1) 0<|iZ []<|G4 h
def yA(N:List Int)(v:HV):HV:=if v.1=1 then(1,((N.idxOf v.2:Nat):Int))else v
def oZ(N:List Int)(n:Int):Int:=((N.idxOf n:Nat):Int)
def normal(h:PH):PH:=⟨(fd h).map λn=>((cellP h n).1,(cellP h n).2.map<|yA<|fd h),h.roots.map<|yA<|fd h,h.aA.map<|oZ<|fd h,h.done.map<|oZ<|fd h⟩
def v7(o v l):iZ o (v::l)=iZ (if v.1=1 then ml o v.2 else o) l:=rfl
def ND{l n x}:x∈ml l n↔x∈l\/x=n:=by
 unfold ml
 grind
def QB{l n}(h:l.Nodup):(ml l n).Nodup:=by
 unfold ml
 grind
structure Ren(h h':PH)(p:Int->Int)(N:Int->Prop):Prop where
 lF:∀n,N n->0<=n/\n<h.cells.length/\0<=p n/\p n<h'.cells.length
 inj:∀n m,N n->N m->p n=p m->n=m
 cell:∀n,N n->cellP h' (p n)=((cellP h n).1,(cellP h n).2.map λv=>if v.1=1 then(1,p v.2)else v)
 eT:∀n,N n->∀v∈(cellP h n).2,v.1=1->N v.2
 roots:h'.roots=h.roots.map λv=>if v.1=1 then(1,p v.2)else v
 QD:∀v∈h.roots,v.1=1->N v.2
 aA:h'.aA=h.aA.map p
 Ko:∀n∈h.aA,N n
 done:h'.done=h.done.map p
 Pq:∀n∈h.done,N n
section
variable{h h':PH}{p:Int->Int}{N:Int->Prop}
def G5{l}:∀{o},(∀x∈o,N x) ->(∀v∈l,v.1=1->N v.2) ->∀x∈iZ o l,N x:=by
 induction l with
 |nil=>exactλa _=>a
 |cons v l d=>
  intro o a b;rw[v7];refine d ?_ λw hw=>b w<|Ξ _ hw;split
  rename_i c
  exactλx f=>(ND.1 f).elim (a x) λe=>e▸b v φ c
  omega
theorem qD:∀(l:List HV) {o:List Int},o.Nodup->(iZ o l).Nodup
 |[],o,h=>h
 |v::l,o,h=>by
  rw[v7];refine qD l ?_;split
  exact QB h;exact h
def Q6(h:∀n,N n->0<=p n/\p n<(h'.cells.length:Int))(hi:∀n m,N n->N m->p n=p m->n=m){o:List Int}(f:∀x∈o,N x)(d:o.Nodup):o.length<=h'.cells.length:=by
 have:=pR h'.cells.length (o.map λn=>(p n).toNat) ?_ ?_
 grind
 rw[Zt,ZK];refine d.imp_of_mem λ{a b} g hb c e=>c ?_
 grind
 grind
end
end
section
def aaM(v:HV):Prop:=(v.1=0/\-99<=v.2/\v.2<=99)\/(v.1=2/\v.2=0)
def ta(g:GH)(v:HV):Prop:=aaM v\/zH g v
def RJ(g:GH)(c:HC):Prop:=((c.1=0/\c.2.length<=4)\/(c.1=1/\c.2.length=1)\/(c.1=2/\c.2.length=2))/\∀v∈c.2,ta g v
structure Oi(g:GH)(l:List HV):Prop where
 nodup:l.Nodup
 cells:∀v∈l,zH g v
 wW:l.length<=40
structure VG(g:GH):Prop where
 cells:∀c∈g.new++g.old,RJ g c
 news:g.new.length<=8
 bw:g.old.length<=32
 four:g.roots.length=4
 roots:∀v∈g.roots,ta g v
 aA:Oi g g.aA
 done:Oi g g.done
 marks:∀n∈g.marked,0<=n/\n<g.old.length
 order:g.marked.Pairwise (·<·)
 ju:∀(i:Nat) c,g.old[i]?=U c->jW c=ZX->(i:Int)∈g.marked
def zH.cell{g v}(h:zH g v):co v=ZX:=by unfold co;obtain h|h:=h<;>simp[h.1]
def ta.VQ{g v}(h:ta g v):zI g v:=by
 intro hc;obtain h|h:=h
 unfold co at hc;simp at hc;obtain h|h:=h<;>omega
 exact h
def VG.Kx{g}(h:VG g):jB g:=λc hc v a=>((h.cells c hc).2 v a).VQ
def VG.JZ{g}(h:VG g):∀v∈cJ g,ta g v:=by
 intro v a;obtain a|a:=μ.1 a
 ·obtain a|a:=μ.1 a
  ·exact h.roots v a
  ·exact .inr<|h.done.cells v a
 exact .inr<|h.aA.cells v a
def VG.By{g}(h:VG g):g.marked.length<=32:=by
 have:=pR g.old.length (g.marked.map Int.toNat) ?_ ?_;have:=h.bw
 grind
 rw[Zt,ZK];refine h.order.imp_of_mem λ{a b} c hb d e=>?_;have:=h.marks a c;omega;intro x f;obtain⟨n,i,rfl⟩:=κ.1 f;have:=h.marks n i;omega
section
variable{g:GH}(h:VG g)
include h
end
def kg{N o v}(h:v∉N):lr N o v=v:=by simp[lr,h]
def E4{N o v}(h:v∈N):lr N o v=(4,o+(N.idxOf v:Nat)):=by simp[lr,h]
def P1{a:Type}[BEq a][LawfulBEq a]{N:List a}{v}(h:v∈N):N.idxOf v<N.length:=List.idxOf_lt_length_of_mem h
def aaN{N:List HV}{v u}(a:v∈N)(b:u∈N)(e:N.idxOf v=N.idxOf u):v=u:=by
 rw[<-(Zs<|P1 a),<-(Zs<|P1 b)]
 congr 1
def Ki{d g:Type}{f:d->g}{l:List d}(i:l.Nodup)(hi:∀a∈l,∀b∈l,f a=f b->a=b):(l.map f).Nodup:=by rw[Zt,ZK];exact i.imp_of_mem λ{a b} h hb c e=>c<|hi a h b hb e
section
variable{g:GH}(h:VG g)
include h
omit h in
end
end
section
def J2{g v}(h:zH g v):cellP (plain g) (cp g.old.length v).2=Bz g.old.length (cellAt g v):=by
 unfold cellP plain cellAt cp;obtain⟨a,c,h3⟩|⟨a,c,h3⟩:=h
 grind
 have b:v.2.toNat<g.old.length:=by omega
 simp[a];rw[ZW (by simpa using b)];simp[b]
def G7(g):(plain g).cells.length=g.old.length+g.new.length:=by simp[plain]
section
variable{g:GH}(h:VG g)
include h
omit h in
def OO{u v}(k:zH g u)(j:zH g v)(e:(cp g.old.length u).2=(cp g.old.length v).2):u=v:=by unfold cp at e;obtain⟨a,b⟩:=u;obtain⟨c,d⟩:=v;obtain⟨f,i,h3⟩|⟨f,i,h3⟩:=k<;>obtain⟨h4,h5,h⟩|⟨h4,h5,h⟩:=j<;>dsimp only at f i h3 h4 h5 h<;>subst f<;>subst h4<;>simp at e⊢<;>omega
omit h in
omit h in
end
end
section
structure WG(g:GH):Prop where
 cells:∀c∈g.new++g.old,∀v∈c.2,ta g v
 roots:∀v∈g.roots,ta g v
 aA:∀v∈g.aA,zH g v
 done:∀v∈g.done,zH g v
def VG.wg{g}(h:VG g):WG g:=⟨λc hc=>(h.cells c hc).2,h.roots,h.aA.cells,h.done.cells⟩
def pn(g:GH)(v:HV):Int:=(cp g.old.length v).2
def aq(g:GH):List HV:=bV g co []
def Al(g:GH):GH:=move g (aq g) 0
def k7{g v}(h:zH g v):cp g.old.length v=(1,pn g v):=by unfold pn cp;obtain h|h:=h<;>simp[h.1]
def EB{o v}(h:aaM v):cp o v=v/\v.1≠1/\co v=θ:=by
 have h3:v.1≠3/\v.1≠4/\v.1≠1:=by obtain h|h:=h<;>omega
 simp[cp,co,h3]
def aaM.aax{g v}(h:aaM v):¬zH g v:=λhi=>by obtain h|h:=h<;>obtain hi|hi:=hi<;>omega
section
variable{g:GH}
theorem WG.cJ(h:WG g):∀v∈cJ g,ta g v:=by
 intro v a;obtain a|a:=μ.1 a
 ·obtain a|a:=μ.1 a
  ·exact h.roots v a
  ·exact .inr<|h.done v a
 exact .inr<|h.aA v a
def WG.VQ(h:WG g):jB g:=λc hc v a=>(h.cells c hc v a).VQ
def Qr(h:WG g):c9 g co (aq g):=c9.bV (.inr rfl) h.VQ (λv a=>(h.cJ v a).VQ) λv a=>by cases a
def l7(h:WG g){v}(a:v∈aq g):zH g v:=((Qr h).ok v a).1
def Qn(h:WG g):Closed g co (aq g):=NC (.inr rfl) h.VQ (λv a=>(h.cJ v a).VQ) λv a=>by cases a
def bp{v}(a:v∈Md.cJ g)(hc:co v=ZX):v∈aq g:=Jw (.inl a) hc
def oX(h:WG g){u v}(b:u∈aq g)(a:v∈(cellAt g u).2):ta g v/\(zH g v->v∈aq g):=⟨h.cells _ (j9<|l7 h b) v a,λhi=>Qn h u b v a hi.cell⟩
def afD{o v}(c:∀x∈o,zH g x)(b:zH g v):ml (o.map<|pn g) (pn g v)=(meet o v).map (pn g):=by
 have e:(o.map<|pn g).contains (pn g v)=o.contains v:=by rw[Bool.eq_iff_iff,Z3,Z3,κ];exact⟨λ⟨x,a,e⟩=>OO (c x a) b e▸a,λa=>⟨v,a,rfl⟩⟩
 unfold ml meet;rw[e];split<;>simp
theorem Kp:∀(l o:List HV),(∀x∈o,zH g x) ->(∀v∈l,ta g v) ->iZ (o.map<|pn g) (l.map<|cp g.old.length)=(visit co o l).map (pn g)/\∀x∈visit co o l,zH g x
 |[],o,ho,_=>⟨rfl,ho⟩
 |v::l,o,ho,hl=>by
  rw[Ze,v7,Nz];obtain a|a:=hl v φ
  obtain⟨e1,e2,e3⟩:=EB (o:=g.old.length) a;rw[e1,if_neg e2,e3];exact Kp l o ho λw hw=>hl w<|Ξ _ hw;rw[k7 a,if_pos rfl,a.cell,if_pos rfl,afD ho a];exact Kp l _ (λx b=>(Xr.1 b).elim (ho x) λe=>e▸a) λw hw=>hl w<|Ξ _ hw
theorem aaI(h:WG g):∀(f k:Nat) (o:List HV),(∀x∈o,zH g x) ->J9 (plain g) f k (o.map<|pn g)=(Dm g co f k o).map (pn g)
 |0,k,o,ho=>rfl
 |f+1,k,o,ho=>by
  unfold J9 Dm;rw[List.getElem?_map];cases hk:o[k]? with
  |none=>rfl
  |some v=>have a:=ho v<|Δ hk;obtain⟨e,b⟩:=Kp (cellAt g v).2 o ho<|h.cells _<|j9 a;show J9 (plain g) f (k+1) (iZ (o.map<|pn g) (cellP (plain g)<|pn g v).2)=_;rw[show cellP (plain g) (pn g v)=_ from J2 a];show J9 (plain g) f (k+1) (iZ (o.map<|pn g)<|(cellAt g v).2.map<|cp g.old.length)=_;rw[e];exact aaI h f (k+1) _ b
def Xd(h:WG g):G4 (plain g)=(Md.cJ g).map (cp g.old.length):=by
 have e:∀l:List HV,(∀v∈l,zH g v) ->(((l.map<|cp g.old.length).map (·.2)).map tt)=l.map (cp g.old.length):=λl b=>by rw[η,η];exact Z1 λv a=>by rw[k7 (b v a)];simp[k7 (b v a),tt]
 unfold G4 Md.cJ;rw[ι,ι,<-e g.done h.done,<-e g.aA h.aA];rfl
def PP(h:WG g):fd (plain g)=(aq g).map (pn g):=by unfold fd;obtain⟨e,b⟩:=Kp (Md.cJ g) [] (λx a=>by cases a) h.cJ;rw[Xd h,show iZ [] _=_ from e,aaI h _ _ _ b,G7,Nat.add_comm g.old.length];rfl
theorem PS{a b:Type}[BEq a][LawfulBEq a][BEq b][LawfulBEq b]{f:a->b}{v:a}:∀{l:List a},(∀x∈l,f x=f v->x=v) ->(l.map f).idxOf (f v)=l.idxOf v
 |[],_=>rfl
 |x::l,hi=>by
  rw[Ze,Zi,Zi,PS λy c=>hi y<|Ξ _ c];by_cases e:x=v
  subst e;simp;have:¬f x=f v:=λh=>e<|hi x φ h;rw[beq_false_of_ne e,beq_false_of_ne this]
def Ry(h:WG g){o' v}(a:ta g v)(c:zH g v->v∈aq g):cp o' (lr (aq g) 0 v)=yA (fd<|plain g) (cp g.old.length v):=by
 obtain a|a:=a
 have d:v∉aq g:=λb=>a.aax<|l7 h b;obtain⟨e1,e2,_⟩:=EB (o:=g.old.length) a;rw[kg d,e1,(EB a).1];simp[yA,e2];rw[E4 (c a),k7 a,PP h];unfold yA;rw[if_pos rfl];dsimp only;rw[PS (f:=pn g) λx b e=>OO (l7 h b) a e];simp[cp]
def P2(h:WG g){o'}{l:List HV}(b:∀v∈l,zH g v)(hs:∀v∈l,v∈Md.cJ g):((l.map<|lr (aq g) 0).map<|cp o').map (·.2)=((l.map<|cp g.old.length).map (·.2)).map (oZ<|fd<|plain g):=by simp only[η];refine Z1 λv a=>?_;have:=Ry h (o':=o') (.inr<|b v a) λhi=>bp (hs v a) hi.cell;show(cp o'<|lr (aq g) 0 v).2=oZ _ (cp _ v).2;rw[this,k7<|b v a];rfl
def wL(h:WG g):plain (Al g)=normal (plain g):=by
 have b:∀v∈Md.cJ g,ta g v/\(zH g v->v∈aq g):=λv a=>⟨h.cJ v a,λhi=>bp a hi.cell⟩;unfold normal;rw[show plain (Al g)=⟨_,_,_,_⟩from rfl,PH.mk.injEq];refine⟨?_,?_,P2 h h.aA λv a=>ζ _ a,P2 h h.done λv a=>Γ _<|ζ _ a⟩;show((((g.old.take 0++(aq g).map (cellAt g)).map<|B6 (aq g) 0)++[]).map _)=_;rw[ZF,ZI,Zh,PP h,η,η,η];refine Z1 λv a=>?_;show Bz _ (B6 (aq g) 0<|cellAt g v)=(_,_);have e:cellP (plain g) (pn g v)=_:=J2<|l7 h a;rw[e];unfold Bz B6;dsimp only;rw[η,η];exact congrArg (Prod.mk _) (Z1 λx c=>by have:=oX h a c;rw[<-PP h];exact Ry h this.1 this.2)
 show((g.roots.map _).map _)=(g.roots.map _).map _;rw[η,η];exact Z1 λv a=>Ry h (h.roots v a) λhi=>bp (Γ _<|Γ _ a) hi.cell
def Ct:(Al g).old.length=(aq g).length:=by simp[Al,move]
def Am(h:WG g){v}(a:ta g v)(b:zH g v->v∈aq g):ta (Al g) (lr (aq g) 0 v)/\(zH g v->zH (Al g) (lr (aq g) 0 v)):=by
 obtain a|a:=a
 rw[kg λc=>a.aax<|l7 h c];exact⟨.inl a,λhi=>absurd hi a.aax⟩;have:=P1<|b a;rw[E4 (b a)];have:zH (Al g) (4,(0:Int)+((aq g).idxOf v:Nat)):=.inr ⟨rfl,by dsimp only;omega,by rw[Ct];dsimp only;omega⟩;exact⟨.inr this,λ_=>this⟩
def y8(h:WG g):WG (Al g) where
 cells:=λc hc v b=>by
  have hc:c∈((aq g).map<|cellAt g).map (B6 (aq g) 0):=by simpa[Al,move]using hc
  obtain⟨d,hd,rfl⟩:=κ.1 hc;obtain⟨u,e,rfl⟩:=κ.1 hd;obtain⟨x,a,rfl⟩:=κ.1 b;exact(Am h (oX h e a).1 (oX h e a).2).1
 roots:=λv b=>by obtain⟨x,a,rfl⟩:=κ.1 b;exact(Am h (h.roots x a) λhi=>bp (Γ _<|Γ _ a) hi.cell).1
 aA:=λv b=>by obtain⟨x,a,rfl⟩:=κ.1 b;exact(Am h (.inr<|h.aA x a) λhi=>bp (ζ _ a) hi.cell).2<|h.aA x a
 done:=λv b=>by obtain⟨x,a,rfl⟩:=κ.1 b;exact(Am h (.inr<|h.done x a) λhi=>bp (Γ _<|ζ _ a) hi.cell).2<|h.done x a
end
end
def BJ(h:PH)(n:Int):Prop:=0<=n/\n<h.cells.length
structure WP(h:PH):Prop where
 shape:∀c∈h.cells,c.1=0\/(c.1=1/\c.2.length=1)\/(c.1=2/\c.2.length=2)\/c.2=[]
 cells:∀c∈h.cells,∀v∈c.2,v.1=1->BJ h v.2
 roots:∀v∈h.roots,v.1=1->BJ h v.2
 aA:∀n∈h.aA,BJ h n
 done:∀n∈h.done,BJ h n
def wK{h n}(a:BJ h n):cellP h n∈h.cells:=by have:=a.1;have:=a.2;unfold cellP;rw[List.getD,List.getElem?_eq_getElem<|by omega];exact List.getElem_mem _
structure kc(h:PH)(A B:List Int):Prop where
 VX:∀v∈VX h,v.2∈B
 keeps:∀n∈B,∀v∈keeps (cellP h n) A,v.1=1->v.2∈B
def Qu{A B}(hs:∀n∈A,n∈B){v}(h:has A v=ZX):has B v=ZX:=by unfold has at h⊢;simp at h⊢;exact h.imp_right<|hs _
def sb{c A B}(hs:∀n∈A,n∈B){v}(h:v∈keeps c A):v∈keeps c B:=by
 unfold Md.keeps at h⊢;split
 rename_i h0;rwa[if_pos h0]at h;rename_i h0;rw[if_neg h0]at h;split
 rename_i a;rw[if_pos a]at h;split at h
 rename_i b;rwa[if_pos (Qu hs b)];cases h
 rename_i a;rwa[if_neg a]at h
def C5{c A v}(h:v∈keeps c A)(a:v.1=1):v∈c.2:=by
 unfold Md.keeps at h;split at h
 exact h;split at h
 ·split at h
  ·have:=ZM.1 h;subst this;rw[List.getD]at a⊢;cases e:c.2[1]? with
   |none=>rw[e]at a;simp at a
   |some x=>exact Δ e
  cases h
 cases h
def eB:∀l q met,∃t,Dn l q met=(q++t,met++t)/\(∀v∈l,v.1=1->v.2∈met++t)/\(∀x∈t,∃v∈l,v.1=1/\v.2=x)/\(met.Nodup->(met++t).Nodup)
 |[],q,met=>⟨[],by simp[Dn],by simp,by simp,by simp⟩
 |v::l,q,met=>by
  by_cases j:v.1=1
  by_cases k:met.contains v.2=ZX
  ·obtain⟨t,e,a,b,c⟩:=eB l q met;have f:=Z3.1 k;refine⟨t,?_,?_,λx g=>?_,c⟩;rw[<-e];simp[Dn,j,f];intro u d i;obtain rfl|d:=ZT.1 d
   exact Γ _ f;exact a u d i;obtain⟨u,d,r⟩:=b x g;exact⟨u,Ξ _ d,r⟩
  obtain⟨t,e,a,b,c⟩:=eB l (q++[v.2])<|met++[v.2];have f:v.2∉met:=λh=>k<|Z3.2 h;refine⟨v.2::t,?_,?_,λx g=>?_,λn=>?_⟩;rw[show q++v.2::t=(q++[v.2])++t by simp,show met++v.2::t=(met++[v.2])++t by simp,<-e];simp[Dn,j,f];intro u d i;obtain rfl|d:=ZT.1 d
  simp;have:=a u d i;simpa using this;obtain rfl|g:=ZT.1 g
  ·exact⟨v,φ,j,rfl⟩
  obtain⟨u,d,r⟩:=b x g;exact⟨u,Ξ _ d,r⟩;have:=c (by rw[List.nodup_append];exact⟨n,by simp,λx g y m=>by simp at m;subst m;rintro rfl;exact f g⟩);simpa using this;obtain⟨t,e,a,b,c⟩:=eB l q met;refine⟨t,?_,?_,λx g=>?_,c⟩;rw[<-e];simp[Dn,j];intro u d i;obtain rfl|d:=ZT.1 d
  exact absurd i j;exact a u d i;obtain⟨u,d,r⟩:=b x g;exact⟨u,Ξ _ d,r⟩
def Kb{h}{l:List Int}(a:l.Nodup)(b:∀n∈l,BJ h n):l.length<=h.cells.length:=Q6 (h':=h) (p:=id) (N:=BJ h) (λn a=>⟨a.1,a.2⟩) (λ_ _ _ _ e=>e) b a
def Qv{h}(hw:WP h)(A):∀f b q met alive,met=b++q->met.Nodup->(∀n∈met,BJ h n) ->(∀n∈b,n∈alive) ->(∀n∈A,n∈alive) ->(∀n∈alive,n∈A\/n∈b) ->
 (∀n∈b,∀v∈keeps (cellP h n) A,v.1=1->v.2∈met) ->f+b.length=h.cells.length+1->alive.Nodup->
 ∃P:List Int,(∀n∈met,n∈P)/\(∀n∈P,BJ h n)/\(∀n∈P,∀v∈keeps (cellP h n) A,v.1=1->v.2∈P)/\(∀n,n∈zk h f q met alive↔n∈A\/n∈P)/\(zk h f q met alive).Nodup
 |0,b,q,met,alive,e,hn,hr,hpa,hA,ha,hk,hf,had=>by have:=Kb hn hr;rw[e]at this;simp at this;omega
 |f+1,b,q,met,alive,e,hn,hr,hpa,hA,ha,hk,hf,had=>by
  obtain _|⟨n,q⟩:=q
  rw[Zh]at e;subst e;exact⟨met,λ_ h=>h,hr,hk,λn=>⟨ha n,λh=>h.elim (hA n)<|hpa n⟩,had⟩;unfold zk;dsimp only;have i:=hr n (by rw[e];simp);obtain⟨t,e1,a1,m,c1⟩:=eB (keeps (h.cells.getD n.toNat (0,[]))<|ml alive n) q met;rw[e1];dsimp only;have c:∀x∈alive,x∈ml alive n:=λx a=>ND.2<|.inl a;have q1:∀x∈met++t,BJ h x:=λx a=>by
   obtain a|a:=μ.1 a
   exact hr x a;obtain⟨v,g,d,rfl⟩:=m x a;exact hw.cells _ (wK i) v (C5 g d) d
  have w:∀x∈b++[n],x∈ml alive n:=λx a=>by
   obtain a|a:=μ.1 a
   exact c x<|hpa x a;exact ND.2<|.inr<|ZM.1 a
  have p:∀x∈ml alive n,x∈A\/x∈b++[n]:=λx a=>by
   obtain a|rfl:=ND.1 a
   exact(ha x a).imp_right λa=>Γ _ a;exact .inr (by simp)
  have s:∀x∈b++[n],∀v∈keeps (cellP h x) A,v.1=1->v.2∈met++t:=λx a v g d=>by
   obtain a|a:=μ.1 a
   exact Γ _<|hk x a v g d;rw[ZM.1 a]at g;exact a1 v (sb (λy u=>c y<|hA y u) g) d
  obtain⟨P,r,o,j,l,k⟩:=Qv hw A f (b++[n]) (q++t) (met++t) (ml alive n) (by rw[e];simp) (c1 hn) q1 w (λx a=>c x<|hA x a) p s (by simp;omega)<|QB had;exact⟨P,λx a=>r x<|Γ _ a,o,j,l,k⟩
def E0{h}(hw:WP h):∀v∈VX h,v.1=1/\BJ h v.2:=λv a=>by
 obtain a|a:=μ.1 a
 obtain⟨c,b⟩:=List.mem_filter.1 a;have b:v.1=1:=by simpa using b
 exact⟨b,hw.roots v c b⟩
 ·obtain⟨n,d,rfl⟩:=κ.1 a;exact⟨rfl,hw.done n d⟩
def NI{h}(hw:WP h){A}(j:A.Nodup):∃P,kc h A P/\(∀n∈P,BJ h n)/\(∀n,n∈BA h A↔n∈A\/n∈P)/\(BA h A).Nodup:=by
 unfold BA;obtain⟨t,e1,a1,g,c1⟩:=eB (VX h) [] [];rw[e1];dsimp only;obtain⟨P,f,i,c,e,d⟩:=Qv hw A (h.cells.length+1) [] ([]++t) ([]++t) A (by simp) (c1 Z2) (λx a=>by obtain⟨v,b,k,rfl⟩:=g x (by simpa using a);exact(E0 hw v b).2) (λx a=>by cases a) (λx a=>a) (λx a=>.inl a) (λx a=>by cases a) (by simp) j
 exact⟨P,⟨λv b=>f _<|a1 v b (E0 hw v b).1,c⟩,i,e,d⟩
def P3{h A B}(c:kc h A B):∀f q met alive,(∀n∈q,n∈B) ->(∀n∈zk h f q met alive,n∈A) ->(∀n∈alive,n∈B) ->∀n∈zk h f q met alive,n∈B
 |0,q,met,alive,hq,hr,ha=>ha
 |f+1,q,met,alive,hq,hr,ha=>by
  obtain _|⟨n,q⟩:=q
  exact ha;unfold zk at hr⊢;dsimp only at hr⊢;obtain⟨t,e1,a1,d,c1⟩:=eB (keeps (h.cells.getD n.toNat (0,[]))<|ml alive n) q met;rw[e1]at hr⊢;dsimp only at hr⊢;have b:∀x∈ml alive n,x∈A:=λx a=>hr x<|aaK h f _ _ _ x a;refine P3 c f (q++t) (met++t) (ml alive n) (λx a=>?_) hr λx a=>?_;obtain a|a:=μ.1 a
  ·exact hq x<|Ξ _ a
  obtain⟨v,e,g,rfl⟩:=d x a;exact c.keeps n (hq n φ) v (sb b e) g;obtain a|rfl:=ND.1 a
  ·exact ha x a
  exact hq x φ
where aaK (h:PH):∀(f:Nat) (q met alive:List Int),∀n∈alive,n∈zk h f q met alive
 |0,q,met,alive,n,hn=>hn
 |f+1,q,met,alive,n,hn=>by
  cases q with
  |nil=>exact hn
  |cons m q=>unfold zk;dsimp only;exact aaK h f _ _ _ n (ND.2 (.inl hn))
def Qx{h A b B}(a:kc h b B)(e:∀n∈A,n∈B)(h':∀n∈BA h A,n∈b):∀n∈BA h A,n∈B:=by unfold BA at h'⊢;obtain⟨t,e1,a1,c,c1⟩:=eB (VX h) [] [];rw[e1]at h'⊢;dsimp only at h'⊢;refine P3 a _ _ _ _ (λn f=>?_) h' e;obtain⟨v,d,g,rfl⟩:=c n (by simpa using f);exact a.VX v d
def aaX{h B}(c:kc h B B):∀f q met alive,(∀n∈q,n∈B) ->(∀n∈alive,n∈B) ->∀n∈zk h f q met alive,n∈B
 |0,q,met,alive,hq,ha=>ha
 |f+1,q,met,alive,hq,ha=>by
  obtain _|⟨n,q⟩:=q
  exact ha;unfold zk;dsimp only;obtain⟨t,e1,a1,d,c1⟩:=eB (keeps (h.cells.getD n.toNat (0,[]))<|ml alive n) q met;rw[e1];have b:∀x∈ml alive n,x∈B:=λx a=>(ND.1 a).elim (ha x) λe=>e▸hq n φ;refine aaX c f (q++t) (met++t) (ml alive n) (λx a=>?_) b;obtain a|a:=μ.1 a
  exact hq x<|Ξ _ a;obtain⟨v,g,i,rfl⟩:=d x a;exact c.keeps n (hq n φ) v (sb b g) i
def adS{h A B}(a:kc h B B)(d:∀n∈A,n∈B):∀n∈BA h A,n∈B:=by unfold BA;obtain⟨t,e1,a1,b,c1⟩:=eB (VX h) [] [];rw[e1];refine aaX a _ _ _ _ (λn e=>?_) d;obtain⟨v,c,f,rfl⟩:=b n (by simpa using e);exact a.VX v c
def aaY:∀{l m:List Int},l.Nodup->(∀x∈l,x∈m) ->m.Nodup->m.length<=l.length->∀x∈m,x∈l
 |[],m,_,_,_,hl,x,hx=>by cases m with|nil=>cases hx|cons=>simp at hl
 |a::l,m,b,hs,hm,hl,x,hx=>by
  have b:=ZH.1 b;by_cases e:x=a
  subst e;exact φ;have d:=hs a φ;refine Ξ _<|aaY (m:=m.erase a) b.2 (λy c=>(Zz (by rintro rfl;exact b.1 c)).2<|hs y<|Ξ _ c) (hm.erase a) ?_ x<|(Zz e).2 hx;rw[List.length_erase_of_mem d];simp at hl;omega
def Qz{h}(hw:WP h):∀f A,A.Nodup->(∀n∈A,BJ h n) ->(∀B,kc h A B->∀n∈A,n∈B) ->h.cells.length<f+A.length->
 ∃a,a=zl h f A/\kc h a a/\(∀n∈a,BJ h n)/\a.Nodup/\∀B,kc h B B->(∀n∈A,n∈B) ->∀n∈a,n∈B
 |0,A,hA,hr,hi,hf=>by have:=Kb hA hr;omega
 |f+1,A,hA,hr,hi,hf=>by
  obtain⟨P,s,u,t,m⟩:=NI hw hA;have p:=hi P s;have d:∀n,n∈BA h A↔n∈P:=λn=>(t n).trans ⟨λh=>h.elim (p n) id,.inr⟩;have l:∀n∈A,n∈BA h A:=λn c=>(t n).2<|.inl c;have i:∀n∈BA h A,BJ h n:=λn c=>u n<|(d n).1 c;unfold zl;dsimp only;split
  rename_i o;have q:∀B,kc h (BA h A) B->∀n∈BA h A,n∈B:=λB g=>by have b:∀n∈A,n∈B:=hi B ⟨g.VX,λn c v k r=>g.keeps n c v (sb l k) r⟩;exact Qx g b λn c=>c
  obtain⟨a,e,r1,r2,r3,r4⟩:=Qz hw f (BA h A) m i q (by omega);refine⟨a,e,r1,r2,r3,λB g b=>r4 B g ?_⟩;exact adS g b;rename_i o;have j:=aaY hA l m (by omega);refine⟨_,rfl,⟨λv k=>(d _).2<|s.VX v k,λn c v k r=>(d _).2<|s.keeps n ((d n).1 c) v (sb j k) r⟩,i,m,λB g b n c=>b n<|j n c⟩
def pO{h}(hw:WP h):kc h (alive h) (alive h)/\(∀n∈alive h,BJ h n)/\(alive h).Nodup/\∀B,kc h B B->∀n∈alive h,n∈B:=by obtain⟨a,e,r1,r2,r3,r4⟩:=Qz hw (h.cells.length+1) [] Z2 (λn b=>by cases b) (λB _ n b=>by cases b) (by simp);rw[show alive h=a from e.symm];exact⟨r1,r2,r3,λB c=>r4 B c λn b=>by cases b⟩
end Md
namespace Kn
open Go Go.RowKit Go.Shelf Md
section
def qv(l:List Int)(x:List Int×List Int):List Int×List Int:=l.foldl iG x
def dJ(l:List HV)(x:List Int×List Int):List Int×List Int:=qv (refsOf l) x
structure Sr where
 q:List Int
 met:List Int
 al:List Int
def zW(h:PH)(x:Sr):Sr:=
 match x.q with
 |[]=>x
 |n::q=>
  let al:=ml x.al n
  let y:=dJ (keeps (cellP h n) al) (q,x.met)
  ⟨y.1,y.2,al⟩
def dP(h:PH):Nat->Sr->Sr
 |0,x=>x
 |k+1,x=>zW h<|dP h k x
def gD(h:PH)(al:List Int):Sr:=⟨(qv (n' h) ([],[])).1,(qv (n' h) ([],[])).2,al⟩
def Wt(h:PH)(N:Nat)(al:List Int):List Int:=(dP h N<|gD h al).al
def jE(h:PH)(N:Nat):Nat->List Int
 |0=>[]
 |r+1=>Wt h N<|jE h N r
structure lZ(h:PH)(N R:Nat):Prop where
 fin:∀r,r<=R->(dP h N (gD h (jE h N r))).q=[]
 refs:∀r,r<=R->∀k,k<=N->∀n∈(dP h k (gD h (jE h N r))).q,0<=n/\n<h.cells.length
 short:∀r,r<=R->∀k,k<=N->(dP h k (gD h (jE h N r))).q.length<=1000
 grow:∀r,r<R->(jE h N r).length<(jE h N (r+1)).length
 stop:¬(jE h N R).length<(jE h N (R+1)).length
 sM:(n' h).length<=1000
 pos:∀v∈h.roots,v.1=1->0<=v.2
 ahH:∀n∈h.done,0<=n
 Wu:∀c∈h.cells,∀v∈c.2,v.1=1->0<=v.2
 kinds:∀c∈h.cells,c.1=0\/c.1=1\/(c.1=2/\c.2.length=2)
 wW:∀c∈h.cells,c.2.length<=1000
def sN(l n x):qv (l++[n]) x=iG (qv l x) n:=by simp[qv]
def adT(x n):(iG x n).1.length<=x.1.length+1:=by unfold iG;split<;>simp
theorem pt:∀(l:List Int) (x:List Int×List Int),(qv l x).1.length<=x.1.length+l.length
 |[],x=>by simp[qv]
 |n::l,x=>by
  have a:=pt l<|iG x n;have b:=adT x n;show(qv l<|iG x n).1.length<=_
  grind
theorem sO{h:PH}{x:Sr}{k:Nat}(b:(dP h k x).q=[]):∀N,k<=N->dP h N x=dP h k x
 |0,hk=>by grind
 |N+1,hk=>by
  obtain a|a:=Nat.lt_or_ge N k
  grind
  have c:=sO b N a;show zW h (dP h N x)=_;rw[c];unfold zW;rw[b]
def BS{h x k n q}(a:(dP h k x).q=n::q):dP h (k+1) x=⟨(dJ (keeps (cellP h n)<|ml (dP h k x).al n) (q,(dP h k x).met)).1,(dJ (keeps (cellP h n)<|ml (dP h k x).al n) (q,(dP h k x).met)).2,ml (dP h k x).al n⟩:=by show zW h (dP h k x)=_;unfold zW;rw[a]
def zX(l v x):dJ (l++[v]) x=if v.1=1 then iG (dJ l x) v.2 else dJ l x:=by
 unfold dJ;rw[lB];split
 rw[sN];rfl
def BT(l):(refsOf l).length<=l.length:=by
 unfold refsOf
 grind
def BU{F n P Q a w c}(I:Nat->Act->Z9->Prop)(N)(h0:I 0 a w)(round:∀k a w,k<=N->I k a w->c.wpIn F n P (Exit.then (λa' w'=>k<N/\I (k+1) a' w') Q) a w):(Code.loop c).wpIn F n P Q a w:=by
 have d:∀m k a w,k+m=N+1->k<=N->I k a w->Code.roundsIn F n P c Q m a w:=by
  intro m
  induction m with
  |zero=>intro k a w f b _;omega
  |succ m i=>
   intro k a w f b g;refine wpIn_mono (round k a w b g) λe a' w' h=>?_;cases e with
   |normal=>exact i (k+1) a' w' (by omega) (by have:=h.1;omega) h.2
   |_=>exact h
 exact wpIn_loop_rounds (N+1)<|d (N+1) 0 a w (by omega) (Nat.zero_le _) h0
def qy{P a w Q c rest}(l)(J:Nat->Act->Z9->Prop)(N)(E:findLabel c l=U (.seq .skip rest))(first:(∀a w,J 0 a w->rest.wp P (Exit.jump l (λa' w'=>0<N/\J 1 a' w') Q) a w) ->c.wp P (Exit.jump l (λa' w'=>0<N/\J 1 a' w') Q) a w)(t:∀k a w,k<=N->J k a w->rest.wp P (Exit.jump l (λa' w'=>k<N/\J (k+1) a' w') Q) a w):(Code.scope c).wp P Q a w:=by
 intro b k cs;have p:∀k a w,k<=N->J k a w->(Code.seq .skip rest).wp P (Exit.jump l (λa' w'=>k<N/\J (k+1) a' w') Q) a w:=λk a w v z=>wp_seq<|wp_skip<|t k a w v z;have C:gotoIn l (.inScope c::k)=U (.code (.seq .skip rest)::.inScope c::k):=by simp[gotoIn,E]
 have A:∀m j a w,j+m=N->J j a w->∃e a' w',Q e a' w'/\Arrives P (lone (b.at a (.code (.seq .skip rest)::.inScope c::k)) cs w) b k cs e a' w':=by
  intro m
  induction m with
  |zero=>
   intro j a w F z;obtain⟨e,g,d,n,f⟩:=p j a w (by omega) z b (.inScope c::k) cs;cases e with
   |normal=>exact⟨.normal,g,d,n,Steps.trans f<|.one Zo⟩
   |exit id=>exact⟨.exit id,g,d,n,λy v=>f y<|by simp[exitTo,v]⟩
   |goto D=>obtain⟨_,x,_⟩:=n;omega
   |ret=>exact⟨_,g,d,n,f⟩
   |panic B=>exact⟨_,g,d,n,f⟩
   |outgrown=>exact⟨_,g,d,n,f⟩
  |succ m G=>
   intro j a w F z;obtain⟨e,g,d,n,f⟩:=p j a w (by omega) z b (.inScope c::k) cs;cases e with
   |normal=>exact⟨.normal,g,d,n,Steps.trans f<|.one Zo⟩
   |exit id=>exact⟨.exit id,g,d,n,λy v=>f y<|by simp[exitTo,v]⟩
   |goto D=>obtain⟨rfl,x,u⟩:=n;obtain⟨q,r,s,o,i⟩:=G (j+1) g d (by omega) u;exact⟨q,r,s,o,.of_steps (f _ C) i⟩
   |ret=>exact⟨_,g,d,n,f⟩
   |panic B=>exact⟨_,g,d,n,f⟩
   |outgrown=>exact⟨_,g,d,n,f⟩
 obtain⟨e,g,d,n,f⟩:=first (λa w h=>t 0 a w (Nat.zero_le _) h) b (.inScope c::k) cs
 cases e with
 |normal=>exact⟨.normal,g,d,n,.head ZQ<|Steps.trans f<|.one Zo⟩
 |exit id=>exact⟨.exit id,g,d,n,λy v=>.head ZQ<|f y<|by simp[exitTo,v]⟩
 |goto D=>obtain⟨rfl,x,u⟩:=n;obtain⟨q,r,s,o,i⟩:=A (N-1) 1 g d (by omega) u;exact⟨q,r,s,o,.of_steps (.head ZQ<|f _ C) i⟩
 |ret=>exact⟨_,g,d,n,.of_steps (.one ZQ) f⟩
 |panic B=>exact⟨_,g,d,n,.of_steps (.one ZQ) f⟩
 |outgrown=>exact⟨_,g,d,n,.of_steps (.one ZQ) f⟩
def Jh(D:Nat):Deferred:={target:=.collected D,args:=#[]}
def Marks(W:Z9)(lo:Nat)(Ds:List Nat):Prop:=Ds.Nodup/\∀D∈Ds,lo<=D/\W.heap[D]?=U (.deferred<|U [])
def Marks.nil(W lo):Marks W lo []:=⟨Z2,λD h=>by cases h⟩
def Marks.of_block{W c lo b}(h:Marks W lo b)(d:∀D∈b,W.heap[D]?=U (.deferred<|U []) ->c.heap[D]?=W.heap[D]?):Marks c lo b:=⟨h.1,λD a=>⟨(h.2 D a).1,(d D a (h.2 D a).2).trans (h.2 D a).2⟩⟩
def Marks.lt{W lo a}(h:Marks W lo a){D}(b:D∈a):D<W:=(Ω.1 (h.2 D b).2).1
theorem oz{F:Fence}{n:Nat}{P:Program}{fn:Func}{b:Array ZR}{a:Ending->Z9->Prop}:∀(d:List Nat) (W:Z9) (lo:Nat),Marks W lo d->
 (∀c,c.heap.size=W.heap.size->c.os=W.os->c.tape=W.tape->c.output=W.output->(∀k,k∉d->c.heap[k]?=W.heap[k]?) ->LeavesInM F n P fn b a [] .returning c) ->
 LeavesInM F n P fn b a (d.map Jh) .returning W
 |[],W,lo,hm,h=>h W rfl rfl rfl rfl λ_ _=>rfl
 |D::d,W,lo,hm,h=>by have m:=ZH.1 hm.1;refine⟨by simp,.inl ⟨D,_,rfl,run_takeDeferred<|(hm.2 D φ).2,?_⟩⟩;refine oz d _ lo ⟨m.2,λg f=>⟨(hm.2 g<|Ξ _ f).1,?_⟩⟩ λc l j h3 h4 h5=>?_;rw[ε (by grind)];exact(hm.2 g<|Ξ _ f).2;refine h c (by rw[l];simp[World.putObj]) j h3 h4 λk i=>?_;rw[h5 k (λe=>i<|Ξ _ e),ε<|by grind]
def OQ.Q7{w B B' s l}(h:OQ w B s l)(f:B'<=B):OQ w B' s l:=by obtain⟨a,m,rfl,d,h3,h4,h5⟩:=h;refine⟨a,m,rfl,d,h3,h4,λad e=>?_⟩;obtain⟨g,o,b,e2,c,r⟩:=h5 ad e;exact⟨g,o,b,e2,Nat.le_trans f c,r⟩
def hdI(l:List Int):Int:=l.headD 0
def isI(l:List Int):Bool:=!l.isEmpty
def Ow:hdI []=0:=rfl
def Ox:isI []=θ:=rfl
def Ji(n l):hdI (n::l)=n:=rfl
def Jj(n l):isI (n::l)=ZX:=rfl
def BV(w B bq bm s l)(h:zS w B bq s l)(c:l.length<=1000000):
 Z0 prog 260 #[.pointer bq] w λe w'=>e=.returned (.tuple #[(hdI l),.bool<|isI l])/\∃s',zS w' B bq s' l.tail/\Kf w w' bq bm s s':=by
 obtain _|⟨n,l⟩:=l
 exact(EY w B bq s h).mono λe w' ⟨b,a⟩=>⟨b,s,by rw[a];exact h,by rw[a];exact Kf.bK<|Below.refl _ _⟩;exact EZ w B bq bm s n l h (by grind)
structure AO(w W:Z9)(A:List Int)(Ds:List Nat):Prop where
 c3:W.heap[w.heap.size]?=U (Ψ #[υ ο (-1)] 3 (0,0))
 al:bk W (w.heap.size+1) A
 E5:Marks W (w.heap.size+2) Ds
 below:Below w w W
structure AQ(w W:Z9)(q0:Nat)(A:List Int)(s:ZR)(q met:List Int)(Ds:List Nat):Prop extends AO w W A Ds where
 lo:w.heap.size+1<q0
 qa:zS W q0 q0 s q
 mt:bk W (q0+1) met
 mc:W.heap[q0+1+1]?=U (Ψ #[.map (U (q0+1))] 205 (0,0))
 me:W.heap[q0+1+1+1]?=U (Ψ #[.func (.func 257) #[] #[.pointer (q0+1+1:Nat),.pointer w.heap.size,.pointer q0]] 256 (0,0))
section
variable{w W W':Z9}{q0:Nat}{A A':List Int}{s s':ZR}{q q' met met':List Int}{Ds:List Nat}
def AQ.keep(h:AQ w W q0 A s q met Ds)(f:Kf W W' q0 (q0+1) s s'){k o}(b:W.heap[k]?=U o)(d:k≠q0)(c:k≠q0+1)(h3:q0<=k->∀a fr,o≠.cells a 3 fr):W'.heap[k]?=U o:=by
 refine(f.block k (Ω.1 b).1 d c λe=>?_).trans b;obtain⟨g,_,a,hc⟩:=h.qa.2.lt e
 grind
def AQ.to(h:AQ w W q0 A s q met Ds)(l:zS W' q0 q0 s' q')(k:bk W' (q0+1) met')(a:Kf W W' q0 (q0+1) s s'):AQ w W' q0 A s' q' met' Ds:=by
 have g:=h.lo;refine⟨⟨h.keep a h.c3 (by omega) (by omega) λe=>by omega,?_,?_,?_⟩,g,l,k,h.keep a h.mc (by omega) (by omega) (λ_ b fr e=>by cases e),h.keep a h.me (by omega) (by omega) λ_ b fr e=>by cases e⟩;obtain⟨j,d,hb,r⟩:=h.al;exact⟨j,d,h.keep a hb (by omega) (by omega) λe=>by omega,r⟩;refine h.E5.of_block λD m hb=>?_;have i:D≠q0:=λe=>by subst e;rw[h.qa.1]at hb;cases hb
 have f:D≠q0+1:=λe=>by subst e;obtain⟨j,d,c,_⟩:=h.mt;rw[hb]at c;cases c
 rw[h.keep a hb i f (λ_ b fr e=>by cases e),hb];exact h.below.trans<|a.below (B:=w) (h.qa.2.Q7<|by omega) (by omega) (by omega) h.below.size
def AQ.low(h:AQ w W q0 A s q met Ds)(a:Below W W W'):AQ w W' q0 A s q met Ds:=h.to ⟨(a.block q0 (Ω.1 h.qa.1).1).trans h.qa.1,h.qa.2.below a⟩ (h.mt.below a) (Kf.bK a)
def AQ.grown(h:AQ w W q0 A s q met Ds){row c}(x:q0+1+1+1<c)(v:∀D∈Ds,D<c)(i:W.grownBy W' row)(p:∀r,row=U r->c<=r/\∃o,W.heap[r]?=U o/\o.isCells=θ):AQ w W' q0 A s q met Ds:=by
 have d:=h.lo;have b:∀k,k<c->k<W->W'.heap[k]?=W.heap[k]?:=λk y u=>i.block k u λe=>by grind
 have a:∀{k:Nat} {o:Obj},W.heap[k]?=U o->k<W:=λe=>(Ω.1 e).1;refine⟨⟨(b _ (by omega) (a h.c3)).trans h.c3,h.al.of_block (b _ (by omega) h.al.lt),h.E5.of_block λD m hb=>b D (v D m) (a hb),h.below.grown i h.below.size (λk e=>by have:=(p k e).1;omega)⟩,d,
  ⟨(b _ (by omega) (a h.qa.1)).trans h.qa.1,h.qa.2.of_block λg l=>?_⟩,h.mt.of_block (b _ (by omega) h.mt.lt),(b _ (by omega) (a h.mc)).trans h.mc,(b _ (by omega) (a h.me)).trans h.me⟩
 obtain⟨_,j,t,hc⟩:=h.qa.2.lt l;refine i.block g j λe=>?_;obtain⟨_,o,n,f⟩:=p g e.symm;rw[hc]at n;cases n
 cases f
def AQ.alive(h:AQ w W q0 A s q met Ds)(d:bk W' (w.heap.size+1) A')(l:W.grownBy W' (U<|w.heap.size+1)):AQ w W' q0 A' s q met Ds:=by
 have c:=h.lo;have b:∀k,k≠w.heap.size+1->k<W->W'.heap[k]?=W.heap[k]?:=λk n m=>l.block k m λe=>n<|ZV e;have a:∀{k:Nat} {o:Obj},W.heap[k]?=U o->k<W:=λe=>(Ω.1 e).1;refine⟨⟨(b _ (by omega) (a h.c3)).trans h.c3,d,h.E5.of_block λD j hb=>b D (by have:=(h.E5.2 D j).1;omega) (a hb),h.below.grown l h.below.size (λk e=>by have:=ZV e;omega)⟩,c,
  ⟨(b _ (by omega) (a h.qa.1)).trans h.qa.1,h.qa.2.of_block λg i=>?_⟩,h.mt.of_block (b _ (by omega) h.mt.lt),(b _ (by omega) (a h.mc)).trans h.mc,(b _ (by omega) (a h.me)).trans h.me⟩
 obtain⟨p,f,_⟩:=h.qa.2.lt i;exact b g (by omega) f
def AQ.mark(h:AQ w W q0 A s q met Ds){D}(e:W.heap[D]?=U (.deferred<|U []))(c:D∉Ds)(b:w.heap.size+2<=D):AQ w W q0 A s q met (D::Ds):=
 ⟨⟨h.c3,h.al,⟨ZH.2 ⟨c,h.E5.1⟩,λd a=>by
   obtain rfl|a:=ZT.1 a
   grind
   exact h.E5.2 d a⟩,h.below⟩,h.lo,h.qa,h.mt,h.mc,h.me⟩
def AQ.keeps(h:AQ w W q0 A s q met Ds)(a:Kf W W' q0 (q0+1) s s'){B}(f:q0+1<B):KeepsFrom B W W':=⟨a.size,λk o d c hc=>h.keep a c (by omega) (by omega) (λ_ b fr e=>by subst e;cases hc)⟩
def AQ.kpb(h:AQ w W q0 A s q met Ds)(b:Kf W W' q0 (q0+1) s s'){a cs t fr}(hb:W.heap[a]?=U (.cells cs t fr))(f:a≠q0)(d:a≠q0+1)(h3:t≠3):uY w a W W':=⟨b.below (h.qa.2.Q7 (by have:=h.lo;omega)) (by have:=h.lo;omega) (by have:=h.lo;omega) h.below.size,(h.keep b hb f d (λ_ c fr e=>by cases e;exact h3 rfl)).trans hb.symm⟩
def AO.low(h:AO w W A Ds)(a:Below W W W'):AO w W' A Ds:=⟨(a.block _ (Ω.1 h.c3).1).trans h.c3,h.al.below a,h.E5.of_block λD b hb=>a.block D (Ω.1 hb).1,h.below.trans<|a.mono h.below.size⟩
def AO.round(h:AO w W A Ds):AQ w ((((W.alloc<|Ψ #[()] 305).alloc<|.map #[] 0).alloc<|Ψ #[.map (U<|W.heap.size+1)] 205).alloc<|Ψ #[.func (.func 257) #[] #[.pointer (W.heap.size+1+1:Nat),.pointer w.heap.size,.pointer W.heap.size]] 256) W A () [] [] Ds:=by have a:=Θ (W.alloc<|Ψ #[()] 305)<|.map #[] 0;have h3:=Θ ((W.alloc<|Ψ #[()] 305).alloc<|.map #[] 0)<|Ψ #[.map (U<|W.heap.size+1)] 205;have h4:=Θ (((W.alloc<|Ψ #[()] 305).alloc<|.map #[] 0).alloc<|Ψ #[.map (U<|W.heap.size+1)] 205)<|Ψ #[.func (.func 257) #[] #[.pointer (W.heap.size+1+1:Nat),.pointer w.heap.size,.pointer W.heap.size]] 256;simp only[Zn]at a h3 h4;have push:∀(w:Z9) (o:Obj) (k:Nat),k<w->(w.alloc o).heap[k]?=w.heap[k]?:=λw o k h=>Below.heap_alloc w o k h;refine⟨h.low<|(((af W _).alloc (by simp) _).alloc (by simp;omega) _).alloc (by simp;omega) _,h.al.lt,⟨?_,OQ.nil _ _⟩,⟨#[],0,?_,⟨rfl,Z2,λe b=>by simp at b⟩⟩,?_,h4⟩;rw[push _ _ _ (by simp;omega),push _ _ _ (by simp;omega),push _ _ _<|by simp];exact Θ W<|Ψ #[()] 305;rw[push _ _ _ (by simp),push _ _ _<|by simp];exact a;rw[push _ _ _ (by simp)];exact h3
def Jk(w):AO w ((w.alloc<|Ψ #[υ ο (-1)] 3).alloc<|.map #[] 0) [] []:=by have a:=Θ (w.alloc<|Ψ #[υ ο (-1)] 3)<|.map #[] 0;simp only[Zn]at a;exact⟨(Below.heap_alloc _ _ _<|by simp).trans<|Θ w _,⟨#[],0,a,⟨rfl,Z2,λe b=>by simp at b⟩⟩,Marks.nil _ _,(af w _).alloc (by simp) _⟩
end
end
end Kn
namespace Kn
open Md
def Fd:∀l q met,dJ l (q,met)=Dn l q met
 |[],q,met=>rfl
 |v::l,q,met=>by
  by_cases a:v.1=1
  have e:dJ (v::l) (q,met)=dJ l (iG (q,met) v.2):=by
   unfold dJ qv;have:refsOf (v::l)=v.2::refsOf l:=by simp[refsOf,a]
   rw[this];rfl
  have e2:Dn (v::l) q met=Dn l (iG (q,met) v.2).1 (iG (q,met) v.2).2:=by unfold iG;by_cases b:v.2∈met<;>simp[Dn,a,b]
  rw[e,e2];exact Fd l _ _
  ·have e:refsOf (v::l)=refsOf l:=by simp[refsOf,a]
   have e2:Dn (v::l) q met=Dn l q met:=by simp[Dn,a]
   rw[e2,<-Fd l q met];unfold dJ;rw[e]
def Rj(h):refsOf (VX h)=n' h:=by
 unfold VX n' refsOf;have e:((h.done.map λn=>((1,n):HV)).filter λv=>v.1==1)=h.done.map λn=>((1,n):HV):=List.filter_eq_self.2 λv a=>by obtain⟨n,_,rfl⟩:=κ.1 a;rfl
 rw[List.filter_append,ι,List.filter_filter,e,η];simp[Function.comp_def]
def Qf(h al):gD h al=⟨(Dn (VX h) [] []).1,(Dn (VX h) [] []).2,al⟩:=by unfold gD;rw[<-Fd];unfold dJ;rw[Rj]
def Ro(h):∀k x,dP h k (zW h x)=zW h (dP h k x)
 |0,x=>rfl
 |k+1,x=>by show zW h (dP h k<|zW h x)=_;rw[Ro h k x];rfl
def Qg(h){x}(a:x.q=[]):∀k,dP h k x=x
 |0=>rfl
 |k+1=>by show zW h (dP h k x)=x;rw[Qg h a k];unfold zW;rw[a]
def Rs(h):∀f x,zk h f x.q x.met x.al=(dP h f x).al
 |0,x=>rfl
 |f+1,x=>by
  show _=(zW h<|dP h f x).al;rw[<-Ro];cases hq:x.q with
  |nil=>
   have:zW h x=x:=by unfold zW;rw[hq]
   rw[this,Qg h hq];rfl
  |cons n q=>
   have e:zW h x=⟨(Dn (keeps (cellP h n)<|ml x.al n) q x.met).1,(Dn (keeps (cellP h n)<|ml x.al n) q x.met).2,ml x.al n⟩:=by unfold zW;rw[hq];dsimp only;rw[Fd]
   rw[<-Rs h f,e];rfl
def Qm(h r):jE h (h.cells.length+1) (r+1)=BA h (jE h (h.cells.length+1) r):=by show(dP h _<|gD h _).al=_;rw[Qf,<-Rs];rfl
def G6{h}(hw:WP h)(al):∀k,∃a,(dP h k<|gD h al).met=a++(dP h k<|gD h al).q/\(dP h k<|gD h al).met.Nodup/\(∀n∈(dP h k<|gD h al).met,Md.BJ h n)/\((dP h k<|gD h al).q≠[] ->a.length=k)
 |0=>by
  obtain⟨t,e1,a1,g,c1⟩:=eB (VX h) [] [];refine⟨[],?_,?_,?_,λ_=>rfl⟩<;>show _<;>rw[show dP h 0 (gD h al)=gD h al from rfl,Qf,e1]
  rfl;exact c1 Z2;intro n d;obtain⟨v,i,l,rfl⟩:=g n (by simpa using d);exact(Md.E0 hw v i).2
 |k+1=>by
  obtain⟨a,e,d,j,o⟩:=G6 hw al k;cases hq:(dP h k<|gD h al).q with
  |nil=>
   have:dP h (k+1) (gD h al)=dP h k (gD h al):=by show zW h (dP h k<|gD h al)=_;unfold zW;rw[hq]
   rw[this];exact⟨a,e,d,j,λh=>absurd hq h⟩
  |cons n q=>
   have b:=BS hq;rw[hq]at e o;rw[Fd]at b;obtain⟨t,e1,a1,g,c1⟩:=eB (keeps (cellP h n)<|ml (dP h k<|gD h al).al n) q (dP h k<|gD h al).met;rw[e1]at b;have f:=j n (by rw[e];simp);rw[b];refine⟨a++[n],by rw[e];simp,c1 d,λm c=>?_,λ_=>by have:=o (by simp);simp[this]⟩;obtain c|c:=μ.1 c
   exact j m c;obtain⟨v,i,l,rfl⟩:=g m c;exact hw.cells _ (wK f) v (C5 i l) l
def RP{h}(hw:WP h):∀r,(jE h (h.cells.length+1) r).Nodup/\∀n∈jE h (h.cells.length+1) r,Md.BJ h n
 |0=>⟨Z2,λn a=>by cases a⟩
 |r+1=>by obtain⟨f,d⟩:=RP hw r;obtain⟨P,g,e,b,c⟩:=NI hw f;rw[Qm];exact⟨c,λn a=>((b n).1 a).elim (d n)<|e n⟩
def afE{h}(hw:WP h):∃a,a<=h.cells.length/\(∀r,r<a->(jE h (h.cells.length+1) r).length<(jE h (h.cells.length+1)<|r+1).length)/\¬(jE h (h.cells.length+1) a).length<(jE h (h.cells.length+1)<|a+1).length:=by
 have d:∀m,(∀r,r<m->(jE h (h.cells.length+1) r).length<(jE h (h.cells.length+1)<|r+1).length) ->m<=(jE h (h.cells.length+1) m).length:=by
  intro m
  induction m with
  |zero=>intro _;exact Nat.zero_le _
  |succ m e=>intro c;have:=e λr g=>c r (by omega);have:=c m (by omega);omega
 have ex:∀m,(∃a,a<m/\(∀r,r<a->(jE h (h.cells.length+1) r).length<(jE h (h.cells.length+1)<|r+1).length)/\¬(jE h (h.cells.length+1) a).length<(jE h (h.cells.length+1)<|a+1).length)\/∀r,r<m->(jE h (h.cells.length+1) r).length<(jE h (h.cells.length+1)<|r+1).length:=by
  intro m
  induction m with
  |zero=>exact .inr λr g=>by omega
  |succ m e=>
   obtain⟨a,b,f⟩|b:=e
   exact .inl ⟨a,by omega,f⟩;by_cases c:(jE h (h.cells.length+1) m).length<(jE h (h.cells.length+1)<|m+1).length
   ·exact .inr λr g=>by
     obtain h3|h3:=Nat.lt_or_ge r m
     exact b r h3;have:r=m:=by omega
     rw[this];exact c
   ·exact .inl ⟨m,by omega,b,c⟩
 obtain⟨a,b,f⟩|b:=ex<|h.cells.length+1
 exact⟨a,by omega,f⟩;have:=d _ b;have:=Kb (RP hw<|h.cells.length+1).1 (RP hw<|h.cells.length+1).2;omega
def aa0{h a}(b:∀r,r<a->(jE h (h.cells.length+1) r).length<(jE h (h.cells.length+1)<|r+1).length)(hs:¬(jE h (h.cells.length+1) a).length<(jE h (h.cells.length+1)<|a+1).length):∀f r,r<=a->a<r+f->zl h f (jE h (h.cells.length+1) r)=jE h (h.cells.length+1) (a+1)
 |0,r,h1,h2=>by omega
 |f+1,r,h1,h2=>by
  unfold zl;dsimp only;rw[<-Qm];obtain h3|h3:=Nat.lt_or_ge r a
  rw[if_pos (b r h3)];exact aa0 b hs f (r+1) h3 (by omega);have:r=a:=by omega
  subst this;rw[if_neg hs]
structure Fit(h:PH):Prop where
 wp:WP h
 cells:h.cells.length<=1000
 eT:∀c∈h.cells,c.2.length<=1000
 sM:(n' h).length<=1000
 kinds:∀c∈h.cells,c.1=0\/c.1=1\/(c.1=2/\c.2.length=2)
def afm{h}(d:Fit h):∃a,lZ h (h.cells.length+1) a/\jE h (h.cells.length+1) (a+1)=alive h:=by
 have hw:=d.wp;obtain⟨a,p,o,hs⟩:=afE hw;refine⟨a,⟨λr m=>?_,λr m k j n b=>?_,λr m k j=>?_,o,hs,d.sM,λv l i=>(hw.roots v l i).1,λn b=>(hw.done n b).1,λc hc v l i=>(hw.cells c hc v l i).1,d.kinds,d.eT⟩,?_⟩;obtain⟨f,e,b,hi,j⟩:=G6 hw (jE h (h.cells.length+1) r)<|h.cells.length+1;cases hq:(dP h (h.cells.length+1)<|gD h<|jE h (h.cells.length+1) r).q with
 |nil=>rfl
 |cons n q=>have i:=j (by rw[hq];simp);have g:=Kb b hi;rw[e,hq]at g;simp at g;omega
 obtain⟨f,e,_,hi,_⟩:=G6 hw (jE h (h.cells.length+1) r) k;exact hi n (by rw[e];exact ζ _ b);obtain⟨f,e,b,hi,_⟩:=G6 hw (jE h (h.cells.length+1) r) k;have:=Kb b hi;have g:=congrArg ZA e;simp at g;have:=d.cells;omega;exact(aa0 o hs (h.cells.length+1) 0 (Nat.zero_le _)<|by omega).symm
end Kn
