/- A part of the proof of GcTwice; no conditions. -/
import Derived.Test.YtbnmpafbfoaggaaGreatDoorT0
import Derived.Test.YtbnmpafbfoaggaaGreatDoorT1
import Derived.Test.YtbnmpafbfoaggaaGreatDoorT3
import Derived.Test.YtbnmpafbfoaggaaGreatDoorT2
import Derived.Maps.RangeWalk
import Derived.Maps.OwnSet
import Derived.Defers
import Derived.Recover
import Derived.Laws.Pointers
import Derived.Deep.RegionWith
import Derived.ScopeJumps
import Derived.WalkMore
import Derived.LaidEql
import Derived.Stop.Asserts
import Derived.RowKitTokens
set_option linter.defProp false
set_option linter.unusedVariables false
set_option linter.unusedSimpArgs false
set_option maxRecDepth 100000
set_option maxHeartbeats 16000000
noncomputable section
open Go.World renaming cell?->Y,frozen?->μ,size_alloc->Zq
open Go.Lib renaming hid->V
open List renaming mem_map->Z,mem_filter->Θ,contains_iff_mem->Δ,mem_append->ψ,getElem?_eq_getElem->χ,getElem?_eq_some_iff->φ,getElem?_set_self->υ,mem_of_getElem?->ξ,getElem?_set_ne->κ,getD->ι,ext_getElem?->θ,length_filter_le->ζ,mem_append_left->Z8,getElem?_map->Z2,map_map->Z1,length_map->Z0,mem_append_right->ZY,getElem_mem->ZX,map_append->ZV,map_congr_left->ZT,mem_singleton->ZS,range->ZM,length_append->ZK,map_id->ZE,mem_zipIdx->ZD,mem_range->ZB,pairwise_iff_getElem->Zz,length_eq_one_iff->Zy,sublist_cons_self->Zx,getElem?_eq_none->Zw,getElem?_zipIdx->Zu,mem_cons_self->Zs,nodup_append->Zo,pairwise_map->Zn,length_cons->Zl,length_nil->Zj,length_set->Zi,append_nil->Zh,map_cons->Ze,map_nil->Zc
open Array renaming getElem?_eq_some_iff->Ω
open Option renaming some->U,none->I
open And renaming intro->Ψ
open Go.Obj renaming cells->Ξ,map->Zk
open Go.Value renaming int->Γ,pointer->ZW,slice->ZQ,map->Zr
open Go.IntKind renaming i64->ω
open Go.RowKit renaming Below->R
open Go.RowKit.Below renaming refl->ο,heap_setCell->Zt,heap_alloc->Zm
open Go renaming Value->η,World->Z9,heap_alloc_new->Z4,callsIn_wide->Z3,Calls->ZZ,block_lt_of_cell->ZU,TypeId->ZR,callsD_of_wpS->ZO,results->ZN,wpS_region->ZF,bodyPost_ret->ZC,bodyPostS->ZA,recoverD->Zv,wpList->Zp,wpIn_rangeFunc_ownH->Zf,wpOpsS->Zd
open Bool renaming false->ε,true->ZH
open Int renaming eq_ofNat_of_zero_le->Z7
open Option.some renaming inj->ZP
open Go.Exit renaming thenS->ZL,noGoto_ret->Zg
open List.Sublist renaming append_left->ZJ
open Go.CallsIn renaming inRound->ZI
open Ne renaming symm->ZG
namespace Go.Proofs.YtbnmpafbfoaggaaGreatDoor
open Go.Proofs.Tryz hiding prog
open Go.Proofs.aD
namespace Kn
open Go Go.RowKit Go.Shelf Md
section
attribute [local go_sem] Oper.semAt_some
def BW(w b h N g)(hg:qw w b h)(ho:lZ h N g):
 ZZ prog 222 #[.pointer b,Γ ω<|-1] w λe w'=>(∃m,e=.returned (.map<|U m)/\w.heap.size<=m/\bk w' m (jE h N<|g+1))/\R w w w':=by
 have hmm:=@run_makeMap prog;have HG:=V hg;have HO:=V ho;clear hg ho;refine(Z3 (n:=9)).1 ?_;refine callsIn_of_wp_marks (fU func222 rfl) rfl trivial ?_ rfl;simp only[ntmps222,List.size_toArray,Zl,Zj,Nat.reduceAdd,Nat.reduceSub,Array.replicate_succ,Array.replicate_zero,List.push_toArray,List.append_toArray,List.nil_append,List.cons_append];refine wpIn_wide.2 ?_
 go_wp2_with fail
 refine qy 0 (λr a' W=>∃(Ds:List Nat) (u6 u7 u8 u9 u10 u11 u12 u13 u14 u15 u16 u17 u18 u19 u20 u21 u22 u23 u24 u25 u26 u27 u28 u29 u30 u31 u32 u33 u34 u35 u36 u37 u38 u39 u40 u41 u42 u43 u44 u45 u46 u47 u48 u49 u50 u51 u52 u53 u54 u55 u56 u57 u58 u59 u60 u61 u62 u63 u64 u65 u66 u67 u68:η),a'={tmps:=#[.pointer b,Γ ω<|-1,undef,.pointer w.heap.size,.map I,.map<|U<|w.heap.size+1,u6,u7,u8,u9,u10,u11,u12,u13,u14,u15,u16,u17,u18,u19,u20,u21,u22,u23,u24,u25,u26,u27,u28,u29,u30,u31,u32,u33,u34,u35,u36,u37,u38,u39,u40,u41,u42,u43,u44,u45,u46,u47,u48,u49,u50,u51,u52,u53,u54,u55,u56,u57,u58,u59,u60,u61,u62,u63,u64,u65,u66,u67,u68],defers:=Ds.map Jh}/\AO w W (jE h N r) Ds) g (by rfl) ?first ?pass
 case first=>
  intro hrest
  go_wp2_with fail
  go_step3
  rename_i hK;exact hK _ _<|hrest _ _ ⟨[],_,_,_,_,_,_,_,_,_,_,_,_,_,_,_,_,_,_,_,_,_,_,_,_,_,_,_,_,_,_,_,_,_,_,_,_,_,_,_,_,_,_,_,_,_,_,_,_,_,_,_,_,_,_,_,_,_,_,_,_,_,_,_,rfl,Jk w⟩
 case pass=>
  rintro r a' W hr ⟨Ds,u6,u7,u8,u9,u10,u11,u12,u13,u14,u15,u16,u17,u18,u19,u20,u21,u22,u23,u24,u25,u26,u27,u28,u29,u30,u31,u32,u33,u34,u35,u36,u37,u38,u39,u40,u41,u42,u43,u44,u45,u46,u47,u48,u49,u50,u51,u52,u53,u54,u55,u56,u57,u58,u59,u60,u61,u62,u63,u64,u65,u66,u67,u68,rfl,hA⟩;have HA:=V hA;have hlen:=uV 3 hA.al;refine(wpIn_wide (n:=9)).1 ?_;have arK:=hA.below;clear hA
  gi_wp2_with (refine⟨trivial,?_⟩;gi_at_call 259;refine(Z3.2<|Jg _ b).mono ?_;rintro e w' ⟨rfl,rfl⟩)
  clear hmm hlen;have hq0:=HA.out.round;have hD0:=λD (hD:D∈Ds)=>HA.out.E5.lt hD;have KU:(((((W.alloc<|Ξ #[ZQ I 0 0] 305).alloc<|Zk #[] 0).alloc<|Ξ #[Zr (U<|W.heap.size+1)] 205).alloc<|Ξ #[.func (.func 257) #[] #[.pointer (W.heap.size+1+1:Nat),.pointer w.heap.size,.pointer W.heap.size]] 256).alloc<|Ξ #[ZW (U {block:=b,off:=0})] 155).heap.size=W.heap.size+1+1+1+1+1:=by simp
  have hq5:=hq0.low<|af _<|Ξ #[ZW (U {block:=b,off:=0})] 155;have hbh:(((((W.alloc<|Ξ #[ZQ I 0 0] 305).alloc<|Zk #[] 0).alloc<|Ξ #[Zr (U<|W.heap.size+1)] 205).alloc<|Ξ #[.func (.func 257) #[] #[.pointer (W.heap.size+1+1:Nat),.pointer w.heap.size,.pointer W.heap.size]] 256).alloc<|Ξ #[ZW (U {block:=b,off:=0})] 155).heap[W.heap.size+1+1+1+1]?=U (Ξ #[.pointer b] 155 (0,0)):=by have:=Z4 ((((W.alloc<|Ξ #[ZQ I 0 0] 305).alloc<|Zk #[] 0).alloc<|Ξ #[Zr (U<|W.heap.size+1)] 205).alloc<|Ξ #[.func (.func 257) #[] #[.pointer (W.heap.size+1+1:Nat),.pointer w.heap.size,.pointer W.heap.size]] 256)<|Ξ #[ZW (U {block:=b,off:=0})] 155;simpa using this
  generalize ((((W.alloc _).alloc<|Zk #[] 0).alloc _).alloc _).alloc _=W5 at hbh KU hq5⊢;have hsA:=HA.out.al.lt;generalize ann:W.heap.size=u at KU hbh hq5 hD0 hsA⊢;have Z5:=V KU;have HD0:=V hD0;clear hq0 KU hD0 ann;have hW5:=hq5.below;have hb5:=hW5.size;have hq3:u+1+1+1<W5:=by rw[Z5.out];omega
  refine Zf rfl (by omega) (gf:=276) (lb:=#[.pointer (u+1+1+1+1:Nat)]) rfl trivial (enters_of (fU func276 rfl) (by kernel_rfl) rfl)
   (wH 8 (by omega) b (u+1+1+1+1) h w W5 hW5 hbh HG.out HO.out.pos HO.out.ahH) uY.trans (uY.book hb5 (by rw[Z5.out];omega)) (ο _ _) (λ_=>rfl)
   (λv W=>(∃s,AQ w W u (jE h N r) s (qv (v.map KT) ([],[])).1 (qv (v.map KT) ([],[])).2 Ds)/\W.heap[u+1+1+1+1]?=U (Ξ #[.pointer b] 155 (0,0))) (λ_ _ _=>False)
   (λs A C row hs' J hr=>by
     obtain⟨⟨P,h⟩,h2⟩:=hs';refine⟨⟨P,h.grown hq3 (λD hD=>by have:=HD0.out D hD;rw[Z5.out];omega) J hr⟩,(J.block _ (Ω.1 h2).1 λe=>?_).trans h2⟩;obtain⟨_,o,ho,hc'⟩:=hr _ e.symm;rw[h2]at ho;cases ho
     cases hc') (λ_ _ _ _ _ h _ _=>h) ⟨⟨_,hq5⟩,hbh⟩
   (λx a' W=>∃Bx,W.heap[Bx]?=U (Ξ #[Γ ω (x.1:Int),.slice x.2 1 1] 310 (0,0))/\a'={tmps:=#[.pointer b,Γ ω<|-1,undef,.pointer w.heap.size,.map I,.map<|U<|w.heap.size+1,Γ ω ((jE h N r).length:Int),.pointer u,.pointer (u+1+1:Nat),.pointer (u+1+1+1:Nat),.pointer (Bx:Nat),u11,u12,u13,u14,u15,u16,.map<|U<|w.heap.size+1,Γ ω ((jE h N r).length:Int),.map<|U<|u+1,.func (.func 257) #[] #[.pointer (u+1+1:Nat),.pointer w.heap.size,.pointer u],.pointer b,.func (.func 276) #[] #[.pointer (u+1+1+1+1:Nat)],JG x,u24,u25,u26,u27,u28,u29,u30,u31,u32,u33,u34,u35,u36,u37,u38,u39,u40,u41,u42,u43,u44,u45,u46,u47,u48,u49,u50,u51,u52,u53,u54,u55,u56,u57,u58,u59,u60,u61,u62,u63,u64,u65,u66,u67,u68],defers:=[]})
   (λx a' s A C row hs' J hr=>by
     obtain⟨Bx,h1,h2⟩:=hs';refine⟨Bx,(J.block Bx (Ω.1 h1).1 λe=>?_).trans h1,h2⟩;obtain⟨_,o,ho,hc'⟩:=hr Bx e.symm;rw[h1]at ho;cases ho
     cases hc') ?assign ?body ?done ?stop
  case assign=>
   rintro l v ⟨p,q⟩ L K ⟨⟨P,G⟩,y⟩ hK;unfold JG
   gi_wp2
   have hbb:=af L<|Ξ #[Value.int IntKind.i64 (p:Int),ZQ (U {block:=q,off:=0}) 1 1] 310;exact hK _ _ ((KeepsOthers.alloc _ _).from _) (uY.alloc (uY.refl _ _ _) G.below.size (Ω.1 y).1 _) ⟨⟨P,G.low hbb⟩,(hbb.block _ (Ω.1 y).1).trans y⟩ ⟨L.heap.size,Z4 L _,rfl⟩
  case body=>
   rintro l v ⟨p,q⟩ a' L hl ⟨rr,hrr⟩ ⟨⟨P,G⟩,y⟩ ⟨Bx,hx,rfl⟩ hlt;have cf:L (u+1+1+1:Nat)=U (.func (.func 257) #[] #[.pointer (u+1+1:Nat),.pointer w.heap.size,.pointer u]):=by simp[Y,G.me]
   have x0:L (Bx:Nat)=U (Γ ω (p:Int)):=by simp[Y,hx]
   have B:=V G;have HI2:=V y;have hbl:=HO.out.sM;have hvl:=pt (v.map KT) ([],[]);simp only[Zj,Nat.zero_add,Z0]at hvl;clear hrr hx G y;unfold JG
   gi_wp2_with fail
   refine⟨trivial,?_⟩;refine(ZI l<|Z3.2<|DC L u w u (u+1) (u+1+1) P _ _ (p:Int) B.out.qa B.out.mt (by simp[Y,B.out.mc]) (by simp[Y,B.out.c3]) (by omega) (by have:=(Ω.1 B.out.qa.1).1;omega)<|by omega).mono ?_;rintro e W3 ⟨rfl,so3,O,Fw,ht3⟩
   gi_wp2_with fail
   have hmx:iG ((qv (v.map KT) ([],[])).1,(qv (v.map KT) ([],[])).2) (p:Int)=qv ((v++[(p,q)]).map KT) ([],[]):=by rw[ZV];exact(sN _ _ _).symm
   rw[hmx]at O Fw;exact⟨B.out.keeps ht3<|by omega,B.out.kpb ht3 HI2.out (by omega) (by omega)<|by decide,⟨so3,B.out.to O Fw ht3⟩,(B.out.keep ht3 HI2.out (by omega) (by omega) λ_ cur fr e=>by cases e)⟩
  case done=>
   rintro D xs L hD hxs ⟨⟨P,G⟩,_⟩ hK;rw[hxs]at G;clear hxs;have hDn:D∉Ds:=λe=>by have:=HD0.out D e;have:=Z5.out;omega
   have z:=V<|G.mark hK hDn (by have:=G.lo;omega);have hsh:(qv (j8 h) ([],[])).1.length<=1000:=HO.out.short r hr 0<|Nat.zero_le _;clear G hK
   gi_wp2_with (refine⟨trivial,?_⟩;gi_at_call 260;refine(Z3.2<|BV L u u u P _ z.out.qa<|by omega).mono ?_;rintro e W1 ⟨rfl,rs,hq1,ht1⟩)
   have hI1:=V (z.out.to hq1 (z.out.mt.of_block (ht1.block _ z.out.mt.lt (by omega) (by omega) (λe=>by obtain⟨_,_,cur,hc⟩:=z.out.qa.2.lt e;obtain⟨es,clk,hb,_⟩:=z.out.mt;rw[hc]at hb;cases hb))) ht1.ye)
   clear z hq1 ht1;refine BU (λk a W=>∃(S:List Nat) (s:η) (u10 u13 u14 u15 u16 u23 u24 u25 u26 u27 u28 u29 u30 u31 u32 u33 u34 u35 u36 u37 u38 u39 u40 u41 u42 u43 u44 u45 u46 u47 u48 u49 u50 u51 u52 u53 u54 u55 u56 u57 u58 u59 u60 u61 u62 u63 u64 u65 u66 u67 u68:η),a={tmps:=#[.pointer b,Γ ω<|-1,undef,.pointer w.heap.size,.map I,.map<|U<|w.heap.size+1,Γ ω ((jE h N r).length:Int),.pointer u,.pointer (u+1+1:Nat),.pointer (u+1+1+1:Nat),u10,Γ ω<|hdI (dP h k<|gD h<|jE h N r).q,.bool<|isI (dP h k<|gD h<|jE h N r).q,u13,u14,u15,u16,.map<|U<|w.heap.size+1,Γ ω ((jE h N r).length:Int),.map<|U<|u+1,.func (.func 257) #[] #[.pointer (u+1+1:Nat),.pointer w.heap.size,.pointer u],.pointer b,.func (.func 276) #[] #[.pointer (u+1+1+1+1:Nat)],u23,u24,u25,u26,u27,u28,u29,u30,u31,u32,u33,u34,u35,u36,u37,u38,u39,u40,u41,u42,u43,u44,u45,u46,u47,u48,u49,u50,u51,u52,u53,u54,u55,u56,u57,u58,u59,u60,u61,u62,u63,u64,u65,u66,u67,u68],defers:=S.map Jh}/\AQ w W u (dP h k<|gD h<|jE h N r).al s (dP h k<|gD h<|jE h N r).q.tail (dP h k<|gD h<|jE h N r).met S) N ?atStart ?loop
   case atStart=>exact⟨D::Ds,rs,_,_,_,_,_,_,_,_,_,_,_,_,_,_,_,_,_,_,_,_,_,_,_,_,_,_,_,_,_,_,_,_,_,_,_,_,_,_,_,_,_,_,_,_,_,_,_,_,_,_,_,rfl,hI1.out⟩
   case loop=>
    rintro k a1 W2 hkN ⟨S,s2,u10,u13,u14,u15,u16,u23,u24,u25,u26,u27,u28,u29,u30,u31,u32,u33,u34,u35,u36,u37,u38,u39,u40,u41,u42,u43,u44,u45,u46,u47,u48,u49,u50,u51,u52,u53,u54,u55,u56,u57,u58,u59,u60,u61,u62,u63,u64,u65,u66,u67,u68,rfl,y⟩;have B:=V y;clear hI1 y;rcases hqk:(dP h k<|gD h<|jE h N r).q with _|⟨n,q⟩
    ·have hfin:=sO hqk N hkN;have Wv:jE h N (r+1)=(dP h k<|gD h<|jE h N r).al:=by show(dP h N<|gD h<|jE h N r).al=_;rw[hfin]
     have hln:=uV 3 B.out.al;rw[<-Wv]at hln;have HH:=V Wv;clear hfin Wv;rw[Ow,Ox];by_cases hgr:(jE h N r).length<(jE h N<|r+1).length
     ·have hrR:r<g:=by
       obtain h1|h1:=Nat.lt_or_ge r g
       exact h1
       ·have:r=g:=by omega
        subst this;exact absurd hgr HO.out.stop
      have hgi:decide (((jE h N r).length:Int)<((jE h N<|r+1).length:Int))=ZH:=by simpa using hgr
      have hao:=B.out.toAO;rw[<-HH.out]at hao;have HAO:=V hao;clear hao
      gi_wp2_with fail
      refine wpIn_goto ?_;exact⟨rfl,hrR,S,_,_,_,_,_,_,_,_,_,_,_,_,_,_,_,_,_,_,_,_,_,_,_,_,_,_,_,_,_,_,_,_,_,_,_,_,_,_,_,_,_,_,_,_,_,_,_,_,_,_,_,_,_,_,_,_,_,_,_,_,_,_,_,rfl,HAO.out⟩
     ·have hrR:r=g:=by
       obtain h1|h1:=Nat.lt_or_ge r g
       exact absurd (HO.out.grow r h1) hgr;omega
      subst hrR;have hgi:decide (((jE h N r).length:Int)<((jE h N<|r+1).length:Int))=ε:=by simpa using hgr
      gi_wp2_with fail
      refine oz S W2 (w.heap.size+2) B.out.E5 λW9 e1 e2 e3 e4 e5=>?_;have hkeys:=B.out.al.of_block (w':=W9) (e5 _ λe=>by have:=(B.out.E5.2 _ e).1;omega);rw[<-HH.out]at hkeys;exact⟨_,results_tmp rfl _ _ _,⟨w.heap.size+1,rfl,by omega,hkeys⟩,B.out.below.trans ⟨e2,e3,e4,by omega,λk hk=>e5 k λe=>by have:=(B.out.E5.2 _ e).1;omega⟩⟩
    ·obtain⟨hn0,hn1⟩:=HO.out.refs r hr k hkN n (by rw[hqk];exact Zs);obtain⟨i,rfl⟩:=Z7 hn0;have hi:i<h.cells.length:=by omega
     obtain⟨kd,vs,ec⟩:=cQ hi;have hmem:=ξ ec;have hkind:=HO.out.kinds _ hmem;have hcp:=V<|HO.out.Wu _ hmem;have hfew:=HO.out.wW _ hmem;have afk:=HO.out.short r hr k hkN;rw[hqk]at afk;simp only[Zl]at afk;dsimp only at hkind hfew;have hkl:k<N:=by
      obtain h1|h1:=Nat.lt_or_ge k N
      exact h1;have:k=N:=by omega
      subst this;have:=HO.out.fin r hr;rw[hqk]at this;cases this
     have hst:=BS hqk;have hgd:cellP h (i:Int)=(kd,vs):=by simp[cellP,ι,ec]
     rw[hgd]at hst;have y:=B.out;rw[hqk]at y;generalize hx0:dP h k (gD h<|jE h N r)=X at hst y;clear hx0 hqk hgd hmem;simp only[List.tail_cons]at y;obtain⟨W3,hup,hal3,hg3,hs3⟩:=ki (i:Int) y.al;have hI3:=y.alive hal3 hg3;obtain⟨c,r0,wi,d,c0,_,_,_,hcs,_⟩:=HG.out;obtain⟨ac,mc,rfl,_,_,hac⟩:=hcs;have hb:=az c0;obtain⟨bc0,oc,e,afl,hat⟩:=hac (by omega);subst e;have hbw3:=hI3.below;have e0:=cG hbw3 c0 hb;obtain⟨f1,xv,f2,hxv⟩:=(hat.below hbw3 afl) i kd vs ec;have hxw:eI w xv vs:=by
      obtain⟨_,xv',f2',anp⟩:=hat i kd vs ec;have:=(hbw3.cell (p:=⟨bc0,oc+i*2+1,I⟩) afl).symm.trans f2;rw[show(Y w (bc0,oc+i*2+1))=U xv' from f2']at this;cases this
      exact anp
     obtain⟨ax,mx,rfl,_,_,_⟩:=id hxv;have HXW:=V hxw;have HI3:=V hI3;have hi0:(0:Int)<=(i:Int):=by omega
     have hi1:(i:Int)<(h.cells.length:Int):=by omega
     rw[Ji,Jj];clear B y hal3 hg3 hI3 hac hat hxv hxw hn0 hn1 c0 ec;obtain⟨f,T,F,Q⟩:=ael vs (ml X.al (i:Int)) hkind;obtain⟨us,hus⟩:∃x,x=keeps (kd,vs) (ml X.al (i:Int)):=⟨_,rfl⟩;have hle:=Q.le;have hlow:=Q.low;have agu:=V Q.eT;rw[<-hus]at hst hle agu;have hmt:=λw=>Q.mt w<|.slice ax vs.length mx;have hent:=Q.ent
     gi_wp2_with fail
     clear hup;refine⟨trivial,?_⟩;refine(Z3.2<|Q.cellOf _ _ _ _).mono ?_;rintro e W4 ⟨rfl,hb4⟩
     gi_wp2_with fail
     refine⟨trivial,?_⟩;refine(Z3.2<|Q.keeps _ _ _ _ (HI3.out.al.below<|hb4.trans<|(af W4 _).mono hb4.size)<|(HXW.out.below HI3.out.below).below<|hb4.trans<|(af W4 _).mono hb4.size).mono ?_;rintro e W6 ⟨bt,bf,rfl,hbt,hbf,lbt,lbf,hb6⟩;rw[<-hus]at hbt;replace hus:=V hus
     gi_wp2_with fail
     have tU:=hb4.size;have aet:R W3.heap.size W3 W6:=hb4.trans<|((af W4 _).trans<|hb6.mono<|by simp).mono tU;have hcI:W6.heap[W4.heap.size]?=U (Ξ #[.iface T (.agg #[Γ ω kd,.slice ax vs.length mx])] 208 (0,0)):=(hb6.block _<|by simp).trans<|Z4 W4 _;obtain⟨bc,hbc⟩:∃bc,bc=W4.heap.size:=⟨_,rfl⟩;have hI6:=HI3.out.low aet;have Xe:=aet.size;simp only[Zq]at lbt lbf;have hq0:=(Ω.1 HI3.out.me).1;have Ww:=(Ω.1 hbt).1;have Wx:=(Ω.1 hbf).1;have Wy:=(Ω.1 hcI).1;have hn1:d6 s2≠U bt:=λe=>by have:=(HI3.out.qa.2.lt e).2.1;omega
     have hn2:d6 s2≠U bf:=λe=>by have:=(HI3.out.qa.2.lt e).2.1;omega
     have hDl:=V λD hD=>hI6.E5.lt (D:=D) hD;rw[<-hbc]at hcI Wy⊢;have anq:W3.heap.size<=bc:=by omega
     have anr:W3.heap.size<=bt:=by omega
     have ant:W3.heap.size<=bf:=by omega
     clear hbc aet hb4 hb6 lbt lbf tU;refine Zf rfl (by omega) (gf:=321) (lb:=#[ZW (U ⟨bt,0,I⟩),ZW<|U ⟨bf,0,I⟩]) rfl trivial (enters_of (fU func321 rfl) (by kernel_rfl) rfl)
      (PZ 8 (by omega) bt bf us.length f W6 hbt hbf (by omega)<|by omega) tR.trans (tR.book Ww Wx) (ο _ _) (λ_=>rfl)
      (λv W=>(∃s,AQ w W u (ml X.al (i:Int)) s (dJ (v.map λx=>us.getD x.val (0,0)) (q,X.met)).1 (dJ (v.map λx=>us.getD x.val (0,0)) (q,X.met)).2 S/\d6 s≠U bt/\d6 s≠U bf)/\
        W.heap[bc]?=U (Ξ #[.iface T (.agg #[Γ ω kd,.slice ax vs.length mx])] 208 (0,0))/\(∃x,W.heap[bt]?=U (.cells x 3 (0,0)))/\(∃x,W.heap[bf]?=U (.cells x 3 (0,0)))) (λ_ _ _=>False)
      (λs A C row hs' J hr=>by
        obtain⟨⟨P,h,h1,h2⟩,h3,⟨x4,h4⟩,⟨x5,h5⟩⟩:=hs';have key:∀{k:Nat} {x:Array η} {t:ZR} {fr:Nat×Nat},A.heap[k]?=U (.cells x t fr) ->C.heap[k]?=U (.cells x t fr):=λ{k x t fr} hk=>(J.block k (Ω.1 hk).1 λe=>by
         obtain⟨_,o,ho,hc'⟩:=hr _ e.symm;rw[hk]at ho;cases ho
         cases hc').trans hk
        exact⟨⟨P,h.grown (by omega) hDl.out J hr,h1,h2⟩,key h3,⟨x4,key h4⟩,⟨x5,key h5⟩⟩) (λ_ _ _ _ _ h _ _=>h) ⟨⟨s2,hI6,hn1,hn2⟩,hcI,⟨_,hbt⟩,⟨_,hbf⟩⟩
      (λx a' W=>∃(u10 u15 u16 u23 u24 u25 u26 u27 u28 u29 u30 u31 u32 u33 u34 u35 u36 u37 u38 u39 u40 u41 u42 u43 u44 u45 u46 u47 u48 u49 u50 u51 u52 u53 u54 u55 u56 u57 u58 u59 u60 u61 u62 u63 u64 u65 u66 u67 u68:η),a'={tmps:=#[ZW (U ⟨b,0,I⟩),Γ ω<|-1,undef,ZW<|U ⟨w.heap.size,0,I⟩,.map I,.map<|U<|w.heap.size+1,Γ ω ((jE h N r).length:Int),.pointer u,.pointer (u+1+1:Nat),.pointer (u+1+1+1:Nat),u10,Γ ω (i:Int),.bool ZH,.pointer (bc:Nat),inV f x,u15,u16,.map<|U<|w.heap.size+1,Γ ω ((jE h N r).length:Int),.map<|U<|u+1,.func (.func 257) #[] #[.pointer (u+1+1:Nat),.pointer w.heap.size,.pointer u],.pointer b,.func (.func 276) #[] #[.pointer (u+1+1+1+1:Nat)],u23,u24,u25,u26,u27,u28,u29,u30,u31,u32,u33,u34,u35,u36,u37,u38,u39,u40,u41,u42,u43,u44,u45,u46,u47,u48,u49,u50,u51,u52,u53,u54,u55,u56,u57,u58,u59,u60,u61,u62,u63,u64,u65,u66,u67,u68],defers:=[]})
      (λx a' s A C row hs' J hr=>hs') ?assign2 ?body2 ?done2 ?stop2
     case assign2=>
      rintro l v x L K G hK
      gi_wp2
      exact hK _ _ ((KeepsOthers.refl _).from _) (tR.refl _ _ _) G ⟨_,_,_,_,_,_,_,_,_,_,_,_,_,_,_,_,_,_,_,_,_,_,_,_,_,_,_,_,_,_,_,_,_,_,_,_,_,_,_,_,_,_,_,_,_,_,_,_,_,rfl⟩
     case body2=>
      rintro l v x a' L hl ⟨rr,hrr⟩ ⟨⟨P,G,hs1,hs2⟩,hcW,⟨x4,h4⟩,⟨x5,h5⟩⟩ ⟨u10,u15,u16,u23,u24,u25,u26,u27,u28,u29,u30,u31,u32,u33,u34,u35,u36,u37,u38,u39,u40,u41,u42,u43,u44,u45,u46,u47,u48,u49,u50,u51,u52,u53,u54,u55,u56,u57,u58,u59,u60,u61,u62,u63,u64,u65,u66,u67,u68,rfl⟩ hlt;have cI:L.cell? ⟨bc,0,I⟩=U (.iface T<|.agg #[Γ ω kd,.slice ax vs.length mx]):=by simp[Y,hcW]
      have B:=V G;have HC:=V<|Ψ hcW<|Ψ h4 h5;have HS:=V<|Ψ hs1 hs2;obtain⟨xv,Wz⟩:=x;obtain⟨hv1,hval⟩:=agu.out (by omega);obtain⟨hv2,hv3⟩:=hv1 xv Wz;clear hrr G hcW h4 h5 hs1 hs2 hv1;unfold inV;dsimp only;obtain⟨j,hj⟩:∃j:Nat,j=f+xv:=⟨_,rfl⟩;rw[show((f:Int)+(xv:Int))=(j:Int) by omega];rw[<-hj]at hv2 hv3;have HJ:=V hv3;clear hv3 hj
      gi_wp2_with fail
      refine⟨trivial,?_⟩;refine(ZI l<|Z3.2<|hval L ax vs.length mx).mono ?_;rintro e W7 ⟨rfl,hb7⟩;have hI7:=B.out.low hb7;obtain⟨a9,m9,e9,_,_,hh9⟩:=HXW.out.below hI7.below;cases e9
      obtain⟨ba2,oa2,e,afb,afq⟩:=hh9 (by omega);cases e
      obtain⟨p,nn,e1⟩:=ep hv2;obtain⟨g1,g2⟩:=afq j p nn e1;have hx0:(0:Int)<=(j:Int):=by omega
      have hx1:(j:Int)<(vs.length:Int):=by omega
      have hgd:us.getD xv (0,0)=(p,nn):=by rw[ι,HJ.out,e1];rfl
      have hmv:=zX (v.map λx:Fin us.length=>us.getD x.val (0,0)) (p,nn) (q,X.met);have hpm:((v++[(⟨xv,Wz⟩:Fin us.length)]).map λx:Fin us.length=>us.getD x.val (0,0))=(v.map λx:Fin us.length=>us.getD x.val (0,0))++[(p,nn)]:=by
       rw[ZV]
       congr 1
       simp only[Ze,Zc];rw[hgd]
      have hml:=pt (refsOf (v.map λx:Fin us.length=>us.getD x.val (0,0))) (q,X.met);have hrl:=BT (v.map λx:Fin us.length=>us.getD x.val (0,0));rw[Z0]at hrl;dsimp only at hml;have afr:(dJ (v.map λx:Fin us.length=>us.getD x.val (0,0)) (q,X.met)).1.length<=1000000:=by show(qv _ _).1.length<=_;omega
      have KV:=V hI7;have HML:=V afr;have HPM:=V hpm;have HE:=V e1;clear hI7 hh9 afq hgd hml hrl afr hpm e1;have cf:W7 (u+1+1+1:Nat)=U (.func (.func 257) #[] #[.pointer (u+1+1:Nat),.pointer w.heap.size,.pointer u]):=by simp[Y,KV.out.me]
      have Dv:=af W7<|Ξ #[Γ ω p,Γ ω nn] 50;have E:=hb7.trans<|Dv.mono hb7.size;have cf9:=cG Dv cf<|az cf;obtain⟨k3,k4,k5⟩:=HC.out;have l3:=(Ω.1 k3).1;have l4:=(Ω.1 k4).1;have l5:=(Ω.1 k5).1;by_cases hp1:p=1
      ·subst hp1;obtain⟨nm,rfl⟩:=Z7<|hcp.out _ (ξ HE.out) rfl;rw[if_pos rfl]at hmv;have HMV:=V hmv;clear hmv
       gi_wp2_with fail
       refine⟨trivial,?_⟩;have H:=KV.out.low Dv;refine(ZI l<|Z3.2<|DC _ u w u (u+1) (u+1+1) P _ _ (nm:Int) H.qa H.mt (by simp[Y,H.mc]) (by simp[Y,H.c3]) (by omega) (by have:=(Ω.1 H.qa.1).1;omega) HML.out).mono ?_;rintro e W10 ⟨rfl,so3,O,Fw,ht3⟩
       gi_wp2_with fail
       have hmx:iG ((dJ (v.map λx:Fin us.length=>us.getD x.val (0,0)) (q,X.met)).1,(dJ (v.map λx:Fin us.length=>us.getD x.val (0,0)) (q,X.met)).2) (nm:Int)=dJ ((v++[(⟨xv,Wz⟩:Fin us.length)]).map λx:Fin us.length=>us.getD x.val (0,0)) (q,X.met):=by rw[HPM.out,HMV.out]
       rw[hmx]at O Fw;obtain⟨s1,s2'⟩:=HS.out;have sz9:=E.size;have htt:=(Kf.bK (bq:=u) (bm:=u+1) (s:=P) E).trans ht3;have kp4:=htt.block bt l4 (by omega) (by omega) s1;have kp5:=htt.block bf l5 (by omega) (by omega) s2';refine⟨B.out.keeps htt<|by omega,⟨kp4,kp5⟩,⟨so3,H.to O Fw ht3,λe=>?_,λe=>?_⟩,B.out.keep htt k3 (by omega) (by omega) (λ_ cur fr e=>by cases e),⟨_,kp4.trans k4⟩,⟨_,kp5.trans k5⟩⟩;obtain e|e:=htt.own _ e
       ·exact s1 e
       omega;obtain e|e:=htt.own _ e
       ·exact s2' e
       omega
      ·have hp1':(p==1)=ε:=by simp[hp1]
       rw[if_neg hp1,<-HPM.out]at hmv;have HMV:=V hmv;clear hmv
       gi_wp2_with fail
       have H:=KV.out.low Dv;rw[<-HMV.out]at H;refine⟨B.out.keeps (Kf.bK (bq:=u) (bm:=u+1) (s:=P) E)<|by omega,tR.bK E l4 l5,⟨P,H,HS.out.1,HS.out.2⟩,(E.block _ l3).trans k3,⟨_,(E.block _ l4).trans k4⟩,⟨_,(E.block _ l5).trans k5⟩⟩
     case done2=>
      rintro D2 xs L hD2 hxs ⟨⟨P,G,_,_⟩,_,_,_⟩ hK;have hvs:(xs.map λx=>us.getD x.val (0,0))=us:=by
       have:=congrArg (List.map λj=>us.getD j (0,0)) hxs;rw[Z1]at this;refine Eq.trans this ?_;refine θ λj=>?_;by_cases hj:j<us.length
       rw[Z2,List.getElem?_range hj];simp[ι,χ hj];rw[Zw (by simp;omega),Zw<|by omega]
      rw[hvs]at G;have z:=V<|G.mark hK (λe=>by have:=hDl.out D2 e;omega) (by have:=G.lo;omega);have XG:=HO.out.short r hr (k+1) hkl;rw[hst]at XG;dsimp only at XG;clear G hK hvs hxs
      gi_wp2_with (refine⟨trivial,?_⟩;gi_at_call 260;refine(Z3.2<|BV L u u u P _ z.out.qa<|by omega).mono ?_;rintro e W8 ⟨rfl,so8,hq8,V9⟩)
      have hI8:=z.out.to hq8 (z.out.mt.of_block (V9.block _ z.out.mt.lt (by omega) (by omega) (λe=>by obtain⟨_,_,cur,hc⟩:=z.out.qa.2.lt e;obtain⟨es,clk,hb,_⟩:=z.out.mt;rw[hc]at hb;cases hb))) V9.ye
      refine⟨hkl,?_⟩;rw[hst];exact⟨D2::S,so8,_,_,_,_,_,_,_,_,_,_,_,_,_,_,_,_,_,_,_,_,_,_,_,_,_,_,_,_,_,_,_,_,_,_,_,_,_,_,_,_,_,_,_,_,_,_,_,_,_,_,_,rfl,hI8⟩
     case stop2=>rintro D2 c2 v L _ _ hx _;exact hx.elim
  case stop=>rintro D c v L _ _ hx _;exact hx.elim
end
end Kn
namespace Kn
open Go Go.RowKit Md
section
def DD(w b h)(l:qw w b h)(c:Fit h):
 ZZ prog 179 #[.pointer b] w λe w'=>(∃m,e=.returned (.map<|U m)/\w.heap.size<=m/\bk w' m (alive h))/\R w w w':=by
 obtain⟨a,f,g⟩:=afm c;rw[<-g];have d:=V l
 go_enter (fU func179 rfl),ntmps179
 go_wp2_with fail
 refine(BW _ b h _ a d.out f).mono ?_;rintro e w' ⟨⟨m,rfl,j,i⟩,k⟩
 go_wp2_with fail
 go_ret;exact⟨⟨m,rfl,j,i⟩,k⟩
def dQ(w:Z9)(B b:Nat)(c vw vd:η)(cs:List HC)(roots:List HV)(wi d:List Int):Prop:=∃r l,B<=b/\w.heap[b]?=U (Ξ #[c,r,vw,vd] 159 (0,0))/\OI w B vw wi/\OI w B vd d/\
 OC w B c l/\df w B l cs/\OV w B r roots/\∀(i:Nat) p,l[i]?=U p->∀g,p.2.ownBlock=U g->r.ownBlock≠U g
section
variable{w w':Z9}{B b:Nat}{c vw vd:η}{cs:List HC}{roots:List HV}{wi d:List Int}
def NH.named(h:NH w B b cs roots wi d):∃c a e,dQ w B b c a e cs roots wi d/\∀g,e.ownBlock=U g->a.ownBlock≠U g:=by obtain⟨c,r,a,e,l,o,hb,k,i,p,j,n,f,m⟩:=h;exact⟨c,a,e,⟨r,l,o,hb,k,i,p,j,n,f⟩,m⟩
def dQ.reads(h:dQ w B b c vw vd cs roots wi d):qw w b ⟨cs,roots,wi,d⟩:=by obtain⟨r,l,j,hb,f,a,i,e,g,_⟩:=h;exact⟨c,r,vw,vd,by simp[Y,hb],by simp[Y,hb],by simp[Y,hb],by simp[Y,hb],i.reads e.hold,g.reads,f.reads,a.reads⟩
def dQ.blocks(h:dQ w B b c vw vd cs roots wi d)(s:∀(k:Nat) x t fr,w.heap[k]?=U (.cells x t fr) ->t≠3->w'.heap[k]?=w.heap[k]?)(p:OI w' B vw wi)(o:OI w' B vd d):dQ w' B b c vw vd cs roots wi d:=by
 obtain⟨r,l,J,hb,L,K,F,j,D,G⟩:=h;have a:∀{e:ZR} {z n:Nat} {y:η} {xs:List η},e≠3->w.ownsRow B e z y n xs->w'.ownsRow B e z y n xs:=λH A=>aS A λg f=>by
  obtain⟨m,_⟩|⟨N,C,E,m,_,q,_⟩:=A.2
  rw[m]at f;cases f;rw[m]at f;cases f;exact s _ _ _ _ q H
 exact⟨r,l,J,(s b _ _ _ hb<|by decide).trans hb,p,o,a (by decide) F,⟨j.1,λi k x v u e1 e2=>⟨(j.2.1 i k x v u e1 e2).1,a (by decide) (j.2.1 i k x v u e1 e2).2⟩,j.2.2⟩,a (by decide) D,G⟩
def dQ.below(h:dQ w B b c vw vd cs roots wi d)(a:R w w w'):dQ w' B b c vw vd cs roots wi d:=by obtain⟨r,l,k,hb,i,f,m,g,j,e⟩:=h;exact⟨r,l,k,(a.block b (Ω.1 hb).1).trans hb,i.below a,f.below a,m.below a,g.below a,j.below a,e⟩
def Kc{s a}(h:OI w B s a)(b:∀g,s.ownBlock=U g->w'.heap[g]?=w.heap[g]?):OI w' B s a:=aS h b
def OI.og{s f}(h:OI w B s f){g}(b:s.ownBlock=U g):B<=g/\g<w/\∃a,w.heap[g]?=U (.cells a 3 (0,0)):=by
 refine⟨(h.lt g b).1,(h.lt g b).2,?_⟩;obtain⟨c,_⟩|⟨i,e,a,c,_,d,_⟩:=h.2
 rw[c]at b;cases b;rw[c]at b;cases b;exact⟨a,d⟩
def dQ.apart(h:dQ w B b c vw vd cs roots wi d){s v u}(hs:OI w u s v)(j:w.grownBy w' s.ownBlock)(n:∀g,s.ownBlock=U g->vw.ownBlock≠U g/\vd.ownBlock≠U g):dQ w' B b c vw vd cs roots wi d:=by
 refine h.blocks (λk x t fr m q=>j.block k (Ω.1 m).1 λe=>?_) ?_ ?_;obtain⟨_,_,o,hc⟩:=hs.og e.symm;rw[m]at hc;cases hc
 exact q rfl;obtain⟨r,l,p,hb,i,f,_⟩:=h;exact Kc i λg a=>j.block g (i.lt g a).2 λe=>(n g e.symm).1 a;obtain⟨r,l,p,hb,i,f,_⟩:=h;exact Kc f λg a=>j.block g (f.lt g a).2 λe=>(n g e.symm).2 a
def dQ.afH(h:dQ w B b c vw vd cs roots wi d){m J}(a:w.grownBy w' vd.ownBlock)(W:∀g,vd.ownBlock=U g->vw.ownBlock≠U g)(P:OI w' B m J):dQ (w'.setCell (b,3) m) B b c vw m cs roots wi J:=by
 obtain⟨r,l,X,hb,F,K,Q,v,O,S⟩:=h;have q:∀(k:Nat) (x:Array η) (t:ZR) (fr:Nat×Nat),w.heap[k]?=U (.cells x t fr) ->t≠3->w'.heap[k]?=w.heap[k]?:=λk x t fr D L=>a.block k (Ω.1 D).1 λe=>by
  obtain⟨_,_,p,hc⟩:=K.og e.symm;rw[D]at hc;cases hc
  exact L rfl
 have u:=(q b _ _ _ hb<|by decide).trans hb;have f:∀{e:ZR} {z n:Nat} {y:η} {xs:List η},e≠3->e≠159->w.ownsRow B e z y n xs->(w'.setCell (b,3) m).ownsRow B e z y n xs:=λT C H=>aS H λg a=>by
  obtain⟨A,_⟩|⟨g',N,p,A,_,j,_⟩:=H.2
  rw[A]at a;cases a;rw[A]at a;cases a;rw[aa λe=>by subst e;rw[hb]at j;cases j;exact C rfl];exact q _ _ _ _ j T
 have zQ:∀{s:η} {ls:List Int},OI w' B s ls->OI (w'.setCell (b,3) m) B s ls:=λhs=>Kc hs λg a=>aa λe=>by obtain⟨_,_,p,hc⟩:=hs.og a;subst e;rw[u]at hc;cases hc
 refine⟨r,l,X,?_,zQ<|Kc F λg o=>a.block g (F.lt g o).2 λe=>W g e.symm o,zQ P,f (by decide) (by decide) Q,⟨v.1,λi k x G E e1 e2=>⟨(v.2.1 i k x G E e1 e2).1,f (by decide) (by decide) (v.2.1 i k x G E e1 e2).2⟩,v.2.2⟩,f (by decide) (by decide) O,S⟩;rw[aB u];rfl
def dQ.Jl(h:dQ w B b c vw vd cs roots wi d){f j}(G:OI w B f j):dQ (w.setCell (b,2) f) B b c f vd cs roots j d/\R B w (w.setCell (b,2) f):=by
 obtain⟨r,l,A,hb,K,C,H,p,E,J⟩:=h;have a:∀{e:ZR} {z n:Nat} {y:η} {xs:List η},e≠159->w.ownsRow B e z y n xs->(w.setCell (b,2) f).ownsRow B e z y n xs:=λs v=>aS v λg o=>aa λe=>by
  obtain⟨q,_⟩|⟨L,D,F,q,_,m,_⟩:=v.2
  rw[q]at o;cases o;rw[q]at o;cases o;subst e;rw[hb]at m;cases m;exact s rfl
 refine⟨⟨r,l,A,?_,a (by decide) G,a (by decide) C,a (by decide) H,⟨p.1,λi k x u t e1 e2=>⟨(p.2.1 i k x u t e1 e2).1,a (by decide) (p.2.1 i k x u t e1 e2).2⟩,p.2.2⟩,a (by decide) E,J⟩,(ο B w).setCell A _⟩;rw[aB hb];rfl
def dQ.cells(h:dQ w B b c vw vd cs roots wi d):B<=b/\b<w/\w b=U c/\(w (b,2)=U vw/\w (b,3)=U vd)/\(∀i,w.frozen? ⟨b,i,I⟩=ε)/\∃a m,c=.slice a cs.length m/\cs.length<=m:=by obtain⟨r,l,j,hb,p,o,k,f,q,n⟩:=h;obtain⟨a,m,e,g,_⟩:=aF k;exact⟨j,(Ω.1 hb).1,by simp[Y,hb],by simp[Y,hb],λi=>by simp[μ,hb],a,m,by rw[e,f.1],by rw[<-f.1];exact g⟩
theorem Kw(x:Int×η):∀(l:List (Int×η)) (k:Nat),k<l.length->(l.set k x).flatMap dW=((l.flatMap dW).set (k*2)<|Γ ω x.1).set (k*2+1) x.2
 |[],k,h=>by simp at h
 |a::l,0,h=>by simp[dW]
 |a::l,k+1,h=>by have:=Kw x l k (by grind);rw[List.set_cons_succ,List.flatMap_cons,this,show(k+1)*2=k*2+1+1 by omega];simp[dW]
def OC.anz{w}{B g n m k:Nat}{l x}(h:OC w B (.slice g n m) l)(b:k<l.length):
 OC ((w.setCell (g,k*2)<|Γ ω x.1).setCell (g,k*2+1) x.2) B (.slice g n m) (l.set k x):=by
 obtain⟨e,⟨h0,_⟩|⟨q,f,a,d,i,o,p,c,hs,j⟩⟩:=h;cases h0
 cases d
 refine⟨by rw[Kw x l k b];simpa using e,.inr ⟨g,m,(a.setIfInBounds (k*2)<|Γ ω x.1).setIfInBounds (k*2+1) x.2,by simp,i,?_,by simpa using p,c,by simpa using hs,?_⟩⟩;simp[World.setCell,Array.getElem?_modify,o];rw[Kw x l k b,<-j];simp only[Array.toList_setIfInBounds,Zi,List.take_set]
def eX{w:Z9}{g i j:Nat}{u v k}(h:k≠g):((w.setCell (g,i) u).setCell (g,j) v).heap[k]?=w.heap[k]?:=by rw[Zt _ _ _ _ h,Zt _ _ _ _ h]
def uZ{w}{B g i j:Nat}{u v}(h:B<=g):R B w ((w.setCell (g,i) u).setCell (g,j) v):=((ο B w).setCell h u).setCell h v
def dQ.at_(h:dQ w B b c vw vd cs roots wi d){i:Nat}{k vs}(hi:cs[i]?=U (k,vs)):∃n m x,c=.slice (n:Nat) cs.length m/\cs.length<=m/\B<=n/\w ((n:Nat),i*2)=U (Γ ω k)/\w ((n:Nat),i*2+1)=U x/\(∀j,w.frozen? ⟨n,j,I⟩=ε)/\eI w x vs:=by
 obtain⟨r,l,L,hb,H,G,q,o,J,K⟩:=h;have u:i<l.length:=by rw[o.1];exact(φ.1 hi).1
 obtain⟨⟨C,x⟩,e⟩:∃p,l[i]?=U p:=⟨_,χ u⟩;obtain⟨rfl,s⟩:=o.2.1 i C x k vs e hi;obtain⟨a,m,v,E,_,_⟩:=aF q;obtain⟨g,z,f,t,_⟩:=q.form (by omega);rw[v]at f;injection f with e1 e2 e3
 subst e1;subst v;obtain⟨A,y,F⟩:=OC.at_ q e;refine⟨g,m,x,by rw[o.1],by rw[<-o.1];exact E,t,A,y,λj=>?_,s.reads⟩;obtain⟨_,_,D,hc,_⟩:=OC.block q;simp[μ,hc]
def dQ.BB(h:dQ w B b c vw vd cs roots wi d){i j:Nat}{k vs}(hi:cs[i]?=U (k,vs))(hj:j<vs.length)(v):∃F m g m2,c=.slice (F:Nat) cs.length m/\w ((F:Nat),i*2+1)=U (.slice (g:Nat) vs.length m2)/\vs.length<=m2/\
 (∃u,w ((g:Nat),j*2)=U u)/\(∃u,w ((g:Nat),j*2+1)=U u)/\(∀n,w.frozen? ⟨g,n,I⟩=ε)/\
 dQ ((w.setCell ((g:Nat),j*2)<|Γ ω v.1).setCell ((g:Nat),j*2+1)<|Γ ω v.2) B b c vw vd (cs.set i (k,vs.set j v)) roots wi d/\R B w ((w.setCell ((g:Nat),j*2)<|Γ ω v.1).setCell ((g:Nat),j*2+1)<|Γ ω v.2):=by
 obtain⟨F,m,x,ec,_,_,_,T,_,_⟩:=h.at_ hi;obtain⟨r,l,hB,hb,h1,W,G,z,h5,h6⟩:=h;have E:=(φ.1 hi).1;have S:i<l.length:=by rw[z.1];exact E
 obtain⟨⟨k',x'⟩,e⟩:∃p,l[i]?=U p:=⟨_,χ S⟩;obtain⟨rfl,f⟩:=z.2.1 i k' x' k vs e hi;subst ec;have hx:x'=x:=by have hn:=(Dz G).1;obtain⟨_,C,_⟩:=OC.at_ G e;rw[T]at C;exact(ZP C).symm
 subst hx;obtain⟨g,m2,rfl,O,hgl⟩:=f.form (by omega);obtain⟨_,m2',e2,Q,_,_⟩:=aF f;cases e2
 obtain⟨p,q,ej⟩:=ep hj;obtain⟨f1,f2,f3,_,_⟩:=OV.at_ f ej;obtain⟨X,N⟩:∃s,w.heap[g]?=U (.cells s 50 (0,0)):=by
  obtain⟨J,_⟩|⟨g',cap,s,J,_,a,_⟩:=f.2
  cases J
  cases J
  exact⟨s,a⟩
 have o:∀{k0:Nat} {cs0:Array η} {t:ZR} {fr:Nat×Nat},w.heap[k0]?=U (.cells cs0 t fr) ->t≠50->k0≠g:=λhk ht e=>by
  subst e;rw[N]at hk;cases hk
  exact ht rfl
 refine⟨F,m,g,m2,rfl,T,Q,⟨_,f1⟩,⟨_,f2⟩,f3,⟨r,l,hB,(eX<|o hb<|by decide).trans hb,aS h1 λg0 a=>eX (by obtain⟨_,_,_,y⟩:=h1.og a;exact o y<|by decide),aS W λg0 a=>eX (by obtain⟨_,_,_,y⟩:=W.og a;exact o y<|by decide),?_,⟨by simpa using z.1,λH k1 x1 k2 L e1 e2=>?_,z.2.2⟩,?_,h6⟩,uZ O⟩;obtain⟨_,_,s,hc,_⟩:=OC.block G;exact aS G λg0 a=>eX (by cases a;exact o hc<|by decide);by_cases A:H=i
 ·subst A;rw[e]at e1;rw[υ E]at e2;cases e1
  cases e2
  exact⟨rfl,OV.set (x:=v) f hj⟩
 rw[κ (ZG A)]at e2;obtain⟨q1,q2⟩:=z.2.1 H k1 x1 k2 L e1 e2;refine⟨q1,aS q2 λg0 a=>eX λP=>?_⟩;subst P;obtain K|D:=Nat.lt_or_gt_of_ne A
 exact z.2.2 H i _ _ K e1 e _ a rfl;exact z.2.2 i H _ _ D e e1 _ rfl a;refine aS h5 λg0 a=>eX λP=>?_;subst P;exact h6 i _ e _ rfl a
def dQ.free(h:dQ w B b c vw vd cs roots wi d){i}(hi:i<cs.length):∃f m,c=.slice (f:Nat) cs.length m/\cs.length<=m/\(∃u,w ((f:Nat),i*2)=U u)/\(∃u,w ((f:Nat),i*2+1)=U u)/\(∀n,w.frozen? ⟨f,n,I⟩=ε)/\
 dQ ((w.setCell ((f:Nat),i*2)<|Γ ω 3).setCell ((f:Nat),i*2+1)<|ZQ I 0 0) B b c vw vd (cs.set i (3,[])) roots wi d/\R B w ((w.setCell ((f:Nat),i*2)<|Γ ω 3).setCell ((f:Nat),i*2+1)<|ZQ I 0 0):=by
 obtain⟨k,vs,ei⟩:=cQ hi;obtain⟨f,m,x,ec,hm,D,d1,T,W,_⟩:=h.at_ ei;obtain⟨r,l,hB,hb,L,G,O,z,N,h6⟩:=h;have j:i<l.length:=by rw[z.1];exact hi
 subst ec;obtain⟨_,_,cur,hc,_⟩:=OC.block O;have o:∀{K:Nat} {cs0:Array η} {t:ZR} {fr:Nat×Nat},w.heap[K]?=U (.cells cs0 t fr) ->t≠76->K≠f:=λJ ht e=>by
  subst e;rw[hc]at J;cases J
  exact ht rfl
 refine⟨f,m,rfl,hm,⟨_,d1⟩,⟨_,T⟩,W,⟨r,l.set i (3,ZQ I 0 0),hB,(eX<|o hb<|by decide).trans hb,aS L λg0 a=>eX (by obtain⟨_,_,_,p⟩:=L.og a;exact o p<|by decide),aS G λg0 a=>eX (by obtain⟨_,_,_,p⟩:=G.og a;exact o p<|by decide),?_,⟨by simpa using z.1,λP S x1 k2 C e1 e2=>?_,λy H F X A e1 e2 g0 a q=>?_⟩,?_,λy F e1 g0 a hr=>?_⟩,uZ D⟩;simpa using (OC.anz (x:=(3,ZQ I 0 0)) O j);by_cases v:P=i
 ·subst v;rw[υ j]at e1;rw[υ hi]at e2;cases e1
  cases e2
  exact⟨rfl,OV.nil _ _⟩
 rw[κ (ZG v)]at e1 e2;obtain⟨q1,Q⟩:=z.2.1 P S x1 k2 C e1 e2;refine⟨q1,aS Q λg0 a=>eX λE=>?_⟩;subst E;exact cF Q hc (by decide) a;by_cases g:y=i
 ·subst g;rw[υ j]at e1;cases e1
  cases a
 by_cases s:H=i
 ·subst s;rw[υ j]at e2;cases e2
  cases q
 rw[κ (ZG g)]at e1;rw[κ (ZG s)]at e2;exact z.2.2 y H F X A e1 e2 g0 a q;refine aS N λg0 a=>eX λE=>?_;subst E;exact cF N hc (by decide) a;by_cases g:y=i
 ·subst g;rw[υ j]at e1;cases e1
  cases a
 rw[κ (ZG g)]at e1;exact h6 y F e1 g0 a hr
end
end
section
def qz{w ops rest o a Q}(c:o.guard=I)(m x)(f:o.op=.call {callee:=.builtin .delete,args:=#[m,x],argTypes:=#[205,3]})(b l n)(d:a.eval m=.map (U b))(q:a.eval x=Γ ω n)(e:bk w b l)(h:∀w',bk w' b (l.erase n) ->w.grownBy w' (U b) ->w'.heap.size=w->Zp prog ops Q rest (a.put o.dst<|.tuple #[]) w'):Zp prog ops Q (o::rest) a w:=by refine wpList_plain c λK j=>?_;obtain⟨w',i,k,g,p⟩:=wE o.type n e;unfold Oper.wp execOp;simp only[f,resolve,invoke,builtin,Sem.run_bind,Sem.run_pure,Result.andThen_ok,List.map_toArray,Ze,Zc,d,q,i];exact j _ _<|h w' k g p
def tS(a:List Int)(c:HC):HC:=if zm c a then(c.1,c.2.map λ_=>(2,0))else c
def DE(a:List Int)(cs:List HC)(k:Nat):List HC:=(cs.take k).map (tS a)++cs.drop k
def wI(a cs k):(DE a cs k).length=cs.length:=by unfold DE;simp;omega
def Jm{a cs k}(h:k<cs.length):(DE a cs k)[k]?=cs[k]?:=by
 unfold DE
 grind
def zZ{a cs k c}(h:cs[k]?=U c):DE a cs (k+1)=(DE a cs k).set k (tS a c):=by
 have b:=(φ.1 h).1;have hd:cs.drop k=c::cs.drop (k+1):=by
  rw[List.drop_eq_getElem_cons b]
  congr 1
  exact(φ.1 h).2
 unfold DE;rw[bW h,hd,ZV,List.set_append_right _ _ (by simp;omega)];have:k-((cs.take k).map<|tS a).length=0:=by simp;omega
 rw[this];simp
def Aa{a cs k c}(h:cs[k]?=U c)(hc:tS a c=c):DE a cs (k+1)=DE a cs k:=by rw[zZ h];have b:=(φ.1 h).1;have:=Jm (a:=a) b;exact θ λi=>by grind
def Oy(a cs):DE a cs cs.length=cs.map (tS a):=by unfold DE;simp
def freed(cs:List HC)(D left:List Int):List HC:=cs.zipIdx.map λx=>if D.contains (x.2:Int)&&!left.contains (x.2:Int)then(3,[])else x.1
def PB(cs D a):(freed cs D a).length=cs.length:=by simp[freed]
def lC(cs D a)(i:Nat):(freed cs D a)[i]?=(cs[i]?).map λc=>if D.contains (i:Int)&&!a.contains (i:Int)then(3,[])else c:=by
 unfold freed
 grind
def Ab(cs D):freed cs D D=cs:=θ λi=>by rw[lC];simp
def BX{cs D A B}{n:Nat}(c:n<cs.length)(d:(n:Int)∈D)(a:(A++(n:Int)::B).Nodup):freed cs D (A++B)=(freed cs D (A++(n:Int)::B)).set n (3,[]):=θ λi=>by
 have b:(n:Int)∉A++B:=by
  intro h;rw[Zo]at a;obtain h|h:=ψ.1 h
  exact a.2.2 _ h _ Zs rfl;exact(List.nodup_cons.1 a.2.1).1 h
 by_cases hi:i=n
 subst hi;rw[υ (by rw[PB];exact c),lC,χ c];simp only[Option.map_some,(by simpa using d:D.contains (i:Int)=ZH),(by simpa using b:(A++B).contains (i:Int)=ε)];rfl;rw[κ (ZG hi),lC,lC]
 grind
def oA(w:Z9)(r m:Nat):Nat:=
 match w.heap[r]?,w.heap[m]? with
 |some (.mapIter _ _ seen _),U (.map es _)=>(leftOf es seen).size
 |_,_=>0
theorem eD.oA{w:Z9}{r b:Nat}{l a:List Int}(h:eD w r b l a):oA w r b=a.length:=by obtain⟨m,f,c,seen,c0,g,j,i,k,n,d,e⟩:=h;unfold Kn.oA;rw[i,g];have:=congrArg List.length e;simpa using this
section
variable{w w':Z9}{B b:Nat}{c vw vd:η}{cs:List HC}{roots:List HV}{wi d:List Int}
def dQ.grown(h:dQ w B b c vw vd cs roots wi d){row}(D:w.grownBy w' row)(H:∀r,row=U r->w.heap.size<=r\/∃o,w.heap[r]?=U o/\o.isCells=ε):dQ w' B b c vw vd cs roots wi d:=by
 have j:∀{k:Nat} {x:Array η} {t:ZR} {fr:Nat×Nat},w.heap[k]?=U (.cells x t fr) ->w'.heap[k]?=w.heap[k]?:=λu=>D.block _ (Ω.1 u).1 λe=>by
  obtain z|⟨o,m,hc⟩:=H _ e.symm
  grind
  rw[u]at m;cases m
  cases hc
 have a:∀{e:ZR} {size n:Nat} {v:η} {xs:List η},w.ownsRow B e size v n xs->w'.ownsRow B e size v n xs:=λm=>aS m λg f=>by
  obtain⟨q,_⟩|⟨N,E,G,q,_,s,_⟩:=m.2
  rw[q]at f;cases f
  rw[q]at f;cases f
  exact j s
 obtain⟨r,l,L,hb,z,C,J,p,F,K⟩:=h;exact⟨r,l,L,(j hb).trans hb,a z,a C,a J,⟨p.1,λi k x A y e1 e2=>⟨(p.2.1 i k x A y e1 e2).1,a (p.2.1 i k x A y e1 e2).2⟩,p.2.2⟩,a F,K⟩
def bk.Ac{m l}(h:bk w m l):∃o,w.heap[m]?=U o/\o.isCells=ε:=by obtain⟨b,a,hb,_⟩:=h;exact⟨_,hb,rfl⟩
def bk.BY{m l}(h:bk w m l){g i:Nat}{u}(hc:w (g,i)=U u):m≠g:=λe=>by obtain⟨b,a,hb,_⟩:=h;subst e;simp[Y,hb]at hc
def bk.two{m l}(h:bk w m l){g i j n:Nat}{u v x}(hc:w (g,n)=U x):bk ((w.setCell (g,i) u).setCell (g,j) v) m l:=h.of_block<|eX<|h.BY hc
def eD.two{r m l a}(h:eD w r m l a){g i j n:Nat}{u v x}(hc:w (g,n)=U x):eD ((w.setCell (g,i) u).setCell (g,j) v) r m l a:=h.of_block (eX (h.keys.BY hc)) (eX λe=>by obtain⟨o,c,b,seen,c0,k,f,d,_⟩:=h;subst e;simp[Y,d]at hc)
end
structure lD(n:Nat)(A left L:List Int):Prop where
 nodup:L.Nodup
 mem:∀x,x∈L↔((0<=x/\x<(n:Int))/\(x∈A->x∈left))
def lD.sM(n A):lD n A A ((ZM n).map λi:Nat=>(i:Int)):=by
 refine⟨?_,λx=>⟨λh=>?_,λh=>?_⟩⟩;rw[List.Nodup,Zn];exact List.nodup_range.imp λh e=>h (by omega)
 grind
 obtain⟨i,rfl⟩:=Z7 h.1.1;exact Z.2 ⟨i,ZB.2<|by omega,rfl⟩
def lD.next{n A X a L x}(h:lD n A (X++x::a) L)(b:(X++x::a).Nodup)(c:x∈A):lD n A (X++a) (L.erase x):=by
 refine⟨h.nodup.erase x,λy=>?_⟩;rw[List.Nodup.mem_erase_iff h.nodup,h.mem]
 grind
def wJ(cs:List HC)(a2:List Int):List HC:=cs.zipIdx.map λx=>if a2.contains (x.2:Int)then x.1 else(3,[])
def VP{cs A L}(h:lD cs.length A [] L):freed cs L []=wJ cs A:=θ λi=>by
 rw[lC];unfold wJ;obtain hi|hi:=Nat.lt_or_ge i cs.length
 rw[χ hi];have a:=h.mem (i:Int)
 grind
 grind
end
end Kn
namespace Md
section
def B7(a:List Int)(c:HC):HC:=if zm c a then(c.1,c.2.map λ_=>(2,0))else c
def ag(h:PH):PH:=⟨h.cells.map<|B7<|alive h,h.roots,h.aA.filter ((alive h).contains ·),h.done++h.aA.filter (λn=>!(alive h).contains n)⟩
def ir(h):lu h={ag h with cells:=(ag h).cells.zipIdx.map λx=>if(alive<|ag h).contains (x.2:Int)then x.1 else(3,[])}:=rfl
def RF{a c v}(b:v∈(B7 a c).2)(d:v.1=1):v∈c.2/\zm c a=ε:=by
 unfold B7 at b;split at b
 obtain⟨x,_,rfl⟩:=Z.1 b;cases d
 exact⟨b,by simp_all⟩
def Ot{h f h'}(hc:h'.cells=h.cells.map f){n}(a:BJ h n):cellP h' n=f (cellP h n):=by have:=a.1;have:=a.2;unfold cellP;rw[hc,ι,Z2,ι,χ<|by omega];rfl
section
variable{h:PH}(hw:WP h)
include hw
def lE:WP (ag h) where
 shape:=λc hc=>by
  obtain⟨d,hd,rfl⟩:=Z.1 hc;have:=hw.shape d hd;unfold B7;split
  simpa using this;exact this
 cells:=λc hc v e b=>by obtain⟨d,hd,rfl⟩:=Z.1 hc;have:=hw.cells d hd v (RF e b).1 b;simpa[BJ,ag]using this
 roots:=λv e b=>by simpa[BJ,ag]using hw.roots v e b
 aA:=λn a=>by simpa[BJ,ag]using hw.aA n (Θ.1 a).1
 done:=λn a=>by
  obtain a|a:=ψ.1 a
  ·simpa[BJ,ag]using hw.done n a
  simpa[BJ,ag]using hw.aA n (Θ.1 a).1
omit hw in
def D6{n}:BJ (ag h) n↔BJ h n:=by simp[BJ,ag]
omit hw in
def sT{n}:BJ (lu h) n↔BJ h n:=by simp[BJ,ir,ag]
def C6{n}(i:n∈alive h):n∈alive (ag h):=by
 obtain⟨a1,q,s,l⟩:=f7 hw;obtain⟨j,t,r,u⟩:=f7<|lE hw;have e:kc h ((alive h).filter ((alive<|ag h).contains ·)) ((alive h).filter ((alive<|ag h).contains ·)):=by
  refine⟨λv b=>Θ.2 ⟨a1.VX v b,Δ.2<|j.VX v ?_⟩,λm p v b k=>?_⟩;obtain b|b:=ψ.1 b
  ·exact Z8 _ b
  obtain⟨n,i,rfl⟩:=Z.1 b;exact ZY _<|Z.2 ⟨n,Z8 _ i,rfl⟩;obtain⟨m1,m2⟩:=Θ.1 p;have m2:=Δ.1 m2;have c:∀x∈(alive h).filter ((alive<|ag h).contains ·),x∈alive h:=λx g=>(Θ.1 g).1;have d:∀x∈(alive h).filter ((alive<|ag h).contains ·),x∈alive (ag h):=λx g=>Δ.1 (Θ.1 g).2;refine Θ.2 ⟨a1.keeps m m1 v (j6 c b) k,Δ.2<|j.keeps m m2 v ?_ k⟩;rw[show cellP (ag h) m=B7 (alive h) (cellP h m)from Ot rfl<|q m m1];have f:zm (cellP h m) (alive h)=ε:=by
   have a:=j6 c b;unfold Md.keeps at a;unfold zm;split at a
   rename_i h0;simp[h0];split at a
   ·split at a
    ·rename_i o;rw[o];simp
    cases a
   cases a
  unfold B7;rw[f];exact j6 d b
 exact Δ.1 (Θ.1<|l _ e n i).2
def aee{n}(g:n∈alive (ag h)){v}(a:v∈(cellP (ag h) n).2)(d:v.1=1):v.2∈alive (ag h)/\(has (alive h) ((cellP (ag h) n).2.getD 0 (0,0))=ZH\/(cellP (ag h) n).1=0):=by
 obtain⟨i,k,o,m⟩:=f7<|lE hw;have j:=D6.1<|k n g;have hc:=wK j;have e:cellP (ag h) n=B7 (alive h) (cellP h n):=Ot rfl j;rw[e]at a;obtain⟨a,f⟩:=RF a d;have e2:cellP (ag h) n=cellP h n:=by rw[e];simp[B7,f]
 rw[e2];obtain h0|⟨h1,h2⟩|⟨h1,h2⟩|h0:=hw.shape _ hc
 refine⟨i.keeps n g v ?_ d,.inr h0⟩;rw[e2];unfold Md.keeps;rwa[if_pos h0];have b:has (alive h) ((cellP h n).2.getD 0 (0,0))=ZH:=by unfold zm at f;simp[h1]at f;exact f
 refine⟨C6 hw ?_,.inl b⟩;obtain⟨x,l⟩:=Zy.1 h2;rw[l]at a b;rw[ZS.1 a]at d⊢;unfold has at b;simpa[d]using b;have b:has (alive h) ((cellP h n).2.getD 0 (0,0))=ZH:=by unfold zm at f;simp[h1]at f;exact f
 refine⟨?_,.inl b⟩;obtain⟨x,y,c⟩:∃x y,(cellP h n).2=[x,y]:=by
  match hcs:(cellP h n).2,h2 with
  |[x,y],_=>exact⟨x,y,rfl⟩
 rw[c]at a;obtain rfl|a:=List.mem_cons.1 a
 rw[c]at b;unfold has at b;exact C6 hw (by simpa[d]using b);rw[ZS.1 a]at d⊢;refine i.keeps n g y ?_ d;rw[e2];unfold Md.keeps;rw[if_neg (by omega),if_pos h1,if_pos<|Qu (λ_=>C6 hw) b,c];simp;rw[h0]at a;cases a
end
end
end Md
namespace Kn
open Go Go.RowKit Md
section
def pU{P w ops rest o a Q}(c:o.guard=I)(it)(e:o.op=.next it ε)(v)(hi:a.eval it=v)(r w')(b:(Instr.next v ε o.type).run P w=.ok r w')(h:Zp P ops Q rest (a.put o.dst r) w'):Zp P ops Q (o::rest) a w:=by refine wpList_plain c λK d=>?_;unfold Oper.wp;simp[execOp,e,hi,b];exact d _ _ h
def zp{ops rest o a w Q}(g:o.guard=I)(s x)(q:o.op=.call {callee:=.builtin .append,args:=#[s,x],argTypes:=#[24,24]})(B v l)(hs:a.eval s=v)(b:OI w B v l)(ad c u)(A:a.eval x=ZQ (U ad) 1 c)(y:w (ad.add 0)=U (Γ ω u))(C:l.length<=1000000000)(n:B<=w)(h:∀d w',OI w' B d (l++[u]) ->R B w w'->w.grownBy w' v.ownBlock->(d.ownBlock=v.ownBlock\/d.ownBlock=U w.heap.size) ->Zp prog ops Q rest (a.put o.dst d) w'):Zp prog ops Q (o::rest) a w:=by
 obtain⟨p,hi,i,k,f⟩:=info_parts Dq;refine wpList_append_own_at _ g s x 24 q B 3 p _ 1 8 se hi i k f rfl (by decide) v l.length _ hs b ad 1 c (eP u) A rfl (λj z e=>?_) (λz hz=>?_) (by unfold maxLen;omega) (by omega) n λd w' t m _ r=>?_
 match j,e with
 |0,e=>cases e;exact y
 |j+1,e=>simp[eP]at e
 simp[eP]at hz;subst hz;rfl;refine h d w' ?_ (cM b m n) m r;unfold OI;simpa using t
structure af6(k:Int)(vs:List HV)(T F:Nat):Prop where
 cellOf:∀w a n m,ZZ prog 181 #[.agg #[Γ ω k,.slice a n m]] w λe w'=>e=.returned (.iface T (.agg #[Γ ω k,.slice a n m]))/\R w w w'
 mt:∀w s,(method 463 T (.agg #[Γ ω k,s]) "caracole/heap.loses").run prog w=.ok (F,.agg #[Γ ω k,s]) w
 ent:∀w args,(callFunc F args).run prog w=.ok (.enter F args) w
 los:∀w a m b A,bk w b A->eI w (.slice a vs.length m) vs->ZZ prog F #[.agg #[Γ ω k,.slice a vs.length m],.map (U b)] w λe w'=>e=.returned (.bool (zm (k,vs) A))/\R w w w'
def afW{k vs}(h:k=0\/(k=1/\vs.length=1)\/(k=2/\vs.length=2)):∃T F,af6 k vs T F:=by
 obtain rfl|⟨rfl,h⟩|⟨rfl,h⟩:=h
 exact⟨264,318,sI,λw s=>Oc w s _ 318<|.inr<|.inr<|.inr ⟨rfl,rfl⟩,λw c=>Pp 318 c w rfl,λw a m b A _ _=>Og w a vs.length m b⟩;obtain⟨x,rfl⟩:=Zy.1 h;refine⟨265,324,sJ,λw s=>Od w s _ 324<|.inr<|.inr<|.inr ⟨rfl,rfl⟩,λw c=>Pp 324 c w rfl,λw a m b A d f=>?_⟩;have e:zm (1,[x]) A=!has A x:=by simp[zm]
 rw[e];exact Oh w _ b A x [] d f;obtain⟨x,y,rfl⟩:∃x y,vs=[x,y]:=by
  match vs,h with
  |[x,y],_=>exact⟨x,y,rfl⟩
 refine⟨266,328,agt.cellOf,λw s=>by kernel_rfl,λw c=>Pp 328 c w rfl,λw a m b A d f=>?_⟩;have e:zm (2,[x,y]) A=!has A x:=by simp[zm]
 rw[e];exact afC w _ b A x [y] d f
def va(vs:List HV)(j:Nat):List HV:=(vs.take j).map (λ_=>((2,0):HV))++vs.drop j
def OB(vs j):(va vs j).length=vs.length:=by unfold va;simp;omega
def RI{vs j}(h:j<vs.length):(va vs j).set j (2,0)=va vs (j+1):=θ λi=>by
 unfold va
 grind
def Xv(vs):va vs vs.length=vs.map λ_=>(2,0):=by simp[va]
structure Kq(h:PH):Prop where
 first:Fit h
 second:Fit (ag h)
 shape:∀c∈h.cells,c.1=0\/(c.1=1/\c.2.length=1)\/(c.1=2/\c.2.length=2)
 aA:h.aA.length<=1000
 done:h.done.length<=1000
structure D5(w w1 wr:Z9)(B b m1:Nat)(c vw v vd:η)(h:PH)(a1 L D:List Int)(k:Nat):Prop where
 own:dQ wr B b c vw vd h.cells h.roots h.aA D
 low:∀g,vw.ownBlock=U g->g<w1.heap.size
 ap1:∀g,vd.ownBlock=U g->vw.ownBlock≠U g
 row:OI wr w1 v L
 ap2:∀g,v.ownBlock=U g->vd.ownBlock≠U g
 keys:bk wr m1 a1
 below:R B w wr
 size:w1.heap.size<=wr
 isL:L=(h.aA.take k).filter (a1.contains ·)
 isD:D=h.done++(h.aA.take k).filter (λn=>!a1.contains n)
section
variable{w w1 wr w2 w3:Z9}{B b m1 k:Nat}{c vw v vd v':η}{h:PH}{a1 L D:List Int}{n:Int}
def D5.to(a:D5 w w1 wr B b m1 c vw v vd h a1 L D k)(e:B<=w1)(d:R wr wr w2):D5 w w1 w2 B b m1 c vw v vd h a1 L D k:=⟨a.own.below d,a.low,a.ap1,a.row.below d,a.ap2,a.keys.below d,a.below.trans<|d.mono<|Nat.le_trans e a.size,Nat.le_trans a.size d.size,a.isL,a.isD⟩
def zf{l:List Int}{k n}(p)(b:l[k]?=U n):(l.take<|k+1).filter p=(l.take k).filter p++if p n then [n]else []:=by
 rw[bW b,List.filter_append]
 congr 1
 by_cases a:p n=ZH<;>simp[a]
def bk.grown{m l w w' B s d}(h:bk w m l)(hs:OI w B s d)(c:w.grownBy w' s.ownBlock):bk w' m l:=by refine h.of_block<|c.block m h.lt λe=>?_;obtain⟨_,_,a,hc⟩:=hs.og e.symm;obtain⟨f,b,hb,_⟩:=h;rw[hc]at hb;cases hb
def D5.took(a:D5 w w1 wr B b m1 c vw v vd h a1 L D k)(j:B<=w1)(l:h.aA[k]?=U n)(hc:a1.contains n=ZH)(i:wr.grownBy w3 v.ownBlock)(m:OI w3 w1 v' (L++[n]))(f:v'.ownBlock=v.ownBlock\/v'.ownBlock=U wr.heap.size):D5 w w1 w3 B b m1 c vw v' vd h a1 (L++[n]) D (k+1) where
 own:=a.own.apart a.row i λg d=>⟨λe=>by have:=a.low g e;have:=(a.row.og d).1;omega,a.ap2 g d⟩
 low:=a.low
 ap1:=a.ap1
 row:=m
 ap2:=λg d e=>by
  obtain f|f:=f
  exact a.ap2 g (f▸d) e;rw[f]at d;cases d
  obtain⟨_,_,_,_,_,o,_⟩:=a.own;have:=(o.lt _ e).2;omega
 keys:=a.keys.grown a.row i
 below:=a.below.trans<|cM (B:=B) (a.row.less j) i<|Nat.le_trans j a.size
 size:=Nat.le_trans a.size i.size
 isL:=by rw[zf _ l,hc,<-a.isL];rfl
 isD:=by rw[zf _ l,a.isD,hc];simp
def D5.put(d:D5 w w1 wr B b m1 c vw v vd h a1 L D k)(z:B<=w1)(u:h.aA[k]?=U n)(hc:a1.contains n=ε)(j:wr.grownBy w3 vd.ownBlock)(x:OI w3 B v' (D++[n]))(f:v'.ownBlock=vd.ownBlock\/v'.ownBlock=U wr.heap.size):D5 w w1 (w3.setCell (b,3) v') B b m1 c vw v v' h a1 L (D++[n]) (k+1):=by
 obtain⟨r,l,s,hb,A,o,_⟩:=id d.own;have m:w3.heap[b]?=U (Ξ #[c,r,vw,vd] 159 (0,0)):=(j.block b (Ω.1 hb).1 λe=>by obtain⟨_,_,q,hc⟩:=o.og e.symm;rw[hb]at hc;cases hc).trans hb
 have i:OI w3 w1 v L:=Kc d.row λg a=>j.block g (d.row.lt g a).2 λe=>d.ap2 g a e.symm;refine⟨d.own.afH j d.ap1 x,d.low,λg a e=>?_,Kc i λg a=>aa λe=>?_,λg a e=>?_,(d.keys.grown o j).of_block<|aa ?_,(d.below.trans<|cM (B:=B) o j<|Nat.le_trans z d.size).setCell (p:=⟨b,3,I⟩) s _,?_,?_,?_⟩;obtain f|f:=f
 ·exact d.ap1 g (f▸a) e
 rw[f]at a;cases a
 have:=d.low _ e;have:=d.size;omega;obtain⟨_,_,q,hc⟩:=i.og a;subst e;rw[m]at hc;cases hc
 obtain f|f:=f
 ·exact d.ap2 g a<|f▸e
 rw[f]at e;cases e
 have:=(d.row.lt _ a).2;omega;intro e;obtain⟨C,y,t,_⟩:=d.keys.grown o j;subst e;rw[m]at t;cases t
 have:=d.size;have:=j.size;simp;omega;rw[zf _ u,hc,<-d.isL];simp;rw[zf _ u,hc,d.isD,List.append_assoc];rfl
end
def BZ(w B b h)(hq:NH w B b h.cells h.roots h.aA h.done)(hB:B<=w)(ho:Kq h):
 ZZ prog 125 #[.pointer b] w λe w'=>e=.returned (.tuple #[])/\(∃c vw vd,dQ w' B b c vw vd (lu h).cells (lu h).roots (lu h).aA (lu h).done)/\R B w w':=by
 obtain⟨c,vw,vd,hc,ha⟩:=hq.named;have H:=V hc;have HA:=V ha;have HO:=V ho;have hcl:=ho.first.cells;have hwl:=ho.aA;have hdl:=ho.done;have hmm:=@run_makeMap prog;clear hq hc ho ha
 go_enter (fU func125 rfl),ntmps125
 go_wp2_with fail
 refine(DD _ b h H.out.reads HO.out.first).mono ?_;rintro e w1 ⟨⟨m1,rfl,hm1,hk1⟩,hb1⟩;generalize ha1:alive h=a1 at hk1;have HA1:=V ha1;clear ha1;have hP1:=H.out.below hb1;obtain⟨hBb,hbl,q0,⟨q2,q3⟩,qf,ac,mc,rfl,hmc⟩:=hP1.cells;obtain⟨aw,mw,rfl,-⟩:∃a m,vw=.slice a h.aA.length m/\True:=by obtain⟨_,_,_,_,h1,_⟩:=hP1;obtain⟨a,m,e,-⟩:=aF h1;exact⟨a,m,e,trivial⟩
 have hvw:∀g,(ZQ aw h.aA.length mw).ownBlock=U g->g<w1.heap.size:=λg hg=>by obtain⟨_,_,_,_,h1,_⟩:=hP1;exact(h1.lt g hg).2
 have HVW:=V hvw;have hw1:=hb1.size;have J:B<=w1.heap.size:=Nat.le_trans hB hw1;have HP1:=V<|Ψ hP1<|Ψ hk1<|hb1.mono hB;clear hP1 hk1 hb1 hvw qf H q0
 go_wp2_with fail
 clear q2 q3
 go_loopw [3,21] (λv i wr=>∃(k:Nat) (O:η) (L D:List Int),k<=h.aA.length/\i=Γ ω k/\Hid (D5 w w1 wr B b m1 (.slice ac h.cells.length mc) (.slice aw h.aA.length mw) v O h a1 L D k)) (λ_ i _=>h.aA.length-(intOf i).toNat)
 case atStart=>exact⟨0,vd,[],h.done,Nat.zero_le _,rfl,V ⟨HP1.out.1,HVW.out,HA.out,OI.nil _ _,(λg hg=>by cases hg),HP1.out.2.1,HP1.out.2.2,.refl,rfl,by simp⟩⟩
 case round=>
  clear HP1;obtain⟨k,O,L,D,hk,rfl,HL⟩:=hrel;have hwr:=HL.out.size;have N:B<=wr.heap.size:=Nat.le_trans J hwr;have hlL:L.length<=1000:=by rw[HL.out.isL];exact Nat.le_trans (ζ _ _) (by simp;omega)
  have hlD:D.length<=10000:=by rw[HL.out.isD];have:=ζ (λn=>!a1.contains n)<|h.aA.take k;simp at this⊢;omega
  obtain⟨av,mv,rfl,-⟩:=aF HL.out.row;by_cases hlt:k<h.aA.length
  ·obtain⟨n,en⟩:=lw hlt;have d1:∃g o,aw=U ⟨g,o,I⟩/\wr ⟨g,o+k,I⟩=U (Γ ω n):=by
    obtain⟨_,_,_,_,h1,_⟩:=HL.out.own;obtain⟨_,_,e,_,_,hh⟩:=h1.reads;cases e
    obtain⟨g,o,e,_,G⟩:=hh (by omega);exact⟨g,o,e,G k n en⟩
   obtain⟨g,o,rfl,d1⟩:=d1;have EN:=V en;clear en
   go_wp2_with fail
   refine(afa _ m1 a1 (1,n) HL.out.keys).mono ?_;rintro e w2 ⟨rfl,hb2⟩;have hh:has a1 (1,n)=a1.contains n:=by simp[has]
   rw[hh];have hz2:=hb2.size;have H2:=HL.out.to J hb2;have H3:=V<|H2.to J<|af w2<|Ξ #[Γ ω n] 3;replace H2:=V H2;clear hh d1 HL hb2;cases hc:a1.contains n
   ·have hcd:a1.contains n=ε:=hc;have HC:=V hcd;obtain⟨_,_,q0,⟨-,q3⟩,qf,_⟩:=H2.out.own.cells;have alS:b<w2:=by omega
    obtain⟨ad,md,e,-⟩:∃a m,O=.slice a D.length m/\True:=by obtain⟨_,_,_,_,_,h2,_⟩:=H2.out.own;obtain⟨a,m,e,-⟩:=aF h2;exact⟨a,m,e,trivial⟩
    subst e;have hvo:OI (w2.alloc<|Ξ #[Γ ω n] 3) B (.slice ad D.length md) D:=by obtain⟨_,_,_,_,_,h2,_⟩:=H3.out.own;exact h2
    obtain⟨r3,hbb⟩:∃r,(w2.alloc<|Ξ #[Γ ω n] 3).heap[b]?=U (Ξ #[.slice ac h.cells.length mc,r,ZQ (U ⟨g,o,I⟩) h.aA.length mw,.slice ad D.length md] 159):=by obtain⟨r,_,_,hb,_⟩:=H3.out.own;exact⟨r,hb⟩
    have hq3:(w2.alloc<|Ξ #[Γ ω n] 3) (b,3)=U (.slice ad D.length md):=by simp[Y,hbb]
    have HKB:Hid (∀(w3:Z9),(w2.alloc<|Ξ #[Γ ω n] 3).grownBy w3 (ZQ ad D.length md).ownBlock->w3.frozen? ⟨b,3,I⟩=ε/\w3.cell? ⟨b,3,I⟩=U (.slice ad D.length md)):=V λw3 hg=>by
     have hk3:=(hg.block b (by simp;omega) λe=>by obtain⟨_,_,cur,hc⟩:=hvo.og e.symm;rw[hbb]at hc;cases hc).trans hbb
     exact⟨by simp[μ,hk3],by simp[Y,hk3]⟩
    clear hc hcd q0 H2 hbb;have ahL:D.length<=1000000000:=by omega
    have hBw2:B<=(w2.alloc<|Ξ #[Γ ω n] 3).heap.size:=by simp;omega
    have G:(w2.alloc<|Ξ #[Γ ω n] 3) ((w2.heap.size:Addr).add 0)=U (Γ ω n):=by simp[go_sem,Addr.add]
    go_wp2_with (at_builtin;refine zp rfl _ _ rfl B _ _ rfl hvo w2.heap.size _ n rfl G ahL hBw2 ?_;intro v' w3 W hb3 hg3 hv3;obtain⟨f3,c3⟩:=HKB.out w3 hg3;obtain⟨a5,m5,e5,-⟩:=aF W;subst e5)
    rw[show(D++[n]).length=D.length+1 by simp]at W hv3;exact⟨⟨k+1,_,_,_,by omega,by go_num,V<|H3.out.put J EN.out HC.out hg3 W hv3⟩,by simp[intOf];omega⟩
   ·have hcd:a1.contains n=ZH:=hc;have HC:=V hcd;clear hc hcd
    go_wp2_with (at_builtin;refine zp rfl _ _ rfl w1.heap.size _ _ rfl H3.out.row w2.heap.size _ n rfl (by simp[go_sem,Addr.add]) (by omega) (by simp;omega) ?_;intro v' w3 W hb3 hg3 hv3)
    exact⟨⟨k+1,O,_,_,by omega,by go_num,V<|H3.out.took J EN.out HC.out hg3 W hv3⟩,by simp[intOf];omega⟩
  ·have hke:k=h.aA.length:=by omega
   subst hke;obtain⟨hP,-,-,hv3,-,hkk,hbw,-,hL,hD⟩:=HL.out;rw[List.take_length]at hL hD;have HLD:=V<|Ψ hL hD;clear hL hD;obtain⟨hP2,hb2⟩:=hP.Jl<|hv3.less J;obtain⟨-,hbr,q0,⟨q2,-⟩,q2f,-⟩:=hP.cells;replace q2f:=q2f 2;have hk2:=hkk.of_block (w':=wr.setCell (b,2)<|.slice av L.length mv)<|aa<|hkk.BY q0;obtain⟨-,-,hq0,-,-,-⟩:=hP2.cells;have hB2:R B w (wr.setCell (b,2)<|.slice av L.length mv):=hbw.trans hb2;clear hP hv3 hkk hbw hb2 HL q0
   go_wp2_with fail
   clear q2 q2f;generalize wr.setCell (b,2) (.slice av L.length mv)=w2 at hP2 hk2 hq0 hB2⊢;have HP2:=V<|Ψ hP2<|Ψ hk2 hB2;clear hP2 hk2 hB2 hq0 HVW HA hwr N J hbr
   go_loopw [57] (λi wr=>∃k:Nat,k<=h.cells.length/\i=Γ ω k/\Hid (dQ wr B b (.slice ac h.cells.length mc) (.slice av L.length mv) O (DE a1 h.cells k) h.roots L D/\bk wr m1 a1/\R B w wr)) (λi _=>h.cells.length-(intOf i).toNat)
   case atStart=>exact⟨0,Nat.zero_le _,rfl,by simpa[DE]using HP2⟩
   case round=>
    clear HP2;obtain⟨k,hk,rfl,HP⟩:=hrel;have hBw:=HP.out.2.2;have N:B<=wr:=Nat.le_trans hB hBw.size;by_cases hlt:k<h.cells.length
    ·obtain⟨kd,vs,ec⟩:=cQ hlt;have G:=Jm (a:=a1) hlt;rw[ec]at G;obtain⟨gc,m,x,e,_,_,d1,d2,_,hxv⟩:=HP.out.1.at_ G;obtain⟨ax,mx,rfl,_,_,_⟩:=id hxv;rw[wI]at e;cases e
     have hmem:=ξ ec;obtain⟨T,F,HKL⟩:=afW<|HO.out.shape _ hmem;have hvl:vs.length<=1000:=HO.out.first.eT _ hmem;dsimp only at HKL;have HX:=V hxv;have HE:=V<|Ψ ec G;have hb0:=af wr<|Ξ #[kd,.slice ax vs.length mx] 76;have hmt:=λw=>HKL.mt w<|.slice ax vs.length mx;have hent:=HKL.ent;clear G hxv ec hmem
     go_wp2_with fail
     refine(HKL.cellOf _ _ _ _).mono ?_;rintro e w3 ⟨rfl,hb3⟩;have hz3:wr.heap.size<w3:=by have:=hb3.size;rw[Zq]at this;omega
     have Q:=hb0.trans<|hb3.mono<|by simp
     go_wp2_with fail
     refine(HKL.los _ _ _ m1 a1 (HP.out.2.1.below Q)<|HX.out.below Q).mono ?_;rintro e w4 ⟨rfl,hb4⟩;have A:R wr wr w4:=Q.trans<|hb4.mono Q.size;have n4:w4 (wr.heap.size,1)=U (.slice ax vs.length mx):=(hb4.cell (p:=⟨wr.heap.size,1,I⟩) hz3).trans<|(hb3.cell (p:=⟨wr.heap.size,1,I⟩)<|by simp).trans<|by go_simp
     clear hb0 hb3 Q hb4 hmt hent;cases hlo:zm (kd,vs) a1
     ·have hst:=Aa (a:=a1) HE.out.1 (by unfold tS;rw[hlo];rfl);have HST:=V hst;clear hst hlo
      go_wp2_with fail
      exact⟨⟨k+1,by omega,by go_num,V ⟨by rw[HST.out];exact HP.out.1.below A,HP.out.2.1.below A,hBw.trans<|A.mono N⟩⟩,by simp[intOf];omega⟩
     ·have hst:=zZ (a:=a1) HE.out.1;rw[show tS a1 (kd,vs)=(kd,vs.map λ_=>(2,0)) by unfold tS;rw[hlo];rfl]at hst;have HST:=V hst;have H4:=V<|Ψ (HP.out.1.below A)<|Ψ (HP.out.2.1.below A)<|hBw.trans<|A.mono N;have tU:=A.size;clear hst hlo HP A hBw HX
      go_wp2_with fail
      have hset:(DE a1 h.cells k).set k (kd,va vs 0)=DE a1 h.cells k:=by
       have:=HE.out.2;refine θ λi=>?_;by_cases hi:i=k
       subst hi;rw[υ (by rw[wI];exact hlt),this];simp[va];rw[κ (ZG hi)]
      have hlt':(k:Int)<(h.cells.length:Int):=by omega
      have hk0:(0:Int)<=(k:Int):=by omega
      clear n4 d1 d2
      go_loopw [70] (λi wr'=>∃j:Nat,j<=vs.length/\i=Γ ω j/\Hid (dQ wr' B b (.slice (gc:Nat) h.cells.length mc) (.slice av L.length mv) O ((DE a1 h.cells k).set k (kd,va vs j)) h.roots L D/\bk wr' m1 a1/\R B w wr')) (λi _=>vs.length-(intOf i).toNat)
      case atStart=>exact⟨0,Nat.zero_le _,rfl,by rw[hset];exact H4⟩
      case round=>
       clear H4 hset;obtain⟨j,hj,rfl,HJ⟩:=hrel;by_cases hlj:j<vs.length
       ·have G:((DE a1 h.cells k).set k (kd,va vs j))[k]?=U (kd,va vs j):=υ (by rw[wI];exact hlt);obtain⟨gc',m',g,m2,e1,s1,hm2,⟨u1,s2⟩,⟨u2,s3⟩,s4,JH,Oz⟩:=HJ.out.1.BB (j:=j) G (by rw[OB];exact hlj) (2,0);rw[Zi,wI]at e1;cases e1
        rw[OB]at s1 hm2;rw[List.set_set,RI hlj]at JH;have s4a:=s4<|j*2;have s4b:=s4<|j*2+1;obtain⟨_,_,r0,_⟩:=HJ.out.1.cells;have hk5:=HJ.out.2.1.two (i:=j*2) (j:=j*2+1) (u:=Γ ω 2) (v:=Γ ω 0) s2;have HP5:=V<|Ψ JH<|Ψ hk5<|HJ.out.2.2.trans Oz;have hj1:(j:Int)<(vs.length:Int):=by omega
        have hj0:(0:Int)<=(j:Int):=by omega
        clear JH Oz hk5 s4 G HJ
        go_wp2_with fail
        exact⟨⟨j+1,by omega,by go_num,HP5⟩,by simp[intOf];omega⟩
       ·have hje:j=vs.length:=by omega
        subst hje
        go_wp2_with fail
        exact⟨⟨k+1,by omega,by go_num,by rw[HST.out,<-Xv];exact HJ⟩,by simp[intOf];omega⟩
    ·have hke:k=h.cells.length:=by omega
     subst hke;obtain⟨l,hk9,-⟩:=HP.out;rw[Oy]at l;obtain⟨E,hcs1⟩:∃x,x=h.cells.map (tS a1):=⟨_,rfl⟩;have hl1:E.length=h.cells.length:=by rw[hcs1];simp
     rw[<-hcs1]at l;have hbr:(⟨E,h.roots,L,D⟩:PH)=ag h:=by rw[hcs1,HLD.out.1,HLD.out.2,<-HA1.out];rfl
     have HBR:=V hbr;obtain⟨_,_,q0,_⟩:=l.cells;have HP9:=V<|Ψ l hBw;have WA:=V hl1;clear HP l hcs1 hl1 hbr hk9 HLD
     go_wp2_with fail
     have hkd:bk (wr.alloc<|.map #[] 0) wr.heap.size (((ZM 0).map λi:Nat=>(i:Int))):=bk.made wr;have hPa:=HP9.out.1.below<|af wr<|.map #[] 0;have hBa:=hBw.trans<|((af wr<|.map #[] 0)).mono N;have HKD:=V<|Ψ hkd<|Ψ hPa hBa;obtain⟨m3,Fw⟩:∃m3,m3=wr.heap.size:=⟨_,rfl⟩;rw[<-Fw]at HKD⊢;have aft:B<=m3:=by omega
     clear hkd hPa hBa q0 Fw
     go_loopw [94] (λi wr=>∃k:Nat,k<=h.cells.length/\i=Γ ω k/\Hid (bk wr m3 ((ZM k).map λi:Nat=>(i:Int))/\dQ wr B b (.slice ac h.cells.length mc) (.slice av L.length mv) O E h.roots L D/\R B w wr)) (λi _=>h.cells.length-(intOf i).toNat)
     case atStart=>exact⟨0,Nat.zero_le _,rfl,HKD⟩
     case round=>
      clear HKD HP9 hBw N;obtain⟨k,hk',rfl,HK⟩:=hrel;by_cases hlt2:k<h.cells.length
      ·obtain⟨w5,hup,hk5,hg5,hs5⟩:=ki (k:Int) HK.out.1;have hadd:ml ((ZM k).map λi:Nat=>(i:Int)) (k:Int)=(ZM<|k+1).map λi:Nat=>(i:Int):=by unfold ml;rw[if_neg (by simp;omega),List.range_succ,ZV];rfl
       rw[hadd]at hk5;have JH:=HK.out.2.1.grown hg5 λr e=>.inr (by cases e;exact HK.out.1.Ac);have Oz:=HK.out.2.2.grown hg5 (Nat.le_trans hB HK.out.2.2.size) (λr e=>by
        cases e
        exact aft)
       have HK5:=V<|Ψ hk5<|Ψ JH Oz;clear hk5 JH Oz hg5 hadd
       go_wp2_with fail
       exact⟨⟨k+1,by omega,by go_num,HK5⟩,by simp[intOf];omega⟩
      ·have hke:k=h.cells.length:=by omega
       subst hke;have N:=Nat.le_trans hB HK.out.2.2.size;have HND:=V (f7 HO.out.second.wp).2.2.1
       go_wp2_with fail
       refine(DD _ b (ag h) (by rw[<-HBR.out];exact HK.out.2.1.reads) HO.out.second).mono ?_;rintro e w6 ⟨⟨m4,rfl,hm4,hk4⟩,hb6⟩;obtain⟨a2,ha2⟩:∃x,x=alive (ag h):=⟨_,rfl⟩;rw[<-ha2]at hk4 HND;obtain⟨w7,hrg,q,hg7,hs7⟩:=qg hk4;have hk6:=HK.out.1.below hb6;have JF:=hk6.of_block<|hg7.block m3 hk6.lt<|by simp
       have hP7:=(HK.out.2.1.below hb6).grown hg7 (λr e=>by cases e);have Wm:=(HK.out.2.2.trans<|hb6.mono N).grown hg7 (Nat.le_trans N hb6.size) (λr e=>by cases e);have afu:m3≠m4:=by have:=HK.out.1.lt;omega
       have WB:m3≠w6.heap.size:=by have:=hk6.lt;omega
       have HA2:=V ha2;have KV:=V<|Ψ q<|Ψ JF<|Ψ hP7 Wm;obtain⟨r4,hr4⟩:∃r,r=w6.heap.size:=⟨_,rfl⟩;have anD:B<=r4:=by rw[hr4];exact Nat.le_trans N hb6.size
       rw[<-hr4]at hrg KV WB;clear hr4;clear hk4 q hg7 hk6 JF hP7 Wm ha2 hb6 HK
       go_wp2_with fail
       clear hrg;have WC:=lD.sM E.length a2;rw[WA.out]at WC
       go_loopw [11] (λ_ wr=>∃f LL,Hid<|eD wr r4 m4 a2 f/\bk wr m3 LL/\lD h.cells.length a2 f LL/\f.Nodup/\(∀x∈f,x∈a2)/\dQ wr B b (.slice ac h.cells.length mc) (.slice av L.length mv) O E h.roots L D/\R B w wr) (λ_ wr=>oA wr r4 m4)
       case atStart=>exact⟨a2,_,V ⟨KV.out.1,KV.out.2.1,WC,HND.out,λx hx=>hx,KV.out.2.2.1,KV.out.2.2.2⟩⟩
       case round=>
        clear KV WC;obtain⟨f,LL,HL⟩:=hrel;obtain⟨q,hkl,hsk,P,s,K,C⟩:=HL.out;obtain⟨hnil,S⟩|⟨X,d,x,w8,hXY,S,t,no,hs8,hen⟩:=sH 0 q
        ·subst hnil;have anF:=Nat.le_trans hB C.size;have HSK:=V hsk;obtain⟨w9,afv,z,hg9,hs9⟩:=qg hkl;have l:=K.grown hg9 (λr e=>by cases e);have Dv:=C.grown hg9 anF (λr e=>by cases e);have wB:=V<|Ψ z<|Ψ l Dv;obtain⟨r5,Xq⟩:∃r,r=wr.heap.size:=⟨_,rfl⟩;rw[<-Xq]at afv wB;have anH:B<=r5:=by omega
         clear Xq;clear HL q hkl hsk P s K C z hg9 l Dv
         go_wp2_with (at_next;refine pU rfl _ rfl _ rfl _ _ S ?_)
         clear S afv
         go_loopw [12] (λ_ wr=>∃f,Hid<|eD wr r5 m3 LL f/\f.Nodup/\(∀x∈f,x∈LL)/\dQ wr B b (.slice ac h.cells.length mc) (.slice av L.length mv) O (freed E LL f) h.roots L D/\R B w wr) (λ_ wr=>oA wr r5 m3)
         case atStart=>exact⟨LL,V ⟨wB.out.1,HSK.out.nodup,λx hx=>hx,by rw[Ab];exact wB.out.2.1,wB.out.2.2⟩⟩
         case round=>
          clear wB;obtain⟨f,HF⟩:=hrel;obtain⟨q,P,s,K,C⟩:=HF.out;obtain⟨hnil,S⟩|⟨X,d,x,w8,hXY,S,t,no,hs8,hen⟩:=sH 0 q
          ·subst hnil;have hend:freed E LL []=wJ E a2:=by have h1:=HSK.out;rw[<-WA.out]at h1;rw[VP h1]
           rw[hend]at K;have HPL:=V<|Ψ K C;clear HF q P s K C hend
           go_wp2_with (at_next;refine pU rfl _ rfl _ rfl _ _ S ?_)
           go_end0;have hfin:lu h=⟨wJ E a2,h.roots,L,D⟩:=by rw[ir,<-HBR.out,HA2.out,<-HBR.out];rfl
           rw[hfin];exact⟨rfl,⟨_,_,_,HPL.out.1⟩,HPL.out.2⟩
          ·subst hXY;have hxL:=s x (by simp);obtain⟨⟨hx0,hx1⟩,_⟩:=(HSK.out.mem x).1 hxL;obtain⟨n,rfl⟩:=Z7 hx0;have hP8:=K.grown no (λr e=>.inr (by
            cases e
            obtain⟨es,clk,since,seen,c0,h1,h2,h3,_⟩:=q;exact⟨_,h3,rfl⟩))
           have Wn:=C.grown no (Nat.le_trans hB C.size) (λr e=>by cases e;exact anH);have hfl:=PB E LL (X++(n:Int)::d);obtain⟨gc',m',e1,_,⟨u1,s1⟩,⟨u2,s2⟩,s3,l,Dv⟩:=hP8.free (i:=n) (by rw[hfl,WA.out];omega);rw[hfl,WA.out]at e1;cases e1
           have afw:=BX (cs:=E) (D:=LL) (by rw[WA.out];omega) hxL P;rw[<-afw]at l;have z:=t.two (i:=n*2) (j:=n*2+1) (u:=Γ ω 3) (v:=()) s1;have afx:(X++d).Nodup:=P.sublist<|ZJ (Zx _ _) _;have hm1:=q.oA;have hm2:=z.oA;obtain⟨_,_,r0,_⟩:=hP8.cells;have s3a:=s3<|n*2;have s3b:=s3<|n*2+1;have wB:=V<|Ψ z<|Ψ afx<|Ψ (λy (hy:y∈X++d)=>s y (by simp at hy⊢;obtain h|h:=hy;exact .inl h;exact .inr<|.inr h))<|Ψ l<|Wn.trans Dv;have HM:=V<|Ψ hm1 hm2;have hn1:(n:Int)<(h.cells.length:Int):=by omega
           have hn0:(0:Int)<=(n:Int):=by omega
           clear HF q P s K C hxL hx0 hx1 t no hs8 hP8 Wn hfl l Dv afw z afx hm1 hm2 s3
           go_wp2_with (at_next;refine pU rfl _ rfl _ rfl _ _ S ?_)
           go_roundw
           case rel=>exact⟨X++d,wB⟩
           case measure=>rw[HM.out.1,HM.out.2];simp
        ·subst hXY;have hxa:=s x (by simp);have hne:m3≠r4:=WB;have hk8:bk w8 m3 LL:=hkl.of_block<|no.block m3 hkl.lt λe=>hne<|ZP e;have hP8:=K.grown no (λr e=>.inr (by
          cases e
          obtain⟨es,clk,since,seen,c0,h1,h2,h3,_⟩:=q;exact⟨_,h3,rfl⟩))
         have Wn:=C.grown no (Nat.le_trans hB C.size) (λr e=>by cases e;exact anD);have aaL:=hsk.next P hxa;have OA:(X++d).Nodup:=P.sublist<|ZJ (Zx _ _) _;have hm1:=q.oA;have HK8:=V<|Ψ t<|Ψ aaL<|Ψ OA<|Ψ (λy (hy:y∈X++d)=>s y (by simp at hy⊢;obtain h|h:=hy;exact .inl h;exact .inr<|.inr h))<|Ψ hP8 Wn;have HKK:=V hk8;have HM:=V hm1;clear HL q hkl hsk P s K C t no hs8 hk8 hP8 Wn aaL OA hm1
         go_wp2_with (first|(at_next;refine pU rfl _ rfl _ rfl _ _ S ?_)|(at_delete;refine qz rfl _ _ rfl m3 LL x rfl rfl HKK.out ?_;intro w9 hk9 hg9 hs9;go_frame))
         obtain⟨t,aaL,OA,afy,hP8,Wn⟩:=HK8.out;have z:=t.of_block (w':=w9) (hg9.block m4 t.lt.2.1 λe=>afu (ZP e).symm)<|hg9.block r4 t.lt.1 λe=>WB (ZP e).symm;have l:=hP8.grown hg9 λr e=>.inr (by cases e;exact HKK.out.Ac);have Dv:=Wn.grown hg9 (Nat.le_trans hB Wn.size) (λr e=>by cases e;exact aft)
         go_roundw
         case rel=>exact⟨X++d,LL.erase x,V ⟨z,hk9,aaL,OA,afy,l,Dv⟩⟩
         case measure=>rw[HM.out,z.oA];simp
end
section
variable(w:Z9)
def Ad:ZZ prog 121 #[.nilIface] w λe w'=>e=.returned (Γ ω 0)/\R w w w':=by
 have a:∀w:Z9,(Instr.typeAssert .nilIface 20 174 ZH).run prog w=.ok (.tuple #[.nilIface,.bool ε]) w:=λw=>by kernel_rfl
 go_enter (fU func121 rfl),ntmps121
 go_wp2
 go_ret;exact⟨rfl,ο _ _⟩
def Ae(p x w)(c:w p=U x)(d:w.frozen? p=ε):
 CallsD prog 124 #[ZW (U p)] .returning w λe g w'=>e=.returned (.tuple #[])/\g=.returning/\∃w1,R w w w1/\w'=w1.setCell p (Γ ω 0):=by
 have b:=ZU c;refine ZO (fU func124 rfl) rfl λa cs f=>?_;apply ZF;simp[Zd,go_sem,Zv,f,ntmps124,ZL];refine(Ad w).mono ?_;rintro e w1 ⟨rfl,hb⟩;have i:=(hb.cell b).trans c;have h:=(hb.frozen b).trans d;cases a
 simp_all [go_sem,ZA,ZN,results124]
 exact⟨w1,hb,rfl⟩
def Rk(v h)(hv:tH w v h)(X:Xh h)(ho:Kq h):
 ZZ prog 64 #[v] w λe w'=>(∃r,e=.returned (.tuple #[r,Γ ω 0])/\tH w' r (lu h))/\R w w w':=by
 have hmf:∀(fn:Fn) (first cap:Array η) (w:Z9),(Instr.makeFunc fn first cap).run prog w=.ok (.func fn first cap) w:=λ_ _ _ _=>rfl;have HV:=V hv;have HK:=V X;have HO:=V ho;obtain⟨c,r,wi,d,rfl,⟨ac,mc,rfl,_⟩,⟨ar,mr,rfl,_⟩,⟨aw,mw,rfl,_⟩,⟨ad,md,rfl,_⟩⟩:=hv;clear X ho
 go_enter_defers (fU func64 rfl),ntmps64
 go_wp2_with fail
 have L:R w w (((w.alloc<|Ξ #[.slice ac h.cells.length mc,.slice ar h.roots.length mr,.slice aw h.aA.length mw,.slice ad h.done.length md] 56).alloc<|Ξ #[(),(),(),()] 56).alloc<|Ξ #[Γ ω 0] 34):=((af w _).alloc (by simp) _).alloc (by simp;omega) _;have hz3:(((w.alloc<|Ξ #[.slice ac h.cells.length mc,.slice ar h.roots.length mr,.slice aw h.aA.length mw,.slice ad h.done.length md] 56).alloc<|Ξ #[(),(),(),()] 56).alloc<|Ξ #[Γ ω 0] 34).heap.size=w.heap.size+1+1+1:=by simp
 have x1:(((w.alloc<|Ξ #[.slice ac h.cells.length mc,.slice ar h.roots.length mr,.slice aw h.aA.length mw,.slice ad h.done.length md] 56).alloc<|Ξ #[(),(),(),()] 56).alloc<|Ξ #[Γ ω 0] 34).heap[w.heap.size+1]?=U (Ξ #[(),(),(),()] 56 (0,0)):=by rw[Zm _ _ _ (by simp)];have:=Z4 (w.alloc<|Ξ #[.slice ac h.cells.length mc,.slice ar h.roots.length mr,.slice aw h.aA.length mw,.slice ad h.done.length md] 56)<|Ξ #[(),(),(),()] 56;simpa using this
 have x2:(((w.alloc<|Ξ #[.slice ac h.cells.length mc,.slice ar h.roots.length mr,.slice aw h.aA.length mw,.slice ad h.done.length md] 56).alloc<|Ξ #[(),(),(),()] 56).alloc<|Ξ #[Γ ω 0] 34).heap[w.heap.size+1+1]?=U (Ξ #[Γ ω 0] 34 (0,0)):=by have:=Z4 ((w.alloc<|Ξ #[.slice ac h.cells.length mc,.slice ar h.roots.length mr,.slice aw h.aA.length mw,.slice ad h.done.length md] 56).alloc<|Ξ #[(),(),(),()] 56)<|Ξ #[Γ ω 0] 34;simpa using this
 generalize ((w.alloc _).alloc _).alloc _=A at L hz3 x1 x2⊢;have HX:=V<|Ψ x1 x2;clear x1 x2;refine(PY _ _ h (HV.out.below L) HK.out).mono ?_;rintro e w4 ⟨⟨b,rfl,T⟩,hb4⟩;have Xh:=V T;clear T
 go_wp2_with fail
 refine(BZ w4 A b h Xh.out hb4.size HO.out).mono ?_;rintro e w5 ⟨rfl,⟨c5,vw5,vd5,r5,z,Oz,u,F,O,P,W,K,-⟩,hb5⟩;have a:=hb4.trans hb5;have hcr:(lu h).roots=h.roots:=rfl;obtain⟨N,G,rfl,_⟩:=aF P;obtain⟨o,t,rfl,_⟩:=aF K;obtain⟨q,l,rfl,_⟩:=aF F;obtain⟨s,m,rfl,_⟩:=aF O;generalize hH:lu h=H at F O P W K hcr⊢;have hl5:z.length=z.length:=rfl;have HP5:=V<|Ψ P<|Ψ W<|Ψ K<|Ψ F O;have g0:w5 b=U (.slice N z.length G):=by simp[Y,u]
 have g1:w5 (b,1)=U (.slice o H.roots.length t):=by simp[Y,u,hH]
 have g2:w5 (b,2)=U (.slice q H.aA.length l):=by simp[Y,u,hH]
 have g3:w5 (b,3)=U (.slice s H.done.length m):=by simp[Y,u,hH]
 have HH:=V hH;clear hH hcr hl5;have D:=(a.block (w.heap.size+1)<|by omega).trans HX.out.1;have y2:=(a.block (w.heap.size+1+1)<|by omega).trans HX.out.2;have HY:=V<|Ψ D y2;have z0:w5 (w.heap.size+1:Nat)=U ():=by simp[Y,D]
 have z1:w5 (w.heap.size+1,1)=U ():=by simp[Y,D]
 have z2:w5 (w.heap.size+1,2)=U ():=by simp[Y,D]
 have z3:w5 (w.heap.size+1,3)=U ():=by simp[Y,D]
 have ze:w5 (w.heap.size+1+1:Nat)=U (Γ ω 0):=by simp[Y,y2]
 have f0:w5.frozen? (w.heap.size+1:Nat)=ε:=by simp[μ,D]
 have f1:w5.frozen? (w.heap.size+1,1)=ε:=by simp[μ,D]
 have f2:w5.frozen? (w.heap.size+1,2)=ε:=by simp[μ,D]
 have f3:w5.frozen? (w.heap.size+1,3)=ε:=by simp[μ,D]
 have fe:w5.frozen? (w.heap.size+1+1:Nat)=ε:=by simp[μ,y2]
 have HB:=V<|Ψ L<|Ψ a<|Ψ hz3 Oz;clear L hb4 hb5 a D y2 F O P W K u Oz
 go_wp2_with fail
 have e6:=aB (aB (aB (aB HY.out.1 0<|.slice N z.length G) 1<|.slice o H.roots.length t) 2<|.slice q H.aA.length l) 3<|.slice s H.done.length m;have e7:((((w5.setCell (w.heap.size+1:Nat)<|.slice N z.length G).setCell (w.heap.size+1,1)<|.slice o H.roots.length t).setCell (w.heap.size+1,2)<|.slice q H.aA.length l).setCell (w.heap.size+1,3)<|.slice s H.done.length m).heap[w.heap.size+1+1]?=U (Ξ #[Γ ω 0] 34 (0,0)):=by rw[aa (by omega),aa<|by omega,aa<|by omega,aa<|by omega];exact HY.out.2
 have C:∀k,A.heap.size<=k->((((w5.setCell (w.heap.size+1:Nat)<|.slice N z.length G).setCell (w.heap.size+1,1)<|.slice o H.roots.length t).setCell (w.heap.size+1,2)<|.slice q H.aA.length l).setCell (w.heap.size+1,3)<|.slice s H.done.length m).heap[k]?=w5.heap[k]?:=λk X=>by rw[aa (by omega),aa<|by omega,aa<|by omega,aa<|by omega]
 have hb6:R w w5 ((((w5.setCell (w.heap.size+1:Nat)<|.slice N z.length G).setCell (w.heap.size+1,1)<|.slice o H.roots.length t).setCell (w.heap.size+1,2)<|.slice q H.aA.length l).setCell (w.heap.size+1,3)<|.slice s H.done.length m):=((((ο w w5).setCell (p:=⟨w.heap.size+1,0,I⟩) (by simp) _).setCell (p:=⟨w.heap.size+1,1,I⟩) (by simp) _).setCell (p:=⟨w.heap.size+1,2,I⟩) (by simp) _).setCell (p:=⟨w.heap.size+1,3,I⟩) (by simp) _
 generalize ((((w5.setCell (w.heap.size+1:Nat)<|.slice N z.length G).setCell (w.heap.size+1,1)<|.slice o H.roots.length t).setCell (w.heap.size+1,2)<|.slice q H.aA.length l).setCell (w.heap.size+1,3)<|.slice s H.done.length m)=w6 at e6 e7 hb6 C⊢;have k2:(w6.setCell (w.heap.size+1+1:Nat)<|Γ ω 0).heap[w.heap.size+1+1]?=U (Ξ #[Γ ω 0] 34 (0,0)):=by rw[aB e7];rfl
 have k1:(w6.setCell (w.heap.size+1+1:Nat)<|Γ ω 0).heap[w.heap.size+1]?=U (Ξ #[.slice N z.length G,.slice o H.roots.length t,.slice q H.aA.length l,.slice s H.done.length m] 56 (0,0)):=by rw[aa (by omega),e6];rfl
 have Q:=hb6.setCell (p:=⟨w.heap.size+1+1,0,I⟩) (by simp;omega)<|Γ ω 0;have B:∀k,A.heap.size<=k->(w6.setCell (w.heap.size+1+1:Nat)<|Γ ω 0).heap[k]?=w5.heap[k]?:=λk X=>by rw[aa (by omega)];exact C k X
 generalize (w6.setCell (w.heap.size+1+1:Nat)<|Γ ω 0)=w7 at k1 k2 Q B⊢;clear e6 e7 hb6 C;refine leaves_cons (f:=124) (args:=#[.pointer (w.heap.size+1+1:Nat)]) (by simp) (by simp[go_sem]) ?_;refine(Ae (w.heap.size+1+1:Nat) (Γ ω 0) _ (by simp[Y,k2])<|by simp[μ,k2]).mono ?_;rintro e u' w'' ⟨rfl,rfl,w9,J,rfl⟩;have hl1:=(Ω.1 k1).1;have hl2:=(Ω.1 k2).1;have n2:=(J.block _ hl2).trans k2;have n1:=(J.block _ hl1).trans k1;have m2:(w9.setCell (w.heap.size+1+1:Nat)<|Γ ω 0).heap[w.heap.size+1+1]?=U (Ξ #[Γ ω 0] 34 (0,0)):=by rw[aB n2];rfl
 have m1:(w9.setCell (w.heap.size+1+1:Nat)<|Γ ω 0).heap[w.heap.size+1]?=U (Ξ #[.slice N z.length G,.slice o H.roots.length t,.slice q H.aA.length l,.slice s H.done.length m] 56 (0,0)):=by rw[aa (by omega)];exact n1
 have a:=HB.out.2.1;have hw5:w.heap.size<=w7:=by have:=a.size;have:=Q.size;omega
 have hb8:=J.mono hw5;have S:=(Q.trans hb8).setCell (p:=⟨w.heap.size+1+1,0,I⟩) (by simp;omega)<|Γ ω 0;have y:∀k,A.heap.size<=k->k<w5->(w9.setCell (w.heap.size+1+1:Nat)<|Γ ω 0).heap[k]?=w5.heap[k]?:=λk X hk2=>by rw[aa (by omega),J.block k (by have:=Q.size;omega)];exact B k X
 generalize (w9.setCell (w.heap.size+1+1:Nat)<|Γ ω 0)=j at m1 m2 S y⊢;have r0:j (w.heap.size+1:Nat)=U (.slice N z.length G):=by simp[Y,m1]
 have r1:j (w.heap.size+1,1)=U (.slice o H.roots.length t):=by simp[Y,m1]
 have r2:j (w.heap.size+1,2)=U (.slice q H.aA.length l):=by simp[Y,m1]
 have r3:j (w.heap.size+1,3)=U (.slice s H.done.length m):=by simp[Y,m1]
 have r4:j (w.heap.size+1+1:Nat)=U (Γ ω 0):=by simp[Y,m2]
 simp[Leaves,settle,ZN,results64,go_sem,r0,r1,r2,r3,r4];obtain⟨p53,E,p55,q1,q2⟩:=HP5.out;have wl:∀{e:ZR} {size n:Nat} {v:η} {xs:List η},w5.ownsRow A e size v n xs->j.ownsRow A e size v n xs:=λho=>aS ho λg hg=>by obtain⟨h1,h2⟩:=ho.lt g hg;exact y g h1 h2
 have t53:OC j A _ z:=wl p53;have t54:df j A z _:=⟨E.1,λi k x k' vs e1 e2=>⟨(E.2.1 i k x k' vs e1 e2).1,wl (E.2.1 i k x k' vs e1 e2).2⟩,E.2.2⟩;have t55:OV j A _ H.roots:=wl p55;have t51:OI j A _ H.aA:=wl q1;have t52:OI j A _ H.done:=wl q2;rw[HH.out];exact⟨⟨_,_,_,_,rfl,t53.reads t54.hold,t55.reads,t51.reads,t52.reads⟩,HB.out.1.trans<|(a.mono HB.out.1.size).trans S⟩
end
section
variable{w:Z9}
structure Jn(g:GH):Prop where
 small:Small g
 XI:Xh (plain g)
 afA:Kq (plain g)
 res:I' (Md.lu (plain g))
def RC.less{B B' v l}(h:RC w B v l)(e:B'<=B):RC w B' v l:=by
 obtain⟨a,m,rfl,b,c,d,h⟩:=h;refine⟨a,m,rfl,b,c,d,λh0=>?_⟩
 grind
def dm.less{w B B' b g}(h:dm w B b g)(a:B'<=B):dm w B' b g:=by obtain⟨n,o,m,row,c,hb,i,f,j,d⟩:=h;exact⟨n,o,m,row,Nat.le_trans a c,hb,i.less a,f.less a,eV j a,λk e=>eV (d.1 k e) a,d.2⟩
def dm.Jo{B b g}(h:dm w B b g):∃a m,w (b,1)=U (.slice a g.old.length m):=by obtain⟨n,o,m,row,i,hb,f,⟨d,e,c,_⟩,_⟩:=h;rw[aT]at c;refine⟨d,e,?_⟩;rw[<-c];simp[Y,hb]
def tH.form{v h}(f:tH w v h):∃a mc ar e aw b ad md,v=.agg #[.slice a h.cells.length mc,.slice ar h.roots.length e,.slice aw h.aA.length b,.slice ad h.done.length md]:=by obtain⟨c,r,g,d,rfl,⟨a,mc,rfl,_⟩,⟨ar,e,rfl,_⟩,⟨aw,b,rfl,_⟩,⟨ad,md,rfl,_⟩⟩:=f;exact⟨_,_,_,_,_,_,_,_,rfl⟩
def OD(w B b g)(u:dm w B b g)(hs:Jn g):
 ZZ prog 190 #[.pointer b] w λe w'=>(∃Q,e=.returned (.pointer (Q:Nat))/\dm w' w Q (Md.iF g))/\R w w w':=by
 have HG:=V u;have v:=V hs;obtain⟨hBb,z,_⟩:=u.obj;obtain⟨ao,W,q⟩:=u.Jo;have C:g.old.length<=1000000:=by have:=hs.small.bw;omega
 have K:((0:Int) !=0)=ε:=rfl;clear u hs
 go_enter (fU func190 rfl),ntmps190
 go_wp2_with fail
 refine(DB _ b g HG.out.reads v.out.small).mono ?_;rintro e w1 ⟨⟨r1,rfl,N⟩,n⟩;have P:=V N;clear N
 go_wp2_with fail
 refine(Rk _ r1 (plain g) P.out v.out.XI v.out.afA).mono ?_;rintro e d ⟨⟨r2,rfl,A⟩,h⟩;have l:=n.trans<|h.mono n.size;have F:=V A;obtain⟨j,mc,ar,m,aw,k,ad,i,rfl⟩:=A.form;clear A n h P;generalize S:Md.lu (plain g)=a at F⊢;have T:=V S;clear S
 go_wp2_with fail
 ((with_reducible refine(cd _ _).mono ?_))
 rintro e w' ⟨rfl,rfl⟩
 go_wp2_with fail
 have o:=af d<|Ξ #[.slice j a.cells.length mc,.slice ar a.roots.length m,.slice aw a.aA.length k,.slice ad a.done.length i] 56;have t:(d.alloc<|Ξ #[.slice j a.cells.length mc,.slice ar a.roots.length m,.slice aw a.aA.length k,.slice ad a.done.length i] 56) d.heap.size=U (.slice j a.cells.length mc):=by go_simp
 have q1:(d.alloc<|Ξ #[.slice j a.cells.length mc,.slice ar a.roots.length m,.slice aw a.aA.length k,.slice ad a.done.length i] 56) (d.heap.size,1)=U (.slice ar a.roots.length m):=by go_simp
 have H:(d.alloc<|Ξ #[.slice j a.cells.length mc,.slice ar a.roots.length m,.slice aw a.aA.length k,.slice ad a.done.length i] 56) (d.heap.size,2)=U (.slice aw a.aA.length k):=by go_simp
 have D:(d.alloc<|Ξ #[.slice j a.cells.length mc,.slice ar a.roots.length m,.slice aw a.aA.length k,.slice ad a.done.length i] 56) (d.heap.size,3)=U (.slice ad a.done.length i):=by go_simp
 have c:=l.trans<|o.mono l.size;have L:=V<|F.out.below o;generalize d.alloc _=J at t q1 H D c L⊢;have O:=cG c q z;clear F l o q;generalize d.heap.size=y at t q1 H D⊢;have f:=az t
 go_region_held3 (λx=>x y=U (.slice j a.cells.length mc)/\x (y,1)=U (.slice ar a.roots.length m)/\x (y,2)=U (.slice aw a.aA.length k)/\x (y,3)=U (.slice ad a.done.length i)/\x (b,1)=U (.slice ao g.old.length W))
  ((refine⟨?_,?_,?_,?_,?_⟩<;>(repeat (first|with_reducible assumption|with_reducible refine dO ?_))))
  ((go_at_call 226;(with_reducible refine(On _ _ a g.old.length (L.out.below (ο _ _).drew) (T.out▸v.out.res) C).mono ?_);rintro e w5 ⟨⟨X,rfl,r⟩,s⟩;have G:=V r;clear r;have E:R w w w5:=c.trans<|((ο _ _).drew.trans s).mono c.size;have p:R J J w5:=(ο _ _).drew.trans s;have p0:=cG p t f;have p1:=cG p q1 f;have p2:=cG p H f;have p3:=cG p D f;have p4:=cG p O<|az O))
 go_wp2_with fail
 go_ret;refine⟨⟨X,rfl,?_⟩,E⟩;have:=G.out.less c.size;rw[<-T.out]at this;exact this
end
def cR.less{w B B' b g J}(h:cR w B b g J)(a:B'<=B):cR w B' b g J:=by obtain⟨n,o,m,row,c,hb,i,f,l,d,j⟩:=h;exact⟨n,o,m,row,Nat.le_trans a c,hb,i.less a,f.less a,eV l a,⟨λk e=>eV (d.1 k e) a,d.2⟩,j⟩
def dm.six{w B b g c}(h:dm w B b g)(hc:w.heap[b]?=U (.cells c 114 (0,0))):c.size=6:=by
 obtain⟨n,o,m,row,a,hb,_⟩:=h;rw[hb]at hc;cases hc
 rfl
def Wp{w:Z9}{b:Nat}{c}(h:w.heap[b]?=U (.cells c 114 (0,0)))(hc:c.size=6):∃a e g f x4 i,w b=U a/\w (b,1)=U e/\w (b,2)=U g/\w (b,3)=U f/\w (b,4)=U x4/\w (b,5)=U i:=by
 obtain⟨l⟩:=c;have d:=hc;obtain _|⟨a,_|⟨e,_|⟨g,_|⟨f,_|⟨x4,_|⟨i,_|⟨x6,l⟩⟩⟩⟩⟩⟩⟩:=l
 all_goals first
  |(exfalso;simp at d;done)
  |exact⟨a,e,g,f,x4,i,by simp[Y,h],by simp[Y,h],by simp[Y,h],by simp[Y,h],by simp[Y,h],by simp[Y,h]⟩
def sP(w:Z9)(B b g){J:Nat->Prop}(hJ:∀j,J j->j<w)(hg:cR w B b g J)(X:Jn g)(hp:im (Md.iF g))(hB:B<=w):
 ZZ prog 144 #[.pointer b,.iface 120<|.agg #[]] w (cq J B b g .major w):=by
 have S:=V hg;have r:=V hp;have HW:=V X;obtain⟨aiC,H,c0',s⟩:=hg.own.obj;have hbx:=H;have K:=V s;clear hg hp X s;have hta:=IW;have hmp:=IZ
 go_enter (fU func144 rfl),ntmps144
 go_wp2_with fail
 clear hta;have q:=af w<|Ξ #[] 120;refine(OD _ B b g (S.out.own.below q) HW.out).mono ?_;rintro e w2 ⟨⟨u,rfl,l⟩,N⟩;have arY:=l.obj.1;replace l:=l.less q.size;have T:=V l;have z:=q.trans<|N.mono q.size;clear l N
 go_wp2_with fail
 clear hmp;refine(zP _ w u (Md.iF g) T.out r.out).mono ?_;rintro e w3 ⟨⟨bs,bm,so,rfl,hs⟩,O⟩;have arZ:=hs.1;obtain⟨order,h⟩:∃o,o=bV (Md.iF g) co []:=⟨_,rfl⟩;rw[<-h]at hs;have y:c9 (Md.iF g) co order:=by rw[h];exact c9.bV (.inr rfl) r.out.cells r.out.cJ (λv hv=>by cases hv)
 have a:=z.trans<|O.mono z.size;obtain⟨G,Q,hso,hsm,aar,_⟩:=aF hs.2.2.2.1;have P:w3 bs=U (.slice G order.length Q):=by simp[Y,hs.2.2.1,hso]
 have hol:=y.len;have hn1:=r.out.news;have hn2:=r.out.bw;have HO:=V h;have HK:=V y;have HS:=V hs;have L:=(cR.wC (J:=J) T.out hJ).below O;have HG3:=V L;clear h y hs hso L;by_cases x:32<order.length
 ·have A:(32:Int)<(order.length:Int):=by omega
  go_wp2_with fail
  go_ret2
  have hm:Md.collect .major g=I:=by rw[mI,<-HO.out,if_pos x]
  unfold cq;rw[hm];exact⟨rfl,S.out.below a,a.mono hB,qb.bK a,λj _ n=>a.block j n⟩
 ·have A:¬(32:Int)<(order.length:Int):=by omega
  go_wp2_with fail
  refine(BM w3 w u _ bs bm so (Md.iF g) co order 0 HG3.out HS.out HK.out (.inr rfl) a.size (by omega) (λc hc=>by have:=r.out.eT c hc;omega) (by have:=r.out.roots;omega) (by have:=r.out.aA;omega) (by have:=r.out.done;omega)).mono ?_;rintro e w4 ⟨rfl,hg4,E,F,hfr,W⟩;have hcs:w4 bs=U (.slice G order.length Q):=by have:=P;simp only[Y]at this⊢;rw[F];exact this
  have t:=a.trans E;have m:=(t.block b hbx).trans K.out;have f:=aiC;obtain⟨a0,n0,m0,a1,n1,m1,a2,n2,m2,a3,n3,m3,a4,n4,m4,a5,n5,m5,C,k⟩:=(hg4.less hB).copy (λj hj=>S.out.ne hj) m f;have e0:w4 u=U (.slice a0 n0 m0):=by simp[Y,C]
  have e1:w4 (u,1)=U (.slice a1 n1 m1):=by simp[Y,C]
  have e2:w4 (u,2)=U (.slice a2 n2 m2):=by simp[Y,C]
  have e3:w4 (u,3)=U (.slice a3 n3 m3):=by simp[Y,C]
  have e4:w4 (u,4)=U (.slice a4 n4 m4):=by simp[Y,C]
  have e5:w4 (u,5)=U (.slice a5 n5 m5):=by simp[Y,C]
  have d:∀i,w4.frozen? ⟨b,i,I⟩=ε:=λi=>by simp[μ,m]
  have D:=S.out.own.six K.out;obtain⟨x0,x1,x2,x3,x4,x5,y0,y1,y2,y3,y4,y5⟩:=Wp m D;have f0:=d 0;have f1:=d 1;have f2:=d 2;have f3:=d 3;have f4:=d 4;have f5:=d 5;have hne:bs≠b:=by have:=z.size;omega
  have HC:=V k;have HFR:=V<|(qb.bK a).trans hfr;have WN:=V W;clear hfr W;have H2:=V<|Ψ m D;have H4:=V E;clear d k C m D t hg4 E F P
  go_wp2_with fail
  go_ret2
  obtain⟨k1,k2⟩:=wD (v0:=.slice a0 n0 m0) (v1:=.slice a1 n1 m1) (v2:=.slice a2 n2 m2) (v3:=.slice a3 n3 m3) (v4:=.slice a4 n4 m4) (v5:=.slice a5 n5 m5) H2.out.1 H2.out.2;have hm:Md.collect .major g=U (order.length,Md.move (Md.iF g) order 0):=by rw[mI,<-HO.out,if_neg x]
  unfold cq;rw[hm];exact⟨rfl,HC.out _ k1 k2,(a.mono hB).trans<|((((((H4.out.mono hB).setCell (p:=⟨b,0,I⟩) f _).setCell (p:=⟨b,1,I⟩) f _).setCell (p:=⟨b,2,I⟩) f _).setCell (p:=⟨b,3,I⟩) f _).setCell (p:=⟨b,4,I⟩) f _).setCell (p:=⟨b,5,I⟩) f _,HFR.out.trans<|qb.IT H2.out.1 k2,λj hj n=>(k2 j<|S.out.ne hj).trans<|(WN.out j hj<|Nat.lt_of_lt_of_le n a.size).trans<|a.block j n⟩
section
section
variable{g:GH}(h:VG g)
include h
def Rl{n:Nat}{c}(hc:(plain g).cells[n]?=U c):c.1≠3:=by
 obtain⟨d,hd,rfl⟩:=Z.1<|ξ hc;have a:d∈g.new++g.old:=by simp at hd⊢;exact hd.symm
 have:=(h.cells d a).1;show d.1≠3;omega
def Kz{v}(d:zH g v):Ik (plain g) (cp g.old.length v).2=0:=by
 have i:=G7 g;have b:0<=(cp g.old.length v).2/\(cp g.old.length v).2<((plain g).cells.length:Int):=by
  unfold cp;obtain⟨c,e,f⟩|⟨c,e,f⟩:=d
  rw[if_pos c];dsimp only;omega
  grind
 generalize (cp g.old.length v).2=n at b;obtain⟨k,rfl⟩:=Z7 b.1;have a:k<(plain g).cells.length:=by omega
 unfold Ik;rw[if_neg (by omega),if_neg<|by simpa[ι,a]using (Rl h<|χ a)]
def PD{v}(a:ta g v):uI (plain g) (cp g.old.length v)=0:=by
 obtain a|a:=a
 have e:cp g.old.length v=v:=by unfold cp;rw[if_neg (by obtain h|h:=a<;>omega),if_neg (by obtain h|h:=a<;>omega)]
 rw[e];unfold uI;obtain⟨b,c,d⟩|⟨b,c⟩:=a
 rw[if_pos b,if_neg<|by omega];omega;have e1:(cp g.old.length v).1=1:=by unfold cp;obtain a|a:=a<;>simp[a.1]
 unfold uI;rw[if_neg (by omega),if_pos e1];exact Kz h a
omit h in
def KE{l:List HV}(d:∀v∈l,zH g v)(h:l.Nodup):((l.map<|cp g.old.length).map (·.2)).Nodup:=by rw[Z1,List.Nodup,Zn];exact h.imp_of_mem λ{a b} f hb c e=>c<|OO (d a f) (d b hb) e
def PF(f:g.old.length+g.new.length<=40):Xh (plain g) where
 kinds:=λc hc=>by obtain⟨d,hd,rfl⟩:=Z.1 hc;have:=(h.cells d (by simp at hd⊢;exact hd.symm)).1;simpa[Bz]using this
 eT:=λc hc v a=>by obtain⟨d,hd,rfl⟩:=Z.1 hc;obtain⟨u,b,rfl⟩:=Z.1 a;exact PD h<|(h.cells d (by simp at hd⊢;exact hd.symm)).2 u b
 many:=by rw[G7];exact f
 four:=by simpa[plain]using h.four
 roots:=λv a=>by obtain⟨u,b,rfl⟩:=Z.1 a;exact PD h<|h.roots u b
 aA:=λn e=>by obtain⟨v,a,rfl⟩:=Z.1 e;obtain⟨u,b,rfl⟩:=Z.1 a;exact Kz h<|h.aA.cells u b
 Ko:=KE h.aA.cells h.aA.nodup
 NG:=by have:=h.aA.wW;simpa[plain]using this
 done:=λn e=>by obtain⟨v,a,rfl⟩:=Z.1 e;obtain⟨u,b,rfl⟩:=Z.1 a;exact Kz h<|h.done.cells u b
 Pq:=KE h.done.cells h.done.nodup
 Pz:=by have:=h.done.wW;simpa[plain]using this
end
end
end Kn
namespace Md
section
section
variable{h:PH}(hw:WP h)
include hw
def B3{n}(a:n∈alive (ag h)):cellP (lu h) n=cellP (ag h) n:=by
 have b:=(f7<|lE hw).2.1 n a;have:=b.1;have c:=b.2;unfold cellP;rw[ir];dsimp only;rw[ι,Z2,ι,Zu,χ<|by omega];have e:((n.toNat:Nat):Int)=n:=by omega
 simp[e,a]
def EB:WP (lu h) where
 shape:=λc hc=>by
  obtain⟨⟨d,i⟩,hd,rfl⟩:=Z.1 hc;dsimp only;split
  exact(lE hw).shape d (by have:=(ZD hd).2.2;rw[this];exact ZX _);exact .inr<|.inr<|.inr rfl
 cells:=λc hc v a b=>by
  obtain⟨⟨d,i⟩,hd,rfl⟩:=Z.1 hc;dsimp only at a;split at a
  have:=(lE hw).cells d (by have:=(ZD hd).2.2;rw[this];exact ZX _) v a b;simpa[BJ,ir]using this;cases a
 roots:=λv a b=>sT.2<|hw.roots v a b
 aA:=λn e=>by simpa[BJ,ir]using (lE hw).aA n e
 done:=λn e=>by simpa[BJ,ir]using (lE hw).done n e
def Xw{n}(i:n∈alive (ag h)):n∈alive (lu h):=by
 obtain⟨e,j,l,g⟩:=f7<|lE hw;obtain⟨c1,c2,c3,k⟩:=f7<|EB hw;have b:kc (ag h) ((alive<|lu h).filter ((alive<|ag h).contains ·)) ((alive<|lu h).filter ((alive<|ag h).contains ·)):=by refine⟨λv a=>Θ.2 ⟨c1.VX v a,Δ.2<|e.VX v a⟩,λm f v a d=>?_⟩;obtain⟨m1,m2⟩:=Θ.1 f;have m2:=Δ.1 m2;refine Θ.2 ⟨c1.keeps m m1 v ?_ d,Δ.2<|e.keeps m m2 v ?_ d⟩;rw[B3 hw m2];exact j6 (λx c=>(Θ.1 c).1) a;exact j6 (λx c=>Δ.1 (Θ.1 c).2) a
 exact(Θ.1<|g _ b n i).1
def XF{n}(a:n∈(lu h).aA):n∈alive (ag h):=C6 hw<|Δ.1 (Θ.1 a).2
def RK{v}(a:v∈VX (lu h)):v.2∈alive (ag h):=(f7<|lE hw).1.VX v a
end
def yB{h v}:v∈VX h↔(v∈h.roots/\v.1=1)\/∃n∈h.done,v=(1,n):=by
 unfold VX;rw[ψ,Θ,Z]
 grind
def afI{p:Int->Int}{A B}(c:∀n∈A,p n∈B){v}(b:has A v=ZH):has B (if v.1=1 then(1,p v.2)else v)=ZH:=by
 unfold has at b⊢;simp at b;split
 rename_i a;simp[c _ (b.resolve_left<|by simp[a])];rename_i a;simp[a]
def aeg{p:Int->Int}{A B}(g:∀n∈A,p n∈B){c v}(a:v∈keeps c A)(b:v.1=1):((1,p v.2):HV)∈keeps (c.1,c.2.map λv=>if v.1=1 then(1,p v.2)else v) B:=by
 have f:=C5 a b;have j:((1,p v.2):HV)∈c.2.map λv=>if v.1=1 then(1,p v.2)else v:=Z.2 ⟨v,f,by rw[if_pos b]⟩
 unfold Md.keeps at a⊢;dsimp only;split at a
 rename_i h0;rwa[if_pos h0];rename_i h0;rw[if_neg h0];split at a
 rename_i h;rw[if_pos h];split at a
 rename_i i;have e:=ZS.1 a;have d:has B ((c.2.map λv=>if v.1=1 then((1,p v.2):HV)else v).getD 0 (0,0))=ZH:=by have:=afI g i;rw[ι,Z2];rw[ι]at this;cases hc0:c.2[0]?<;>rw[hc0]at this<;>simpa using this
 rw[if_pos d,ZS,ι,Z2];rw[ι]at e;cases hc:c.2[1]? with
 |none=>rw[hc]at e;rw[e]at b;simp at b
 |some y=>rw[hc]at e;simp only[Option.getD_some]at e;subst e;simp[b]
 cases a
 cases a
def aeh{h k p N}(a:Ren h k p N)(hw:WP h)(o:WP k)(s:∀n∈alive h,N n){n}(q:n∈alive h):p n∈alive k:=by
 obtain⟨a1,z,u,l⟩:=f7 hw;obtain⟨g,w,t,y⟩:=f7 o;have b:∀x∈(alive h).filter (λn=>(alive k).contains<|p n),x∈alive h/\p x∈alive k:=λx c=>⟨(Θ.1 c).1,Δ.1 (Θ.1 c).2⟩;have f:kc h ((alive h).filter λn=>(alive k).contains<|p n) ((alive h).filter λn=>(alive k).contains<|p n):=by
  refine⟨λv d=>Θ.2 ⟨a1.VX v d,Δ.2 ?_⟩,λm r v d i=>?_⟩
  ·refine g.VX (1,p v.2) (yB.2 ?_);obtain⟨e,j⟩|⟨n,e,rfl⟩:=yB.1 d
   left;rw[a.roots];exact⟨Z.2 ⟨v,e,by rw[if_pos j]⟩,rfl⟩
   ·right;rw[a.done];exact⟨p n,Z.2 ⟨n,e,rfl⟩,rfl⟩
  obtain⟨m1,m2⟩:=b m r;refine Θ.2 ⟨a1.keeps m m1 v (j6 (λx c=>(b x c).1) d) i,Δ.2 ?_⟩;refine g.keeps (p m) m2 (1,p v.2) ?_ rfl;rw[a.cell m (s m m1)];exact aeg (λx c=>(b x c).2) d i
 exact(b n<|l _ f n q).2
def afL{k}(c:∀n,BJ k n->n∈alive k){v}(b:v.1=1->BJ k v.2):has (alive k) v=ZH:=by
 unfold has;by_cases a:v.1=1
 simp[c _ (b a)];simp[a]
def Qo{k}(e:WP k)(b:∀n,BJ k n->n∈alive k):lu k=k:=by
 have e1:ag k=k:=by
  obtain⟨c,r,g,d⟩:=k;unfold ag;rw[PH.mk.injEq];refine⟨(ZT λx h=>?_).trans<|ZE c,rfl,?_,?_⟩;have:zm x (alive ⟨c,r,g,d⟩)=ε:=by
   unfold zm;rw[afL b λa=>?_];simp;rw[ι]at a⊢;cases hx0:x.2[0]? with
   |none=>rw[hx0]at a;simp at a
   |some y=>rw[hx0]at a;exact e.cells x h y (ξ hx0) a
  simp[B7,this]
  ·exact List.filter_eq_self.2 λn f=>Δ.2<|b n<|e.aA n f
  rw[List.filter_eq_nil_iff.2 λn f=>by simpa using b n (e.aA n f),Zh]
 rw[ir,e1];obtain⟨c,r,g,d⟩:=k;rw[PH.mk.injEq];refine⟨θ λi=>?_,rfl,rfl,rfl⟩;dsimp only;rw[Z2,Zu];cases hi:c[i]? with
 |none=>rfl
 |some y=>have:=b (i:Int) ⟨by omega,by have:=(φ.1 hi).1;dsimp only;omega⟩;simp[this]
end
section
def Ke(h:PH)(v:HV):Prop:=aaM v\/(v.1=1/\BJ h v.2)
def zY(c:HC):Prop:=(c.1=0/\c.2.length<=4)\/(c.1=1/\c.2.length=1)\/(c.1=2/\c.2.length=2)\/(c.1=3/\c.2=[])
structure GP(h:PH):Prop where
 shape:∀c∈h.cells,zY c
 cells:∀c∈h.cells,∀v∈c.2,Ke h v
 roots:∀v∈h.roots,Ke h v
 aA:∀n∈h.aA,BJ h n
 done:∀n∈h.done,BJ h n
def Ke.ref{h v}(a:Ke h v)(b:v.1=1):BJ h v.2:=by
 obtain a|a:=a
 exact absurd b (j7 (o:=0) a).2.1;exact a.2
def GP.wp{h}(a:GP h):WP h:=⟨λc hc=>by have:=a.shape c hc;unfold zY at this;grind,λc hc v b d=>(a.cells c hc v b).ref d,λv b d=>(a.roots v b).ref d,a.aA,a.done⟩
def OT{g v}(b:zH g v):BJ (plain g) (pn g v):=by unfold BJ;rw[G7];unfold pn cp;obtain⟨a,c,d⟩|⟨a,c,d⟩:=b<;>simp[a]<;>omega
def O3{g v}(a:ta g v):Ke (plain g) (cp g.old.length v):=by
 obtain a|a:=a
 rw[(j7 a).1];exact .inl a;rw[k7 a];exact .inr ⟨rfl,OT a⟩
def O4{g}{l:List HV}(c:∀v∈l,zH g v):∀n∈(l.map<|cp g.old.length).map (·.2),BJ (plain g) n:=λn a=>by rw[Z1]at a;obtain⟨v,b,rfl⟩:=Z.1 a;exact OT<|c v b
def afT{g:GH}(h:WG g)(hs:∀c∈(plain g).cells,zY c):GP (plain g) where
 shape:=hs
 cells:=λc hc v a=>by obtain⟨d,hd,rfl⟩:=Z.1 hc;obtain⟨x,b,rfl⟩:=Z.1 a;exact O3<|h.cells d (ψ.2 (ψ.1 hd).symm) x b
 roots:=λv a=>by obtain⟨x,b,rfl⟩:=Z.1 a;exact O3<|h.roots x b
 aA:=O4 h.aA
 done:=O4 h.done
def kf{g}(h:VG g):GP (plain g):=afT h.wg λc hc=>by obtain⟨d,hd,rfl⟩:=Z.1 hc;have:=(h.cells d<|ψ.2 (ψ.1 hd).symm).1;unfold zY Bz;simp only[Z0];omega
def afM{g}(h:WG g)(b:GP (plain g)):GP (plain<|Al g):=afT (y8 h) λc hc=>by rw[wL h]at hc;obtain⟨n,d,rfl⟩:=Z.1 hc;have a:=(Fd h).lF n d;have:=b.shape _<|wK ⟨a.1,a.2.1⟩;unfold zY at this⊢;simpa using this
def n7{h}(f:GP h):GP (lu h):=by
 have j:∀{v},Ke h v->Ke (lu h) v:=λj=>j.imp_right λ⟨m,l⟩=>⟨m,sT.2 l⟩;have hc:∀c∈(lu h).cells,(c=(3,[]))\/∃d∈h.cells,c=B7 (alive h) d:=λc hc=>by
  obtain⟨⟨d,i⟩,hd,rfl⟩:=Z.1 hc;dsimp only;split
  obtain⟨e,k,hd⟩:=Z.1 (show d∈(ag h).cells by have:=(ZD hd).2.2;rw[this];exact ZX _);exact .inr ⟨e,k,hd.symm⟩;exact .inl rfl
 refine⟨λc g=>?_,λc g v a=>?_,λv g=>j<|f.roots v g,λn b=>sT.2<|f.aA n (Θ.1 b).1,λn b=>?_⟩;obtain rfl|⟨d,hd,rfl⟩:=hc c g
 ·exact .inr<|.inr<|.inr ⟨rfl,rfl⟩
 have:=f.shape d hd;unfold zY B7 at *;split<;>simp_all
 obtain rfl|⟨d,hd,rfl⟩:=hc c g
 ·cases a
 unfold B7 at a;split at a
 obtain⟨x,_,rfl⟩:=Z.1 a;exact .inl<|.inr ⟨rfl,rfl⟩;exact j<|f.cells d hd v a
 ·obtain b|b:=ψ.1 b
  ·exact sT.2<|f.done n b
  exact sT.2<|f.aA n (Θ.1 b).1
section
variable{h:PH}{n:Nat}
def adr(a:n<=h.cells.length):(Ij h n).old.length=n:=by simp[Ij];omega
def afn(a:n<=h.cells.length):(Ij h n).new.length=h.cells.length-n:=by simp[Ij]
def E6(b:n<=h.cells.length){v}(c:v.1=1)(a:BJ h v.2):zH (Ij h n) (ed n v):=by unfold ed zH;rw[adr b,afn b,if_pos c];have:=a.1;have:=a.2;split<;>simp<;>omega
def Kg(b:n<=h.cells.length){v}(a:Ke h v):ta (Ij h n) (ed n v):=by
 obtain a|⟨hk,a⟩:=a
 have:ed n v=v:=by simp[ed,(j7 (o:=0) a).2.1]
 rw[this];exact .inl a;exact .inr<|E6 b hk a
def B5{v}(c:Ke h v):cp n (ed n v)=v:=by obtain⟨a,b⟩:=v;unfold cp ed;obtain(c|c)|c:=c<;>dsimp only at c⊢<;>obtain⟨rfl,c⟩:=c<;>simp<;>grind
def afX(e:GP h)(f:n<=h.cells.length):WG (Ij h n) where
 cells:=λc hc v a=>by
  have:∃d∈h.cells,c=qO n d:=by
   obtain hc|hc:=ψ.1 hc
   obtain⟨d,hd,rfl⟩:=Z.1 hc;exact⟨d,List.mem_of_mem_drop hd,rfl⟩;obtain⟨d,hd,rfl⟩:=Z.1 hc;exact⟨d,List.mem_of_mem_take hd,rfl⟩
  obtain⟨d,hd,rfl⟩:=this;obtain⟨x,b,rfl⟩:=Z.1 a;exact Kg f<|e.cells d hd x b
 roots:=λv a=>by obtain⟨x,b,rfl⟩:=Z.1 a;exact Kg f<|e.roots x b
 aA:=λv a=>by obtain⟨x,b,rfl⟩:=Z.1 a;obtain⟨m,g,rfl⟩:=Z.1 b;exact E6 f rfl<|e.aA m g
 done:=λv a=>by obtain⟨x,b,rfl⟩:=Z.1 a;obtain⟨m,g,rfl⟩:=Z.1 b;exact E6 f rfl<|e.done m g
def aei(b:GP h)(o:n<=h.cells.length):plain (Ij h n)=h:=by
 have f:∀l:List HV,(∀v∈l,Ke h v) ->(l.map<|ed n).map (cp n)=l:=λl a=>by rw[Z1];exact(ZT λv e=>B5<|a v e).trans<|ZE l
 have g:∀l:List Int,(∀m∈l,BJ h m) ->(((l.map λm=>((1,m):HV)).map<|ed n).map<|cp n).map (·.2)=l:=λl a=>by rw[f _ λv e=>by obtain⟨m,i,rfl⟩:=Z.1 e;exact .inr ⟨rfl,a m i⟩,Z1];exact(ZT λv e=>rfl).trans<|ZE l
 have k:∀l:List HC,(∀c∈l,c∈h.cells) ->(l.map<|qO n).map (Bz n)=l:=λl a=>by rw[Z1];refine(ZT λc hc=>?_).trans<|ZE l;show(c.1,(c.2.map _).map _)=c;rw[f c.2 (b.cells c<|a c hc)]
 have a:=adr o;unfold plain;rw[a];obtain⟨c,r,j,d⟩:=h;rw[PH.mk.injEq];refine⟨?_,f r b.roots,g j b.aA,g d b.done⟩;show((c.take n).map _++(c.drop n).map _).map _=c;rw[<-ZV,List.take_append_drop];exact k c λ_ hc=>hc
end
def vm(g:GH):GH:=Al<|Md.iF g
section
variable{g:GH}(h:VG g)
include h
omit h in
def zi{k}:(lu k).cells.length=k.cells.length:=by simp[ir,ag]
omit h in
def afo:g.old.length<=(lu<|plain g).cells.length:=by rw[zi,G7];omega
def yY:WG (Md.iF g):=afX (n7<|kf h) afo
def tf:plain (Md.iF g)=lu (plain g):=aei (n7<|kf h) afo
def Pg{v}(a:v∈aq (Md.iF g)):pn (Md.iF g) v∈alive (ag<|plain g):=by
 have hs:=yY h;have c:=tf h;have hw:=(kf h).wp;have b:∀v∈cJ (Md.iF g),co v=ZH->zH (Md.iF g) v/\pn (Md.iF g) v∈alive (ag<|plain g):=λv a hc=>by
  have hi:zH (Md.iF g) v:=(hs.cJ v a).VQ hc;refine⟨hi,?_⟩;obtain a|a:=ψ.1 a
  have:cp (Md.iF g).old.length v∈VX (plain<|Md.iF g):=by
   rw[yB];obtain a|a:=ψ.1 a
   exact .inl ⟨Z.2 ⟨v,a,rfl⟩,by rw[k7 hi]⟩;exact .inr ⟨pn _ v,Z.2 ⟨_,Z.2 ⟨v,a,rfl⟩,rfl⟩,k7 hi⟩
  rw[c]at this;exact RK hw this
  ·have:pn (Md.iF g) v∈(plain<|Md.iF g).aA:=Z.2 ⟨_,Z.2 ⟨v,a,rfl⟩,rfl⟩;rw[c]at this;exact XF hw this
 refine(PA (M:=λv=>zH (Md.iF g) v/\pn (Md.iF g) v∈alive (ag<|plain g)) (λv ⟨i,f⟩ x j hc=>?_) b (λv a=>by cases a) v a).2;have k:=hs.cells _ (j9 i) x j;have hi:=k.VQ hc;refine⟨hi,?_⟩;have e:cellP (plain<|Md.iF g) (pn (Md.iF g) v)=Bz (Md.iF g).old.length (cellAt (Md.iF g) v):=J2 i;rw[c,B3 hw f]at e;have d:cp (Md.iF g).old.length x∈(cellP (ag<|plain g)<|pn (Md.iF g) v).2:=by rw[e];exact Z.2 ⟨x,j,rfl⟩
 rw[k7 hi]at d;exact(aee hw f d rfl).1
def XH{n}(q:n∈alive (lu<|plain g)):n∈fd (lu<|plain g):=by
 have hs:=yY h;have e:=tf h;have hw:=(kf h).wp;have i:=v6 hs;rw[e]at i;rw[i];refine(f7<|EB hw).2.2.2 _ ⟨λv b=>?_,λm k v b d=>?_⟩ n q
 ·rw[<-e,yB]at b;obtain⟨f,j⟩|⟨m,f,rfl⟩:=b
  obtain⟨u,a,rfl⟩:=Z.1 f;obtain c|hi:=hs.roots u a
  rw[(j7 c).1]at j;exact absurd j (j7 (o:=0) c).2.1;exact Z.2 ⟨u,bp (Z8 _<|Z8 _ a) hi.cell,rfl⟩
  ·obtain⟨y,l,rfl⟩:=Z.1 f;obtain⟨u,a,rfl⟩:=Z.1 l;exact Z.2 ⟨u,bp (Z8 _<|ZY _ a) (hs.done u a).cell,rfl⟩
 obtain⟨u,a,rfl⟩:=Z.1 k;have b:=C5 b d;rw[<-e,show cellP (plain<|Md.iF g) (pn (Md.iF g) u)=_ from J2<|l7 hs a]at b;obtain⟨x,p,rfl⟩:=Z.1 b;obtain⟨c,hc⟩:=oX hs a p;obtain c|hi:=c
 rw[(j7 c).1]at d;exact absurd d (j7 (o:=0) c).2.1;exact Z.2 ⟨x,hc hi,rfl⟩
def RP:vm (vm g)=vm g:=by
 have hs:=yY h;have d:=tf h;have hw:=(kf h).wp;have k:=y8 hs;have p:=Fd hs;have b:(plain<|Al<|Md.iF g).cells.length=(fd<|plain<|Md.iF g).length:=by rw[wL hs];simp[normal]
 have j:WP (plain<|Al<|Md.iF g):=(afM hs (by rw[d];exact n7<|kf h)).wp;have i:∀n∈fd (plain<|Md.iF g),n∈alive (plain<|Md.iF g):=λn c=>by rw[v6 hs]at c;obtain⟨v,l,rfl⟩:=Z.1 c;rw[d];exact Xw hw<|Pg h l
 have a:∀n,BJ (plain<|Al<|Md.iF g) n->n∈alive (plain<|Al<|Md.iF g):=λn c=>by
  have q:=c.1;have o:=c.2;rw[b]at o;have hi:n.toNat<(fd<|plain<|Md.iF g).length:=by omega
  have f:(fd<|plain<|Md.iF g)[n.toNat]∈fd (plain<|Md.iF g):=ZX _;have e:oZ (fd<|plain<|Md.iF g) (fd<|plain<|Md.iF g)[n.toNat]=n:=by unfold oZ;rw[(hs|>Fd|>.order).2.2.idxOf_getElem];omega
  rw[<-e];exact aeh p (by rw[d];exact EB hw) j (λm f=>by rw[d]at f⊢;exact XH h f)<|i _ f
 have hc:=Qo j a;show Al (Md.iF<|Al<|Md.iF g)=Al (Md.iF g);have:Md.iF (Al<|Md.iF g)=Al (Md.iF g):=by unfold Md.iF at hc⊢;rw[hc];exact JY k rfl
 rw[this];exact NE hs
end
def aam{h}{n:Nat}{u v}(b:Ke h u)(a:Ke h v)(e:ed n u=ed n v):u=v:=by rw[<-B5 (n:=n) b,e,B5 a]
def B8{s:GH}(hs:WG s){l:List HV}(d:∀v∈l,v∈Md.cJ s)(hi:∀v∈l,zH s v)(k:l.Nodup)(i:l.length<=40):Oi (Al s) (l.map<|lr (aq s) 0) where
 nodup:=Ki k λa f b hb e=>by have h:=bp (d a f) (hi a f).cell;have g:=bp (d b hb) (hi b hb).cell;rw[hO h,hO g]at e;have e:=congrArg Prod.snd e;dsimp only at e;exact aaN h g (by omega)
 cells:=λv j=>by obtain⟨u,c,rfl⟩:=Z.1 j;exact(Am hs (.inr<|hi u c) λ_=>bp (d u c) (hi u c).cell).2<|hi u c
 wW:=by simpa using i
def Pr{s:GH}(hs:WG s)(b:∀v∈aq s,(cellAt s v).1≠3)(k:∀c∈(plain s).cells,zY c)(m:s.roots.length=4)(hw:s.aA.Nodup/\s.aA.length<=40)(hd:s.done.Nodup/\s.done.length<=40)(l:(aq s).length<=32):VG (Al s) where
 cells:=λc hc=>by
  have a:=(y8 hs).cells c hc;refine⟨?_,a⟩;have hc:c∈((aq s).map<|cellAt s).map (B6 (aq s) 0):=by simpa[Al,move]using hc
  obtain⟨d,hd,rfl⟩:=Z.1 hc;obtain⟨u,e,rfl⟩:=Z.1 hd;have hi:=l7 hs e;have h:=k _<|wK<|OT hi;rw[show cellP (plain s) (pn s u)=_ from J2 hi]at h;have p:=b u e;unfold zY Bz at h;unfold B6;simp only[Z0]at h⊢;omega
 news:=Nat.zero_le _
 bw:=by rw[Ct];exact l
 four:=by simpa[Al,move]using m
 roots:=(y8 hs).roots
 aA:=B8 hs (λv f=>ZY _ f) hs.aA hw.1 hw.2
 done:=B8 hs (λv f=>Z8 _<|ZY _ f) hs.done hd.1 hd.2
 marks:=λn o=>by cases o
 order:=List.Pairwise.nil
 ju:=λi c hi g=>by
  exfalso;obtain⟨x,j,b⟩:=List.any_eq_true.1 g;have hc:c∈((aq s).map<|cellAt s).map (B6 (aq s) 0):=by simpa[Al,move]using ξ hi
  obtain⟨d,hd,rfl⟩:=Z.1 hc;obtain⟨u,e,rfl⟩:=Z.1 hd;obtain⟨y,g,rfl⟩:=Z.1 j;obtain⟨a,hc⟩:=oX hs e g;obtain a|a:=a
  rw[kg λj=>a.aax<|l7 hs j]at b;obtain a|a:=a<;>simp[dy,a.1]at b
  rw[hO (hc a)]at b;simp[dy]at b
def HQ{s}(hs:WG s):(aq s).length<=s.new.length+s.old.length:=(Qr hs).len
def S1{g}(h:VG g)(b:(aq g).length<=32):VG (Al g):=Pr h.wg (λv a=>by have:=(h.cells _<|j9<|l7 h.wg a).1;omega) (kf h).shape h.four ⟨h.aA.nodup,h.aA.wW⟩ ⟨h.done.nodup,h.done.wW⟩ b
def B9{g}(h:VG g):((Md.iF g).aA.Nodup/\(Md.iF g).aA.length<=40)/\(Md.iF g).done.Nodup/\(Md.iF g).done.length<=40:=by
 have k:=kf h;have d:=n7 k;have w:(plain g).cells.length<=40:=by rw[G7];have:=h.bw;have:=h.news;omega
 have s:∀l:List HV,(∀v∈l,zH g v) ->l.Nodup->((l.map<|cp g.old.length).map (·.2)).Nodup:=λl f p=>by rw[Z1];exact Ki p λa i b hb e=>OO (f a i) (f b hb) e
 have q:∀l:List Int,(∀n∈l,BJ (lu<|plain g) n) ->l.Nodup->((l.map λn=>((1,n):HV)).map<|ed g.old.length).Nodup:=λl f p=>by rw[Z1];exact Ki p λa i b hb e=>congrArg Prod.snd<|aam (h:=lu<|plain g) (n:=g.old.length) (u:=(1,a)) (v:=(1,b)) (.inr ⟨rfl,f a i⟩) (.inr ⟨rfl,f b hb⟩) e
 have j:=s g.aA h.aA.cells h.aA.nodup;have o:=s g.done h.done.cells h.done.nodup;have m:=(f7 k.wp).1.VX;have c:(lu<|plain g).done.Nodup:=by show((plain g).done++(plain g).aA.filter _).Nodup;rw[Zo];refine⟨o,j.filter _,λa i b hb e=>?_⟩;subst e;have t:=(Θ.1 hb).2;have r:=m (1,a)<|yB.2<|.inr ⟨a,i,rfl⟩;simp[r]at t
 refine⟨⟨q _ d.aA<|j.filter _,?_⟩,q _ d.done c,?_⟩;show((((plain g).aA.filter _).map _).map _).length<=40;have:=h.aA.wW;have r:=ζ ((alive<|plain g).contains ·) (plain g).aA;have x:(plain g).aA.length=g.aA.length:=by simp[plain]
 simp only[Z0];omega
 ·have:=Kb c d.done;rw[zi]at this;show(((lu<|plain g).done.map _).map _).length<=40;simp only[Z0];omega
def Qp{g}(h:VG g)(j:(aq<|Md.iF g).length<=32):VG (vm g):=by
 have hs:=yY h;have a:=tf h;have hw:=(kf h).wp;refine Pr hs (λv b=>?_) (by rw[a];exact(n7<|kf h).shape) (by have:=h.four;simpa[Md.iF,Ij,ir,ag,plain]using this) (B9 h).1 (B9 h).2 j;have hi:=l7 hs b;have hb:=Pg h b;have e:cellP (plain<|Md.iF g) (pn (Md.iF g) v)=Bz (Md.iF g).old.length (cellAt (Md.iF g) v):=J2 hi;rw[a,B3 hw hb]at e;have c:=(f7<|lE hw).2.1 _ hb;rw[show cellP (ag<|plain g) (pn (Md.iF g) v)=B7 (alive<|plain g) (cellP (plain g)<|pn (Md.iF g) v)from Ot rfl<|D6.1 c]at e;have f:=congrArg Prod.fst e;have k:(B7 (alive<|plain g)<|cellP (plain g)<|pn (Md.iF g) v).1=(cellP (plain g)<|pn (Md.iF g) v).1:=by unfold B7;split<;>rfl
 rw[k]at f;have i:=wK<|D6.1 c;obtain⟨d,hd,e2⟩:=Z.1 i;have n:=(h.cells d<|ψ.2 (ψ.1 hd).symm).1;have l:(cellP (plain g)<|pn (Md.iF g) v).1=d.1:=by rw[<-e2];rfl
 have m:(cellAt (Md.iF g) v).1=d.1:=f.symm.trans l;omega
def E7{g}(h:VG g):(Md.iF g).new.length+(Md.iF g).old.length=g.new.length+g.old.length:=by have:=congrArg (λx=>x.cells.length)<|tf h;simp only[G7,zi]at this;omega
end
end Md
namespace Kn
open Go Go.RowKit Md
section
section
variable{g:GH}(h:VG g)
include h
def VG.kinds:∀c∈(plain g).cells,(c.1=0/\c.2.length<=4)\/(c.1=1/\c.2.length=1)\/(c.1=2/\c.2.length=2):=λc hc=>by obtain⟨d,hd,rfl⟩:=Z.1 hc;have:=(h.cells d<|ψ.2 (ψ.1 hd).symm).1;unfold Bz;simpa using this
def VG.fits:Kq (plain g):=by
 have b:=(VG.kinds h);have i:(plain g).cells.length<=40:=by rw[G7];have:=h.bw;have:=h.news;omega
 have hw:(plain g).aA.length<=40:=by have:=h.aA.wW;simpa[plain]using this
 have hd:(plain g).done.length<=40:=by have:=h.done.wW;simpa[plain]using this
 have e:(plain g).roots.length=4:=by have:=h.four;simpa[plain]using this
 have hb:∀k:PH,k.roots.length=4->k.done.length<=80->(j8 k).length<=1000:=λk l j=>by have:=BT k.roots;unfold j8;rw[ZK];omega
 have f:=ζ (λn=>!(alive<|plain g).contains n) (plain g).aA;refine⟨⟨(kf h).wp,by omega,λc hc=>by have:=b c hc;omega,hb _ e<|by omega,λc hc=>by have:=b c hc;omega⟩,⟨lE (kf h).wp,by simp[ag];omega,λc hc=>?_,hb _ e ?_,λc hc=>?_⟩,λc hc=>by have:=b c hc;omega,by omega,by omega⟩;obtain⟨d,a,rfl⟩:=Z.1 hc;have:=b d a;unfold B7;split
 simp;omega;omega
 ·show((plain g).done++_).length<=80;rw[ZK];omega
 obtain⟨d,a,rfl⟩:=Z.1 hc;have:=b d a;unfold B7;split
 simp;omega;omega
omit h in
def afp{k}(b:k.cells.length<=40){v}(a:Ke k v):Sm v.2:=by
 unfold Sm;obtain(a|a)|⟨_,a⟩:=a
 omega;omega;have:=a.1;have:=a.2;omega
omit h in
def afU{k}(b:k.cells.length<=40){n}(a:Md.BJ k n):Sm n:=by
 have:=a.1;have:=a.2
 unfold Sm;omega
def VG.small:Small g:=by
 have e:=h.news;have d:=h.bw;have a:∀v,ta g v->Sm v.2:=λv a=>by unfold Sm;obtain(a|a)|(a|a):=a<;>omega
 exact⟨λc hc=>by have:=h.cells c<|ψ.2 (ψ.1 hc).symm;exact⟨by have:=this.1;omega,λv b=>a v (this.2 v b)⟩,⟨by have:=h.four;omega,λv b=>a v (h.roots v b)⟩,⟨by have:=h.aA.wW;omega,λv b=>a v (.inr (h.aA.cells v b))⟩,⟨by have:=h.done.wW;omega,λv b=>a v (.inr (h.done.cells v b))⟩,by omega,by omega⟩
def VG.sw:Jn g:=by
 have i:(plain g).cells.length<=40:=by rw[G7];have:=h.bw;have:=h.news;omega
 have hc:=n7<|kf h;have a:(lu<|plain g).cells.length<=40:=by rw[zi];exact i
 have hw:(plain g).aA.length<=40:=by have:=h.aA.wW;simpa[plain]using this
 have hd:(plain g).done.length<=40:=by have:=h.done.wW;simpa[plain]using this
 have j:=ζ (λn=>!(alive<|plain g).contains n) (plain g).aA;have f:=ζ (λn=>(alive<|plain g).contains n) (plain g).aA;refine⟨(VG.small h),PF h (by have:=h.bw;have:=h.news;omega),(VG.fits h),⟨λc e=>⟨by have:=hc.shape c e;unfold zY at this;obtain h|h|h|h:=this<;>simp[h]<;>omega,λv b=>afp a<|hc.cells c e v b⟩,by omega,⟨?_,λv b=>afp a<|hc.roots v b⟩,⟨?_,λn d=>afU a<|hc.aA n d⟩,⟨?_,λn d=>afU a<|hc.done n d⟩⟩⟩;have:=h.four;show(plain g).roots.length<=1000;simp[plain];omega;show((plain g).aA.filter _).length<=1000;omega
 ·show((plain g).done++_).length<=1000;rw[ZK];omega
end
end
section
def pw(br b:Nat)(r:Md.RS):Array η:=#[.pointer b,r.minors,r.uJ,r.fk,r.dA,.func (.func 153) #[.pointer br] #[]]
def bD(w:Z9)(B br b:Nat)(r:Md.RS)(J:Nat->Prop):Prop:=B<=br/\w.heap[br]?=U (.cells (pw br b r) 131 (0,0))/\cR w B b r.g J/\∀j,J j->j≠br
def tc(J:Nat->Prop)(w w':Z9):Prop:=∀j,J j->j<w->w'.heap[j]?=w.heap[j]?
def Kk(w v g)(q:GV w v g)(t:oy g)(x:g.marked.length<=1000000)(hz:cN g=0){J:Nat->Prop}(p:∀j,J j->j<w):
 ZZ prog 93 #[v] w λe w'=>(∃l b,e=.returned (.pointer (l:Nat))/\bD w' w l b ⟨g,0,0,0,0⟩ J)/\R w w w':=by
 have s:∀(fn:Fn) (first cap:Array η) (w:Z9),(Instr.makeFunc fn first cap).run prog w=.ok (.func fn first cap) w:=λ_ _ _ _=>rfl;have HV:=V q;obtain⟨n,o,r,i,d,m,rfl,B,z,D,A,C,E⟩:=q
 go_enter (fU func93 rfl),ntmps93
 go_wp2_with fail
 have c:=af w<|Ξ #[n,o,r,i,d,m] 26;refine(Xb _ (.agg #[n,o,r,i,d,m]) g (HV.out.below c) t hz x).mono ?_;rintro e h ⟨⟨b,rfl,k⟩,f⟩;have u:=V<|k.less c.size;have a:=c.trans<|f.mono c.size;clear k f
 go_wp2_with fail
 go_ret;exact⟨⟨h.heap.size,b,rfl,a.size,Z4 h _,(cR.wC u.out p).below<|af h _,λj y e=>by have:=p j y;have:=a.size;omega⟩,a.alloc a.size _⟩
section
variable{w w':Z9}{B br b:Nat}{r:Md.RS}{J:Nat->Prop}
def bD.below(h:bD w B br b r J)(a:R w w w'):bD w' B br b r J:=⟨h.1,(a.block br (Ω.1 h.2.1).1).trans h.2.1,h.2.2.1.below a,h.2.2.2⟩
def bD.ptr(h:bD w B br b r J):w br=U (.pointer b)/\w (br,5)=U (.func (.func 153) #[.pointer br] #[])/\br<w:=by have:=h.2.1;refine⟨by simp[Y,this,pw],by simp[Y,this,pw],(Ω.1 this).1⟩
end
def sQ(w B k b r){J}(n:Nat)(p q)(j:bD w B k b r J)(l:r.g.roots[n]?=U (p,q))(L:r.g.roots.length<=1000000):
 ZZ prog 200 #[.pointer k,n] w λe w'=>e=.returned (.agg #[p,q])/\R w w w':=by
 obtain⟨c0,_,z⟩:=j.ptr;obtain⟨O,o,K,H,d,m,_,_,c2,_,_,_,_,_,C,_⟩:=j.2.2.1.own.reads;have hb:=az c2;have A:=(φ.1 l).1;obtain⟨a,N,rfl,y,x,s⟩:=C;obtain⟨h,i,rfl,f,c⟩:=s (by omega);obtain⟨u,E⟩:=c n p q l;have D:(w.alloc<|Ξ #[Γ ω 0,Γ ω 0] 50) (h,i+n*2)=U (Γ ω p):=by rw[(af w _).cell (p:=⟨h,i+n*2,I⟩) f];exact u
 have F:(w.alloc<|Ξ #[Γ ω 0,Γ ω 0] 50) (h,i+n*2+1)=U (Γ ω q):=by rw[(af w _).cell (p:=⟨h,i+n*2+1,I⟩) f];exact E
 have G:((n:Int)<0)=False:=by simp
 have t:¬((r.g.roots.length:Int)<=(n:Int)):=by omega
 have e1:decide ((r.g.roots.length:Int)<=(n:Int))=ε:=by simp;omega
 clear c s j
 go_enter (fU func200 rfl),ntmps200
 go_wp2_with fail
 ((with_reducible refine(cd _ _).mono ?_))
 rintro e w' ⟨rfl,rfl⟩
 go_wp2_with fail
 refine ZC (v:=.agg #[p,q]) (by simp[ZN,results200,go_sem]) rfl ⟨rfl,?_⟩;exact(ο _ _).alloc .refl _
def OV.block{w B gk v l}(h:OV w B v l)(a:v.ownBlock=U gk):∃b,w.heap[gk]?=U (.cells b 50 (0,0)):=by
 obtain⟨e1,_⟩|⟨f,d,e,e1,_,c,_⟩:=h.2
 rw[e1]at a;cases a;rw[e1]at a;cases a;exact⟨_,c⟩
def cR.upd{w w' J B b gk g g' n o m row}(L:B<=b)(hb:w.heap[b]?=U (Ξ #[n,o,row (0,0),row (0,1),row (0,2),m] 114 (0,0)))(H:RC w B n (cellsOf row 3 g.new))(F:RC w B o (cellsOf row 4 g.old))(D:OI w B m g.marked)(v:kD w B row g)(C:∀j,J j->j≠b/\∀k,IsKey g k->(row k).ownBlock≠U j){k}(u:IsKey g k)(p:(row k).ownBlock=U gk)(d:∀j,j≠gk->w'.heap[j]?=w.heap[j]?)(q:OV w' B (row k) (bd g' k))(a:∀k',IsKey g' k'->IsKey g k')(l:∀k',k'≠k->IsKey g k'->bd g' k'=bd g k')(z:cellsOf row 3 g'.new=cellsOf row 3 g.new)(y:cellsOf row 4 g'.old=cellsOf row 4 g.old)(K:g'.marked=g.marked):cR w' B b g' J:=by
 obtain⟨r,f⟩:=(v.1 k u).block p;have x:∀{j:Nat} {c:Array η} {t:ZR} {fr:Nat×Nat},w.heap[j]?=U (.cells c t fr) ->t≠50->w'.heap[j]?=w.heap[j]?:=λ{j c t fr} s G=>d j λe=>by
  subst e;rw[f]at s;cases s
  exact G rfl
 refine⟨n,o,m,row,L,(x hb<|by decide).trans hb,?_,?_,?_,⟨?_,?_⟩,λj s=>⟨(C j s).1,λk u=>(C j s).2 k<|a k u⟩⟩;rw[z];exact H.below λg r h=>x h (by decide);rw[y];exact F.below λg r h=>x h (by decide);rw[K];exact aS D λg h=>d g λe=>by subst e;exact cF D f (by decide) h
 intro k' i;by_cases e:k'=k
 subst e;exact q;rw[l k' e (a k' i)];exact aS (v.1 k'<|a k' i) λg h=>d g λe2=>by subst e2;exact v.2 k' k (a k' i) u e g h p
 exactλA E e1 e2=>v.2 A E (a A e1)<|a E e2
def cR.el{w B b g n J}(h:cR w B b g J)(D:n<g.roots.length)(x):
 ∃gr m p q,w (b,2)=U (.slice (gr:Nat) g.roots.length m)/\w ((gr:Nat),n*2)=U (Γ ω p)/\w ((gr:Nat),n*2+1)=U (Γ ω q)/\(∀i,w.frozen? ⟨gr,i,I⟩=ε)/\B<=gr/\g.roots.length<=m/\m<=maxLen/\(∃v,w.heap[gr]?=U (.cells v 50 (0,0)))/\(∀j,J j->j≠gr)/\
  cR ((w.setCell ((gr:Nat),n*2)<|Γ ω x.1).setCell ((gr:Nat),n*2+1)<|Γ ω x.2) B b {g with roots:=g.roots.set n x} J:=by
 obtain⟨S,o,m,row,Q,hb,G,E,H,A,C⟩:=h;have h0:=A.roots.1;obtain⟨a,K,l,t,u,L⟩:=aF h0;obtain⟨gr,rfl,_,_,d,_⟩:=L (by omega);have f:IsKey g (0,0):=.inl ⟨rfl,by decide,by decide⟩;rw[l]at h0 d;obtain⟨p,q,s⟩:=ep D;obtain⟨F,N,P,O,_⟩:=h0.at_ s;refine⟨gr,K,p,q,by simp[Y,hb,l],F,N,P,O,t,u,h0.block d,λj y e=>(C j y).2 _ f (by rw[l,e];exact d),?_⟩;refine cR.upd (gk:=gr) (k:=(0,0)) Q hb G E H A C f (by rw[l];exact d) (λj y=>cr y) ?_ ?_ ?_ rfl rfl rfl;rw[l];exact h0.set D;rintro⟨a,c⟩ h;simpa[IsKey]using h;rintro⟨a,c⟩ r _;simp only[bd,cellAt];by_cases z:a=0
 have:c≠0:=λe=>r (by rw[z,e]);simp[z,this];simp[z]
def bD.el{w B c b r J}{n gr:Nat}{x a}(h:bD w B c b r J)(f:w.heap[gr]?=U (.cells a 50 (0,0)))(d:cR ((w.setCell (gr,n*2)<|Γ ω x.1).setCell (gr,n*2+1)<|Γ ω x.2) B b {r.g with roots:=r.g.roots.set n x} J):
 bD ((w.setCell (gr,n*2)<|Γ ω x.1).setCell (gr,n*2+1)<|Γ ω x.2) B c b (Md.el r n x) J:=by
 refine⟨h.1,?_,by simpa[Md.el]using d,h.2.2.2⟩;rw[cr (λe=>by have:=h.2.1;rw[e,f]at this;cases this)];exact h.2.1
def afB(w B l b r){J}(n)(p q:Int)(F:bD w B l b r J)(N:n<r.g.roots.length)(E:B<=w):
 ZZ prog 201 #[ZW (U ⟨l,0,I⟩),n,.agg #[p,q]] w λe w'=>e=.returned (.tuple #[])/\bD w' B l b (Md.el r n (p,q)) J/\R B w w'/\tc J w w':=by
 have h:=af w<|Ξ #[p,q] 50;have d:=F.below h;obtain⟨c0,_,X⟩:=d.ptr;obtain⟨gr,m,p0,q0,c2,Q,f2,G,s,T,W,⟨cur,a⟩,o,L⟩:=d.2.2.1.el (x:=(p,q)) N;have K:(w.alloc<|Ξ #[p,q] 50).cell? ⟨w.heap.size,0,I⟩=U (Γ ω p):=by go_simp
 have O:(w.alloc<|Ξ #[p,q] 50).cell? ⟨w.heap.size,1,I⟩=U (Γ ω q):=by go_simp
 have HO:=V<|Ψ d<|Ψ a L;have g0:=G<|n*2;have g1:=G<|n*2+1;have t:=h.mono E;have P:=V o;have k:=V h;clear o;have C:¬gr=l:=λe=>by have:=d.2.1;rw[<-e,a]at this;cases this
 have A:¬gr=b:=λe=>by obtain⟨_,_,c,hc⟩:=d.2.2.1.own.obj;rw[<-e,a]at hc;cases hc
 have v:¬gr=w.heap.size:=by
  obtain⟨gr0,m0,_,_,y,S,_⟩:=F.2.2.1.el (x:=(p,q)) N;have e:=(h.cell (p:=⟨b,2,I⟩)<|az y).trans y;rw[c2]at e;injection e with e
  injection e with e _ _
  injection e with e
  injection e with e _ _
  have:=az S;omega
 clear d a L G F
 go_enter (fU func201 rfl),ntmps201
 go_wp2_with fail
 generalize w.alloc _=H at c0 c2 Q f2 g0 g1 K O HO t k⊢;obtain⟨bv,f⟩:∃x,x=w.heap.size:=⟨_,rfl⟩;rw[<-f]at K O v k⊢;replace f:=V f
 go_region_held3 (λx=>x.cell? ⟨l,0,I⟩=U (ZW<|U ⟨b,0,I⟩)/\x.cell? ⟨b,2,I⟩=U (ZQ (U ⟨gr,0,I⟩) r.g.roots.length m)/\x.cell? ⟨bv,0,I⟩=U (Γ ω p)/\x.cell? ⟨bv,1,I⟩=U (Γ ω q)) ((refine⟨?_,?_,?_,?_⟩<;>(repeat (first|with_reducible assumption|with_reducible refine dO ?_|with_reducible refine da C ?_|with_reducible refine da A ?_|with_reducible refine da v ?_)))) (fail)
 go_wp2_with fail
 have i:bD ((H.setCell ⟨gr,n*2,I⟩<|Γ ω p).setCell ⟨gr,n*2+1,I⟩<|Γ ω q) B l b (Md.el r n (p,q)) J:=bD.el (x:=(p,q)) HO.out.1 HO.out.2.1 HO.out.2.2;have u:=bD.below i<|(ο _ _).drew;have z:=((t.setCell (p:=⟨gr,n*2,I⟩) s<|Γ ω p).setCell (p:=⟨gr,n*2+1,I⟩) s<|Γ ω q).drew;have D:tc J w (((H.setCell ⟨gr,n*2,I⟩<|Γ ω p).setCell ⟨gr,n*2+1,I⟩<|Γ ω q).drew):=λj hj hl=>(cr<|P.out j hj).trans<|k.out.block j (by rw[f.out];exact hl);go_end0;exact⟨rfl,u,z,D⟩
end
section
variable{b B br:Nat}(w:Z9){J:Nat->Prop}
def bD.all{w r}(h:bD w B br b r J):w br=U (.pointer b)/\w (br,1)=U (Γ ω r.minors)/\w (br,2)=U (Γ ω r.uJ)/\w (br,3)=U (Γ ω r.fk)/\w (br,4)=U (Γ ω r.dA)/\(∀i,w.frozen? ⟨br,i,I⟩=ε)/\B<=br:=by
 have a:=h.2.1;refine⟨?_,?_,?_,?_,?_,λi=>by simp[μ,a],h.1⟩
 all_goals simp[Y,a,pw]
def cR.off{w w' g c t fr}(h:cR w B b g J)(hc:w.heap[br]?=U (.cells c t fr))(a:t≠114/\t≠76/\t≠50/\t≠3)(q:∀k,k≠br->w'.heap[k]?=w.heap[k]?):cR w' B b g J:=by
 obtain⟨n,o,m,row,A,hb,x,v,z,u,y⟩:=h;have l:∀{j:Nat} {s:Array η} {f:ZR} {d:Nat×Nat},w.heap[j]?=U (.cells s f d) ->t≠f->w'.heap[j]?=w.heap[j]?:=λ{j s f d} C D=>q j λe=>by grind
 exact⟨n,o,m,row,A,(l hb a.1).trans hb,x.below λg r i=>l i a.2.1,v.below λg r i=>l i a.2.1,hZ z hc a.2.2.2 q,⟨λk p=>hZ (u.1 k p) hc a.2.2.1 q,u.2⟩,y⟩
def PI{w r r' i}{x y:Int}(h:bD w B br b r J)(c:r'.g=r.g)(hc:((pw br b r).setIfInBounds i x).setIfInBounds 4 y=pw br b r'):bD ((w.setCell (br,i) x).setCell (br,4) y) B br b r' J:=by refine⟨h.1,?_,?_,h.2.2.2⟩;rw[aB (aB h.2.1 i _) 4 _,hc];rw[c];exact h.2.2.1.off h.2.1 (by simp) λk a=>cr a
def Af:ZZ prog 306 #[.agg #[]] w λe w'=>e=.returned (Γ ω 0)/\R w w w':=by
 go_enter (fU func306 rfl),ntmps306
 go_wp2
 go_ret;exact⟨rfl,(ο _ _).alloc .refl _⟩
def wM(B a b n r g')(D:im r.g)(z:bD w B a b r J)(H:B<=w.heap.size)(f:Md.collect .minor r.g=U (n,g'))(hm:0<=r.minors/\r.minors<=1000)(P:0<=r.dA/\r.dA<=100000)(hn:n<=1000):
 ZZ prog 208 #[ZW (U ⟨a,0,I⟩),.iface 102<|.agg #[]] w λe w'=>e=.returned (.bool ZH)/\bD w' B a b (Md.counted r .minor n g') J/\R B w w'/\tc J w w':=by
 have HR:=V z;obtain⟨c0,c1,c2,c3,Q,k,q⟩:=z.all;have K:=IY;have W:=V D;have HC:=V f;have S:IntKind.i64.wrap (r.minors+1)=r.minors+1:=wrap_small _ (by omega) (by omega);have L:IntKind.i64.wrap (r.dA+(n:Int))=r.dA+(n:Int):=wrap_small _ (by omega) (by omega);clear c1 c2 c3 Q k z D f
 go_enter (fU func208 rfl),ntmps208
 go_wp2_with fail
 refine(lz _ B b r.g HR.out.2.2.1 W.out H).mono ?_;rintro e A t;unfold cq at t;rw[HC.out]at t;obtain⟨rfl,s,l,o,d⟩:=t;have y:=V d;clear d;have i:bD A B a b {r with g:=g'} J:=⟨HR.out.1,(o _ _ HR.out.2.1).trans HR.out.2.1,s,HR.out.2.2.2⟩;obtain⟨d0,O,d2,d3,F,k,_⟩:=i.all;have N:=k 1;have f2:=k 2;have f3:=k 3;have T:=k 4;have v:=V i;have c:=az F;have x:=Nat.le_trans H l.size;clear s o i k c0
 go_wp2_with fail
 go_region_with (first|(go_at_call 306;(with_reducible refine(Af _).mono ?_);rintro e u ⟨rfl,C⟩;have z3:R A.heap.size A u:=(ο _ _).drew.trans C;have X:=(z3.cell (p:=⟨a,1,I⟩) c).trans O;have k2:=(z3.frozen (p:=⟨a,1,I⟩) c).trans N;have k3:=cG z3 F c;have k4:=(z3.frozen (p:=⟨a,4,I⟩) c).trans T))
 go_wp2_with fail
 have h:bD ((u.setCell (a,1)<|Γ ω<|r.minors+1).setCell (a,4)<|Γ ω<|r.dA+(n:Int)) B a b (Md.counted r .minor n g') J:=PI (v.out.below z3) rfl rfl;have m:=((l.trans<|z3.mono x).setCell (p:=⟨a,1,I⟩) q<|Γ ω<|r.minors+1).setCell (p:=⟨a,4,I⟩) q<|Γ ω<|r.dA+(n:Int);have d:tc J w ((u.setCell (a,1)<|Γ ω<|r.minors+1).setCell (a,4)<|Γ ω<|r.dA+(n:Int)):=λj G E=>(cr<|HR.out.2.2.2 j G).trans<|(z3.block j<|Nat.lt_of_lt_of_le E l.size).trans<|y.out j G E;go_ret;exact⟨rfl,by first|exact h|exact h.below (ο _ _).drew,by first|exact m|exact m.drew,d⟩
def Ag:ZZ prog 310 #[.agg #[]] w λe w'=>e=.returned (Γ ω 2)/\R w w w':=by
 go_enter (fU func310 rfl),ntmps310
 go_wp2
 go_ret;exact⟨rfl,(ο _ _).alloc .refl _⟩
def wN(B c b n r g')(S:∀j,J j->j<w.heap.size)(A:Jn r.g)(E:im (Md.iF r.g))(z:bD w B c b r J)(K:B<=w.heap.size)(f:Md.collect .major r.g=U (n,g'))(hm:0<=r.fk/\r.fk<=1000)(P:0<=r.dA/\r.dA<=100000)(hn:n<=1000):
 ZZ prog 208 #[ZW (U ⟨c,0,I⟩),.iface 120<|.agg #[]] w λe w'=>e=.returned (.bool ZH)/\bD w' B c b (Md.counted r .major n g') J/\R B w w'/\tc J w w':=by
 have HR:=V z;obtain⟨c0,c1,c2,c3,Q,k,q⟩:=z.all;have N:=I0;have HP:=V E;have HC:=V f;have T:IntKind.i64.wrap (r.fk+1)=r.fk+1:=wrap_small _ (by omega) (by omega);have O:IntKind.i64.wrap (r.dA+(n:Int))=r.dA+(n:Int):=wrap_small _ (by omega) (by omega);clear c1 c2 c3 Q k z E f
 go_enter (fU func208 rfl),ntmps208
 go_wp2_with fail
 refine(sP _ B b r.g S HR.out.2.2.1 A HP.out K).mono ?_;rintro e C t;unfold cq at t;rw[HC.out]at t;obtain⟨rfl,s,l,o,d⟩:=t;have y:=V d;clear d;have i:bD C B c b {r with g:=g'} J:=⟨HR.out.1,(o _ _ HR.out.2.1).trans HR.out.2.1,s,HR.out.2.2.2⟩;obtain⟨d0,d1,d2,L,G,k,_⟩:=i.all;have f1:=k 1;have f2:=k 2;have X:=k 3;have W:=k 4;have v:=V i;have a:=az G;have x:=Nat.le_trans K l.size;clear s o i k c0
 go_wp2_with fail
 go_region_with (first|(go_at_call 310;(with_reducible refine(Ag _).mono ?_);rintro e u ⟨rfl,D⟩;have z3:R C.heap.size C u:=(ο _ _).drew.trans D;have k1:=cG z3 L a;have k2:=(z3.frozen (p:=⟨c,3,I⟩) a).trans X;have k3:=cG z3 G a;have k4:=(z3.frozen (p:=⟨c,4,I⟩) a).trans W))
 go_wp2_with fail
 have h:bD ((u.setCell (c,3)<|Γ ω<|r.fk+1).setCell (c,4)<|Γ ω<|r.dA+(n:Int)) B c b (Md.counted r .major n g') J:=PI (v.out.below z3) rfl rfl;have m:=((l.trans<|z3.mono x).setCell (p:=⟨c,3,I⟩) q<|Γ ω<|r.fk+1).setCell (p:=⟨c,4,I⟩) q<|Γ ω<|r.dA+(n:Int);have d:tc J w ((u.setCell (c,3)<|Γ ω<|r.fk+1).setCell (c,4)<|Γ ω<|r.dA+(n:Int)):=λj H F=>(cr<|HR.out.2.2.2 j H).trans<|(z3.block j<|Nat.lt_of_lt_of_le F l.size).trans<|y.out j H F;go_ret;exact⟨rfl,by first|exact h|exact h.below (ο _ _).drew,by first|exact m|exact m.drew,d⟩
end
def Roomy(r r':Md.RS):Prop:=(r.g.new.length<8/\r'=r)\/(8<=r.g.new.length/\r.g.new.length<=1000/\im r.g/\∃n g',Md.collect .minor r.g=U (n,g')/\r'=Md.counted r .minor n g'/\(0<=r.minors/\r.minors<=1000)/\(0<=r.dA/\r.dA<=100000)/\n<=1000)
def bD.anJ{w B d b r J}(h:bD w B d b r J):∃a m,w.cell? ⟨b,0,I⟩=U (.slice a r.g.new.length m):=by obtain⟨n,o,m,row,i,hb,⟨e,f,c,_⟩,_⟩:=h.2.2.1;rw[aT]at c;refine⟨e,f,?_⟩;rw[<-c];simp[Y,hb]
def WD(w B f b r r'){J}(d:bD w B f b r J)(v:B<=w.heap.size)(o:Roomy r r'):
 ZZ prog 232 #[ZW (U ⟨f,0,I⟩)] w λe w'=>e=.returned (.tuple #[])/\bD w' B f b r' J/\R B w w'/\tc J w w':=by
 have HR:=V d;obtain⟨c0,_,_⟩:=d.ptr;obtain⟨a,m,c1⟩:=d.anJ;obtain⟨t,rfl⟩|⟨t,x,k,n,y,l,rfl,s,u,p⟩:=o
 ·have q:(r'.g.new.length:Int)<8:=by omega
  clear d
  go_enter (fU func232 rfl),ntmps232
  go_wp2
  go_step3
  go_wp2
  go_step3
  go_wp2_with fail
  rw[Zg];refine ZC (results_none rfl _ _ _) rfl ?_;exact⟨rfl,HR.out,ο _ _,λ_ _ _=>rfl⟩
 ·have q:¬(r.g.new.length:Int)<8:=by omega
  clear d;have HC:=V<|Ψ k l;clear k l
  go_enter (fU func232 rfl),ntmps232
  go_wp2
  go_step3
  go_wp2
  go_step3
  go_wp2_with fail
  refine(wM _ B f b n r y HC.out.1 HR.out v HC.out.2 s u p).mono ?_;rintro e z ⟨rfl,c,j,h⟩;have i:=V c;clear c
  go_wp2_with fail
  rw[Zg];refine ZC (results_none rfl _ _ _) rfl ?_;exact⟨rfl,i.out,j,h⟩
end Kn
namespace Kn
open Go Go.RowKit Go.Extern.Stop Go.Stop Go.Extern Md
def WH(w:Z9):(Instr.typeAssert .nilIface 20 174 ZH).run prog w=.ok (.tuple #[.nilIface,.bool ε]) w:=by kernel_rfl
def eE(w:Z9):ZZ prog 81 #[.nilIface] w λev w'=>ev=.returned (Γ ω 0)/\R w w w':=by
 have h:=WH
 go_enter (fU func81 rfl),ntmps81
 go_wp2
 go_ret;exact⟨rfl,ο _ _⟩
end Kn
namespace Kn
open Go Go.RowKit Md
section
variable{b:Nat}{t:ZR}{w:Z9}
def Idle(f:FuncId):Prop:=∀p x w,w p=U x->w.frozen? p=ε->CallsD prog f #[ZW (U p)] .returning w λe u' w'=>e=.returned (.tuple #[])/\u'=.returning/\∃w1,R w w w1/\w'=w1.setCell p (Γ ω 0)
def Ju(w:Z9)(b a):((w.alloc b).alloc a).heap[w.heap.size+1]?=U a/\R w w ((w.alloc b).alloc a)/\((w.alloc b).alloc a).heap.size=w.heap.size+1+1:=by refine⟨?_,(af w _).alloc (by simp) _,by simp⟩;have:=Z4 (w.alloc b) a;simpa using this
def al3(w:Z9)(c a b):(((w.alloc c).alloc a).alloc b).heap[w.heap.size+1]?=U a/\(((w.alloc c).alloc a).alloc b).heap[w.heap.size+1+1]?=U b/\R w w (((w.alloc c).alloc a).alloc b)/\(((w.alloc c).alloc a).alloc b).heap.size=w.heap.size+1+1+1:=by refine⟨?_,?_,((af w _).alloc (by simp) _).alloc (by simp;omega) _,by simp⟩;rw[Zm _ _ _ (by simp)];exact(Ju w c a).1;have:=Z4 ((w.alloc c).alloc a) b;simpa using this
def d7{x fr}(h:w.heap[b]?=U (Ξ #[x] t fr)):w b=U x:=by simp[Y,h]
def cD{i:Nat}{c}(h:w.heap[b]?=U (.cells c t (0,0))):w.frozen? (b,i)=ε:=by simp[μ,h]
def behind{w2 w9 x y}(hb:R w w w2)(d:w2.heap[b]?=U (Ξ #[x] t (0,0)))(f:w.heap.size<=b)(a:R w2 w2 w9):
 (w9.setCell b y).heap[b]?=U (Ξ #[y] t (0,0))/\R w w (w9.setCell b y)/\∀k,k≠b->k<w2->(w9.setCell b y).heap[k]?=w2.heap[k]?:=by
 refine⟨?_,(hb.trans<|a.mono hb.size).setCell f _,λk e c=>?_⟩;rw[aB ((a.block b<|(Ω.1 d).1).trans d)];rfl;rw[aa e,a.block k c]
def WI:Idle 80:=λp x w c f=>by
 have b:=ZU c;refine ZO (fU func80 rfl) rfl λa cs g=>?_;apply ZF;simp[Zd,go_sem,Zv,g,ntmps80,ZL];refine(eE w).mono ?_;rintro e d ⟨rfl,hb⟩;have i:=(hb.cell b).trans c;have h:=(hb.frozen b).trans f;cases a
 simp_all [go_sem,ZA,ZN,results80]
 exact⟨d,hb,rfl⟩
def OL:Idle 103:=λp x w c f=>by
 have b:=ZU c;refine ZO (fU func103 rfl) rfl λa cs g=>?_;apply ZF;simp[Zd,go_sem,Zv,g,ntmps103,ZL];refine(eE w).mono ?_;rintro e d ⟨rfl,hb⟩;have i:=(hb.cell b).trans c;have h:=(hb.frozen b).trans f;cases a
 simp_all [go_sem,ZA,ZN,results103]
 exact⟨d,hb,rfl⟩
def ON:Idle 105:=λp x w c f=>by
 have b:=ZU c;refine ZO (fU func105 rfl) rfl λa cs g=>?_;apply ZF;simp[Zd,go_sem,Zv,g,ntmps105,ZL];refine(eE w).mono ?_;rintro e d ⟨rfl,hb⟩;have i:=(hb.cell b).trans c;have h:=(hb.frozen b).trans f;cases a
 simp_all [go_sem,ZA,ZN,results105]
 exact⟨d,hb,rfl⟩
def OR:Idle 143:=λp x w c f=>by
 have b:=ZU c;refine ZO (fU func143 rfl) rfl λa cs g=>?_;apply ZF;simp[Zd,go_sem,Zv,g,ntmps143,ZL];refine(eE w).mono ?_;rintro e d ⟨rfl,hb⟩;have i:=(hb.cell b).trans c;have h:=(hb.frozen b).trans f;cases a
 simp_all [go_sem,ZA,ZN,results143]
 exact⟨d,hb,rfl⟩
end
section
variable{b:Nat}{t:ZR}{w:Z9}
def dm.px{B g}(h:dm w B b g):∃a0 p c a1 v m1 d y m2 l i f s j x q e u,w.heap[b]?=U (Ξ #[.slice a0 p c,.slice a1 v m1,.slice d y m2,.slice l i f,.slice s j x,.slice q e u] 114 (0,0))/\∀w',dm w' B b g->w'.heap[b]?=w.heap[b]?->GV w' (.agg #[.slice a0 p c,.slice a1 v m1,.slice d y m2,.slice l i f,.slice s j x,.slice q e u]) g:=by obtain⟨n,o,m,row,hB,hb,F,A,L,E⟩:=h;obtain⟨r0,r1,r2⟩:=E.roots;obtain⟨an,mn,K,_⟩:=id F;obtain⟨X,S,H,_⟩:=id A;obtain⟨Q,mm,G,_⟩:=aF L;obtain⟨a0,c,z,_⟩:=aF r0;obtain⟨a1,m1,e1,_⟩:=aF r1;obtain⟨d,m2,e2,_⟩:=aF r2;have a:=hb;rw[K,H,G,z,e1,e2]at a;refine⟨_,_,_,_,_,_,_,_,_,_,_,_,_,_,_,_,_,_,a,λw' h k=>?_⟩;obtain⟨v0,v1,v2,T,v4,W,c0,c1,c2,c3,r,t,C,D,N,P,O,J⟩:=h.reads;rw[a]at k;simp[Y,k]at c0 c1 c2 c3 r t;subst c0 c1 c2 c3 r t;exact⟨_,_,_,_,_,_,rfl,C,D,N,P,O,J⟩
def io(w:Z9)(b:Nat)(v0 v1 v2 v3 v4 v5:η):Z9:=(((((w.setCell b v0).setCell (b,1) v1).setCell (b,2) v2).setCell (b,3) v3).setCell (b,4) v4).setCell (b,5) v5
def kn{d e g f x4 h v0 v1 v2 v3 v4 v5}(hb:w.heap[b]?=U (Ξ #[d,e,g,f,x4,h] t (0,0))):
 (io w b v0 v1 v2 v3 v4 v5).heap[b]?=U (Ξ #[v0,v1,v2,v3,v4,v5] t (0,0))/\(∀k,k≠b->(io w b v0 v1 v2 v3 v4 v5).heap[k]?=w.heap[k]?)/\(io w b v0 v1 v2 v3 v4 v5).heap.size=w/\∀H,H<=b->R H w (io w b v0 v1 v2 v3 v4 v5):=by
 refine⟨heap_setCell_same (i:=5) (v:=v5)<|heap_setCell_same (i:=4) (v:=v4)<|heap_setCell_same (i:=3) (v:=v3)<|heap_setCell_same (i:=2) (v:=v2)<|heap_setCell_same (i:=1) (v:=v1)<|heap_setCell_same (i:=0) (v:=v0) hb,λk a=>?_,by simp[io],λH c=>?_⟩;unfold io;rw[aa a,aa a,aa a,aa a,aa a,aa a];exact((((((ο H w).setCell (p:=⟨b,0,I⟩) c _).setCell (p:=⟨b,1,I⟩) c _).setCell (p:=⟨b,2,I⟩) c _).setCell (p:=⟨b,3,I⟩) c _).setCell (p:=⟨b,4,I⟩) c _).setCell (p:=⟨b,5,I⟩) c _
def jF{x}(h:w.heap[b]?=U (Ξ #[x] t (0,0))):(w.setCell b x).heap[b]?=U (Ξ #[x] t (0,0))/\(∀k:Nat,(w.setCell b x).heap[k]?=w.heap[k]?)/\R w w (w.setCell b x):=by
 have h0:(w.setCell b x).heap[b]?=U (Ξ #[x] t (0,0)):=by rw[aB h];rfl
 have a:∀k:Nat,(w.setCell b x).heap[k]?=w.heap[k]?:=λk=>by
  by_cases c:k=b
  grind
  exact aa c
 exact⟨h0,a,⟨rfl,rfl,rfl,by simp,λk _=>a k⟩⟩
def fz{w9 x}(h:w.heap[b]?=U (Ξ #[x] t (0,0)))(a:R w w w9):(w9.setCell b x).heap[b]?=U (Ξ #[x] t (0,0))/\R w w (w9.setCell b x):=by obtain⟨h0,_,c⟩:=jF<|(a.block b<|(Ω.1 h).1).trans h;exact⟨h0,a.trans<|c.mono a.size⟩
def afG{w4 H B a eb g s D y u x4 z v0 v1 v2 v3 v4 v5}(m:dm w4 B b g)(C:∀w',dm w' B b g->w'.heap[b]?=w4.heap[b]?->GV w' (.agg #[v0,v1,v2,v3,v4,v5]) g)(d:w4.heap[a]?=U (Ξ #[s,D,y,u,x4,z] 26 (0,0)))(p:w4.heap[eb]?=U (Ξ #[Γ ω 0] 34 (0,0)))(w:H<=a)(F:H<=eb):
 ((io w4 a v0 v1 v2 v3 v4 v5).setCell eb<|Γ ω 0).heap[eb]?=U (Ξ #[Γ ω 0] 34 (0,0))/\
 ∀w9,R ((io w4 a v0 v1 v2 v3 v4 v5).setCell eb<|Γ ω 0).heap.size ((io w4 a v0 v1 v2 v3 v4 v5).setCell eb<|Γ ω 0) w9->(w9.setCell eb<|Γ ω 0).heap[a]?=U (Ξ #[v0,v1,v2,v3,v4,v5] 26 (0,0))/\(w9.setCell eb<|Γ ω 0).heap[eb]?=U (Ξ #[Γ ω 0] 34 (0,0))/\GV (w9.setCell eb<|Γ ω 0) (.agg #[v0,v1,v2,v3,v4,v5]) g/\(H<=w4->R H w4 (w9.setCell eb<|Γ ω 0)):=by
 obtain⟨x,l,E,t⟩:=kn (v0:=v0) (v1:=v1) (v2:=v2) (v3:=v3) (v4:=v4) (v5:=v5) d;have j:eb≠a:=λe=>by rw[e,d]at p;cases p
 generalize io w4 a v0 v1 v2 v3 v4 v5=w5 at *;obtain⟨q1,q,f⟩:=jF<|(l eb j).trans p;refine⟨q1,λw9 A=>?_⟩;generalize w5.setCell eb (Γ ω 0)=r at *;obtain⟨r1,r2⟩:=fz q1 A;have o:a<r:=by have:=f.size;have:=(Ω.1 d).1;omega
 have i:b<r:=by have:=f.size;have:=m.obj.2.1;omega
 obtain⟨_,_,cb,c⟩:=m.obj;have n:b≠a:=λe=>by rw[e,d]at c;cases c
 exact⟨(r2.block a o).trans<|(q a).trans x,r1,C _ ((((cR.wC (J:=λ_=>False) m λ_ h=>h.elim).off d (by decide) λk v=>(q k).trans<|l k v).own).below r2)<|(r2.block b i).trans<|(q b).trans<|l b n,λG=>(t H w).trans<|((f.mono<|by omega).trans<|r2.mono (by have:=f.size;omega))⟩
def qh(w v g g')(k n:Nat)(s)(hv:GV w v g)(hk:oy g)(hm:g.marked.length<=1000000)(hz:cN g=0)(q:Md.collect s g=U (n,g'))(hc:∀w B b,cR w B b g (λ_=>False) ->B<=w->ZZ prog 144 #[.pointer b,.iface k<|.agg #[]] w (cq (λ_=>False) B b g s w)):
 ZZ prog 78 #[v,.iface k<|.agg #[]] w λe w'=>(∃r,e=.returned (.tuple #[r,Γ ω 0])/\GV w' r g')/\R w w w':=by
 have hmf:∀(fn:Fn) (first cap:Array η) (w:Z9),(Instr.makeFunc fn first cap).run prog w=.ok (.func fn first cap) w:=λ_ _ _ _=>rfl;have HV:=V hv;have HK:=V hk;have HC:=V hc;have HCO:=V q;obtain⟨vn,o,r,wi,d,m,rfl,h1,h2,h3,h4,h5,h6⟩:=hv;clear hk h1 h2 h3 h4 h5 h6 hc q
 go_enter_defers (fU func78 rfl),ntmps78
 go_wp2_with fail
 obtain⟨c,u,a,hz3⟩:=al3 w (Ξ #[vn,o,r,wi,d,m] 26) (Ξ #[(),(),(),(),(),()] 26)<|Ξ #[Γ ω 0] 34;refine(Xb _ _ g (HV.out.below a) HK.out hz hm).mono ?_;rintro e w2 ⟨⟨b,rfl,C⟩,j⟩;have y:=a.trans<|j.mono a.size;have HG2:=V<|C.less (B':=w.heap.size+1+1+1)<|by omega
 have HB2:=V<|j.mono (B':=w.heap.size+1+1+1)<|by omega
 have hs2:=j.size;have HY:=V<|Ψ ((j.block (w.heap.size+1)<|by omega).trans c)<|(j.block (w.heap.size+1+1)<|by omega).trans u;clear j a C c u
 go_wp2_with fail
 refine(HC.out _ (w.heap.size+1+1+1) b (cR.wC HG2.out λ_ h=>h.elim)<|by omega).mono ?_;rintro e w3 t;unfold cq at t;rw[HCO.out]at t;obtain⟨rfl,x,a,_,_⟩:=t;have D:=V x.own;have p:=y.trans<|a.mono (B':=w.heap.size)<|by omega
 have c:=(a.block (w.heap.size+1)<|by omega).trans HY.out.1;have u:=(a.block (w.heap.size+1+1)<|by omega).trans HY.out.2;clear y HB2 x HY a
 go_wp2_with fail
 ((with_reducible refine(cd _ _).mono ?_))
 rintro e w4 ⟨rfl,rfl⟩;obtain⟨a0,E,K,a1,L,m1,T,N,m2,X,P,O,S,W,G,Q,J,F,hb,z⟩:=D.out.px;have c0:w4 b=U (.slice a0 E K):=by simp[Y,hb]
 have c1:w4 (b,1)=U (.slice a1 L m1):=by simp[Y,hb]
 have c2:w4 (b,2)=U (.slice T N m2):=by simp[Y,hb]
 have c3:w4 (b,3)=U (.slice X P O):=by simp[Y,hb]
 have c4:w4 (b,4)=U (.slice S W G):=by simp[Y,hb]
 have c5:w4 (b,5)=U (.slice Q J F):=by simp[Y,hb]
 have A:=V<|Ψ hb<|Ψ z<|Ψ p<|Ψ c u;have d0:w4 (w.heap.size+1:Nat)=U ():=by simp[Y,c]
 have d1:w4 (w.heap.size+1,1)=U ():=by simp[Y,c]
 have d2:w4 (w.heap.size+1,2)=U ():=by simp[Y,c]
 have d3:w4 (w.heap.size+1,3)=U ():=by simp[Y,c]
 have d4:w4 (w.heap.size+1,4)=U ():=by simp[Y,c]
 have d5:w4 (w.heap.size+1,5)=U ():=by simp[Y,c]
 have de:=d7 u;have f0:=cD (i:=0) c;have f1:=cD (i:=1) c;have f2:=cD (i:=2) c;have f3:=cD (i:=3) c;have f4:=cD (i:=4) c;have f5:=cD (i:=5) c;have fe:=cD (i:=0) u;clear hb z p c u hs2 hz3
 go_wp2_with fail
 rw[show((((((w4.setCell (w.heap.size+1:Nat)<|.slice a0 E K).setCell (w.heap.size+1,1)<|.slice a1 L m1).setCell (w.heap.size+1,2)<|.slice T N m2).setCell (w.heap.size+1,3)<|.slice X P O).setCell (w.heap.size+1,4)<|.slice S W G).setCell (w.heap.size+1,5)<|.slice Q J F)=io w4 (w.heap.size+1) (.slice a0 E K) (.slice a1 L m1) (.slice T N m2) (.slice X P O) (.slice S W G) (.slice Q J F)from rfl];obtain⟨k1,k2⟩:=afG (H:=w) D.out A.out.2.1 A.out.2.2.2.1 A.out.2.2.2.2 (by omega) (by omega);refine leaves_cons (f:=143) (args:=#[.pointer (w.heap.size+1+1:Nat)]) (by simp) (by simp[go_sem]) ?_;refine(OR (w.heap.size+1+1:Nat) (Γ ω 0) _ (d7 k1)<|cD k1).mono ?_;rintro e u' w'' ⟨rfl,rfl,w9,BP,rfl⟩;obtain⟨q1,q2,q3,q4⟩:=k2 w9 BP;generalize w9.setCell (w.heap.size+1+1:Nat) (Γ ω 0)=l at *;have z0:l (w.heap.size+1:Nat)=U (.slice a0 E K):=by simp[Y,q1]
 have z1:l (w.heap.size+1,1)=U (.slice a1 L m1):=by simp[Y,q1]
 have z2:l (w.heap.size+1,2)=U (.slice T N m2):=by simp[Y,q1]
 have z3:l (w.heap.size+1,3)=U (.slice X P O):=by simp[Y,q1]
 have z4:l (w.heap.size+1,4)=U (.slice S W G):=by simp[Y,q1]
 have z5:l (w.heap.size+1,5)=U (.slice Q J F):=by simp[Y,q1]
 simp[Leaves,settle,ZN,results78,go_sem,z0,z1,z2,z3,z4,z5,(d7 q2)];exact⟨q3,A.out.2.2.1.trans<|q4 A.out.2.2.1.size⟩
end
section
structure JI(w w':Z9)(b:Nat):Prop where
 ints:∀o k,w.cell? ⟨b,o,I⟩≠U (Γ ω k)
 same:∀k,k≠b->w'.heap[k]?=w.heap[k]?
 size:w.heap.size<=w'
section
variable{w w':Z9}{b:Nat}{v:η}
def JI.ne(h:JI w w' b){a o:Nat}{k}(hc:w (a,o)=U (Γ ω k)):a≠b:=λe=>h.ints o k<|e▸hc
def JI.cell(h:JI w w' b){a o}(c:a≠b):w'.cell? ⟨a,o,I⟩=w.cell? ⟨a,o,I⟩:=by simp only[Y,h.same a c]
def eI.off{l}(h:eI w v l)(f:JI w w' b):eI w' v l:=by obtain⟨a,m,rfl,r,j,h⟩:=h;refine⟨a,m,rfl,r,j,λh0=>?_⟩;obtain⟨c,o,rfl,hb,d⟩:=h h0;obtain⟨p,q,e⟩:=ep h0;have g:=f.ne (d 0 p q e).1;refine⟨c,o,rfl,Nat.lt_of_lt_of_le hb f.size,λi k n e=>?_⟩;rw[f.cell g,f.cell g];exact d i k n e
def n9.off{l}(h:n9 w v l)(f:JI w w' b):n9 w' v l:=by obtain⟨a,m,rfl,j,g,h⟩:=h;refine⟨a,m,rfl,j,g,λh0=>?_⟩;obtain⟨c,o,rfl,hb,d⟩:=h h0;obtain⟨p,e⟩:=lw h0;have k:=f.ne<|d 0 p e;refine⟨c,o,rfl,Nat.lt_of_lt_of_le hb f.size,λi n e=>?_⟩;rw[f.cell k];exact d i n e
def sa.off{l}(h:sa w v l)(d:JI w w' b):sa w' v l:=by obtain⟨a,m,rfl,t,s,h⟩:=h;refine⟨a,m,rfl,t,s,λh0=>?_⟩;obtain⟨c,o,rfl,hb,f⟩:=h h0;obtain⟨p,q,e⟩:=cQ h0;have g:=d.ne (f 0 p q e).1;refine⟨c,o,rfl,Nat.lt_of_lt_of_le hb d.size,λi k r e=>?_⟩;obtain⟨n,x,j,u⟩:=f i k r e;rw[d.cell g,d.cell g];exact⟨n,x,j,u.off d⟩
def GV.off{g}(h:GV w v g)(a:JI w w' b):GV w' v g:=by obtain⟨n,o,r,l,d,m,rfl,i,e,k,f,j,c⟩:=h;exact⟨_,_,_,_,_,_,rfl,i.off a,e.off a,k.off a,f.off a,j.off a,c.off a⟩
end
def aaO{w b t v0 v1 v2 v3 v4 v5}(h:w.heap[b]?=U (Ξ #[(),(),(),(),(),()] t (0,0))):JI w (io w b v0 v1 v2 v3 v4 v5) b:=by
 obtain⟨_,a,c,_⟩:=kn (v1:=v1) (v2:=v2) (v3:=v3) (v4:=v4) (v5:=v5) h;refine⟨λo k e=>?_,a,Nat.le_of_eq c.symm⟩;simp only[Y,h]at e
 match o,e with
 |0,e=>cases e
 |1,e=>cases e
 |2,e=>cases e
 |3,e=>cases e
 |4,e=>cases e
 |5,e=>cases e
 |n+6,e=>simp at e
def JJ{w:Z9}{b t}(h:w.heap[b]?=U (Ξ #[(),(),(),(),(),()] t (0,0))):(∀i,i<6->w (b,i)=U ())/\∀i,w.frozen? ⟨b,i,I⟩=ε:=by
 refine⟨λi hi=>?_,λi=>cD h⟩
 match i,hi with
 |0,_=>simp[Y,h]
 |1,_=>simp[Y,h]
 |2,_=>simp[Y,h]
 |3,_=>simp[Y,h]
 |4,_=>simp[Y,h]
 |5,_=>simp[Y,h]
def sS{w:Z9}{b:Nat}{t v0 v1 v2 v3 v4 v5}(h:w.heap[b]?=U (Ξ #[v0,v1,v2,v3,v4,v5] t (0,0))):w b=U v0/\w (b,1)=U v1/\w (b,2)=U v2/\w (b,3)=U v3/\w (b,4)=U v4/\w (b,5)=U v5:=by refine⟨?_,?_,?_,?_,?_,?_⟩<;>simp[Y,h]
def ahX:uH->Nat
 |.minor=>102
 |.full=>119
 |.major=>120
def ahY:uH->Nat
 |.minor=>22
 |.full=>28
 |.major=>30
def Qq(s w v g g' n)(O:GV w v g)(K:oy g)(hm:g.marked.length<=1000000)(hz:cN g=0)(c:Md.collect s g=U (n,g'))(hc:∀w B b,cR w B b g (λ_=>False) ->B<=w->ZZ prog 144 #[.pointer b,.iface (ahX s)<|.agg #[]] w (cq (λ_=>False) B b g s w)):
 ZZ prog (ahY s) #[v] w λe w'=>(∃r,e=.returned (.tuple #[r,Γ ω 0])/\GV w' r g')/\R w w w':=by
 have HV:=V O;have HK:=V K;have HP:=V hc;have HC:=V c;obtain⟨vn,o,r,P,d,m,rfl,h1,Q,h3,h4,h5,h6⟩:=O;clear K h1 Q h3 h4 h5 h6 hc c;cases s
 all_goals
  first
   |go_enter (fU func22 rfl),ntmps22
   |go_enter (fU func28 rfl),ntmps28
   |go_enter (fU func30 rfl),ntmps30
  go_wp2_with fail
  obtain⟨N,a,H⟩:=Ju w (Ξ #[vn,o,r,P,d,m] 26)<|Ξ #[(),(),(),(),(),()] 26;refine(qh _ _ g g' _ n _ (HV.out.below a) HK.out hm hz HC.out HP.out).mono ?_;rintro e F ⟨⟨r3,rfl,D⟩,i⟩;have T:=V D;have G:=(i.block (w.heap.size+1)<|by omega).trans N;have HB:=V<|a.trans<|i.mono a.size;obtain⟨a0,a1,a2,a3,a4,a5,rfl,⟨q,l0,rfl,_⟩,⟨j,z,rfl,_⟩,⟨x,A,rfl,_⟩,⟨l,t,rfl,_⟩,⟨y,u,rfl,_⟩,⟨k,p,rfl,_⟩⟩:=D;obtain⟨d,f⟩:=JJ G;have d0:=d 0 (by omega);have d1:=d 1 (by omega);have d2:=d 2 (by omega);have d3:=d 3 (by omega);have d4:=d 4 (by omega);have d5:=d 5 (by omega);have f0:=f 0;have f1:=f 1;have f2:=f 2;have f3:=f 3;have f4:=f 4;have f5:=f 5;have L:=V G;clear d f G N a i H
  go_wp2_with fail
  rw[show((((((F.setCell ⟨w.heap.size+1,0,I⟩<|.slice q g'.new.length l0).setCell ⟨w.heap.size+1,1,I⟩<|.slice j g'.old.length z).setCell ⟨w.heap.size+1,2,I⟩<|.slice x g'.roots.length A).setCell ⟨w.heap.size+1,3,I⟩<|.slice l g'.aA.length t).setCell (w.heap.size+1,4)<|.slice y g'.done.length u).setCell (w.heap.size+1,5)<|.slice k g'.marked.length p)=io F (w.heap.size+1) (.slice q g'.new.length l0) (.slice j g'.old.length z) (.slice x g'.roots.length A) (.slice l g'.aA.length t) (.slice y g'.done.length u) (.slice k g'.marked.length p)from rfl];have E:=aaO (v0:=(.slice q g'.new.length l0)) (v1:=(.slice j g'.old.length z)) (v2:=(.slice x g'.roots.length A)) (v3:=(.slice l g'.aA.length t)) (v4:=(.slice y g'.done.length u)) (v5:=(.slice k g'.marked.length p)) L.out;obtain⟨J,_,_,k4⟩:=kn (v0:=(.slice q g'.new.length l0)) (v1:=(.slice j g'.old.length z)) (v2:=(.slice x g'.roots.length A)) (v3:=(.slice l g'.aA.length t)) (v4:=(.slice y g'.done.length u)) (v5:=(.slice k g'.marked.length p)) L.out;have h:=T.out.off E;have C:=HB.out.trans<|k4 w<|by omega
  generalize io F (w.heap.size+1) (.slice q g'.new.length l0) (.slice j g'.old.length z) (.slice x g'.roots.length A) (.slice l g'.aA.length t) (.slice y g'.done.length u) (.slice k g'.marked.length p)=w4 at J h C⊢;obtain⟨z0,z1,X,z3,W,S⟩:=sS J;refine ZC (v:=.tuple #[.agg #[.slice q g'.new.length l0,.slice j g'.old.length z,.slice x g'.roots.length A,.slice l g'.aA.length t,.slice y g'.done.length u,.slice k g'.marked.length p],Γ ω 0]) (by simp[ZN,results22,results28,results30,go_sem,z0,z1,X,z3,W,S]) rfl ⟨⟨_,rfl,h⟩,C⟩
def OY(w v g g' n)(h:GV w v g)(f:oy g)(d:g.marked.length<=1000000)(hz:cN g=0)(c:im g)(a:Md.collect .minor g=U (n,g')):
 ZZ prog 22 #[v] w λe w'=>(∃r,e=.returned (.tuple #[r,Γ ω 0])/\GV w' r g')/\R w w w':=
 Qq .minor w v g g' n h f d hz a λw B b j i=>lz w B b g j c i
def WO(w v g g' n)(h:GV w v g)(f:oy g)(d:g.marked.length<=1000000)(hz:cN g=0)(c:im g)(a:Md.collect .full g=U (n,g')):
 ZZ prog 28 #[v] w λe w'=>(∃r,e=.returned (.tuple #[r,Γ ω 0])/\GV w' r g')/\R w w w':=
 Qq .full w v g g' n h f d hz a λw B b j i=>tO w B b g j c i
end
section
variable{g:GH}
def Pc{v}(h:zH g v):eO g v=0:=by
 unfold eO;obtain⟨a,b,c⟩|⟨a,b,c⟩:=h
 omega;omega
def Qw{v}(h:ta g v):mh g v=0:=by
 unfold mh;obtain(⟨a,h2,h3⟩|⟨a,h2⟩)|h:=h
 omega;omega;have b:=Pc h;obtain⟨a,_⟩|⟨a,_⟩:=h
 omega;omega
def KF{l}(h:∀e∈l,e=0):cU l=0:=by have:=jZ (r:=[]) h;rwa[Zh]at this
def V'{c}(h:RJ g c):zj g c=0:=by
 obtain⟨j,b⟩:=h;unfold zj;have f:¬c.2.length<(if c.1=0 then 0 else if c.1=1 then 1 else 2):=by grind
 have i:¬(if c.1=0 then 4 else if c.1=1 then 1 else 2)<c.2.length:=by
  split
  omega;split<;>omega
 rw[if_neg (by omega),if_neg f,if_neg i];refine KF λe d=>?_;obtain⟨v,a,rfl⟩:=Z.1 d;exact Qw<|b v a
def PG{l}(h:Oi g l):BF g l:=by
 refine⟨h.wW,λi v e=>⟨(h.cells v<|ξ e).cell,Pc<|h.cells v<|ξ e,?_⟩⟩;obtain⟨hi,rfl⟩:=φ.1 e;rw[Bool.eq_false_iff];intro hc;obtain⟨j,b⟩:=List.mem_iff_getElem?.1<|Δ.1 hc;rw[List.getElem?_take]at b;split at b
 rename_i c;obtain⟨a,e2⟩:=φ.1 b;exact absurd e2<|Zz.1 h.nodup j i a hi c
 grind
def VG.look(h:VG g):oy g:=⟨λc hc=>V'<|h.cells c hc,h.news,h.bw,h.four,λv a=>Qw<|h.roots v a,PG h.aA,PG h.done⟩
def VG.aeP(h:VG g):im g where
 cells:=h.Kx
 cJ:=λv a=>(h.JZ v a).VQ
 news:=by have:=h.news;omega
 bw:=by have:=h.bw;omega
 roots:=by have:=h.four;omega
 aA:=by have:=h.aA.wW;omega
 done:=by have:=h.done.wW;omega
 eT:=λc hc=>by have:=(h.cells c hc).1;omega
 marks:=h.marks
 marked:=by have:=h.By;omega
theorem VG.cN{g:GH}(h:VG g):cN g=0:=by
 unfold Kn.cN;refine KF λe a=>?_;obtain a|a:=ψ.1 a
 obtain⟨i,hi,rfl⟩:=Z.1 a;have hi:=ZB.1 hi;unfold jt;have d:=h.marks _<|ZX hi;dsimp only;rw[(by simp[ι,χ hi]:g.marked.getD i 0=g.marked[i]),if_neg<|by omega,if_neg];split
 omega;have:=Zz.1 h.order (i-1) i (by omega) hi (by omega);rw[(by simp[ι,χ (by omega:i-1<g.marked.length)]:g.marked.getD (i-1) 0=g.marked[i-1])];omega;obtain⟨n,b,rfl⟩:=Z.1 a;unfold ju at b;obtain⟨i,hi,rfl⟩:=Z.1 b;obtain⟨hi,c⟩:=Θ.1 hi;have:=h.ju i _ (by simp[ι,χ<|ZB.1 hi]) c;rw[if_pos (Δ.2 this)]
def VG.collect(h:VG g)(a:g.new.length+g.old.length<=32):Md.collect .minor g=U ((hE g).length,sX g):=by have b:=wb h;show(if 32<g.old.length+(hE g).length then I else _)=_;rw[if_neg (by omega)];rfl
end
end Kn
