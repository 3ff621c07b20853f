/- A part of the proof of GcWhole; no conditions. -/
import Derived.Test.YtbnmpafbfoaggaaGreatDoorU0
import Derived.Test.YtbnmpafbfoaggaaGreatDoorU1
import Derived.Test.YtbnmpafbfoaggaaGreatDoorU3
import Derived.Test.YtbnmpafbfoaggaaGreatDoorU2
import Derived.Maps.RangeWalk
import Derived.Maps.OwnSet
import Derived.Defers
import Derived.Recover
import Derived.Laws.Pointers
import Derived.Deep.RegionWith
import Derived.ScopeJumps
import Derived.WalkMore
import Derived.LaidEql
import Derived.Stop.Asserts
import Derived.RowKitTokens
set_option linter.defProp false
set_option linter.unusedVariables false
set_option linter.unusedSimpArgs false
set_option maxRecDepth 100000
set_option maxHeartbeats 16000000
noncomputable section
open Go.World renaming cell?->Y,frozen?->ξ,cell?_alloc_lt->κ,frozen?_alloc_old->ZW,size_alloc->Zm
open Go.Lib renaming hid->V
open Array renaming getElem?_eq_some_iff->Ω,getElem?_eq_none->ZO
open Option renaming some->U,none->I
open List renaming mem_map->Ψ,mem_append->Γ,getElem?_set_self->φ,mem_filter->υ,getElem?_eq_getElem->ο,getElem?_eq_some_iff->μ,getElem?_set_ne->ι,contains_iff_mem->ζ,length_filter_le->ε,ext_getElem?->Z7,mem_of_getElem?->Z1,map_map->Z0,length_map->ZY,map_append->ZU,getD->ZS,mem_append_right->ZL,mem_append_left->ZK,map_congr_left->ZH,range->ZG,length_append->ZF,getElem?_map->ZE,length_eq_one_iff->Zv,sublist_cons_self->Zu,getElem?_eq_none->Zt,map_id->Zr,mem_cons_self->Zp,mem_singleton->Zo,nodup_append->Zk,pairwise_map->Zj,length_cons->Zf,length_nil->Zd,length_set->Zc,map_cons->Y9,map_nil->Y7
open And renaming intro->R
open Go.Value renaming int->Ξ,pointer->ω,slice->ZQ,map->Zn
open Go.Obj renaming cells->Θ,map->Ze
open Go.IntKind renaming i64->Δ,u64->Zy,u8->Y8
open Go.RowKit renaming Below->Z
open Go.RowKit.Below renaming refl->ψ,heap_setCell->Zq,heap_alloc->Zh
open Go renaming run_callFunc_extern->χ,Value->θ,heap_alloc_new->Z9,World->Z8,callsIn_wide->Z2,block_lt_of_cell->ZX,Calls->ZV,callsD_of_wpS->ZT,TypeId->ZR,wpS_region->ZJ,results->ZI,bodyPostS->ZC,recoverD->Zx,method->Zs,wpList->Zl,wpOpsS->Zi,bodyPost_ret->Zg,storeVar->Za,wpIn_rangeFunc_ownH->Y',loadVar->Y6
open Bool renaming false->η,true->ZM
open Go.Result renaming andThen->Z4
open Int renaming eq_ofNat_of_zero_le->Z3
open Go.Sem renaming run_bind->ZZ
open Option.some renaming inj->ZP
open Go.Exit renaming thenS->ZN,noGoto_ret->Zb
open List.Sublist renaming append_left->ZD
open Go.CallsIn renaming inRound->ZB
open Go.Instr renaming typeAssert->ZA,makeFunc->Zw
open Ne renaming symm->Zz
namespace Go.Proofs.YtbnmpafbfoaggaaGreatDoor
open Go.Proofs.Tryz hiding prog
open Go.Proofs.aD
namespace Kn
open Go Go.RowKit Go.Shelf Md
section
attribute [local go_sem] Oper.semAt_some
def BW(w b h N g)(hg:qw w b h)(ho:lZ h N g):
 ZV prog 222 #[.pointer b,Ξ Δ<|-1] w λe w'=>(∃m,e=.returned (.map<|U m)/\w.heap.size<=m/\bk w' m (jE h N<|g+1))/\Z w w w':=by
 have hmm:=@run_makeMap prog;have HG:=V hg;have HO:=V ho;clear hg ho;refine(Z2 (n:=9)).1 ?_;refine callsIn_of_wp_marks (fU func222 rfl) rfl trivial ?_ rfl;simp only[ntmps222,List.size_toArray,Zf,Zd,Nat.reduceAdd,Nat.reduceSub,Array.replicate_succ,Array.replicate_zero,List.push_toArray,List.append_toArray,List.nil_append,List.cons_append];refine wpIn_wide.2 ?_
 go_wp2_with fail
 refine qy 0 (λr a' W=>∃(Ds:List Nat) (u6 u7 u8 u9 u10 u11 u12 u13 u14 u15 u16 u17 u18 u19 u20 u21 u22 u23 u24 u25 u26 u27 u28 u29 u30 u31 u32 u33 u34 u35 u36 u37 u38 u39 u40 u41 u42 u43 u44 u45 u46 u47 u48 u49 u50 u51 u52 u53 u54 u55 u56 u57 u58 u59 u60 u61 u62 u63 u64 u65 u66 u67 u68:θ),a'={tmps:=#[.pointer b,Ξ Δ<|-1,undef,.pointer w.heap.size,.map I,.map<|U<|w.heap.size+1,u6,u7,u8,u9,u10,u11,u12,u13,u14,u15,u16,u17,u18,u19,u20,u21,u22,u23,u24,u25,u26,u27,u28,u29,u30,u31,u32,u33,u34,u35,u36,u37,u38,u39,u40,u41,u42,u43,u44,u45,u46,u47,u48,u49,u50,u51,u52,u53,u54,u55,u56,u57,u58,u59,u60,u61,u62,u63,u64,u65,u66,u67,u68],defers:=Ds.map Jh}/\AO w W (jE h N r) Ds) g (by rfl) ?first ?pass
 case first=>
  intro hrest
  go_wp2_with fail
  go_step3
  rename_i hK;exact hK _ _<|hrest _ _ ⟨[],_,_,_,_,_,_,_,_,_,_,_,_,_,_,_,_,_,_,_,_,_,_,_,_,_,_,_,_,_,_,_,_,_,_,_,_,_,_,_,_,_,_,_,_,_,_,_,_,_,_,_,_,_,_,_,_,_,_,_,_,_,_,_,rfl,Jk w⟩
 case pass=>
  rintro r a' W hr ⟨Ds,u6,u7,u8,u9,u10,u11,u12,u13,u14,u15,u16,u17,u18,u19,u20,u21,u22,u23,u24,u25,u26,u27,u28,u29,u30,u31,u32,u33,u34,u35,u36,u37,u38,u39,u40,u41,u42,u43,u44,u45,u46,u47,u48,u49,u50,u51,u52,u53,u54,u55,u56,u57,u58,u59,u60,u61,u62,u63,u64,u65,u66,u67,u68,rfl,hA⟩;have HA:=V hA;have hlen:=uV 3 hA.al;refine(wpIn_wide (n:=9)).1 ?_;have arK:=hA.below;clear hA
  gi_wp2_with (refine⟨trivial,?_⟩;gi_at_call 259;refine(Z2.2<|Jg _ b).mono ?_;rintro e w' ⟨rfl,rfl⟩)
  clear hmm hlen;have hq0:=HA.out.round;have hD0:=λD (hD:D∈Ds)=>HA.out.E5.lt hD;have KU:(((((W.alloc<|Θ #[ZQ I 0 0] 305).alloc<|Ze #[] 0).alloc<|Θ #[Zn (U<|W.heap.size+1)] 205).alloc<|Θ #[.func (.func 257) #[] #[.pointer (W.heap.size+1+1:Nat),.pointer w.heap.size,.pointer W.heap.size]] 256).alloc<|Θ #[ω (U {block:=b,off:=0})] 155).heap.size=W.heap.size+1+1+1+1+1:=by simp
  have hq5:=hq0.low<|af _<|Θ #[ω (U {block:=b,off:=0})] 155;have hbh:(((((W.alloc<|Θ #[ZQ I 0 0] 305).alloc<|Ze #[] 0).alloc<|Θ #[Zn (U<|W.heap.size+1)] 205).alloc<|Θ #[.func (.func 257) #[] #[.pointer (W.heap.size+1+1:Nat),.pointer w.heap.size,.pointer W.heap.size]] 256).alloc<|Θ #[ω (U {block:=b,off:=0})] 155).heap[W.heap.size+1+1+1+1]?=U (Θ #[.pointer b] 155 (0,0)):=by have:=Z9 ((((W.alloc<|Θ #[ZQ I 0 0] 305).alloc<|Ze #[] 0).alloc<|Θ #[Zn (U<|W.heap.size+1)] 205).alloc<|Θ #[.func (.func 257) #[] #[.pointer (W.heap.size+1+1:Nat),.pointer w.heap.size,.pointer W.heap.size]] 256)<|Θ #[ω (U {block:=b,off:=0})] 155;simpa using this
  generalize ((((W.alloc _).alloc<|Ze #[] 0).alloc _).alloc _).alloc _=W5 at hbh KU hq5⊢;have hsA:=HA.out.al.lt;generalize ann:W.heap.size=u at KU hbh hq5 hD0 hsA⊢;have Z5:=V KU;have HD0:=V hD0;clear hq0 KU hD0 ann;have hW5:=hq5.below;have hb5:=hW5.size;have hq3:u+1+1+1<W5:=by rw[Z5.out];omega
  refine Y' rfl (by omega) (gf:=276) (lb:=#[.pointer (u+1+1+1+1:Nat)]) rfl trivial (enters_of (fU func276 rfl) (by kernel_rfl) rfl)
   (wH 8 (by omega) b (u+1+1+1+1) h w W5 hW5 hbh HG.out HO.out.pos HO.out.ahH) uY.trans (uY.book hb5 (by rw[Z5.out];omega)) (ψ _ _) (λ_=>rfl)
   (λv W=>(∃s,AQ w W u (jE h N r) s (qv (v.map KT) ([],[])).1 (qv (v.map KT) ([],[])).2 Ds)/\W.heap[u+1+1+1+1]?=U (Θ #[.pointer b] 155 (0,0))) (λ_ _ _=>False)
   (λs A C row hs' J hr=>by
     obtain⟨⟨P,h⟩,h2⟩:=hs';refine⟨⟨P,h.grown hq3 (λD hD=>by have:=HD0.out D hD;rw[Z5.out];omega) J hr⟩,(J.block _ (Ω.1 h2).1 λe=>?_).trans h2⟩;obtain⟨_,o,ho,hc'⟩:=hr _ e.symm;rw[h2]at ho;cases ho
     cases hc') (λ_ _ _ _ _ h _ _=>h) ⟨⟨_,hq5⟩,hbh⟩
   (λx a' W=>∃Bx,W.heap[Bx]?=U (Θ #[Ξ Δ (x.1:Int),.slice x.2 1 1] 310 (0,0))/\a'={tmps:=#[.pointer b,Ξ Δ<|-1,undef,.pointer w.heap.size,.map I,.map<|U<|w.heap.size+1,Ξ Δ ((jE h N r).length:Int),.pointer u,.pointer (u+1+1:Nat),.pointer (u+1+1+1:Nat),.pointer (Bx:Nat),u11,u12,u13,u14,u15,u16,.map<|U<|w.heap.size+1,Ξ Δ ((jE h N r).length:Int),.map<|U<|u+1,.func (.func 257) #[] #[.pointer (u+1+1:Nat),.pointer w.heap.size,.pointer u],.pointer b,.func (.func 276) #[] #[.pointer (u+1+1+1+1:Nat)],JG x,u24,u25,u26,u27,u28,u29,u30,u31,u32,u33,u34,u35,u36,u37,u38,u39,u40,u41,u42,u43,u44,u45,u46,u47,u48,u49,u50,u51,u52,u53,u54,u55,u56,u57,u58,u59,u60,u61,u62,u63,u64,u65,u66,u67,u68],defers:=[]})
   (λx a' s A C row hs' J hr=>by
     obtain⟨Bx,h1,h2⟩:=hs';refine⟨Bx,(J.block Bx (Ω.1 h1).1 λe=>?_).trans h1,h2⟩;obtain⟨_,o,ho,hc'⟩:=hr Bx e.symm;rw[h1]at ho;cases ho
     cases hc') ?assign ?body ?done ?stop
  case assign=>
   rintro l v ⟨p,q⟩ L K ⟨⟨P,G⟩,y⟩ hK;unfold JG
   gi_wp2
   have hbb:=af L<|Θ #[Ξ IntKind.i64 (p:Int),ZQ (U {block:=q,off:=0}) 1 1] 310;exact hK _ _ ((KeepsOthers.alloc _ _).from _) (uY.alloc (uY.refl _ _ _) G.below.size (Ω.1 y).1 _) ⟨⟨P,G.low hbb⟩,(hbb.block _ (Ω.1 y).1).trans y⟩ ⟨L.heap.size,Z9 L _,rfl⟩
  case body=>
   rintro l v ⟨p,q⟩ a' L hl ⟨rr,hrr⟩ ⟨⟨P,G⟩,y⟩ ⟨Bx,hx,rfl⟩ hlt;have cf:L (u+1+1+1:Nat)=U (.func (.func 257) #[] #[.pointer (u+1+1:Nat),.pointer w.heap.size,.pointer u]):=by simp[Y,G.me]
   have x0:L (Bx:Nat)=U (Ξ Δ (p:Int)):=by simp[Y,hx]
   have B:=V G;have HI2:=V y;have hbl:=HO.out.sM;have hvl:=pt (v.map KT) ([],[]);simp only[Zd,Nat.zero_add,ZY]at hvl;clear hrr hx G y;unfold JG
   gi_wp2_with fail
   refine⟨trivial,?_⟩;refine(ZB l<|Z2.2<|DC L u w u (u+1) (u+1+1) P _ _ (p:Int) B.out.qa B.out.mt (by simp[Y,B.out.mc]) (by simp[Y,B.out.c3]) (by omega) (by have:=(Ω.1 B.out.qa.1).1;omega)<|by omega).mono ?_;rintro e W3 ⟨rfl,so3,O,Fw,ht3⟩
   gi_wp2_with fail
   have hmx:iG ((qv (v.map KT) ([],[])).1,(qv (v.map KT) ([],[])).2) (p:Int)=qv ((v++[(p,q)]).map KT) ([],[]):=by rw[ZU];exact(sN _ _ _).symm
   rw[hmx]at O Fw;exact⟨B.out.keeps ht3<|by omega,B.out.kpb ht3 HI2.out (by omega) (by omega)<|by decide,⟨so3,B.out.to O Fw ht3⟩,(B.out.keep ht3 HI2.out (by omega) (by omega) λ_ cur fr e=>by cases e)⟩
  case done=>
   rintro D xs L hD hxs ⟨⟨P,G⟩,_⟩ hK;rw[hxs]at G;clear hxs;have hDn:D∉Ds:=λe=>by have:=HD0.out D e;have:=Z5.out;omega
   have z:=V<|G.mark hK hDn (by have:=G.lo;omega);have hsh:(qv (n' h) ([],[])).1.length<=1000:=HO.out.short r hr 0<|Nat.zero_le _;clear G hK
   gi_wp2_with (refine⟨trivial,?_⟩;gi_at_call 260;refine(Z2.2<|BV L u u u P _ z.out.qa<|by omega).mono ?_;rintro e W1 ⟨rfl,rs,hq1,ht1⟩)
   have hI1:=V (z.out.to hq1 (z.out.mt.of_block (ht1.block _ z.out.mt.lt (by omega) (by omega) (λe=>by obtain⟨_,_,cur,hc⟩:=z.out.qa.2.lt e;obtain⟨es,clk,hb,_⟩:=z.out.mt;rw[hc]at hb;cases hb))) ht1.ye)
   clear z hq1 ht1;refine BU (λk a W=>∃(S:List Nat) (s:θ) (u10 u13 u14 u15 u16 u23 u24 u25 u26 u27 u28 u29 u30 u31 u32 u33 u34 u35 u36 u37 u38 u39 u40 u41 u42 u43 u44 u45 u46 u47 u48 u49 u50 u51 u52 u53 u54 u55 u56 u57 u58 u59 u60 u61 u62 u63 u64 u65 u66 u67 u68:θ),a={tmps:=#[.pointer b,Ξ Δ<|-1,undef,.pointer w.heap.size,.map I,.map<|U<|w.heap.size+1,Ξ Δ ((jE h N r).length:Int),.pointer u,.pointer (u+1+1:Nat),.pointer (u+1+1+1:Nat),u10,Ξ Δ<|hdI (dP h k<|gD h<|jE h N r).q,.bool<|isI (dP h k<|gD h<|jE h N r).q,u13,u14,u15,u16,.map<|U<|w.heap.size+1,Ξ Δ ((jE h N r).length:Int),.map<|U<|u+1,.func (.func 257) #[] #[.pointer (u+1+1:Nat),.pointer w.heap.size,.pointer u],.pointer b,.func (.func 276) #[] #[.pointer (u+1+1+1+1:Nat)],u23,u24,u25,u26,u27,u28,u29,u30,u31,u32,u33,u34,u35,u36,u37,u38,u39,u40,u41,u42,u43,u44,u45,u46,u47,u48,u49,u50,u51,u52,u53,u54,u55,u56,u57,u58,u59,u60,u61,u62,u63,u64,u65,u66,u67,u68],defers:=S.map Jh}/\AQ w W u (dP h k<|gD h<|jE h N r).al s (dP h k<|gD h<|jE h N r).q.tail (dP h k<|gD h<|jE h N r).met S) N ?atStart ?loop
   case atStart=>exact⟨D::Ds,rs,_,_,_,_,_,_,_,_,_,_,_,_,_,_,_,_,_,_,_,_,_,_,_,_,_,_,_,_,_,_,_,_,_,_,_,_,_,_,_,_,_,_,_,_,_,_,_,_,_,_,_,rfl,hI1.out⟩
   case loop=>
    rintro k a1 W2 hkN ⟨S,s2,u10,u13,u14,u15,u16,u23,u24,u25,u26,u27,u28,u29,u30,u31,u32,u33,u34,u35,u36,u37,u38,u39,u40,u41,u42,u43,u44,u45,u46,u47,u48,u49,u50,u51,u52,u53,u54,u55,u56,u57,u58,u59,u60,u61,u62,u63,u64,u65,u66,u67,u68,rfl,y⟩;have B:=V y;clear hI1 y;rcases hqk:(dP h k<|gD h<|jE h N r).q with _|⟨n,q⟩
    ·have hfin:=sO hqk N hkN;have Wv:jE h N (r+1)=(dP h k<|gD h<|jE h N r).al:=by show(dP h N<|gD h<|jE h N r).al=_;rw[hfin]
     have hln:=uV 3 B.out.al;rw[<-Wv]at hln;have HH:=V Wv;clear hfin Wv;rw[Ow,Ox];by_cases hgr:(jE h N r).length<(jE h N<|r+1).length
     ·have hrR:r<g:=by
       obtain h1|h1:=Nat.lt_or_ge r g
       exact h1
       ·have:r=g:=by omega
        subst this;exact absurd hgr HO.out.stop
      have hgi:decide (((jE h N r).length:Int)<((jE h N<|r+1).length:Int))=ZM:=by simpa using hgr
      have hao:=B.out.toAO;rw[<-HH.out]at hao;have HAO:=V hao;clear hao
      gi_wp2_with fail
      refine wpIn_goto ?_;exact⟨rfl,hrR,S,_,_,_,_,_,_,_,_,_,_,_,_,_,_,_,_,_,_,_,_,_,_,_,_,_,_,_,_,_,_,_,_,_,_,_,_,_,_,_,_,_,_,_,_,_,_,_,_,_,_,_,_,_,_,_,_,_,_,_,_,_,_,_,rfl,HAO.out⟩
     ·have hrR:r=g:=by
       obtain h1|h1:=Nat.lt_or_ge r g
       exact absurd (HO.out.grow r h1) hgr;omega
      subst hrR;have hgi:decide (((jE h N r).length:Int)<((jE h N<|r+1).length:Int))=η:=by simpa using hgr
      gi_wp2_with fail
      refine oz S W2 (w.heap.size+2) B.out.E5 λW9 e1 e2 e3 e4 e5=>?_;have hkeys:=B.out.al.of_block (w':=W9) (e5 _ λe=>by have:=(B.out.E5.2 _ e).1;omega);rw[<-HH.out]at hkeys;exact⟨_,results_tmp rfl _ _ _,⟨w.heap.size+1,rfl,by omega,hkeys⟩,B.out.below.trans ⟨e2,e3,e4,by omega,λk hk=>e5 k λe=>by have:=(B.out.E5.2 _ e).1;omega⟩⟩
    ·obtain⟨hn0,hn1⟩:=HO.out.refs r hr k hkN n (by rw[hqk];exact Zp);obtain⟨i,rfl⟩:=Z3 hn0;have hi:i<h.cells.length:=by omega
     obtain⟨kd,vs,ec⟩:=cQ hi;have hmem:=Z1 ec;have hkind:=HO.out.kinds _ hmem;have hcp:=V<|HO.out.Wu _ hmem;have hfew:=HO.out.wW _ hmem;have afk:=HO.out.short r hr k hkN;rw[hqk]at afk;simp only[Zf]at afk;dsimp only at hkind hfew;have hkl:k<N:=by
      obtain h1|h1:=Nat.lt_or_ge k N
      exact h1;have:k=N:=by omega
      subst this;have:=HO.out.fin r hr;rw[hqk]at this;cases this
     have hst:=BS hqk;have hgd:cellP h (i:Int)=(kd,vs):=by simp[cellP,ZS,ec]
     rw[hgd]at hst;have y:=B.out;rw[hqk]at y;generalize hx0:dP h k (gD h<|jE h N r)=X at hst y;clear hx0 hqk hgd hmem;simp only[List.tail_cons]at y;obtain⟨W3,hup,hal3,hg3,hs3⟩:=ki (i:Int) y.al;have hI3:=y.alive hal3 hg3;obtain⟨c,r0,wi,d,c0,_,_,_,hcs,_⟩:=HG.out;obtain⟨ac,mc,rfl,_,_,hac⟩:=hcs;have hb:=az c0;obtain⟨bc0,oc,e,afl,hat⟩:=hac (by omega);subst e;have hbw3:=hI3.below;have e0:=cG hbw3 c0 hb;obtain⟨f1,xv,f2,hxv⟩:=(hat.below hbw3 afl) i kd vs ec;have hxw:eI w xv vs:=by
      obtain⟨_,xv',f2',anp⟩:=hat i kd vs ec;have:=(hbw3.cell (p:=⟨bc0,oc+i*2+1,I⟩) afl).symm.trans f2;rw[show(Y w (bc0,oc+i*2+1))=U xv' from f2']at this;cases this
      exact anp
     obtain⟨ax,mx,rfl,_,_,_⟩:=id hxv;have HXW:=V hxw;have HI3:=V hI3;have hi0:(0:Int)<=(i:Int):=by omega
     have hi1:(i:Int)<(h.cells.length:Int):=by omega
     rw[Ji,Jj];clear B y hal3 hg3 hI3 hac hat hxv hxw hn0 hn1 c0 ec;obtain⟨f,T,F,Q⟩:=ael vs (ml X.al (i:Int)) hkind;obtain⟨us,hus⟩:∃x,x=keeps (kd,vs) (ml X.al (i:Int)):=⟨_,rfl⟩;have hle:=Q.le;have hlow:=Q.low;have agu:=V Q.eT;rw[<-hus]at hst hle agu;have hmt:=λw=>Q.mt w<|.slice ax vs.length mx;have hent:=Q.ent
     gi_wp2_with fail
     clear hup;refine⟨trivial,?_⟩;refine(Z2.2<|Q.cellOf _ _ _ _).mono ?_;rintro e W4 ⟨rfl,hb4⟩
     gi_wp2_with fail
     refine⟨trivial,?_⟩;refine(Z2.2<|Q.keeps _ _ _ _ (HI3.out.al.below<|hb4.trans<|(af W4 _).mono hb4.size)<|(HXW.out.below HI3.out.below).below<|hb4.trans<|(af W4 _).mono hb4.size).mono ?_;rintro e W6 ⟨bt,bf,rfl,hbt,hbf,lbt,lbf,hb6⟩;rw[<-hus]at hbt;replace hus:=V hus
     gi_wp2_with fail
     have tU:=hb4.size;have aet:Z W3.heap.size W3 W6:=hb4.trans<|((af W4 _).trans<|hb6.mono<|by simp).mono tU;have hcI:W6.heap[W4.heap.size]?=U (Θ #[.iface T (.agg #[Ξ Δ kd,.slice ax vs.length mx])] 208 (0,0)):=(hb6.block _<|by simp).trans<|Z9 W4 _;obtain⟨bc,hbc⟩:∃bc,bc=W4.heap.size:=⟨_,rfl⟩;have hI6:=HI3.out.low aet;have Xe:=aet.size;simp only[Zm]at lbt lbf;have hq0:=(Ω.1 HI3.out.me).1;have Ww:=(Ω.1 hbt).1;have Wx:=(Ω.1 hbf).1;have Wy:=(Ω.1 hcI).1;have hn1:d6 s2≠U bt:=λe=>by have:=(HI3.out.qa.2.lt e).2.1;omega
     have hn2:d6 s2≠U bf:=λe=>by have:=(HI3.out.qa.2.lt e).2.1;omega
     have hDl:=V λD hD=>hI6.E5.lt (D:=D) hD;rw[<-hbc]at hcI Wy⊢;have anq:W3.heap.size<=bc:=by omega
     have anr:W3.heap.size<=bt:=by omega
     have ant:W3.heap.size<=bf:=by omega
     clear hbc aet hb4 hb6 lbt lbf tU;refine Y' rfl (by omega) (gf:=321) (lb:=#[ω (U ⟨bt,0,I⟩),ω<|U ⟨bf,0,I⟩]) rfl trivial (enters_of (fU func321 rfl) (by kernel_rfl) rfl)
      (PZ 8 (by omega) bt bf us.length f W6 hbt hbf (by omega)<|by omega) tR.trans (tR.book Ww Wx) (ψ _ _) (λ_=>rfl)
      (λv W=>(∃s,AQ w W u (ml X.al (i:Int)) s (dJ (v.map λx=>us.getD x.val (0,0)) (q,X.met)).1 (dJ (v.map λx=>us.getD x.val (0,0)) (q,X.met)).2 S/\d6 s≠U bt/\d6 s≠U bf)/\
        W.heap[bc]?=U (Θ #[.iface T (.agg #[Ξ Δ kd,.slice ax vs.length mx])] 208 (0,0))/\(∃x,W.heap[bt]?=U (.cells x 3 (0,0)))/\(∃x,W.heap[bf]?=U (.cells x 3 (0,0)))) (λ_ _ _=>False)
      (λs A C row hs' J hr=>by
        obtain⟨⟨P,h,h1,h2⟩,h3,⟨x4,h4⟩,⟨x5,h5⟩⟩:=hs';have key:∀{k:Nat} {x:Array θ} {t:ZR} {fr:Nat×Nat},A.heap[k]?=U (.cells x t fr) ->C.heap[k]?=U (.cells x t fr):=λ{k x t fr} hk=>(J.block k (Ω.1 hk).1 λe=>by
         obtain⟨_,o,ho,hc'⟩:=hr _ e.symm;rw[hk]at ho;cases ho
         cases hc').trans hk
        exact⟨⟨P,h.grown (by omega) hDl.out J hr,h1,h2⟩,key h3,⟨x4,key h4⟩,⟨x5,key h5⟩⟩) (λ_ _ _ _ _ h _ _=>h) ⟨⟨s2,hI6,hn1,hn2⟩,hcI,⟨_,hbt⟩,⟨_,hbf⟩⟩
      (λx a' W=>∃(u10 u15 u16 u23 u24 u25 u26 u27 u28 u29 u30 u31 u32 u33 u34 u35 u36 u37 u38 u39 u40 u41 u42 u43 u44 u45 u46 u47 u48 u49 u50 u51 u52 u53 u54 u55 u56 u57 u58 u59 u60 u61 u62 u63 u64 u65 u66 u67 u68:θ),a'={tmps:=#[ω (U ⟨b,0,I⟩),Ξ Δ<|-1,undef,ω<|U ⟨w.heap.size,0,I⟩,.map I,.map<|U<|w.heap.size+1,Ξ Δ ((jE h N r).length:Int),.pointer u,.pointer (u+1+1:Nat),.pointer (u+1+1+1:Nat),u10,Ξ Δ (i:Int),.bool ZM,.pointer (bc:Nat),inV f x,u15,u16,.map<|U<|w.heap.size+1,Ξ Δ ((jE h N r).length:Int),.map<|U<|u+1,.func (.func 257) #[] #[.pointer (u+1+1:Nat),.pointer w.heap.size,.pointer u],.pointer b,.func (.func 276) #[] #[.pointer (u+1+1+1+1:Nat)],u23,u24,u25,u26,u27,u28,u29,u30,u31,u32,u33,u34,u35,u36,u37,u38,u39,u40,u41,u42,u43,u44,u45,u46,u47,u48,u49,u50,u51,u52,u53,u54,u55,u56,u57,u58,u59,u60,u61,u62,u63,u64,u65,u66,u67,u68],defers:=[]})
      (λx a' s A C row hs' J hr=>hs') ?assign2 ?body2 ?done2 ?stop2
     case assign2=>
      rintro l v x L K G hK
      gi_wp2
      exact hK _ _ ((KeepsOthers.refl _).from _) (tR.refl _ _ _) G ⟨_,_,_,_,_,_,_,_,_,_,_,_,_,_,_,_,_,_,_,_,_,_,_,_,_,_,_,_,_,_,_,_,_,_,_,_,_,_,_,_,_,_,_,_,_,_,_,_,_,rfl⟩
     case body2=>
      rintro l v x a' L hl ⟨rr,hrr⟩ ⟨⟨P,G,hs1,hs2⟩,hcW,⟨x4,h4⟩,⟨x5,h5⟩⟩ ⟨u10,u15,u16,u23,u24,u25,u26,u27,u28,u29,u30,u31,u32,u33,u34,u35,u36,u37,u38,u39,u40,u41,u42,u43,u44,u45,u46,u47,u48,u49,u50,u51,u52,u53,u54,u55,u56,u57,u58,u59,u60,u61,u62,u63,u64,u65,u66,u67,u68,rfl⟩ hlt;have cI:L.cell? ⟨bc,0,I⟩=U (.iface T<|.agg #[Ξ Δ kd,.slice ax vs.length mx]):=by simp[Y,hcW]
      have B:=V G;have HC:=V<|R hcW<|R h4 h5;have HS:=V<|R hs1 hs2;obtain⟨xv,Wz⟩:=x;obtain⟨hv1,hval⟩:=agu.out (by omega);obtain⟨hv2,hv3⟩:=hv1 xv Wz;clear hrr G hcW h4 h5 hs1 hs2 hv1;unfold inV;dsimp only;obtain⟨j,hj⟩:∃j:Nat,j=f+xv:=⟨_,rfl⟩;rw[show((f:Int)+(xv:Int))=(j:Int) by omega];rw[<-hj]at hv2 hv3;have HJ:=V hv3;clear hv3 hj
      gi_wp2_with fail
      refine⟨trivial,?_⟩;refine(ZB l<|Z2.2<|hval L ax vs.length mx).mono ?_;rintro e W7 ⟨rfl,hb7⟩;have hI7:=B.out.low hb7;obtain⟨a9,m9,e9,_,_,hh9⟩:=HXW.out.below hI7.below;cases e9
      obtain⟨ba2,oa2,e,afb,afq⟩:=hh9 (by omega);cases e
      obtain⟨p,nn,e1⟩:=ep hv2;obtain⟨g1,g2⟩:=afq j p nn e1;have hx0:(0:Int)<=(j:Int):=by omega
      have hx1:(j:Int)<(vs.length:Int):=by omega
      have hgd:us.getD xv (0,0)=(p,nn):=by rw[ZS,HJ.out,e1];rfl
      have hmv:=zX (v.map λx:Fin us.length=>us.getD x.val (0,0)) (p,nn) (q,X.met);have hpm:((v++[(⟨xv,Wz⟩:Fin us.length)]).map λx:Fin us.length=>us.getD x.val (0,0))=(v.map λx:Fin us.length=>us.getD x.val (0,0))++[(p,nn)]:=by
       rw[ZU]
       congr 1
       simp only[Y9,Y7];rw[hgd]
      have hml:=pt (refsOf (v.map λx:Fin us.length=>us.getD x.val (0,0))) (q,X.met);have hrl:=BT (v.map λx:Fin us.length=>us.getD x.val (0,0));rw[ZY]at hrl;dsimp only at hml;have afr:(dJ (v.map λx:Fin us.length=>us.getD x.val (0,0)) (q,X.met)).1.length<=1000000:=by show(qv _ _).1.length<=_;omega
      have KV:=V hI7;have HML:=V afr;have HPM:=V hpm;have HE:=V e1;clear hI7 hh9 afq hgd hml hrl afr hpm e1;have cf:W7 (u+1+1+1:Nat)=U (.func (.func 257) #[] #[.pointer (u+1+1:Nat),.pointer w.heap.size,.pointer u]):=by simp[Y,KV.out.me]
      have Dv:=af W7<|Θ #[Ξ Δ p,Ξ Δ nn] 50;have E:=hb7.trans<|Dv.mono hb7.size;have cf9:=cG Dv cf<|az cf;obtain⟨k3,k4,k5⟩:=HC.out;have l3:=(Ω.1 k3).1;have l4:=(Ω.1 k4).1;have l5:=(Ω.1 k5).1;by_cases hp1:p=1
      ·subst hp1;obtain⟨nm,rfl⟩:=Z3<|hcp.out _ (Z1 HE.out) rfl;rw[if_pos rfl]at hmv;have HMV:=V hmv;clear hmv
       gi_wp2_with fail
       refine⟨trivial,?_⟩;have H:=KV.out.low Dv;refine(ZB l<|Z2.2<|DC _ u w u (u+1) (u+1+1) P _ _ (nm:Int) H.qa H.mt (by simp[Y,H.mc]) (by simp[Y,H.c3]) (by omega) (by have:=(Ω.1 H.qa.1).1;omega) HML.out).mono ?_;rintro e W10 ⟨rfl,so3,O,Fw,ht3⟩
       gi_wp2_with fail
       have hmx:iG ((dJ (v.map λx:Fin us.length=>us.getD x.val (0,0)) (q,X.met)).1,(dJ (v.map λx:Fin us.length=>us.getD x.val (0,0)) (q,X.met)).2) (nm:Int)=dJ ((v++[(⟨xv,Wz⟩:Fin us.length)]).map λx:Fin us.length=>us.getD x.val (0,0)) (q,X.met):=by rw[HPM.out,HMV.out]
       rw[hmx]at O Fw;obtain⟨s1,s2'⟩:=HS.out;have sz9:=E.size;have htt:=(Kf.bK (bq:=u) (bm:=u+1) (s:=P) E).trans ht3;have kp4:=htt.block bt l4 (by omega) (by omega) s1;have kp5:=htt.block bf l5 (by omega) (by omega) s2';refine⟨B.out.keeps htt<|by omega,⟨kp4,kp5⟩,⟨so3,H.to O Fw ht3,λe=>?_,λe=>?_⟩,B.out.keep htt k3 (by omega) (by omega) (λ_ cur fr e=>by cases e),⟨_,kp4.trans k4⟩,⟨_,kp5.trans k5⟩⟩;obtain e|e:=htt.own _ e
       ·exact s1 e
       omega;obtain e|e:=htt.own _ e
       ·exact s2' e
       omega
      ·have hp1':(p==1)=η:=by simp[hp1]
       rw[if_neg hp1,<-HPM.out]at hmv;have HMV:=V hmv;clear hmv
       gi_wp2_with fail
       have H:=KV.out.low Dv;rw[<-HMV.out]at H;refine⟨B.out.keeps (Kf.bK (bq:=u) (bm:=u+1) (s:=P) E)<|by omega,tR.bK E l4 l5,⟨P,H,HS.out.1,HS.out.2⟩,(E.block _ l3).trans k3,⟨_,(E.block _ l4).trans k4⟩,⟨_,(E.block _ l5).trans k5⟩⟩
     case done2=>
      rintro D2 xs L hD2 hxs ⟨⟨P,G,_,_⟩,_,_,_⟩ hK;have hvs:(xs.map λx=>us.getD x.val (0,0))=us:=by
       have:=congrArg (List.map λj=>us.getD j (0,0)) hxs;rw[Z0]at this;refine Eq.trans this ?_;refine Z7 λj=>?_;by_cases hj:j<us.length
       rw[ZE,List.getElem?_range hj];simp[ZS,ο hj];rw[Zt (by simp;omega),Zt<|by omega]
      rw[hvs]at G;have z:=V<|G.mark hK (λe=>by have:=hDl.out D2 e;omega) (by have:=G.lo;omega);have XG:=HO.out.short r hr (k+1) hkl;rw[hst]at XG;dsimp only at XG;clear G hK hvs hxs
      gi_wp2_with (refine⟨trivial,?_⟩;gi_at_call 260;refine(Z2.2<|BV L u u u P _ z.out.qa<|by omega).mono ?_;rintro e W8 ⟨rfl,so8,hq8,V9⟩)
      have hI8:=z.out.to hq8 (z.out.mt.of_block (V9.block _ z.out.mt.lt (by omega) (by omega) (λe=>by obtain⟨_,_,cur,hc⟩:=z.out.qa.2.lt e;obtain⟨es,clk,hb,_⟩:=z.out.mt;rw[hc]at hb;cases hb))) V9.ye
      refine⟨hkl,?_⟩;rw[hst];exact⟨D2::S,so8,_,_,_,_,_,_,_,_,_,_,_,_,_,_,_,_,_,_,_,_,_,_,_,_,_,_,_,_,_,_,_,_,_,_,_,_,_,_,_,_,_,_,_,_,_,_,_,_,_,_,_,rfl,hI8⟩
     case stop2=>rintro D2 c2 v L _ _ hx _;exact hx.elim
  case stop=>rintro D c v L _ _ hx _;exact hx.elim
end
end Kn
namespace Kn
open Go Go.RowKit Md
section
def DD(w b h)(k:qw w b h)(c:Fit h):
 ZV prog 179 #[.pointer b] w λe w'=>(∃m,e=.returned (.map<|U m)/\w.heap.size<=m/\bk w' m (alive h))/\Z w w w':=by
 obtain⟨a,f,g⟩:=afm c;rw[<-g];have d:=V k
 go_enter (fU func179 rfl),ntmps179
 go_wp2_with fail
 refine(BW _ b h _ a d.out f).mono ?_;rintro e w' ⟨⟨m,rfl,j,i⟩,h3⟩
 go_wp2_with fail
 go_ret;exact⟨⟨m,rfl,j,i⟩,h3⟩
def dQ(w:Z8)(B b:Nat)(c vw vd:θ)(cs:List HC)(roots:List HV)(wi d:List Int):Prop:=∃r l,B<=b/\w.heap[b]?=U (Θ #[c,r,vw,vd] 159 (0,0))/\OI w B vw wi/\OI w B vd d/\
 OC w B c l/\df w B l cs/\OV w B r roots/\∀(i:Nat) p,l[i]?=U p->∀g,p.2.ownBlock=U g->r.ownBlock≠U g
section
variable{w w':Z8}{B b:Nat}{c vw vd:θ}{cs:List HC}{roots:List HV}{wi d:List Int}
def NH.named(h:NH w B b cs roots wi d):∃c a e,dQ w B b c a e cs roots wi d/\∀g,e.ownBlock=U g->a.ownBlock≠U g:=by obtain⟨c,r,a,e,l,m,hb,j,i,h3,h4,h5,f,k⟩:=h;exact⟨c,a,e,⟨r,l,m,hb,j,i,h3,h4,h5,f⟩,k⟩
def dQ.reads(h:dQ w B b c vw vd cs roots wi d):qw w b ⟨cs,roots,wi,d⟩:=by obtain⟨r,l,f,hb,a,e,h3,h4,h5,_⟩:=h;exact⟨c,r,vw,vd,by simp[Y,hb],by simp[Y,hb],by simp[Y,hb],by simp[Y,hb],h3.reads h4.hold,h5.reads,a.reads,e.reads⟩
def dQ.blocks(h:dQ w B b c vw vd cs roots wi d)(q:∀(k:Nat) x t fr,w.heap[k]?=U (.cells x t fr) ->t≠3->w'.heap[k]?=w.heap[k]?)(o:OI w' B vw wi)(m:OI w' B vd d):dQ w' B b c vw vd cs roots wi d:=by
 obtain⟨r,l,F,hb,H,G,h3,h4,h5,D⟩:=h;have a:∀{e:ZR} {z n:Nat} {y:θ} {xs:List θ},e≠3->w.ownsRow B e z y n xs->w'.ownsRow B e z y n xs:=λE v=>aS v λg f=>by
  obtain⟨j,_⟩|⟨J,A,C,j,_,p,_⟩:=v.2
  rw[j]at f;cases f;rw[j]at f;cases f;exact q _ _ _ _ p E
 exact⟨r,l,F,(q b _ _ _ hb<|by decide).trans hb,o,m,a (by decide) h3,⟨h4.1,λi k x u s e1 e2=>⟨(h4.2.1 i k x u s e1 e2).1,a (by decide) (h4.2.1 i k x u s e1 e2).2⟩,h4.2.2⟩,a (by decide) h5,D⟩
def dQ.below(h:dQ w B b c vw vd cs roots wi d)(a:Z w w w'):dQ w' B b c vw vd cs roots wi d:=by obtain⟨r,l,i,hb,g,f,h3,h4,h5,e⟩:=h;exact⟨r,l,i,(a.block b (Ω.1 hb).1).trans hb,g.below a,f.below a,h3.below a,h4.below a,h5.below a,e⟩
def Kc{s a}(h:OI w B s a)(b:∀g,s.ownBlock=U g->w'.heap[g]?=w.heap[g]?):OI w' B s a:=aS h b
def OI.wq{s f}(h:OI w B s f){g}(b:s.ownBlock=U g):B<=g/\g<w/\∃a,w.heap[g]?=U (.cells a 3 (0,0)):=by
 refine⟨(h.lt g b).1,(h.lt g b).2,?_⟩;obtain⟨c,_⟩|⟨i,e,a,c,_,d,_⟩:=h.2
 rw[c]at b;cases b;rw[c]at b;cases b;exact⟨a,d⟩
def dQ.apart(h:dQ w B b c vw vd cs roots wi d){s v u}(hs:OI w u s v)(j:w.grownBy w' s.ownBlock)(n:∀g,s.ownBlock=U g->vw.ownBlock≠U g/\vd.ownBlock≠U g):dQ w' B b c vw vd cs roots wi d:=by
 refine h.blocks (λk x t fr m q=>j.block k (Ω.1 m).1 λe=>?_) ?_ ?_;obtain⟨_,_,o,hc⟩:=hs.wq e.symm;rw[m]at hc;cases hc
 exact q rfl;obtain⟨r,l,p,hb,i,f,_⟩:=h;exact Kc i λg a=>j.block g (i.lt g a).2 λe=>(n g e.symm).1 a;obtain⟨r,l,p,hb,i,f,_⟩:=h;exact Kc f λg a=>j.block g (f.lt g a).2 λe=>(n g e.symm).2 a
def dQ.afH(h:dQ w B b c vw vd cs roots wi d){m H}(a:w.grownBy w' vd.ownBlock)(Q:∀g,vd.ownBlock=U g->vw.ownBlock≠U g)(N:OI w' B m H):dQ (w'.setCell (b,3) m) B b c vw m cs roots wi H:=by
 obtain⟨r,l,S,hb,E,J,h3,h4,h5,O⟩:=h;have q:∀(k:Nat) (x:Array θ) (t:ZR) (fr:Nat×Nat),w.heap[k]?=U (.cells x t fr) ->t≠3->w'.heap[k]?=w.heap[k]?:=λk x t fr C K=>a.block k (Ω.1 C).1 λe=>by
  obtain⟨_,_,p,hc⟩:=J.wq e.symm;rw[C]at hc;cases hc
  exact K rfl
 have u:=(q b _ _ _ hb<|by decide).trans hb;have f:∀{e:ZR} {z n:Nat} {y:θ} {xs:List θ},e≠3->e≠159->w.ownsRow B e z y n xs->(w'.setCell (b,3) m).ownsRow B e z y n xs:=λP A G=>aS G λg a=>by
  obtain⟨v,_⟩|⟨T,L,p,v,_,j,_⟩:=G.2
  rw[v]at a;cases a;rw[v]at a;cases a;rw[aa λe=>by subst e;rw[hb]at j;cases j;exact A rfl];exact q _ _ _ _ j P
 have zQ:∀{s:θ} {ls:List Int},OI w' B s ls->OI (w'.setCell (b,3) m) B s ls:=λhs=>Kc hs λg a=>aa λe=>by obtain⟨_,_,p,hc⟩:=hs.wq a;subst e;rw[u]at hc;cases hc
 refine⟨r,l,S,?_,zQ<|Kc E λg o=>a.block g (E.lt g o).2 λe=>Q g e.symm o,zQ N,f (by decide) (by decide) h3,⟨h4.1,λi k x F D e1 e2=>⟨(h4.2.1 i k x F D e1 e2).1,f (by decide) (by decide) (h4.2.1 i k x F D e1 e2).2⟩,h4.2.2⟩,f (by decide) (by decide) h5,O⟩;rw[aB u];rfl
def dQ.Jl(h:dQ w B b c vw vd cs roots wi d){f j}(E:OI w B f j):dQ (w.setCell (b,2) f) B b c f vd cs roots j d/\Z B w (w.setCell (b,2) f):=by
 obtain⟨r,l,v,hb,G,A,h3,h4,h5,F⟩:=h;have a:∀{e:ZR} {z n:Nat} {y:θ} {xs:List θ},e≠159->w.ownsRow B e z y n xs->(w.setCell (b,2) f).ownsRow B e z y n xs:=λq u=>aS u λg o=>aa λe=>by
  obtain⟨p,_⟩|⟨H,C,D,p,_,m,_⟩:=u.2
  rw[p]at o;cases o;rw[p]at o;cases o;subst e;rw[hb]at m;cases m;exact q rfl
 refine⟨⟨r,l,v,?_,a (by decide) E,a (by decide) A,a (by decide) h3,⟨h4.1,λi k x t s e1 e2=>⟨(h4.2.1 i k x t s e1 e2).1,a (by decide) (h4.2.1 i k x t s e1 e2).2⟩,h4.2.2⟩,a (by decide) h5,F⟩,(ψ B w).setCell v _⟩;rw[aB hb];rfl
def dQ.cells(h:dQ w B b c vw vd cs roots wi d):B<=b/\b<w/\w b=U c/\(w (b,2)=U vw/\w (b,3)=U vd)/\(∀i,w.frozen? ⟨b,i,I⟩=η)/\∃a m,c=.slice a cs.length m/\cs.length<=m:=by obtain⟨r,l,g,hb,n,k,h3,h4,h5,j⟩:=h;obtain⟨a,m,e,f,_⟩:=aF h3;exact⟨g,(Ω.1 hb).1,by simp[Y,hb],by simp[Y,hb],λi=>by simp[ξ,hb],a,m,by rw[e,h4.1],by rw[<-h4.1];exact f⟩
theorem Kw(x:Int×θ):∀(l:List (Int×θ)) (k:Nat),k<l.length->(l.set k x).flatMap dW=((l.flatMap dW).set (k*2)<|Ξ Δ x.1).set (k*2+1) x.2
 |[],k,h=>by simp at h
 |a::l,0,h=>by simp[dW]
 |a::l,k+1,h=>by have:=Kw x l k (by grind);rw[List.set_cons_succ,List.flatMap_cons,this,show(k+1)*2=k*2+1+1 by omega];simp[dW]
def OC.anz{w}{B g n m k:Nat}{l x}(h:OC w B (.slice g n m) l)(b:k<l.length):
 OC ((w.setCell (g,k*2)<|Ξ Δ x.1).setCell (g,k*2+1) x.2) B (.slice g n m) (l.set k x):=by
 obtain⟨e,⟨h0,_⟩|⟨q,f,a,d,i,o,p,c,hs,j⟩⟩:=h;cases h0
 cases d
 refine⟨by rw[Kw x l k b];simpa using e,.inr ⟨g,m,(a.setIfInBounds (k*2)<|Ξ Δ x.1).setIfInBounds (k*2+1) x.2,by simp,i,?_,by simpa using p,c,by simpa using hs,?_⟩⟩;simp[World.setCell,Array.getElem?_modify,o];rw[Kw x l k b,<-j];simp only[Array.toList_setIfInBounds,Zc,List.take_set]
def eX{w:Z8}{g i j:Nat}{u v k}(h:k≠g):((w.setCell (g,i) u).setCell (g,j) v).heap[k]?=w.heap[k]?:=by rw[Zq _ _ _ _ h,Zq _ _ _ _ h]
def uZ{w}{B g i j:Nat}{u v}(h:B<=g):Z B w ((w.setCell (g,i) u).setCell (g,j) v):=((ψ B w).setCell h u).setCell h v
def dQ.at_(h:dQ w B b c vw vd cs roots wi d){i:Nat}{k vs}(hi:cs[i]?=U (k,vs)):∃n m x,c=.slice (n:Nat) cs.length m/\cs.length<=m/\B<=n/\w ((n:Nat),i*2)=U (Ξ Δ k)/\w ((n:Nat),i*2+1)=U x/\(∀j,w.frozen? ⟨n,j,I⟩=η)/\eI w x vs:=by
 obtain⟨r,l,H,hb,G,F,h3,h4,h5,D⟩:=h;have q:i<l.length:=by rw[h4.1];exact(μ.1 hi).1
 obtain⟨⟨C,x⟩,e⟩:∃p,l[i]?=U p:=⟨_,ο q⟩;obtain⟨rfl,s⟩:=h4.2.1 i C x k vs e hi;obtain⟨a,m,t,v,_,_⟩:=aF h3;obtain⟨g,z,f,o,_⟩:=h3.form (by omega);rw[t]at f;injection f with e1 e2 e3
 subst e1;subst t;obtain⟨A,y,E⟩:=OC.at_ h3 e;refine⟨g,m,x,by rw[h4.1],by rw[<-h4.1];exact v,o,A,y,λj=>?_,s.reads⟩;obtain⟨_,_,u,hc,_⟩:=OC.block h3;simp[ξ,hc]
def dQ.BB(h:dQ w B b c vw vd cs roots wi d){i j:Nat}{k vs}(hi:cs[i]?=U (k,vs))(hj:j<vs.length)(v):∃E m g m2,c=.slice (E:Nat) cs.length m/\w ((E:Nat),i*2+1)=U (.slice (g:Nat) vs.length m2)/\vs.length<=m2/\
 (∃u,w ((g:Nat),j*2)=U u)/\(∃u,w ((g:Nat),j*2+1)=U u)/\(∀n,w.frozen? ⟨g,n,I⟩=η)/\
 dQ ((w.setCell ((g:Nat),j*2)<|Ξ Δ v.1).setCell ((g:Nat),j*2+1)<|Ξ Δ v.2) B b c vw vd (cs.set i (k,vs.set j v)) roots wi d/\Z B w ((w.setCell ((g:Nat),j*2)<|Ξ Δ v.1).setCell ((g:Nat),j*2+1)<|Ξ Δ v.2):=by
 obtain⟨E,m,x,ec,_,_,_,Q,_,_⟩:=h.at_ hi;obtain⟨r,l,hB,hb,h1,S,h3,h4,h5,h6⟩:=h;have D:=(μ.1 hi).1;have P:i<l.length:=by rw[h4.1];exact D
 obtain⟨⟨k',x'⟩,e⟩:∃p,l[i]?=U p:=⟨_,ο P⟩;obtain⟨rfl,f⟩:=h4.2.1 i k' x' k vs e hi;subst ec;have hx:x'=x:=by have hn:=(Dz h3).1;obtain⟨_,A,_⟩:=OC.at_ h3 e;rw[Q]at A;exact(ZP A).symm
 subst hx;obtain⟨g,m2,rfl,L,hgl⟩:=f.form (by omega);obtain⟨_,m2',e2,O,_,_⟩:=aF f;cases e2
 obtain⟨p,q,ej⟩:=ep hj;obtain⟨f1,f2,f3,_,_⟩:=OV.at_ f ej;obtain⟨T,K⟩:∃s,w.heap[g]?=U (.cells s 50 (0,0)):=by
  obtain⟨G,_⟩|⟨g',cap,s,G,_,a,_⟩:=f.2
  cases G
  cases G
  exact⟨s,a⟩
 have o:∀{X:Nat} {cs0:Array θ} {t:ZR} {fr:Nat×Nat},w.heap[X]?=U (.cells cs0 t fr) ->t≠50->X≠g:=λW ht e=>by
  subst e;rw[K]at W;cases W
  exact ht rfl
 refine⟨E,m,g,m2,rfl,Q,O,⟨_,f1⟩,⟨_,f2⟩,f3,⟨r,l,hB,(eX<|o hb<|by decide).trans hb,aS h1 λg0 a=>eX (by obtain⟨_,_,_,y⟩:=h1.wq a;exact o y<|by decide),aS S λg0 a=>eX (by obtain⟨_,_,_,y⟩:=S.wq a;exact o y<|by decide),?_,⟨by simpa using h4.1,λF k1 x1 k2 J e1 e2=>?_,h4.2.2⟩,?_,h6⟩,uZ L⟩;obtain⟨_,_,s,hc,_⟩:=OC.block h3;exact aS h3 λg0 a=>eX (by cases a;exact o hc<|by decide);by_cases z:F=i
 ·subst z;rw[e]at e1;rw[φ D]at e2;cases e1
  cases e2
  exact⟨rfl,OV.set (x:=v) f hj⟩
 rw[ι (Zz z)]at e2;obtain⟨q1,q2⟩:=h4.2.1 F k1 x1 k2 J e1 e2;refine⟨q1,aS q2 λg0 a=>eX λN=>?_⟩;subst N;obtain H|C:=Nat.lt_or_gt_of_ne z
 exact h4.2.2 F i _ _ H e1 e _ a rfl;exact h4.2.2 i F _ _ C e e1 _ rfl a;refine aS h5 λg0 a=>eX λN=>?_;subst N;exact h6 i _ e _ rfl a
def dQ.free(h:dQ w B b c vw vd cs roots wi d){i}(hi:i<cs.length):∃f m,c=.slice (f:Nat) cs.length m/\cs.length<=m/\(∃u,w ((f:Nat),i*2)=U u)/\(∃u,w ((f:Nat),i*2+1)=U u)/\(∀n,w.frozen? ⟨f,n,I⟩=η)/\
 dQ ((w.setCell ((f:Nat),i*2)<|Ξ Δ 3).setCell ((f:Nat),i*2+1)<|ZQ I 0 0) B b c vw vd (cs.set i (3,[])) roots wi d/\Z B w ((w.setCell ((f:Nat),i*2)<|Ξ Δ 3).setCell ((f:Nat),i*2+1)<|ZQ I 0 0):=by
 obtain⟨k,vs,ei⟩:=cQ hi;obtain⟨f,m,x,T,hm,C,X,P,Q,_⟩:=h.at_ ei;obtain⟨r,l,hB,hb,K,F,h3,h4,h5,h6⟩:=h;have j:i<l.length:=by rw[h4.1];exact hi
 subst T;obtain⟨_,_,cur,hc,_⟩:=OC.block h3;have o:∀{J:Nat} {cs0:Array θ} {t:ZR} {fr:Nat×Nat},w.heap[J]?=U (.cells cs0 t fr) ->t≠76->J≠f:=λH W e=>by
  subst e;rw[hc]at H;cases H
  exact W rfl
 refine⟨f,m,rfl,hm,⟨_,X⟩,⟨_,P⟩,Q,⟨r,l.set i (3,ZQ I 0 0),hB,(eX<|o hb<|by decide).trans hb,aS K λg0 a=>eX (by obtain⟨_,_,_,p⟩:=K.wq a;exact o p<|by decide),aS F λg0 a=>eX (by obtain⟨_,_,_,p⟩:=F.wq a;exact o p<|by decide),?_,⟨by simpa using h4.1,λL O x1 k2 A e1 e2=>?_,λy G E S z e1 e2 g0 a q=>?_⟩,?_,λy E e1 g0 a hr=>?_⟩,uZ C⟩;simpa using (OC.anz (x:=(3,ZQ I 0 0)) h3 j);by_cases v:L=i
 ·subst v;rw[φ j]at e1;rw[φ hi]at e2;cases e1
  cases e2
  exact⟨rfl,OV.nil _ _⟩
 rw[ι (Zz v)]at e1 e2;obtain⟨q1,N⟩:=h4.2.1 L O x1 k2 A e1 e2;refine⟨q1,aS N λg0 a=>eX λD=>?_⟩;subst D;exact cF N hc (by decide) a;by_cases g:y=i
 ·subst g;rw[φ j]at e1;cases e1
  cases a
 by_cases s:G=i
 ·subst s;rw[φ j]at e2;cases e2
  cases q
 rw[ι (Zz g)]at e1;rw[ι (Zz s)]at e2;exact h4.2.2 y G E S z e1 e2 g0 a q;refine aS h5 λg0 a=>eX λD=>?_;subst D;exact cF h5 hc (by decide) a;by_cases g:y=i
 ·subst g;rw[φ j]at e1;cases e1
  cases a
 rw[ι (Zz g)]at e1;exact h6 y E e1 g0 a hr
end
end
section
def qz{w ops rest o a Q}(c:o.guard=I)(m x)(f:o.op=.call {callee:=.builtin .delete,args:=#[m,x],argTypes:=#[205,3]})(b l n)(d:a.eval m=.map (U b))(p:a.eval x=Ξ Δ n)(e:bk w b l)(h:∀w',bk w' b (l.erase n) ->w.grownBy w' (U b) ->w'.heap.size=w->Zl prog ops Q rest (a.put o.dst<|.tuple #[]) w'):Zl prog ops Q (o::rest) a w:=by refine wpList_plain c λK j=>?_;obtain⟨w',i,k,g,h3⟩:=wE o.type n e;unfold Oper.wp execOp;simp only[f,resolve,invoke,builtin,ZZ,Sem.run_pure,Result.andThen_ok,List.map_toArray,Y9,Y7,d,p,i];exact j _ _<|h w' k g h3
def tS(a:List Int)(c:HC):HC:=if zm c a then(c.1,c.2.map λ_=>(2,0))else c
def DE(a:List Int)(cs:List HC)(k:Nat):List HC:=(cs.take k).map (tS a)++cs.drop k
def wI(a cs k):(DE a cs k).length=cs.length:=by unfold DE;simp;omega
def Jm{a cs k}(h:k<cs.length):(DE a cs k)[k]?=cs[k]?:=by
 unfold DE
 grind
def zZ{a cs k c}(h:cs[k]?=U c):DE a cs (k+1)=(DE a cs k).set k (tS a c):=by
 have b:=(μ.1 h).1;have hd:cs.drop k=c::cs.drop (k+1):=by
  rw[List.drop_eq_getElem_cons b]
  congr 1
  exact(μ.1 h).2
 unfold DE;rw[bW h,hd,ZU,List.set_append_right _ _ (by simp;omega)];have:k-((cs.take k).map<|tS a).length=0:=by simp;omega
 rw[this];simp
def Aa{a cs k c}(h:cs[k]?=U c)(hc:tS a c=c):DE a cs (k+1)=DE a cs k:=by rw[zZ h];have b:=(μ.1 h).1;have:=Jm (a:=a) b;exact Z7 λi=>by grind
def Oy(a cs):DE a cs cs.length=cs.map (tS a):=by unfold DE;simp
def freed(cs:List HC)(D left:List Int):List HC:=cs.zipIdx.map λx=>if D.contains (x.2:Int)&&!left.contains (x.2:Int)then(3,[])else x.1
def PB(cs D a):(freed cs D a).length=cs.length:=by simp[freed]
def lC(cs D a)(i:Nat):(freed cs D a)[i]?=(cs[i]?).map λc=>if D.contains (i:Int)&&!a.contains (i:Int)then(3,[])else c:=by
 unfold freed
 grind
def Ab(cs D):freed cs D D=cs:=Z7 λi=>by rw[lC];simp
def BX{cs D A B}{n:Nat}(c:n<cs.length)(d:(n:Int)∈D)(a:(A++(n:Int)::B).Nodup):freed cs D (A++B)=(freed cs D (A++(n:Int)::B)).set n (3,[]):=Z7 λi=>by
 have b:(n:Int)∉A++B:=by
  intro h;rw[Zk]at a;obtain h|h:=Γ.1 h
  exact a.2.2 _ h _ Zp rfl;exact(List.nodup_cons.1 a.2.1).1 h
 by_cases hi:i=n
 subst hi;rw[φ (by rw[PB];exact c),lC,ο c];simp only[Option.map_some,(by simpa using d:D.contains (i:Int)=ZM),(by simpa using b:(A++B).contains (i:Int)=η)];rfl;rw[ι (Zz hi),lC,lC]
 grind
def oA(w:Z8)(r m:Nat):Nat:=
 match w.heap[r]?,w.heap[m]? with
 |some (.mapIter _ _ seen _),U (.map es _)=>(leftOf es seen).size
 |_,_=>0
theorem eD.oA{w:Z8}{r b:Nat}{l a:List Int}(h:eD w r b l a):oA w r b=a.length:=by obtain⟨j,f,c,seen,c0,g,i,h3,h4,h5,d,e⟩:=h;unfold Kn.oA;rw[h3,g];have:=congrArg List.length e;simpa using this
section
variable{w w':Z8}{B b:Nat}{c vw vd:θ}{cs:List HC}{roots:List HV}{wi d:List Int}
def dQ.grown(h:dQ w B b c vw vd cs roots wi d){row}(C:w.grownBy w' row)(F:∀r,row=U r->w.heap.size<=r\/∃o,w.heap[r]?=U o/\o.isCells=η):dQ w' B b c vw vd cs roots wi d:=by
 have j:∀{k:Nat} {x:Array θ} {t:ZR} {fr:Nat×Nat},w.heap[k]?=U (.cells x t fr) ->w'.heap[k]?=w.heap[k]?:=λs=>C.block _ (Ω.1 s).1 λe=>by
  obtain y|⟨o,m,hc⟩:=F _ e.symm
  grind
  rw[s]at m;cases m
  cases hc
 have a:∀{e:ZR} {size n:Nat} {v:θ} {xs:List θ},w.ownsRow B e size v n xs->w'.ownsRow B e size v n xs:=λm=>aS m λg f=>by
  obtain⟨p,_⟩|⟨J,D,E,p,_,q,_⟩:=m.2
  rw[p]at f;cases f
  rw[p]at f;cases f
  exact j q
 obtain⟨r,l,H,hb,y,A,h3,h4,h5,G⟩:=h;exact⟨r,l,H,(j hb).trans hb,a y,a A,a h3,⟨h4.1,λi k x z u e1 e2=>⟨(h4.2.1 i k x z u e1 e2).1,a (h4.2.1 i k x z u e1 e2).2⟩,h4.2.2⟩,a h5,G⟩
def bk.Ac{m l}(h:bk w m l):∃o,w.heap[m]?=U o/\o.isCells=η:=by obtain⟨b,a,hb,_⟩:=h;exact⟨_,hb,rfl⟩
def bk.BY{m l}(h:bk w m l){g i:Nat}{u}(hc:w (g,i)=U u):m≠g:=λe=>by obtain⟨b,a,hb,_⟩:=h;subst e;simp[Y,hb]at hc
def bk.two{m l}(h:bk w m l){g i j n:Nat}{u v x}(hc:w (g,n)=U x):bk ((w.setCell (g,i) u).setCell (g,j) v) m l:=h.of_block<|eX<|h.BY hc
def eD.two{r m l a}(h:eD w r m l a){g i j n:Nat}{u v x}(hc:w (g,n)=U x):eD ((w.setCell (g,i) u).setCell (g,j) v) r m l a:=h.of_block (eX (h.keys.BY hc)) (eX λe=>by obtain⟨k,c,b,seen,c0,f,d,h3,_⟩:=h;subst e;simp[Y,h3]at hc)
end
structure lD(n:Nat)(A left L:List Int):Prop where
 nodup:L.Nodup
 mem:∀x,x∈L↔((0<=x/\x<(n:Int))/\(x∈A->x∈left))
def lD.sM(n A):lD n A A ((ZG n).map λi:Nat=>(i:Int)):=by
 refine⟨?_,λx=>⟨λh=>?_,λh=>?_⟩⟩;rw[List.Nodup,Zj];exact List.nodup_range.imp λh e=>h (by omega)
 grind
 obtain⟨i,rfl⟩:=Z3 h.1.1;exact Ψ.2 ⟨i,List.mem_range.2<|by omega,rfl⟩
def lD.next{n A X a L x}(h:lD n A (X++x::a) L)(b:(X++x::a).Nodup)(c:x∈A):lD n A (X++a) (L.erase x):=by
 refine⟨h.nodup.erase x,λy=>?_⟩;rw[List.Nodup.mem_erase_iff h.nodup,h.mem]
 grind
def wJ(cs:List HC)(a2:List Int):List HC:=cs.zipIdx.map λx=>if a2.contains (x.2:Int)then x.1 else(3,[])
def VP{cs A L}(h:lD cs.length A [] L):freed cs L []=wJ cs A:=Z7 λi=>by
 rw[lC];unfold wJ;obtain hi|hi:=Nat.lt_or_ge i cs.length
 rw[ο hi];have a:=h.mem (i:Int)
 grind
 grind
end
end Kn
namespace Md
section
def B7(a:List Int)(c:HC):HC:=if zm c a then(c.1,c.2.map λ_=>(2,0))else c
def b'(h:PH):PH:=⟨h.cells.map<|B7<|alive h,h.roots,h.aA.filter ((alive h).contains ·),h.done++h.aA.filter (λn=>!(alive h).contains n)⟩
def ir(h):lu h={b' h with cells:=(b' h).cells.zipIdx.map λx=>if(alive<|b' h).contains (x.2:Int)then x.1 else(3,[])}:=rfl
def RF{a c v}(b:v∈(B7 a c).2)(d:v.1=1):v∈c.2/\zm c a=η:=by
 unfold B7 at b;split at b
 obtain⟨x,_,rfl⟩:=Ψ.1 b;cases d
 exact⟨b,by simp_all⟩
def Ot{h f h'}(hc:h'.cells=h.cells.map f){n}(a:BJ h n):cellP h' n=f (cellP h n):=by have:=a.1;have:=a.2;unfold cellP;rw[hc,ZS,ZE,ZS,ο<|by omega];rfl
section
variable{h:PH}(hw:WP h)
include hw
def lE:WP (b' h) where
 shape:=λc hc=>by
  obtain⟨d,hd,rfl⟩:=Ψ.1 hc;have:=hw.shape d hd;unfold B7;split
  simpa using this;exact this
 cells:=λc hc v e b=>by obtain⟨d,hd,rfl⟩:=Ψ.1 hc;have:=hw.cells d hd v (RF e b).1 b;simpa[BJ,b']using this
 roots:=λv e b=>by simpa[BJ,b']using hw.roots v e b
 aA:=λn a=>by simpa[BJ,b']using hw.aA n (υ.1 a).1
 done:=λn a=>by
  obtain a|a:=Γ.1 a
  ·simpa[BJ,b']using hw.done n a
  simpa[BJ,b']using hw.aA n (υ.1 a).1
omit hw in
def D6{n}:BJ (b' h) n↔BJ h n:=by simp[BJ,b']
omit hw in
def sT{n}:BJ (lu h) n↔BJ h n:=by simp[BJ,ir,b']
def C6{n}(i:n∈alive h):n∈alive (b' h):=by
 obtain⟨a1,q,s,l⟩:=pO hw;obtain⟨k,r,b3,b4⟩:=pO<|lE hw;have e:kc h ((alive h).filter ((alive<|b' h).contains ·)) ((alive h).filter ((alive<|b' h).contains ·)):=by
  refine⟨λv b=>υ.2 ⟨a1.VX v b,ζ.2<|k.VX v ?_⟩,λm o v b j=>?_⟩;obtain b|b:=Γ.1 b
  ·exact ZK _ b
  obtain⟨n,i,rfl⟩:=Ψ.1 b;exact ZL _<|Ψ.2 ⟨n,ZK _ i,rfl⟩;obtain⟨m1,m2⟩:=υ.1 o;have m2:=ζ.1 m2;have c:∀x∈(alive h).filter ((alive<|b' h).contains ·),x∈alive h:=λx g=>(υ.1 g).1;have d:∀x∈(alive h).filter ((alive<|b' h).contains ·),x∈alive (b' h):=λx g=>ζ.1 (υ.1 g).2;refine υ.2 ⟨a1.keeps m m1 v (sb c b) j,ζ.2<|k.keeps m m2 v ?_ j⟩;rw[show cellP (b' h) m=B7 (alive h) (cellP h m)from Ot rfl<|q m m1];have f:zm (cellP h m) (alive h)=η:=by
   have a:=sb c b;unfold Md.keeps at a;unfold zm;split at a
   rename_i h0;simp[h0];split at a
   ·split at a
    ·rename_i p;rw[p];simp
    cases a
   cases a
  unfold B7;rw[f];exact sb d b
 exact ζ.1 (υ.1<|l _ e n i).2
def aee{n}(g:n∈alive (b' h)){v}(a:v∈(cellP (b' h) n).2)(d:v.1=1):v.2∈alive (b' h)/\(has (alive h) ((cellP (b' h) n).2.getD 0 (0,0))=ZM\/(cellP (b' h) n).1=0):=by
 obtain⟨i,k,b3,b4⟩:=pO<|lE hw;have j:=D6.1<|k n g;have hc:=wK j;have e:cellP (b' h) n=B7 (alive h) (cellP h n):=Ot rfl j;rw[e]at a;obtain⟨a,f⟩:=RF a d;have e2:cellP (b' h) n=cellP h n:=by rw[e];simp[B7,f]
 rw[e2];obtain h0|⟨h1,h2⟩|⟨h1,h2⟩|h0:=hw.shape _ hc
 refine⟨i.keeps n g v ?_ d,.inr h0⟩;rw[e2];unfold Md.keeps;rwa[if_pos h0];have b:has (alive h) ((cellP h n).2.getD 0 (0,0))=ZM:=by unfold zm at f;simp[h1]at f;exact f
 refine⟨C6 hw ?_,.inl b⟩;obtain⟨x,l⟩:=Zv.1 h2;rw[l]at a b;rw[Zo.1 a]at d⊢;unfold has at b;simpa[d]using b;have b:has (alive h) ((cellP h n).2.getD 0 (0,0))=ZM:=by unfold zm at f;simp[h1]at f;exact f
 refine⟨?_,.inl b⟩;obtain⟨x,y,c⟩:∃x y,(cellP h n).2=[x,y]:=by
  match hcs:(cellP h n).2,h2 with
  |[x,y],_=>exact⟨x,y,rfl⟩
 rw[c]at a;obtain rfl|a:=List.mem_cons.1 a
 rw[c]at b;unfold has at b;exact C6 hw (by simpa[d]using b);rw[Zo.1 a]at d⊢;refine i.keeps n g y ?_ d;rw[e2];unfold Md.keeps;rw[if_neg (by omega),if_pos h1,if_pos<|Qu (λ_=>C6 hw) b,c];simp;rw[h0]at a;cases a
end
end
end Md
namespace Kn
open Go Go.RowKit Md
section
def pU{P w ops rest o a Q}(c:o.guard=I)(it)(e:o.op=.next it η)(v)(hi:a.eval it=v)(r w')(b:(Instr.next v η o.type).run P w=.ok r w')(h:Zl P ops Q rest (a.put o.dst r) w'):Zl P ops Q (o::rest) a w:=by refine wpList_plain c λK d=>?_;unfold Oper.wp;simp[execOp,e,hi,b];exact d _ _ h
def zp{ops rest o a w Q}(g:o.guard=I)(s x)(q:o.op=.call {callee:=.builtin .append,args:=#[s,x],argTypes:=#[24,24]})(B v l)(hs:a.eval s=v)(b:OI w B v l)(ad c u)(y:a.eval x=ZQ (U ad) 1 c)(t:w (ad.add 0)=U (Ξ Δ u))(A:l.length<=1000000000)(n:B<=w)(h:∀d w',OI w' B d (l++[u]) ->Z B w w'->w.grownBy w' v.ownBlock->(d.ownBlock=v.ownBlock\/d.ownBlock=U w.heap.size) ->Zl prog ops Q rest (a.put o.dst d) w'):Zl prog ops Q (o::rest) a w:=by
 obtain⟨p,hi,i,k,f⟩:=info_parts Dq;refine wpList_append_own_at _ g s x 24 q B 3 p _ 1 8 se hi i k f rfl (by decide) v l.length _ hs b ad 1 c (eP u) y rfl (λj z e=>?_) (λz hz=>?_) (by unfold maxLen;omega) (by omega) n λd w' r m _ h4=>?_
 match j,e with
 |0,e=>cases e;exact t
 |j+1,e=>simp[eP]at e
 simp[eP]at hz;subst hz;rfl;refine h d w' ?_ (cM b m n) m h4;unfold OI;simpa using r
structure af6(k:Int)(vs:List HV)(T F:Nat):Prop where
 cellOf:∀w a n m,ZV prog 181 #[.agg #[Ξ Δ k,.slice a n m]] w λe w'=>e=.returned (.iface T (.agg #[Ξ Δ k,.slice a n m]))/\Z w w w'
 mt:∀w s,(method 463 T (.agg #[Ξ Δ k,s]) "caracole/heap.loses").run prog w=.ok (F,.agg #[Ξ Δ k,s]) w
 ent:∀w args,(callFunc F args).run prog w=.ok (.enter F args) w
 los:∀w a m b A,bk w b A->eI w (.slice a vs.length m) vs->ZV prog F #[.agg #[Ξ Δ k,.slice a vs.length m],.map (U b)] w λe w'=>e=.returned (.bool (zm (k,vs) A))/\Z w w w'
def afW{k vs}(h:k=0\/(k=1/\vs.length=1)\/(k=2/\vs.length=2)):∃T F,af6 k vs T F:=by
 obtain rfl|⟨rfl,h⟩|⟨rfl,h⟩:=h
 exact⟨264,318,sI,λw s=>Oc w s _ 318<|.inr<|.inr<|.inr ⟨rfl,rfl⟩,λw c=>Pp 318 c w rfl,λw a m b A _ _=>Og w a vs.length m b⟩;obtain⟨x,rfl⟩:=Zv.1 h;refine⟨265,324,sJ,λw s=>Od w s _ 324<|.inr<|.inr<|.inr ⟨rfl,rfl⟩,λw c=>Pp 324 c w rfl,λw a m b A d f=>?_⟩;have e:zm (1,[x]) A=!has A x:=by simp[zm]
 rw[e];exact Oh w _ b A x [] d f;obtain⟨x,y,rfl⟩:∃x y,vs=[x,y]:=by
  match vs,h with
  |[x,y],_=>exact⟨x,y,rfl⟩
 refine⟨266,328,agt.cellOf,λw s=>by kernel_rfl,λw c=>Pp 328 c w rfl,λw a m b A d f=>?_⟩;have e:zm (2,[x,y]) A=!has A x:=by simp[zm]
 rw[e];exact afC w _ b A x [y] d f
def va(vs:List HV)(j:Nat):List HV:=(vs.take j).map (λ_=>((2,0):HV))++vs.drop j
def OB(vs j):(va vs j).length=vs.length:=by unfold va;simp;omega
def RI{vs j}(h:j<vs.length):(va vs j).set j (2,0)=va vs (j+1):=Z7 λi=>by
 unfold va
 grind
def Xv(vs):va vs vs.length=vs.map λ_=>(2,0):=by simp[va]
structure Kq(h:PH):Prop where
 first:Fit h
 second:Fit (b' h)
 shape:∀c∈h.cells,c.1=0\/(c.1=1/\c.2.length=1)\/(c.1=2/\c.2.length=2)
 aA:h.aA.length<=1000
 done:h.done.length<=1000
structure D5(w w1 wr:Z8)(B b m1:Nat)(c vw v vd:θ)(h:PH)(a1 L D:List Int)(k:Nat):Prop where
 own:dQ wr B b c vw vd h.cells h.roots h.aA D
 low:∀g,vw.ownBlock=U g->g<w1.heap.size
 ap1:∀g,vd.ownBlock=U g->vw.ownBlock≠U g
 row:OI wr w1 v L
 ap2:∀g,v.ownBlock=U g->vd.ownBlock≠U g
 keys:bk wr m1 a1
 below:Z B w wr
 size:w1.heap.size<=wr
 isL:L=(h.aA.take k).filter (a1.contains ·)
 isD:D=h.done++(h.aA.take k).filter (λn=>!a1.contains n)
section
variable{w w1 wr w2 w3:Z8}{B b m1 k:Nat}{c vw v vd v':θ}{h:PH}{a1 L D:List Int}{n:Int}
def D5.to(a:D5 w w1 wr B b m1 c vw v vd h a1 L D k)(e:B<=w1)(d:Z wr wr w2):D5 w w1 w2 B b m1 c vw v vd h a1 L D k:=⟨a.own.below d,a.low,a.ap1,a.row.below d,a.ap2,a.keys.below d,a.below.trans<|d.mono<|Nat.le_trans e a.size,Nat.le_trans a.size d.size,a.isL,a.isD⟩
def GA{l:List Int}{k n}(p)(b:l[k]?=U n):(l.take<|k+1).filter p=(l.take k).filter p++if p n then [n]else []:=by
 rw[bW b,List.filter_append]
 congr 1
 by_cases a:p n=ZM<;>simp[a]
def bk.grown{m l w w' B s d}(h:bk w m l)(hs:OI w B s d)(c:w.grownBy w' s.ownBlock):bk w' m l:=by refine h.of_block<|c.block m h.lt λe=>?_;obtain⟨_,_,a,hc⟩:=hs.wq e.symm;obtain⟨f,b,hb,_⟩:=h;rw[hc]at hb;cases hb
def D5.took(a:D5 w w1 wr B b m1 c vw v vd h a1 L D k)(j:B<=w1)(l:h.aA[k]?=U n)(hc:a1.contains n=ZM)(i:wr.grownBy w3 v.ownBlock)(m:OI w3 w1 v' (L++[n]))(f:v'.ownBlock=v.ownBlock\/v'.ownBlock=U wr.heap.size):D5 w w1 w3 B b m1 c vw v' vd h a1 (L++[n]) D (k+1) where
 own:=a.own.apart a.row i λg d=>⟨λe=>by have:=a.low g e;have:=(a.row.wq d).1;omega,a.ap2 g d⟩
 low:=a.low
 ap1:=a.ap1
 row:=m
 ap2:=λg d e=>by
  obtain f|f:=f
  exact a.ap2 g (f▸d) e;rw[f]at d;cases d
  obtain⟨_,_,_,_,_,o,_⟩:=a.own;have:=(o.lt _ e).2;omega
 keys:=a.keys.grown a.row i
 below:=a.below.trans<|cM (B:=B) (a.row.less j) i<|Nat.le_trans j a.size
 size:=Nat.le_trans a.size i.size
 isL:=by rw[GA _ l,hc,<-a.isL];rfl
 isD:=by rw[GA _ l,a.isD,hc];simp
def D5.put(d:D5 w w1 wr B b m1 c vw v vd h a1 L D k)(z:B<=w1)(u:h.aA[k]?=U n)(hc:a1.contains n=η)(j:wr.grownBy w3 vd.ownBlock)(x:OI w3 B v' (D++[n]))(f:v'.ownBlock=vd.ownBlock\/v'.ownBlock=U wr.heap.size):D5 w w1 (w3.setCell (b,3) v') B b m1 c vw v v' h a1 L (D++[n]) (k+1):=by
 obtain⟨r,l,s,hb,A,o,_⟩:=id d.own;have m:w3.heap[b]?=U (Θ #[c,r,vw,vd] 159 (0,0)):=(j.block b (Ω.1 hb).1 λe=>by obtain⟨_,_,q,hc⟩:=o.wq e.symm;rw[hb]at hc;cases hc).trans hb
 have i:OI w3 w1 v L:=Kc d.row λg a=>j.block g (d.row.lt g a).2 λe=>d.ap2 g a e.symm;refine⟨d.own.afH j d.ap1 x,d.low,λg a e=>?_,Kc i λg a=>aa λe=>?_,λg a e=>?_,(d.keys.grown o j).of_block<|aa ?_,(d.below.trans<|cM (B:=B) o j<|Nat.le_trans z d.size).setCell (p:=⟨b,3,I⟩) s _,?_,?_,?_⟩;obtain f|f:=f
 ·exact d.ap1 g (f▸a) e
 rw[f]at a;cases a
 have:=d.low _ e;have:=d.size;omega;obtain⟨_,_,q,hc⟩:=i.wq a;subst e;rw[m]at hc;cases hc
 obtain f|f:=f
 ·exact d.ap2 g a<|f▸e
 rw[f]at e;cases e
 have:=(d.row.lt _ a).2;omega;intro e;obtain⟨C,y,t,_⟩:=d.keys.grown o j;subst e;rw[m]at t;cases t
 have:=d.size;have:=j.size;simp;omega;rw[GA _ u,hc,<-d.isL];simp;rw[GA _ u,hc,d.isD,List.append_assoc];rfl
end
def BZ(w B b h)(hq:NH w B b h.cells h.roots h.aA h.done)(hB:B<=w)(ho:Kq h):
 ZV prog 125 #[.pointer b] w λe w'=>e=.returned (.tuple #[])/\(∃c vw vd,dQ w' B b c vw vd (lu h).cells (lu h).roots (lu h).aA (lu h).done)/\Z B w w':=by
 obtain⟨c,vw,vd,hc,ha⟩:=hq.named;have H:=V hc;have HA:=V ha;have HO:=V ho;have hcl:=ho.first.cells;have hwl:=ho.aA;have hdl:=ho.done;have hmm:=@run_makeMap prog;clear hq hc ho ha
 go_enter (fU func125 rfl),ntmps125
 go_wp2_with fail
 refine(DD _ b h H.out.reads HO.out.first).mono ?_;rintro e w1 ⟨⟨m1,rfl,hm1,hk1⟩,hb1⟩;generalize ha1:alive h=a1 at hk1;have HA1:=V ha1;clear ha1;have hP1:=H.out.below hb1;obtain⟨hBb,hbl,q0,⟨q2,q3⟩,qf,ac,mc,rfl,hmc⟩:=hP1.cells;obtain⟨aw,mw,rfl,-⟩:∃a m,vw=.slice a h.aA.length m/\True:=by obtain⟨_,_,_,_,h1,_⟩:=hP1;obtain⟨a,m,e,-⟩:=aF h1;exact⟨a,m,e,trivial⟩
 have hvw:∀g,(ZQ aw h.aA.length mw).ownBlock=U g->g<w1.heap.size:=λg hg=>by obtain⟨_,_,_,_,h1,_⟩:=hP1;exact(h1.lt g hg).2
 have HVW:=V hvw;have hw1:=hb1.size;have J:B<=w1.heap.size:=Nat.le_trans hB hw1;have HP1:=V<|R hP1<|R hk1<|hb1.mono hB;clear hP1 hk1 hb1 hvw qf H q0
 go_wp2_with fail
 clear q2 q3
 go_loopw [3,21] (λv i wr=>∃(k:Nat) (O:θ) (L D:List Int),k<=h.aA.length/\i=Ξ Δ k/\Hid (D5 w w1 wr B b m1 (.slice ac h.cells.length mc) (.slice aw h.aA.length mw) v O h a1 L D k)) (λ_ i _=>h.aA.length-(intOf i).toNat)
 case atStart=>exact⟨0,vd,[],h.done,Nat.zero_le _,rfl,V ⟨HP1.out.1,HVW.out,HA.out,OI.nil _ _,(λg hg=>by cases hg),HP1.out.2.1,HP1.out.2.2,.refl,rfl,by simp⟩⟩
 case round=>
  clear HP1;obtain⟨k,O,L,D,hk,rfl,HL⟩:=hrel;have hwr:=HL.out.size;have N:B<=wr.heap.size:=Nat.le_trans J hwr;have hlL:L.length<=1000:=by rw[HL.out.isL];exact Nat.le_trans (ε _ _) (by simp;omega)
  have hlD:D.length<=10000:=by rw[HL.out.isD];have:=ε (λn=>!a1.contains n)<|h.aA.take k;simp at this⊢;omega
  obtain⟨av,mv,rfl,-⟩:=aF HL.out.row;by_cases hlt:k<h.aA.length
  ·obtain⟨n,en⟩:=lw hlt;have d1:∃g o,aw=U ⟨g,o,I⟩/\wr ⟨g,o+k,I⟩=U (Ξ Δ n):=by
    obtain⟨_,_,_,_,h1,_⟩:=HL.out.own;obtain⟨_,_,e,_,_,hh⟩:=h1.reads;cases e
    obtain⟨g,o,e,_,G⟩:=hh (by omega);exact⟨g,o,e,G k n en⟩
   obtain⟨g,o,rfl,d1⟩:=d1;have EN:=V en;clear en
   go_wp2_with fail
   refine(afa _ m1 a1 (1,n) HL.out.keys).mono ?_;rintro e w2 ⟨rfl,hb2⟩;have hh:has a1 (1,n)=a1.contains n:=by simp[has]
   rw[hh];have hz2:=hb2.size;have H2:=HL.out.to J hb2;have H3:=V<|H2.to J<|af w2<|Θ #[Ξ Δ n] 3;replace H2:=V H2;clear hh d1 HL hb2;cases hc:a1.contains n
   ·have hcd:a1.contains n=η:=hc;have HC:=V hcd;obtain⟨_,_,q0,⟨-,q3⟩,qf,_⟩:=H2.out.own.cells;have alS:b<w2:=by omega
    obtain⟨ad,md,e,-⟩:∃a m,O=.slice a D.length m/\True:=by obtain⟨_,_,_,_,_,h2,_⟩:=H2.out.own;obtain⟨a,m,e,-⟩:=aF h2;exact⟨a,m,e,trivial⟩
    subst e;have hvo:OI (w2.alloc<|Θ #[Ξ Δ n] 3) B (.slice ad D.length md) D:=by obtain⟨_,_,_,_,_,h2,_⟩:=H3.out.own;exact h2
    obtain⟨r3,hbb⟩:∃r,(w2.alloc<|Θ #[Ξ Δ n] 3).heap[b]?=U (Θ #[.slice ac h.cells.length mc,r,ZQ (U ⟨g,o,I⟩) h.aA.length mw,.slice ad D.length md] 159):=by obtain⟨r,_,_,hb,_⟩:=H3.out.own;exact⟨r,hb⟩
    have hq3:(w2.alloc<|Θ #[Ξ Δ n] 3) (b,3)=U (.slice ad D.length md):=by simp[Y,hbb]
    have HKB:Hid (∀(w3:Z8),(w2.alloc<|Θ #[Ξ Δ n] 3).grownBy w3 (ZQ ad D.length md).ownBlock->w3.frozen? ⟨b,3,I⟩=η/\w3.cell? ⟨b,3,I⟩=U (.slice ad D.length md)):=V λw3 hg=>by
     have hk3:=(hg.block b (by simp;omega) λe=>by obtain⟨_,_,cur,hc⟩:=hvo.wq e.symm;rw[hbb]at hc;cases hc).trans hbb
     exact⟨by simp[ξ,hk3],by simp[Y,hk3]⟩
    clear hc hcd q0 H2 hbb;have ahL:D.length<=1000000000:=by omega
    have hBw2:B<=(w2.alloc<|Θ #[Ξ Δ n] 3).heap.size:=by simp;omega
    have G:(w2.alloc<|Θ #[Ξ Δ n] 3) ((w2.heap.size:Addr).add 0)=U (Ξ Δ n):=by simp[go_sem,Addr.add]
    go_wp2_with (at_builtin;refine zp rfl _ _ rfl B _ _ rfl hvo w2.heap.size _ n rfl G ahL hBw2 ?_;intro v' w3 W hb3 hg3 hv3;obtain⟨f3,c3⟩:=HKB.out w3 hg3;obtain⟨a5,m5,e5,-⟩:=aF W;subst e5)
    rw[show(D++[n]).length=D.length+1 by simp]at W hv3;exact⟨⟨k+1,_,_,_,by omega,by go_num,V<|H3.out.put J EN.out HC.out hg3 W hv3⟩,by simp[intOf];omega⟩
   ·have hcd:a1.contains n=ZM:=hc;have HC:=V hcd;clear hc hcd
    go_wp2_with (at_builtin;refine zp rfl _ _ rfl w1.heap.size _ _ rfl H3.out.row w2.heap.size _ n rfl (by simp[go_sem,Addr.add]) (by omega) (by simp;omega) ?_;intro v' w3 W hb3 hg3 hv3)
    exact⟨⟨k+1,O,_,_,by omega,by go_num,V<|H3.out.took J EN.out HC.out hg3 W hv3⟩,by simp[intOf];omega⟩
  ·have hke:k=h.aA.length:=by omega
   subst hke;obtain⟨hP,-,-,hv3,-,hkk,hbw,-,hL,hD⟩:=HL.out;rw[List.take_length]at hL hD;have HLD:=V<|R hL hD;clear hL hD;obtain⟨hP2,hb2⟩:=hP.Jl<|hv3.less J;obtain⟨-,hbr,q0,⟨q2,-⟩,q2f,-⟩:=hP.cells;replace q2f:=q2f 2;have hk2:=hkk.of_block (w':=wr.setCell (b,2)<|.slice av L.length mv)<|aa<|hkk.BY q0;obtain⟨-,-,hq0,-,-,-⟩:=hP2.cells;have hB2:Z B w (wr.setCell (b,2)<|.slice av L.length mv):=hbw.trans hb2;clear hP hv3 hkk hbw hb2 HL q0
   go_wp2_with fail
   clear q2 q2f;generalize wr.setCell (b,2) (.slice av L.length mv)=w2 at hP2 hk2 hq0 hB2⊢;have HP2:=V<|R hP2<|R hk2 hB2;clear hP2 hk2 hB2 hq0 HVW HA hwr N J hbr
   go_loopw [57] (λi wr=>∃k:Nat,k<=h.cells.length/\i=Ξ Δ k/\Hid (dQ wr B b (.slice ac h.cells.length mc) (.slice av L.length mv) O (DE a1 h.cells k) h.roots L D/\bk wr m1 a1/\Z B w wr)) (λi _=>h.cells.length-(intOf i).toNat)
   case atStart=>exact⟨0,Nat.zero_le _,rfl,by simpa[DE]using HP2⟩
   case round=>
    clear HP2;obtain⟨k,hk,rfl,HP⟩:=hrel;have hBw:=HP.out.2.2;have N:B<=wr:=Nat.le_trans hB hBw.size;by_cases hlt:k<h.cells.length
    ·obtain⟨kd,vs,ec⟩:=cQ hlt;have G:=Jm (a:=a1) hlt;rw[ec]at G;obtain⟨gc,m,x,e,_,_,d1,d2,_,hxv⟩:=HP.out.1.at_ G;obtain⟨ax,mx,rfl,_,_,_⟩:=id hxv;rw[wI]at e;cases e
     have hmem:=Z1 ec;obtain⟨T,F,HKL⟩:=afW<|HO.out.shape _ hmem;have hvl:vs.length<=1000:=HO.out.first.eT _ hmem;dsimp only at HKL;have HX:=V hxv;have HE:=V<|R ec G;have hb0:=af wr<|Θ #[kd,.slice ax vs.length mx] 76;have hmt:=λw=>HKL.mt w<|.slice ax vs.length mx;have hent:=HKL.ent;clear G hxv ec hmem
     go_wp2_with fail
     refine(HKL.cellOf _ _ _ _).mono ?_;rintro e w3 ⟨rfl,hb3⟩;have hz3:wr.heap.size<w3:=by have:=hb3.size;rw[Zm]at this;omega
     have Q:=hb0.trans<|hb3.mono<|by simp
     go_wp2_with fail
     refine(HKL.los _ _ _ m1 a1 (HP.out.2.1.below Q)<|HX.out.below Q).mono ?_;rintro e w4 ⟨rfl,hb4⟩;have A:Z wr wr w4:=Q.trans<|hb4.mono Q.size;have n4:w4 (wr.heap.size,1)=U (.slice ax vs.length mx):=(hb4.cell (p:=⟨wr.heap.size,1,I⟩) hz3).trans<|(hb3.cell (p:=⟨wr.heap.size,1,I⟩)<|by simp).trans<|by go_simp
     clear hb0 hb3 Q hb4 hmt hent;cases hlo:zm (kd,vs) a1
     ·have hst:=Aa (a:=a1) HE.out.1 (by unfold tS;rw[hlo];rfl);have HST:=V hst;clear hst hlo
      go_wp2_with fail
      exact⟨⟨k+1,by omega,by go_num,V ⟨by rw[HST.out];exact HP.out.1.below A,HP.out.2.1.below A,hBw.trans<|A.mono N⟩⟩,by simp[intOf];omega⟩
     ·have hst:=zZ (a:=a1) HE.out.1;rw[show tS a1 (kd,vs)=(kd,vs.map λ_=>(2,0)) by unfold tS;rw[hlo];rfl]at hst;have HST:=V hst;have H4:=V<|R (HP.out.1.below A)<|R (HP.out.2.1.below A)<|hBw.trans<|A.mono N;have tU:=A.size;clear hst hlo HP A hBw HX
      go_wp2_with fail
      have hset:(DE a1 h.cells k).set k (kd,va vs 0)=DE a1 h.cells k:=by
       have:=HE.out.2;refine Z7 λi=>?_;by_cases hi:i=k
       subst hi;rw[φ (by rw[wI];exact hlt),this];simp[va];rw[ι (Zz hi)]
      have hlt':(k:Int)<(h.cells.length:Int):=by omega
      have hk0:(0:Int)<=(k:Int):=by omega
      clear n4 d1 d2
      go_loopw [70] (λi wr'=>∃j:Nat,j<=vs.length/\i=Ξ Δ j/\Hid (dQ wr' B b (.slice (gc:Nat) h.cells.length mc) (.slice av L.length mv) O ((DE a1 h.cells k).set k (kd,va vs j)) h.roots L D/\bk wr' m1 a1/\Z B w wr')) (λi _=>vs.length-(intOf i).toNat)
      case atStart=>exact⟨0,Nat.zero_le _,rfl,by rw[hset];exact H4⟩
      case round=>
       clear H4 hset;obtain⟨j,hj,rfl,HJ⟩:=hrel;by_cases hlj:j<vs.length
       ·have G:((DE a1 h.cells k).set k (kd,va vs j))[k]?=U (kd,va vs j):=φ (by rw[wI];exact hlt);obtain⟨gc',m',g,m2,e1,s1,hm2,⟨u1,s2⟩,⟨u2,s3⟩,s4,JH,Oz⟩:=HJ.out.1.BB (j:=j) G (by rw[OB];exact hlj) (2,0);rw[Zc,wI]at e1;cases e1
        rw[OB]at s1 hm2;rw[List.set_set,RI hlj]at JH;have s4a:=s4<|j*2;have s4b:=s4<|j*2+1;obtain⟨_,_,r0,_⟩:=HJ.out.1.cells;have hk5:=HJ.out.2.1.two (i:=j*2) (j:=j*2+1) (u:=Ξ Δ 2) (v:=Ξ Δ 0) s2;have HP5:=V<|R JH<|R hk5<|HJ.out.2.2.trans Oz;have hj1:(j:Int)<(vs.length:Int):=by omega
        have hj0:(0:Int)<=(j:Int):=by omega
        clear JH Oz hk5 s4 G HJ
        go_wp2_with fail
        exact⟨⟨j+1,by omega,by go_num,HP5⟩,by simp[intOf];omega⟩
       ·have hje:j=vs.length:=by omega
        subst hje
        go_wp2_with fail
        exact⟨⟨k+1,by omega,by go_num,by rw[HST.out,<-Xv];exact HJ⟩,by simp[intOf];omega⟩
    ·have hke:k=h.cells.length:=by omega
     subst hke;obtain⟨l,hk9,-⟩:=HP.out;rw[Oy]at l;obtain⟨E,hcs1⟩:∃x,x=h.cells.map (tS a1):=⟨_,rfl⟩;have hl1:E.length=h.cells.length:=by rw[hcs1];simp
     rw[<-hcs1]at l;have hbr:(⟨E,h.roots,L,D⟩:PH)=b' h:=by rw[hcs1,HLD.out.1,HLD.out.2,<-HA1.out];rfl
     have HBR:=V hbr;obtain⟨_,_,q0,_⟩:=l.cells;have HP9:=V<|R l hBw;have WA:=V hl1;clear HP l hcs1 hl1 hbr hk9 HLD
     go_wp2_with fail
     have hkd:bk (wr.alloc<|.map #[] 0) wr.heap.size (((ZG 0).map λi:Nat=>(i:Int))):=bk.made wr;have hPa:=HP9.out.1.below<|af wr<|.map #[] 0;have hBa:=hBw.trans<|((af wr<|.map #[] 0)).mono N;have HKD:=V<|R hkd<|R hPa hBa;obtain⟨m3,Fw⟩:∃m3,m3=wr.heap.size:=⟨_,rfl⟩;rw[<-Fw]at HKD⊢;have aft:B<=m3:=by omega
     clear hkd hPa hBa q0 Fw
     go_loopw [94] (λi wr=>∃k:Nat,k<=h.cells.length/\i=Ξ Δ k/\Hid (bk wr m3 ((ZG k).map λi:Nat=>(i:Int))/\dQ wr B b (.slice ac h.cells.length mc) (.slice av L.length mv) O E h.roots L D/\Z B w wr)) (λi _=>h.cells.length-(intOf i).toNat)
     case atStart=>exact⟨0,Nat.zero_le _,rfl,HKD⟩
     case round=>
      clear HKD HP9 hBw N;obtain⟨k,hk',rfl,HK⟩:=hrel;by_cases hlt2:k<h.cells.length
      ·obtain⟨w5,hup,hk5,hg5,hs5⟩:=ki (k:Int) HK.out.1;have hadd:ml ((ZG k).map λi:Nat=>(i:Int)) (k:Int)=(ZG<|k+1).map λi:Nat=>(i:Int):=by unfold ml;rw[if_neg (by simp;omega),List.range_succ,ZU];rfl
       rw[hadd]at hk5;have JH:=HK.out.2.1.grown hg5 λr e=>.inr (by cases e;exact HK.out.1.Ac);have Oz:=HK.out.2.2.grown hg5 (Nat.le_trans hB HK.out.2.2.size) (λr e=>by
        cases e
        exact aft)
       have HK5:=V<|R hk5<|R JH Oz;clear hk5 JH Oz hg5 hadd
       go_wp2_with fail
       exact⟨⟨k+1,by omega,by go_num,HK5⟩,by simp[intOf];omega⟩
      ·have hke:k=h.cells.length:=by omega
       subst hke;have N:=Nat.le_trans hB HK.out.2.2.size;have HND:=V (pO HO.out.second.wp).2.2.1
       go_wp2_with fail
       refine(DD _ b (b' h) (by rw[<-HBR.out];exact HK.out.2.1.reads) HO.out.second).mono ?_;rintro e w6 ⟨⟨m4,rfl,hm4,hk4⟩,hb6⟩;obtain⟨a2,ha2⟩:∃x,x=alive (b' h):=⟨_,rfl⟩;rw[<-ha2]at hk4 HND;obtain⟨w7,hrg,q,hg7,hs7⟩:=qg hk4;have hk6:=HK.out.1.below hb6;have JF:=hk6.of_block<|hg7.block m3 hk6.lt<|by simp
       have hP7:=(HK.out.2.1.below hb6).grown hg7 (λr e=>by cases e);have Wm:=(HK.out.2.2.trans<|hb6.mono N).grown hg7 (Nat.le_trans N hb6.size) (λr e=>by cases e);have afu:m3≠m4:=by have:=HK.out.1.lt;omega
       have WB:m3≠w6.heap.size:=by have:=hk6.lt;omega
       have HA2:=V ha2;have KV:=V<|R q<|R JF<|R hP7 Wm;obtain⟨r4,hr4⟩:∃r,r=w6.heap.size:=⟨_,rfl⟩;have anD:B<=r4:=by rw[hr4];exact Nat.le_trans N hb6.size
       rw[<-hr4]at hrg KV WB;clear hr4;clear hk4 q hg7 hk6 JF hP7 Wm ha2 hb6 HK
       go_wp2_with fail
       clear hrg;have WC:=lD.sM E.length a2;rw[WA.out]at WC
       go_loopw [11] (λ_ wr=>∃f LL,Hid<|eD wr r4 m4 a2 f/\bk wr m3 LL/\lD h.cells.length a2 f LL/\f.Nodup/\(∀x∈f,x∈a2)/\dQ wr B b (.slice ac h.cells.length mc) (.slice av L.length mv) O E h.roots L D/\Z B w wr) (λ_ wr=>oA wr r4 m4)
       case atStart=>exact⟨a2,_,V ⟨KV.out.1,KV.out.2.1,WC,HND.out,λx hx=>hx,KV.out.2.2.1,KV.out.2.2.2⟩⟩
       case round=>
        clear KV WC;obtain⟨f,LL,HL⟩:=hrel;obtain⟨q,hkl,hsk,P,s,K,C⟩:=HL.out;obtain⟨hnil,S⟩|⟨X,d,x,w8,hXY,S,t,no,hs8,hen⟩:=sH 0 q
        ·subst hnil;have anF:=Nat.le_trans hB C.size;have HSK:=V hsk;obtain⟨w9,afv,z,hg9,hs9⟩:=qg hkl;have l:=K.grown hg9 (λr e=>by cases e);have Dv:=C.grown hg9 anF (λr e=>by cases e);have wB:=V<|R z<|R l Dv;obtain⟨r5,Xq⟩:∃r,r=wr.heap.size:=⟨_,rfl⟩;rw[<-Xq]at afv wB;have anH:B<=r5:=by omega
         clear Xq;clear HL q hkl hsk P s K C z hg9 l Dv
         go_wp2_with (at_next;refine pU rfl _ rfl _ rfl _ _ S ?_)
         clear S afv
         go_loopw [12] (λ_ wr=>∃f,Hid<|eD wr r5 m3 LL f/\f.Nodup/\(∀x∈f,x∈LL)/\dQ wr B b (.slice ac h.cells.length mc) (.slice av L.length mv) O (freed E LL f) h.roots L D/\Z B w wr) (λ_ wr=>oA wr r5 m3)
         case atStart=>exact⟨LL,V ⟨wB.out.1,HSK.out.nodup,λx hx=>hx,by rw[Ab];exact wB.out.2.1,wB.out.2.2⟩⟩
         case round=>
          clear wB;obtain⟨f,HF⟩:=hrel;obtain⟨q,P,s,K,C⟩:=HF.out;obtain⟨hnil,S⟩|⟨X,d,x,w8,hXY,S,t,no,hs8,hen⟩:=sH 0 q
          ·subst hnil;have hend:freed E LL []=wJ E a2:=by have h1:=HSK.out;rw[<-WA.out]at h1;rw[VP h1]
           rw[hend]at K;have HPL:=V<|R K C;clear HF q P s K C hend
           go_wp2_with (at_next;refine pU rfl _ rfl _ rfl _ _ S ?_)
           go_end0;have hfin:lu h=⟨wJ E a2,h.roots,L,D⟩:=by rw[ir,<-HBR.out,HA2.out,<-HBR.out];rfl
           rw[hfin];exact⟨rfl,⟨_,_,_,HPL.out.1⟩,HPL.out.2⟩
          ·subst hXY;have hxL:=s x (by simp);obtain⟨⟨hx0,hx1⟩,_⟩:=(HSK.out.mem x).1 hxL;obtain⟨n,rfl⟩:=Z3 hx0;have hP8:=K.grown no (λr e=>.inr (by
            cases e
            obtain⟨es,clk,since,seen,c0,h1,h2,h3,_⟩:=q;exact⟨_,h3,rfl⟩))
           have Wn:=C.grown no (Nat.le_trans hB C.size) (λr e=>by cases e;exact anH);have hfl:=PB E LL (X++(n:Int)::d);obtain⟨gc',m',e1,_,⟨u1,s1⟩,⟨u2,s2⟩,s3,l,Dv⟩:=hP8.free (i:=n) (by rw[hfl,WA.out];omega);rw[hfl,WA.out]at e1;cases e1
           have afw:=BX (cs:=E) (D:=LL) (by rw[WA.out];omega) hxL P;rw[<-afw]at l;have z:=t.two (i:=n*2) (j:=n*2+1) (u:=Ξ Δ 3) (v:=()) s1;have afx:(X++d).Nodup:=P.sublist<|ZD (Zu _ _) _;have hm1:=q.oA;have hm2:=z.oA;obtain⟨_,_,r0,_⟩:=hP8.cells;have s3a:=s3<|n*2;have s3b:=s3<|n*2+1;have wB:=V<|R z<|R afx<|R (λy (hy:y∈X++d)=>s y (by simp at hy⊢;obtain h|h:=hy;exact .inl h;exact .inr<|.inr h))<|R l<|Wn.trans Dv;have HM:=V<|R hm1 hm2;have hn1:(n:Int)<(h.cells.length:Int):=by omega
           have hn0:(0:Int)<=(n:Int):=by omega
           clear HF q P s K C hxL hx0 hx1 t no hs8 hP8 Wn hfl l Dv afw z afx hm1 hm2 s3
           go_wp2_with (at_next;refine pU rfl _ rfl _ rfl _ _ S ?_)
           go_roundw
           case rel=>exact⟨X++d,wB⟩
           case measure=>rw[HM.out.1,HM.out.2];simp
        ·subst hXY;have hxa:=s x (by simp);have hne:m3≠r4:=WB;have hk8:bk w8 m3 LL:=hkl.of_block<|no.block m3 hkl.lt λe=>hne<|ZP e;have hP8:=K.grown no (λr e=>.inr (by
          cases e
          obtain⟨es,clk,since,seen,c0,h1,h2,h3,_⟩:=q;exact⟨_,h3,rfl⟩))
         have Wn:=C.grown no (Nat.le_trans hB C.size) (λr e=>by cases e;exact anD);have aaL:=hsk.next P hxa;have OA:(X++d).Nodup:=P.sublist<|ZD (Zu _ _) _;have hm1:=q.oA;have HK8:=V<|R t<|R aaL<|R OA<|R (λy (hy:y∈X++d)=>s y (by simp at hy⊢;obtain h|h:=hy;exact .inl h;exact .inr<|.inr h))<|R hP8 Wn;have HKK:=V hk8;have HM:=V hm1;clear HL q hkl hsk P s K C t no hs8 hk8 hP8 Wn aaL OA hm1
         go_wp2_with (first|(at_next;refine pU rfl _ rfl _ rfl _ _ S ?_)|(at_delete;refine qz rfl _ _ rfl m3 LL x rfl rfl HKK.out ?_;intro w9 hk9 hg9 hs9;go_frame))
         obtain⟨t,aaL,OA,afy,hP8,Wn⟩:=HK8.out;have z:=t.of_block (w':=w9) (hg9.block m4 t.lt.2.1 λe=>afu (ZP e).symm)<|hg9.block r4 t.lt.1 λe=>WB (ZP e).symm;have l:=hP8.grown hg9 λr e=>.inr (by cases e;exact HKK.out.Ac);have Dv:=Wn.grown hg9 (Nat.le_trans hB Wn.size) (λr e=>by cases e;exact aft)
         go_roundw
         case rel=>exact⟨X++d,LL.erase x,V ⟨z,hk9,aaL,OA,afy,l,Dv⟩⟩
         case measure=>rw[HM.out,z.oA];simp
end
section
variable(w:Z8)
def Ad:ZV prog 121 #[.nilIface] w λe w'=>e=.returned (Ξ Δ 0)/\Z w w w':=by
 have a:∀w:Z8,(ZA .nilIface 20 174 ZM).run prog w=.ok (.tuple #[.nilIface,.bool η]) w:=λw=>by kernel_rfl
 go_enter (fU func121 rfl),ntmps121
 go_wp2
 go_ret;exact⟨rfl,ψ _ _⟩
def Ae(p x w)(c:w p=U x)(d:w.frozen? p=η):
 CallsD prog 124 #[ω (U p)] .returning w λe g w'=>e=.returned (.tuple #[])/\g=.returning/\∃w1,Z w w w1/\w'=w1.setCell p (Ξ Δ 0):=by
 have b:=ZX c;refine ZT (fU func124 rfl) rfl λa cs f=>?_;apply ZJ;simp[Zi,go_sem,Zx,f,ntmps124,ZN];refine(Ad w).mono ?_;rintro e w1 ⟨rfl,hb⟩;have i:=(hb.cell b).trans c;have h:=(hb.frozen b).trans d;cases a
 simp_all [go_sem,ZC,ZI,results124]
 exact⟨w1,hb,rfl⟩
def Rk(v h)(hv:tH w v h)(X:Xh h)(ho:Kq h):
 ZV prog 64 #[v] w λe w'=>(∃r,e=.returned (.tuple #[r,Ξ Δ 0])/\tH w' r (lu h))/\Z w w w':=by
 have hmf:∀(fn:Fn) (first cap:Array θ) (w:Z8),(Zw fn first cap).run prog w=.ok (.func fn first cap) w:=λ_ _ _ _=>rfl;have HV:=V hv;have HK:=V X;have HO:=V ho;obtain⟨c,r,wi,d,rfl,⟨ac,mc,rfl,_⟩,⟨ar,mr,rfl,_⟩,⟨aw,mw,rfl,_⟩,⟨ad,md,rfl,_⟩⟩:=hv;clear X ho
 go_enter_defers (fU func64 rfl),ntmps64
 go_wp2_with fail
 have L:Z w w (((w.alloc<|Θ #[.slice ac h.cells.length mc,.slice ar h.roots.length mr,.slice aw h.aA.length mw,.slice ad h.done.length md] 56).alloc<|Θ #[(),(),(),()] 56).alloc<|Θ #[Ξ Δ 0] 34):=((af w _).alloc (by simp) _).alloc (by simp;omega) _;have hz3:(((w.alloc<|Θ #[.slice ac h.cells.length mc,.slice ar h.roots.length mr,.slice aw h.aA.length mw,.slice ad h.done.length md] 56).alloc<|Θ #[(),(),(),()] 56).alloc<|Θ #[Ξ Δ 0] 34).heap.size=w.heap.size+1+1+1:=by simp
 have x1:(((w.alloc<|Θ #[.slice ac h.cells.length mc,.slice ar h.roots.length mr,.slice aw h.aA.length mw,.slice ad h.done.length md] 56).alloc<|Θ #[(),(),(),()] 56).alloc<|Θ #[Ξ Δ 0] 34).heap[w.heap.size+1]?=U (Θ #[(),(),(),()] 56 (0,0)):=by rw[Zh _ _ _ (by simp)];have:=Z9 (w.alloc<|Θ #[.slice ac h.cells.length mc,.slice ar h.roots.length mr,.slice aw h.aA.length mw,.slice ad h.done.length md] 56)<|Θ #[(),(),(),()] 56;simpa using this
 have x2:(((w.alloc<|Θ #[.slice ac h.cells.length mc,.slice ar h.roots.length mr,.slice aw h.aA.length mw,.slice ad h.done.length md] 56).alloc<|Θ #[(),(),(),()] 56).alloc<|Θ #[Ξ Δ 0] 34).heap[w.heap.size+1+1]?=U (Θ #[Ξ Δ 0] 34 (0,0)):=by have:=Z9 ((w.alloc<|Θ #[.slice ac h.cells.length mc,.slice ar h.roots.length mr,.slice aw h.aA.length mw,.slice ad h.done.length md] 56).alloc<|Θ #[(),(),(),()] 56)<|Θ #[Ξ Δ 0] 34;simpa using this
 generalize ((w.alloc _).alloc _).alloc _=A at L hz3 x1 x2⊢;have HX:=V<|R x1 x2;clear x1 x2;refine(PY _ _ h (HV.out.below L) HK.out).mono ?_;rintro e w4 ⟨⟨b,rfl,T⟩,hb4⟩;have Xh:=V T;clear T
 go_wp2_with fail
 refine(BZ w4 A b h Xh.out hb4.size HO.out).mono ?_;rintro e w5 ⟨rfl,⟨c5,vw5,vd5,r5,z,Oz,u,F,O,P,W,K,-⟩,hb5⟩;have a:=hb4.trans hb5;have hcr:(lu h).roots=h.roots:=rfl;obtain⟨N,G,rfl,_⟩:=aF P;obtain⟨o,t,rfl,_⟩:=aF K;obtain⟨q,l,rfl,_⟩:=aF F;obtain⟨s,m,rfl,_⟩:=aF O;generalize hH:lu h=H at F O P W K hcr⊢;have hl5:z.length=z.length:=rfl;have HP5:=V<|R P<|R W<|R K<|R F O;have g0:w5 b=U (.slice N z.length G):=by simp[Y,u]
 have g1:w5 (b,1)=U (.slice o H.roots.length t):=by simp[Y,u,hH]
 have g2:w5 (b,2)=U (.slice q H.aA.length l):=by simp[Y,u,hH]
 have g3:w5 (b,3)=U (.slice s H.done.length m):=by simp[Y,u,hH]
 have HH:=V hH;clear hH hcr hl5;have D:=(a.block (w.heap.size+1)<|by omega).trans HX.out.1;have y2:=(a.block (w.heap.size+1+1)<|by omega).trans HX.out.2;have HY:=V<|R D y2;have z0:w5 (w.heap.size+1:Nat)=U ():=by simp[Y,D]
 have z1:w5 (w.heap.size+1,1)=U ():=by simp[Y,D]
 have z2:w5 (w.heap.size+1,2)=U ():=by simp[Y,D]
 have z3:w5 (w.heap.size+1,3)=U ():=by simp[Y,D]
 have ze:w5 (w.heap.size+1+1:Nat)=U (Ξ Δ 0):=by simp[Y,y2]
 have f0:w5.frozen? (w.heap.size+1:Nat)=η:=by simp[ξ,D]
 have f1:w5.frozen? (w.heap.size+1,1)=η:=by simp[ξ,D]
 have f2:w5.frozen? (w.heap.size+1,2)=η:=by simp[ξ,D]
 have f3:w5.frozen? (w.heap.size+1,3)=η:=by simp[ξ,D]
 have fe:w5.frozen? (w.heap.size+1+1:Nat)=η:=by simp[ξ,y2]
 have HB:=V<|R L<|R a<|R hz3 Oz;clear L hb4 hb5 a D y2 F O P W K u Oz
 go_wp2_with fail
 have e6:=aB (aB (aB (aB HY.out.1 0<|.slice N z.length G) 1<|.slice o H.roots.length t) 2<|.slice q H.aA.length l) 3<|.slice s H.done.length m;have e7:((((w5.setCell (w.heap.size+1:Nat)<|.slice N z.length G).setCell (w.heap.size+1,1)<|.slice o H.roots.length t).setCell (w.heap.size+1,2)<|.slice q H.aA.length l).setCell (w.heap.size+1,3)<|.slice s H.done.length m).heap[w.heap.size+1+1]?=U (Θ #[Ξ Δ 0] 34 (0,0)):=by rw[aa (by omega),aa<|by omega,aa<|by omega,aa<|by omega];exact HY.out.2
 have C:∀k,A.heap.size<=k->((((w5.setCell (w.heap.size+1:Nat)<|.slice N z.length G).setCell (w.heap.size+1,1)<|.slice o H.roots.length t).setCell (w.heap.size+1,2)<|.slice q H.aA.length l).setCell (w.heap.size+1,3)<|.slice s H.done.length m).heap[k]?=w5.heap[k]?:=λk X=>by rw[aa (by omega),aa<|by omega,aa<|by omega,aa<|by omega]
 have hb6:Z w w5 ((((w5.setCell (w.heap.size+1:Nat)<|.slice N z.length G).setCell (w.heap.size+1,1)<|.slice o H.roots.length t).setCell (w.heap.size+1,2)<|.slice q H.aA.length l).setCell (w.heap.size+1,3)<|.slice s H.done.length m):=((((ψ w w5).setCell (p:=⟨w.heap.size+1,0,I⟩) (by simp) _).setCell (p:=⟨w.heap.size+1,1,I⟩) (by simp) _).setCell (p:=⟨w.heap.size+1,2,I⟩) (by simp) _).setCell (p:=⟨w.heap.size+1,3,I⟩) (by simp) _
 generalize ((((w5.setCell (w.heap.size+1:Nat)<|.slice N z.length G).setCell (w.heap.size+1,1)<|.slice o H.roots.length t).setCell (w.heap.size+1,2)<|.slice q H.aA.length l).setCell (w.heap.size+1,3)<|.slice s H.done.length m)=w6 at e6 e7 hb6 C⊢;have k2:(w6.setCell (w.heap.size+1+1:Nat)<|Ξ Δ 0).heap[w.heap.size+1+1]?=U (Θ #[Ξ Δ 0] 34 (0,0)):=by rw[aB e7];rfl
 have k1:(w6.setCell (w.heap.size+1+1:Nat)<|Ξ Δ 0).heap[w.heap.size+1]?=U (Θ #[.slice N z.length G,.slice o H.roots.length t,.slice q H.aA.length l,.slice s H.done.length m] 56 (0,0)):=by rw[aa (by omega),e6];rfl
 have Q:=hb6.setCell (p:=⟨w.heap.size+1+1,0,I⟩) (by simp;omega)<|Ξ Δ 0;have B:∀k,A.heap.size<=k->(w6.setCell (w.heap.size+1+1:Nat)<|Ξ Δ 0).heap[k]?=w5.heap[k]?:=λk X=>by rw[aa (by omega)];exact C k X
 generalize (w6.setCell (w.heap.size+1+1:Nat)<|Ξ Δ 0)=w7 at k1 k2 Q B⊢;clear e6 e7 hb6 C;refine leaves_cons (f:=124) (args:=#[.pointer (w.heap.size+1+1:Nat)]) (by simp) (by simp[go_sem]) ?_;refine(Ae (w.heap.size+1+1:Nat) (Ξ Δ 0) _ (by simp[Y,k2])<|by simp[ξ,k2]).mono ?_;rintro e u' w'' ⟨rfl,rfl,w9,J,rfl⟩;have hl1:=(Ω.1 k1).1;have hl2:=(Ω.1 k2).1;have n2:=(J.block _ hl2).trans k2;have n1:=(J.block _ hl1).trans k1;have m2:(w9.setCell (w.heap.size+1+1:Nat)<|Ξ Δ 0).heap[w.heap.size+1+1]?=U (Θ #[Ξ Δ 0] 34 (0,0)):=by rw[aB n2];rfl
 have m1:(w9.setCell (w.heap.size+1+1:Nat)<|Ξ Δ 0).heap[w.heap.size+1]?=U (Θ #[.slice N z.length G,.slice o H.roots.length t,.slice q H.aA.length l,.slice s H.done.length m] 56 (0,0)):=by rw[aa (by omega)];exact n1
 have a:=HB.out.2.1;have hw5:w.heap.size<=w7:=by have:=a.size;have:=Q.size;omega
 have hb8:=J.mono hw5;have S:=(Q.trans hb8).setCell (p:=⟨w.heap.size+1+1,0,I⟩) (by simp;omega)<|Ξ Δ 0;have y:∀k,A.heap.size<=k->k<w5->(w9.setCell (w.heap.size+1+1:Nat)<|Ξ Δ 0).heap[k]?=w5.heap[k]?:=λk X hk2=>by rw[aa (by omega),J.block k (by have:=Q.size;omega)];exact B k X
 generalize (w9.setCell (w.heap.size+1+1:Nat)<|Ξ Δ 0)=j at m1 m2 S y⊢;have r0:j (w.heap.size+1:Nat)=U (.slice N z.length G):=by simp[Y,m1]
 have r1:j (w.heap.size+1,1)=U (.slice o H.roots.length t):=by simp[Y,m1]
 have r2:j (w.heap.size+1,2)=U (.slice q H.aA.length l):=by simp[Y,m1]
 have r3:j (w.heap.size+1,3)=U (.slice s H.done.length m):=by simp[Y,m1]
 have r4:j (w.heap.size+1+1:Nat)=U (Ξ Δ 0):=by simp[Y,m2]
 simp[Leaves,settle,ZI,results64,go_sem,r0,r1,r2,r3,r4];obtain⟨p53,E,p55,q1,q2⟩:=HP5.out;have wl:∀{e:ZR} {size n:Nat} {v:θ} {xs:List θ},w5.ownsRow A e size v n xs->j.ownsRow A e size v n xs:=λho=>aS ho λg hg=>by obtain⟨h1,h2⟩:=ho.lt g hg;exact y g h1 h2
 have t53:OC j A _ z:=wl p53;have t54:df j A z _:=⟨E.1,λi k x k' vs e1 e2=>⟨(E.2.1 i k x k' vs e1 e2).1,wl (E.2.1 i k x k' vs e1 e2).2⟩,E.2.2⟩;have t55:OV j A _ H.roots:=wl p55;have t51:OI j A _ H.aA:=wl q1;have t52:OI j A _ H.done:=wl q2;rw[HH.out];exact⟨⟨_,_,_,_,rfl,t53.reads t54.hold,t55.reads,t51.reads,t52.reads⟩,HB.out.1.trans<|(a.mono HB.out.1.size).trans S⟩
end
section
variable{w:Z8}
structure Jn(g:GH):Prop where
 small:Small g
 XI:Xh (plain g)
 afA:Kq (plain g)
 res:I' (Md.lu (plain g))
def RC.less{B B' v l}(h:RC w B v l)(d:B'<=B):RC w B' v l:=by
 obtain⟨a,m,rfl,b,c,h3,h⟩:=h;refine⟨a,m,rfl,b,c,h3,λh0=>?_⟩
 grind
def dm.less{w B B' b g}(h:dm w B b g)(a:B'<=B):dm w B' b g:=by obtain⟨n,o,m,row,c,hb,f,e,h3,h4⟩:=h;exact⟨n,o,m,row,Nat.le_trans a c,hb,f.less a,e.less a,eV h3 a,λk d=>eV (h4.1 k d) a,h4.2⟩
def dm.Jo{B b g}(h:dm w B b g):∃a m,w (b,1)=U (.slice a g.old.length m):=by obtain⟨n,o,m,row,i,hb,f,⟨d,e,c,_⟩,_⟩:=h;rw[aT]at c;refine⟨d,e,?_⟩;rw[<-c];simp[Y,hb]
def tH.form{v h}(f:tH w v h):∃a mc ar e aw b ad md,v=.agg #[.slice a h.cells.length mc,.slice ar h.roots.length e,.slice aw h.aA.length b,.slice ad h.done.length md]:=by obtain⟨c,r,g,d,rfl,⟨a,mc,rfl,_⟩,⟨ar,e,rfl,_⟩,⟨aw,b,rfl,_⟩,⟨ad,md,rfl,_⟩⟩:=f;exact⟨_,_,_,_,_,_,_,_,rfl⟩
def OD(w B b g)(u:dm w B b g)(hs:Jn g):
 ZV prog 190 #[.pointer b] w λe w'=>(∃Q,e=.returned (.pointer (Q:Nat))/\dm w' w Q (Md.iF g))/\Z w w w':=by
 have X:=V u;have v:=V hs;obtain⟨hBb,z,_⟩:=u.obj;obtain⟨ao,W,q⟩:=u.Jo;have C:g.old.length<=1000000:=by have:=hs.small.bw;omega
 have K:((0:Int) !=0)=η:=rfl;clear u hs
 go_enter (fU func190 rfl),ntmps190
 go_wp2_with fail
 refine(DB _ b g X.out.reads v.out.small).mono ?_;rintro e w1 ⟨⟨r1,rfl,N⟩,n⟩;have P:=V N;clear N
 go_wp2_with fail
 refine(Rk _ r1 (plain g) P.out v.out.XI v.out.afA).mono ?_;rintro e d ⟨⟨r2,rfl,A⟩,h⟩;have l:=n.trans<|h.mono n.size;have F:=V A;obtain⟨j,mc,ar,m,aw,k,ad,i,rfl⟩:=A.form;clear A n h P;generalize S:Md.lu (plain g)=a at F⊢;have T:=V S;clear S
 go_wp2_with fail
 ((with_reducible refine(cd _ _).mono ?_))
 rintro e w' ⟨rfl,rfl⟩
 go_wp2_with fail
 have o:=af d<|Θ #[.slice j a.cells.length mc,.slice ar a.roots.length m,.slice aw a.aA.length k,.slice ad a.done.length i] 56;have t:(d.alloc<|Θ #[.slice j a.cells.length mc,.slice ar a.roots.length m,.slice aw a.aA.length k,.slice ad a.done.length i] 56) d.heap.size=U (.slice j a.cells.length mc):=by go_simp
 have q1:(d.alloc<|Θ #[.slice j a.cells.length mc,.slice ar a.roots.length m,.slice aw a.aA.length k,.slice ad a.done.length i] 56) (d.heap.size,1)=U (.slice ar a.roots.length m):=by go_simp
 have H:(d.alloc<|Θ #[.slice j a.cells.length mc,.slice ar a.roots.length m,.slice aw a.aA.length k,.slice ad a.done.length i] 56) (d.heap.size,2)=U (.slice aw a.aA.length k):=by go_simp
 have D:(d.alloc<|Θ #[.slice j a.cells.length mc,.slice ar a.roots.length m,.slice aw a.aA.length k,.slice ad a.done.length i] 56) (d.heap.size,3)=U (.slice ad a.done.length i):=by go_simp
 have c:=l.trans<|o.mono l.size;have L:=V<|F.out.below o;generalize d.alloc _=J at t q1 H D c L⊢;have O:=cG c q z;clear F l o q;generalize d.heap.size=y at t q1 H D⊢;have f:=az t
 go_region_held3 (λx=>x y=U (.slice j a.cells.length mc)/\x (y,1)=U (.slice ar a.roots.length m)/\x (y,2)=U (.slice aw a.aA.length k)/\x (y,3)=U (.slice ad a.done.length i)/\x (b,1)=U (.slice ao g.old.length W))
  ((refine⟨?_,?_,?_,?_,?_⟩<;>(repeat (first|with_reducible assumption|with_reducible refine dO ?_))))
  ((go_at_call 226;(with_reducible refine(On _ _ a g.old.length (L.out.below (ψ _ _).drew) (T.out▸v.out.res) C).mono ?_);rintro e w5 ⟨⟨b5,rfl,r⟩,s⟩;have G:=V r;clear r;have E:Z w w w5:=c.trans<|((ψ _ _).drew.trans s).mono c.size;have p:Z J J w5:=(ψ _ _).drew.trans s;have p0:=cG p t f;have p1:=cG p q1 f;have p2:=cG p H f;have p3:=cG p D f;have p4:=cG p O<|az O))
 go_wp2_with fail
 go_ret;refine⟨⟨b5,rfl,?_⟩,E⟩;have:=G.out.less c.size;rw[<-T.out]at this;exact this
end
def cR.less{w B B' b g J}(h:cR w B b g J)(a:B'<=B):cR w B' b g J:=by obtain⟨n,o,m,row,c,hb,f,e,h3,h4,h5⟩:=h;exact⟨n,o,m,row,Nat.le_trans a c,hb,f.less a,e.less a,eV h3 a,⟨λk d=>eV (h4.1 k d) a,h4.2⟩,h5⟩
def dm.six{w B b g c}(h:dm w B b g)(hc:w.heap[b]?=U (.cells c 114 (0,0))):c.size=6:=by
 obtain⟨n,o,m,row,a,hb,_⟩:=h;rw[hb]at hc;cases hc
 rfl
def Wp{w:Z8}{b:Nat}{c}(h:w.heap[b]?=U (.cells c 114 (0,0)))(hc:c.size=6):∃a e g f x4 i,w b=U a/\w (b,1)=U e/\w (b,2)=U g/\w (b,3)=U f/\w (b,4)=U x4/\w (b,5)=U i:=by
 obtain⟨l⟩:=c;have d:=hc;obtain _|⟨a,_|⟨e,_|⟨g,_|⟨f,_|⟨x4,_|⟨i,_|⟨x6,l⟩⟩⟩⟩⟩⟩⟩:=l
 all_goals first
  |(exfalso;simp at d;done)
  |exact⟨a,e,g,f,x4,i,by simp[Y,h],by simp[Y,h],by simp[Y,h],by simp[Y,h],by simp[Y,h],by simp[Y,h]⟩
def sP(w:Z8)(B b g){J:Nat->Prop}(hJ:∀j,J j->j<w)(hg:cR w B b g J)(X:Jn g)(hp:im (Md.iF g))(hB:B<=w):
 ZV prog 144 #[.pointer b,.iface 120<|.agg #[]] w (cq J B b g .major w):=by
 have S:=V hg;have r:=V hp;have HW:=V X;obtain⟨aiC,H,c0',s⟩:=hg.own.obj;have hbx:=H;have K:=V s;clear hg hp X s;have hta:=IW;have hmp:=IZ
 go_enter (fU func144 rfl),ntmps144
 go_wp2_with fail
 clear hta;have q:=af w<|Θ #[] 120;refine(OD _ B b g (S.out.own.below q) HW.out).mono ?_;rintro e w2 ⟨⟨u,rfl,l⟩,N⟩;have arY:=l.obj.1;replace l:=l.less q.size;have T:=V l;have z:=q.trans<|N.mono q.size;clear l N
 go_wp2_with fail
 clear hmp;refine(zP _ w u (Md.iF g) T.out r.out).mono ?_;rintro e w3 ⟨⟨bs,bm,so,rfl,hs⟩,O⟩;have arZ:=hs.1;obtain⟨order,h⟩:∃o,o=bV (Md.iF g) co []:=⟨_,rfl⟩;rw[<-h]at hs;have y:c9 (Md.iF g) co order:=by rw[h];exact c9.bV (.inr rfl) r.out.cells r.out.cJ (λv hv=>by cases hv)
 have a:=z.trans<|O.mono z.size;obtain⟨G,Q,hso,hsm,aar,_⟩:=aF hs.2.2.2.1;have P:w3 bs=U (.slice G order.length Q):=by simp[Y,hs.2.2.1,hso]
 have hol:=y.len;have hn1:=r.out.news;have hn2:=r.out.bw;have HO:=V h;have HK:=V y;have HS:=V hs;have L:=(cR.wC (J:=J) T.out hJ).below O;have HG3:=V L;clear h y hs hso L;by_cases x:32<order.length
 ·have A:(32:Int)<(order.length:Int):=by omega
  go_wp2_with fail
  go_ret2
  have hm:Md.collect .major g=I:=by rw[mI,<-HO.out,if_pos x]
  unfold cq;rw[hm];exact⟨rfl,S.out.below a,a.mono hB,qb.bK a,λj _ n=>a.block j n⟩
 ·have A:¬(32:Int)<(order.length:Int):=by omega
  go_wp2_with fail
  refine(BM w3 w u _ bs bm so (Md.iF g) co order 0 HG3.out HS.out HK.out (.inr rfl) a.size (by omega) (λc hc=>by have:=r.out.eT c hc;omega) (by have:=r.out.roots;omega) (by have:=r.out.aA;omega) (by have:=r.out.done;omega)).mono ?_;rintro e w4 ⟨rfl,hg4,E,F,hfr,W⟩;have hcs:w4 bs=U (.slice G order.length Q):=by have:=P;simp only[Y]at this⊢;rw[F];exact this
  have t:=a.trans E;have m:=(t.block b hbx).trans K.out;have f:=aiC;obtain⟨a0,n0,m0,a1,n1,m1,a2,n2,m2,a3,n3,m3,a4,n4,m4,a5,n5,m5,C,k⟩:=(hg4.less hB).copy (λj hj=>S.out.ne hj) m f;have e0:w4 u=U (.slice a0 n0 m0):=by simp[Y,C]
  have e1:w4 (u,1)=U (.slice a1 n1 m1):=by simp[Y,C]
  have e2:w4 (u,2)=U (.slice a2 n2 m2):=by simp[Y,C]
  have e3:w4 (u,3)=U (.slice a3 n3 m3):=by simp[Y,C]
  have e4:w4 (u,4)=U (.slice a4 n4 m4):=by simp[Y,C]
  have e5:w4 (u,5)=U (.slice a5 n5 m5):=by simp[Y,C]
  have d:∀i,w4.frozen? ⟨b,i,I⟩=η:=λi=>by simp[ξ,m]
  have D:=S.out.own.six K.out;obtain⟨x0,x1,x2,x3,x4,x5,y0,y1,y2,y3,y4,y5⟩:=Wp m D;have f0:=d 0;have f1:=d 1;have f2:=d 2;have f3:=d 3;have f4:=d 4;have f5:=d 5;have hne:bs≠b:=by have:=z.size;omega
  have HC:=V k;have HFR:=V<|(qb.bK a).trans hfr;have WN:=V W;clear hfr W;have H2:=V<|R m D;have H4:=V E;clear d k C m D t hg4 E F P
  go_wp2_with fail
  go_ret2
  obtain⟨k1,k2⟩:=wD (v0:=.slice a0 n0 m0) (v1:=.slice a1 n1 m1) (v2:=.slice a2 n2 m2) (v3:=.slice a3 n3 m3) (v4:=.slice a4 n4 m4) (v5:=.slice a5 n5 m5) H2.out.1 H2.out.2;have hm:Md.collect .major g=U (order.length,Md.move (Md.iF g) order 0):=by rw[mI,<-HO.out,if_neg x]
  unfold cq;rw[hm];exact⟨rfl,HC.out _ k1 k2,(a.mono hB).trans<|((((((H4.out.mono hB).setCell (p:=⟨b,0,I⟩) f _).setCell (p:=⟨b,1,I⟩) f _).setCell (p:=⟨b,2,I⟩) f _).setCell (p:=⟨b,3,I⟩) f _).setCell (p:=⟨b,4,I⟩) f _).setCell (p:=⟨b,5,I⟩) f _,HFR.out.trans<|qb.IT H2.out.1 k2,λj hj n=>(k2 j<|S.out.ne hj).trans<|(WN.out j hj<|Nat.lt_of_lt_of_le n a.size).trans<|a.block j n⟩
section
section
variable{g:GH}(h:VG g)
include h
def Rl{n:Nat}{c}(hc:(plain g).cells[n]?=U c):c.1≠3:=by
 obtain⟨d,hd,rfl⟩:=Ψ.1<|Z1 hc;have a:d∈g.new++g.old:=by simp at hd⊢;exact hd.symm
 have:=(h.cells d a).1;show d.1≠3;omega
def Kz{v}(d:zH g v):Ik (plain g) (cp g.old.length v).2=0:=by
 have f:=G7 g;have b:0<=(cp g.old.length v).2/\(cp g.old.length v).2<((plain g).cells.length:Int):=by
  unfold cp;obtain⟨c,e,h3⟩|⟨c,e,h3⟩:=d
  rw[if_pos c];dsimp only;omega
  grind
 generalize (cp g.old.length v).2=n at b;obtain⟨k,rfl⟩:=Z3 b.1;have a:k<(plain g).cells.length:=by omega
 unfold Ik;rw[if_neg (by omega),if_neg<|by simpa[ZS,a]using (Rl h<|ο a)]
def PD{v}(a:ta g v):uI (plain g) (cp g.old.length v)=0:=by
 obtain a|a:=a
 have e:cp g.old.length v=v:=by unfold cp;rw[if_neg (by obtain h|h:=a<;>omega),if_neg (by obtain h|h:=a<;>omega)]
 rw[e];unfold uI;obtain⟨b,c,h3⟩|⟨b,c⟩:=a
 rw[if_pos b,if_neg<|by omega];omega;have e1:(cp g.old.length v).1=1:=by unfold cp;obtain a|a:=a<;>simp[a.1]
 unfold uI;rw[if_neg (by omega),if_pos e1];exact Kz h a
omit h in
def KE{l:List HV}(d:∀v∈l,zH g v)(h:l.Nodup):((l.map<|cp g.old.length).map (·.2)).Nodup:=by rw[Z0,List.Nodup,Zj];exact h.imp_of_mem λ{a b} f hb c e=>c<|OO (d a f) (d b hb) e
def PF(f:g.old.length+g.new.length<=40):Xh (plain g) where
 kinds:=λc hc=>by obtain⟨d,hd,rfl⟩:=Ψ.1 hc;have:=(h.cells d (by simp at hd⊢;exact hd.symm)).1;simp[Bz];omega
 eT:=λc hc v a=>by obtain⟨d,hd,rfl⟩:=Ψ.1 hc;obtain⟨u,b,rfl⟩:=Ψ.1 a;exact PD h<|(h.cells d (by simp at hd⊢;exact hd.symm)).2 u b
 many:=by rw[G7];exact f
 four:=by simpa[plain]using h.four
 roots:=λv a=>by obtain⟨u,b,rfl⟩:=Ψ.1 a;exact PD h<|h.roots u b
 aA:=λn e=>by obtain⟨v,a,rfl⟩:=Ψ.1 e;obtain⟨u,b,rfl⟩:=Ψ.1 a;exact Kz h<|h.aA.cells u b
 Ko:=KE h.aA.cells h.aA.nodup
 NG:=by have:=h.aA.wW;simpa[plain]using this
 done:=λn e=>by obtain⟨v,a,rfl⟩:=Ψ.1 e;obtain⟨u,b,rfl⟩:=Ψ.1 a;exact Kz h<|h.done.cells u b
 Pq:=KE h.done.cells h.done.nodup
 Pz:=by have:=h.done.wW;simpa[plain]using this
end
end
end Kn
namespace Md
section
section
variable{h:PH}(hw:WP h)
include hw
def B3{n}(a:n∈alive (b' h)):cellP (lu h) n=cellP (b' h) n:=by
 have b:=(pO<|lE hw).2.1 n a;have:=b.1;have c:=b.2;unfold cellP;rw[ir];dsimp only;rw[ZS,ZE,ZS,List.getElem?_zipIdx,ο<|by omega];have e:((n.toNat:Nat):Int)=n:=by omega
 simp[e,a]
def XF{n}(a:n∈(lu h).aA):n∈alive (b' h):=C6 hw<|ζ.1 (υ.1 a).2
def RK{v}(a:v∈VX (lu h)):v.2∈alive (b' h):=(pO<|lE hw).1.VX v a
end
def yB{h v}:v∈VX h↔(v∈h.roots/\v.1=1)\/∃n∈h.done,v=(1,n):=by
 unfold VX;rw[Γ,υ,Ψ]
 grind
end
section
def Ke(h:PH)(v:HV):Prop:=aaM v\/(v.1=1/\BJ h v.2)
def zY(c:HC):Prop:=(c.1=0/\c.2.length<=4)\/(c.1=1/\c.2.length=1)\/(c.1=2/\c.2.length=2)\/(c.1=3/\c.2=[])
structure GP(h:PH):Prop where
 shape:∀c∈h.cells,zY c
 cells:∀c∈h.cells,∀v∈c.2,Ke h v
 roots:∀v∈h.roots,Ke h v
 aA:∀n∈h.aA,BJ h n
 done:∀n∈h.done,BJ h n
def Ke.ref{h v}(a:Ke h v)(b:v.1=1):BJ h v.2:=by
 obtain a|a:=a
 exact absurd b (EB (o:=0) a).2.1;exact a.2
def GP.wp{h}(a:GP h):WP h:=⟨λc hc=>by have:=a.shape c hc;unfold zY at this;grind,λc hc v b d=>(a.cells c hc v b).ref d,λv b d=>(a.roots v b).ref d,a.aA,a.done⟩
def OT{g v}(b:zH g v):BJ (plain g) (pn g v):=by unfold BJ;rw[G7];unfold pn cp;obtain⟨a,c,h3⟩|⟨a,c,h3⟩:=b<;>simp[a]<;>omega
def O3{g v}(a:ta g v):Ke (plain g) (cp g.old.length v):=by
 obtain a|a:=a
 rw[(EB a).1];exact .inl a;rw[k7 a];exact .inr ⟨rfl,OT a⟩
def O4{g}{l:List HV}(c:∀v∈l,zH g v):∀n∈(l.map<|cp g.old.length).map (·.2),BJ (plain g) n:=λn a=>by rw[Z0]at a;obtain⟨v,b,rfl⟩:=Ψ.1 a;exact OT<|c v b
def afT{g:GH}(h:WG g)(hs:∀c∈(plain g).cells,zY c):GP (plain g) where
 shape:=hs
 cells:=λc hc v a=>by obtain⟨d,hd,rfl⟩:=Ψ.1 hc;obtain⟨x,b,rfl⟩:=Ψ.1 a;exact O3<|h.cells d (Γ.2 (Γ.1 hd).symm) x b
 roots:=λv a=>by obtain⟨x,b,rfl⟩:=Ψ.1 a;exact O3<|h.roots x b
 aA:=O4 h.aA
 done:=O4 h.done
def eC{g}(h:VG g):GP (plain g):=afT h.wg λc hc=>by obtain⟨d,hd,rfl⟩:=Ψ.1 hc;have:=(h.cells d<|Γ.2 (Γ.1 hd).symm).1;unfold zY Bz;simp only[ZY];omega
def qP{h}(f:GP h):GP (lu h):=by
 have j:∀{v},Ke h v->Ke (lu h) v:=λj=>j.imp_right λ⟨m,l⟩=>⟨m,sT.2 l⟩;have hc:∀c∈(lu h).cells,(c=(3,[]))\/∃d∈h.cells,c=B7 (alive h) d:=λc hc=>by
  obtain⟨⟨d,i⟩,hd,rfl⟩:=Ψ.1 hc;dsimp only;split
  obtain⟨e,k,hd⟩:=Ψ.1 (show d∈(b' h).cells by have:=(List.mem_zipIdx hd).2.2;rw[this];exact List.getElem_mem _);exact .inr ⟨e,k,hd.symm⟩;exact .inl rfl
 refine⟨λc g=>?_,λc g v a=>?_,λv g=>j<|f.roots v g,λn b=>sT.2<|f.aA n (υ.1 b).1,λn b=>?_⟩;obtain rfl|⟨d,hd,rfl⟩:=hc c g
 ·exact .inr<|.inr<|.inr ⟨rfl,rfl⟩
 have:=f.shape d hd;unfold zY B7 at *;split<;>simp_all
 obtain rfl|⟨d,hd,rfl⟩:=hc c g
 ·cases a
 unfold B7 at a;split at a
 obtain⟨x,_,rfl⟩:=Ψ.1 a;exact .inl<|.inr ⟨rfl,rfl⟩;exact j<|f.cells d hd v a
 ·obtain b|b:=Γ.1 b
  ·exact sT.2<|f.done n b
  exact sT.2<|f.aA n (υ.1 b).1
section
variable{h:PH}{n:Nat}
def adr(a:n<=h.cells.length):(Ij h n).old.length=n:=by simp[Ij];omega
def afn(a:n<=h.cells.length):(Ij h n).new.length=h.cells.length-n:=by simp[Ij]
def E6(b:n<=h.cells.length){v}(c:v.1=1)(a:BJ h v.2):zH (Ij h n) (ed n v):=by unfold ed zH;rw[adr b,afn b,if_pos c];have:=a.1;have:=a.2;split<;>simp<;>omega
def Kg(b:n<=h.cells.length){v}(a:Ke h v):ta (Ij h n) (ed n v):=by
 obtain a|⟨hk,a⟩:=a
 have:ed n v=v:=by simp[ed,(EB (o:=0) a).2.1]
 rw[this];exact .inl a;exact .inr<|E6 b hk a
def B5{v}(c:Ke h v):cp n (ed n v)=v:=by obtain⟨a,b⟩:=v;unfold cp ed;obtain(c|c)|c:=c<;>dsimp only at c⊢<;>obtain⟨rfl,c⟩:=c<;>simp<;>grind
def afX(e:GP h)(f:n<=h.cells.length):WG (Ij h n) where
 cells:=λc hc v a=>by
  have:∃d∈h.cells,c=qO n d:=by
   obtain hc|hc:=Γ.1 hc
   obtain⟨d,hd,rfl⟩:=Ψ.1 hc;exact⟨d,List.mem_of_mem_drop hd,rfl⟩;obtain⟨d,hd,rfl⟩:=Ψ.1 hc;exact⟨d,List.mem_of_mem_take hd,rfl⟩
  obtain⟨d,hd,rfl⟩:=this;obtain⟨x,b,rfl⟩:=Ψ.1 a;exact Kg f<|e.cells d hd x b
 roots:=λv a=>by obtain⟨x,b,rfl⟩:=Ψ.1 a;exact Kg f<|e.roots x b
 aA:=λv a=>by obtain⟨x,b,rfl⟩:=Ψ.1 a;obtain⟨m,g,rfl⟩:=Ψ.1 b;exact E6 f rfl<|e.aA m g
 done:=λv a=>by obtain⟨x,b,rfl⟩:=Ψ.1 a;obtain⟨m,g,rfl⟩:=Ψ.1 b;exact E6 f rfl<|e.done m g
def aei(b:GP h)(o:n<=h.cells.length):plain (Ij h n)=h:=by
 have f:∀l:List HV,(∀v∈l,Ke h v) ->(l.map<|ed n).map (cp n)=l:=λl a=>by rw[Z0];exact(ZH λv e=>B5<|a v e).trans<|Zr l
 have g:∀l:List Int,(∀m∈l,BJ h m) ->(((l.map λm=>((1,m):HV)).map<|ed n).map<|cp n).map (·.2)=l:=λl a=>by rw[f _ λv e=>by obtain⟨m,i,rfl⟩:=Ψ.1 e;exact .inr ⟨rfl,a m i⟩,Z0];exact(ZH λv e=>rfl).trans<|Zr l
 have k:∀l:List HC,(∀c∈l,c∈h.cells) ->(l.map<|qO n).map (Bz n)=l:=λl a=>by rw[Z0];refine(ZH λc hc=>?_).trans<|Zr l;show(c.1,(c.2.map _).map _)=c;rw[f c.2 (b.cells c<|a c hc)]
 have a:=adr o;unfold plain;rw[a];obtain⟨c,r,j,d⟩:=h;rw[PH.mk.injEq];refine⟨?_,f r b.roots,g j b.aA,g d b.done⟩;show((c.take n).map _++(c.drop n).map _).map _=c;rw[<-ZU,List.take_append_drop];exact k c λ_ hc=>hc
end
def vm(g:GH):GH:=Al<|Md.iF g
section
variable{g:GH}(h:VG g)
include h
omit h in
def zi{k}:(lu k).cells.length=k.cells.length:=by simp[ir,b']
omit h in
def afo:g.old.length<=(lu<|plain g).cells.length:=by rw[zi,G7];omega
def yY:WG (Md.iF g):=afX (qP<|eC h) afo
def tf:plain (Md.iF g)=lu (plain g):=aei (qP<|eC h) afo
def Pg{v}(a:v∈aq (Md.iF g)):pn (Md.iF g) v∈alive (b'<|plain g):=by
 have hs:=yY h;have c:=tf h;have hw:=(eC h).wp;have b:∀v∈cJ (Md.iF g),co v=ZM->zH (Md.iF g) v/\pn (Md.iF g) v∈alive (b'<|plain g):=λv a hc=>by
  have hi:zH (Md.iF g) v:=(hs.cJ v a).VQ hc;refine⟨hi,?_⟩;obtain a|a:=Γ.1 a
  have:cp (Md.iF g).old.length v∈VX (plain<|Md.iF g):=by
   rw[yB];obtain a|a:=Γ.1 a
   exact .inl ⟨Ψ.2 ⟨v,a,rfl⟩,by rw[k7 hi]⟩;exact .inr ⟨pn _ v,Ψ.2 ⟨_,Ψ.2 ⟨v,a,rfl⟩,rfl⟩,k7 hi⟩
  rw[c]at this;exact RK hw this
  ·have:pn (Md.iF g) v∈(plain<|Md.iF g).aA:=Ψ.2 ⟨_,Ψ.2 ⟨v,a,rfl⟩,rfl⟩;rw[c]at this;exact XF hw this
 refine(PA (M:=λv=>zH (Md.iF g) v/\pn (Md.iF g) v∈alive (b'<|plain g)) (λv ⟨i,f⟩ x j hc=>?_) b (λv a=>by cases a) v a).2;have k:=hs.cells _ (j9 i) x j;have hi:=k.VQ hc;refine⟨hi,?_⟩;have e:cellP (plain<|Md.iF g) (pn (Md.iF g) v)=Bz (Md.iF g).old.length (cellAt (Md.iF g) v):=J2 i;rw[c,B3 hw f]at e;have d:cp (Md.iF g).old.length x∈(cellP (b'<|plain g)<|pn (Md.iF g) v).2:=by rw[e];exact Ψ.2 ⟨x,j,rfl⟩
 rw[k7 hi]at d;exact(aee hw f d rfl).1
end
def aam{h}{n:Nat}{u v}(b:Ke h u)(a:Ke h v)(e:ed n u=ed n v):u=v:=by rw[<-B5 (n:=n) b,e,B5 a]
def B8{s:GH}(hs:WG s){l:List HV}(d:∀v∈l,v∈Md.cJ s)(hi:∀v∈l,zH s v)(k:l.Nodup)(i:l.length<=40):Oi (Al s) (l.map<|lr (aq s) 0) where
 nodup:=Ki k λa f b hb e=>by have h:=bp (d a f) (hi a f).cell;have g:=bp (d b hb) (hi b hb).cell;rw[E4 h,E4 g]at e;have e:=congrArg Prod.snd e;dsimp only at e;exact aaN h g (by omega)
 cells:=λv j=>by obtain⟨u,c,rfl⟩:=Ψ.1 j;exact(Am hs (.inr<|hi u c) λ_=>bp (d u c) (hi u c).cell).2<|hi u c
 wW:=by simpa using i
def Pr{s:GH}(hs:WG s)(b:∀v∈aq s,(cellAt s v).1≠3)(k:∀c∈(plain s).cells,zY c)(h4:s.roots.length=4)(hw:s.aA.Nodup/\s.aA.length<=40)(hd:s.done.Nodup/\s.done.length<=40)(l:(aq s).length<=32):VG (Al s) where
 cells:=λc hc=>by
  have a:=(y8 hs).cells c hc;refine⟨?_,a⟩;have hc:c∈((aq s).map<|cellAt s).map (B6 (aq s) 0):=by simpa[Al,move]using hc
  obtain⟨d,hd,rfl⟩:=Ψ.1 hc;obtain⟨u,e,rfl⟩:=Ψ.1 hd;have hi:=l7 hs e;have h:=k _<|wK<|OT hi;rw[show cellP (plain s) (pn s u)=_ from J2 hi]at h;have o:=b u e;unfold zY Bz at h;unfold B6;simp only[ZY]at h⊢;omega
 news:=Nat.zero_le _
 bw:=by rw[Ct];exact l
 four:=by simpa[Al,move]using h4
 roots:=(y8 hs).roots
 aA:=B8 hs (λv f=>ZL _ f) hs.aA hw.1 hw.2
 done:=B8 hs (λv f=>ZK _<|ZL _ f) hs.done hd.1 hd.2
 marks:=λn m=>by cases m
 order:=List.Pairwise.nil
 ju:=λi c hi g=>by
  exfalso;obtain⟨x,j,b⟩:=List.any_eq_true.1 g;have hc:c∈((aq s).map<|cellAt s).map (B6 (aq s) 0):=by simpa[Al,move]using Z1 hi
  obtain⟨d,hd,rfl⟩:=Ψ.1 hc;obtain⟨u,e,rfl⟩:=Ψ.1 hd;obtain⟨y,g,rfl⟩:=Ψ.1 j;obtain⟨a,hc⟩:=oX hs e g;obtain a|a:=a
  rw[kg λj=>a.aax<|l7 hs j]at b;obtain a|a:=a<;>simp[dy,a.1]at b
  rw[E4 (hc a)]at b;simp[dy]at b
def aes{g}(h:VG g)(b:(aq g).length<=32):VG (Al g):=Pr h.wg (λv a=>by have:=(h.cells _<|j9<|l7 h.wg a).1;omega) (eC h).shape h.four ⟨h.aA.nodup,h.aA.wW⟩ ⟨h.done.nodup,h.done.wW⟩ b
def B9{g}(h:VG g):((Md.iF g).aA.Nodup/\(Md.iF g).aA.length<=40)/\(Md.iF g).done.Nodup/\(Md.iF g).done.length<=40:=by
 have k:=eC h;have d:=qP k;have w:(plain g).cells.length<=40:=by rw[G7];have:=h.bw;have:=h.news;omega
 have s:∀l:List HV,(∀v∈l,zH g v) ->l.Nodup->((l.map<|cp g.old.length).map (·.2)).Nodup:=λl f p=>by rw[Z0];exact Ki p λa i b hb e=>OO (f a i) (f b hb) e
 have q:∀l:List Int,(∀n∈l,BJ (lu<|plain g) n) ->l.Nodup->((l.map λn=>((1,n):HV)).map<|ed g.old.length).Nodup:=λl f p=>by rw[Z0];exact Ki p λa i b hb e=>congrArg Prod.snd<|aam (h:=lu<|plain g) (n:=g.old.length) (u:=(1,a)) (v:=(1,b)) (.inr ⟨rfl,f a i⟩) (.inr ⟨rfl,f b hb⟩) e
 have j:=s g.aA h.aA.cells h.aA.nodup;have o:=s g.done h.done.cells h.done.nodup;have m:=(pO k.wp).1.VX;have c:(lu<|plain g).done.Nodup:=by show((plain g).done++(plain g).aA.filter _).Nodup;rw[Zk];refine⟨o,j.filter _,λa i b hb e=>?_⟩;subst e;have t:=(υ.1 hb).2;have r:=m (1,a)<|yB.2<|.inr ⟨a,i,rfl⟩;simp[r]at t
 refine⟨⟨q _ d.aA<|j.filter _,?_⟩,q _ d.done c,?_⟩;show((((plain g).aA.filter _).map _).map _).length<=40;have:=h.aA.wW;have r:=ε ((alive<|plain g).contains ·) (plain g).aA;have h3:(plain g).aA.length=g.aA.length:=by simp[plain]
 simp only[ZY];omega
 ·have:=Kb c d.done;rw[zi]at this;show(((lu<|plain g).done.map _).map _).length<=40;simp only[ZY];omega
def Qp{g}(h:VG g)(j:(aq<|Md.iF g).length<=32):VG (vm g):=by
 have hs:=yY h;have a:=tf h;have hw:=(eC h).wp;refine Pr hs (λv b=>?_) (by rw[a];exact(qP<|eC h).shape) (by have:=h.four;simpa[Md.iF,Ij,ir,b',plain]using this) (B9 h).1 (B9 h).2 j;have hi:=l7 hs b;have hb:=Pg h b;have e:cellP (plain<|Md.iF g) (pn (Md.iF g) v)=Bz (Md.iF g).old.length (cellAt (Md.iF g) v):=J2 hi;rw[a,B3 hw hb]at e;have c:=(pO<|lE hw).2.1 _ hb;rw[show cellP (b'<|plain g) (pn (Md.iF g) v)=B7 (alive<|plain g) (cellP (plain g)<|pn (Md.iF g) v)from Ot rfl<|D6.1 c]at e;have f:=congrArg Prod.fst e;have k:(B7 (alive<|plain g)<|cellP (plain g)<|pn (Md.iF g) v).1=(cellP (plain g)<|pn (Md.iF g) v).1:=by unfold B7;split<;>rfl
 rw[k]at f;have i:=wK<|D6.1 c;obtain⟨d,hd,e2⟩:=Ψ.1 i;have h3:=(h.cells d<|Γ.2 (Γ.1 hd).symm).1;have h4:(cellP (plain g)<|pn (Md.iF g) v).1=d.1:=by rw[<-e2];rfl
 have h5:(cellAt (Md.iF g) v).1=d.1:=f.symm.trans h4;omega
def E7{g}(h:VG g):(Md.iF g).new.length+(Md.iF g).old.length=g.new.length+g.old.length:=by have:=congrArg (λx=>x.cells.length)<|tf h;simp only[G7,zi]at this;omega
end
end Md
namespace Kn
open Go Go.RowKit Md
section
section
variable{g:GH}(h:VG g)
include h
def VG.kinds:∀c∈(plain g).cells,(c.1=0/\c.2.length<=4)\/(c.1=1/\c.2.length=1)\/(c.1=2/\c.2.length=2):=λc hc=>by obtain⟨d,hd,rfl⟩:=Ψ.1 hc;have:=(h.cells d<|Γ.2 (Γ.1 hd).symm).1;unfold Bz;simpa using this
def VG.fits:Kq (plain g):=by
 have b:=(VG.kinds h);have i:(plain g).cells.length<=40:=by rw[G7];have:=h.bw;have:=h.news;omega
 have hw:(plain g).aA.length<=40:=by have:=h.aA.wW;simpa[plain]using this
 have hd:(plain g).done.length<=40:=by have:=h.done.wW;simpa[plain]using this
 have e:(plain g).roots.length=4:=by have:=h.four;simpa[plain]using this
 have hb:∀k:PH,k.roots.length=4->k.done.length<=80->(n' k).length<=1000:=λk l j=>by have:=BT k.roots;unfold n';rw[ZF];omega
 have f:=ε (λn=>!(alive<|plain g).contains n) (plain g).aA;refine⟨⟨(eC h).wp,by omega,λc hc=>by have:=b c hc;omega,hb _ e<|by omega,λc hc=>by have:=b c hc;omega⟩,⟨lE (eC h).wp,by simp[b'];omega,λc hc=>?_,hb _ e ?_,λc hc=>?_⟩,λc hc=>by have:=b c hc;omega,by omega,by omega⟩;obtain⟨d,a,rfl⟩:=Ψ.1 hc;have:=b d a;unfold B7;split
 simp;omega;omega
 ·show((plain g).done++_).length<=80;rw[ZF];omega
 obtain⟨d,a,rfl⟩:=Ψ.1 hc;have:=b d a;unfold B7;split
 simp;omega;omega
omit h in
def afp{k}(b:k.cells.length<=40){v}(a:Ke k v):Sm v.2:=by
 unfold Sm;obtain(a|a)|⟨_,a⟩:=a
 omega;omega;have:=a.1;have:=a.2;omega
omit h in
def afU{k}(b:k.cells.length<=40){n}(a:Md.BJ k n):Sm n:=by
 have:=a.1;have:=a.2
 unfold Sm;omega
def VG.small:Small g:=by
 have e:=h.news;have d:=h.bw;have a:∀v,ta g v->Sm v.2:=λv a=>by unfold Sm;obtain(a|a)|(a|a):=a<;>omega
 exact⟨λc hc=>by have:=h.cells c<|Γ.2 (Γ.1 hc).symm;exact⟨by have:=this.1;omega,λv b=>a v (this.2 v b)⟩,⟨by have:=h.four;omega,λv b=>a v (h.roots v b)⟩,⟨by have:=h.aA.wW;omega,λv b=>a v (.inr (h.aA.cells v b))⟩,⟨by have:=h.done.wW;omega,λv b=>a v (.inr (h.done.cells v b))⟩,by omega,by omega⟩
def VG.sw:Jn g:=by
 have i:(plain g).cells.length<=40:=by rw[G7];have:=h.bw;have:=h.news;omega
 have hc:=qP<|eC h;have a:(lu<|plain g).cells.length<=40:=by rw[zi];exact i
 have hw:(plain g).aA.length<=40:=by have:=h.aA.wW;simpa[plain]using this
 have hd:(plain g).done.length<=40:=by have:=h.done.wW;simpa[plain]using this
 have j:=ε (λn=>!(alive<|plain g).contains n) (plain g).aA;have f:=ε (λn=>(alive<|plain g).contains n) (plain g).aA;refine⟨(VG.small h),PF h (by have:=h.bw;have:=h.news;omega),(VG.fits h),⟨λc e=>⟨by have:=hc.shape c e;unfold zY at this;obtain h|h|h|h:=this<;>simp[h]<;>omega,λv b=>afp a<|hc.cells c e v b⟩,by omega,⟨?_,λv b=>afp a<|hc.roots v b⟩,⟨?_,λn d=>afU a<|hc.aA n d⟩,⟨?_,λn d=>afU a<|hc.done n d⟩⟩⟩;have:=h.four;show(plain g).roots.length<=1000;simp[plain];omega;show((plain g).aA.filter _).length<=1000;omega
 ·show((plain g).done++_).length<=1000;rw[ZF];omega
end
end
section
def pw(br b:Nat)(r:Md.RS):Array θ:=#[.pointer b,r.minors,r.uJ,r.fk,r.dA,.func (.func 153) #[.pointer br] #[]]
def bD(w:Z8)(B br b:Nat)(r:Md.RS)(J:Nat->Prop):Prop:=B<=br/\w.heap[br]?=U (.cells (pw br b r) 131 (0,0))/\cR w B b r.g J/\∀j,J j->j≠br
def tc(J:Nat->Prop)(w w':Z8):Prop:=∀j,J j->j<w->w'.heap[j]?=w.heap[j]?
def Kk(w v g)(q:GV w v g)(t:oy g)(x:g.marked.length<=1000000)(hz:cN g=0){J:Nat->Prop}(p:∀j,J j->j<w):
 ZV prog 93 #[v] w λe w'=>(∃l b,e=.returned (.pointer (l:Nat))/\bD w' w l b ⟨g,0,0,0,0⟩ J)/\Z w w w':=by
 have s:∀(fn:Fn) (first cap:Array θ) (w:Z8),(Zw fn first cap).run prog w=.ok (.func fn first cap) w:=λ_ _ _ _=>rfl;have HV:=V q;obtain⟨n,o,r,i,d,m,rfl,A,z,h3,h4,h5,B⟩:=q
 go_enter (fU func93 rfl),ntmps93
 go_wp2_with fail
 have c:=af w<|Θ #[n,o,r,i,d,m] 26;refine(Xb _ (.agg #[n,o,r,i,d,m]) g (HV.out.below c) t hz x).mono ?_;rintro e h ⟨⟨b,rfl,k⟩,f⟩;have u:=V<|k.less c.size;have a:=c.trans<|f.mono c.size;clear k f
 go_wp2_with fail
 go_ret;exact⟨⟨h.heap.size,b,rfl,a.size,Z9 h _,(cR.wC u.out p).below<|af h _,λj y e=>by have:=p j y;have:=a.size;omega⟩,a.alloc a.size _⟩
section
variable{w w':Z8}{B br b:Nat}{r:Md.RS}{J:Nat->Prop}
def bD.below(h:bD w B br b r J)(a:Z w w w'):bD w' B br b r J:=⟨h.1,(a.block br (Ω.1 h.2.1).1).trans h.2.1,h.2.2.1.below a,h.2.2.2⟩
def bD.ptr(h:bD w B br b r J):w br=U (.pointer b)/\w (br,5)=U (.func (.func 153) #[.pointer br] #[])/\br<w:=by have:=h.2.1;refine⟨by simp[Y,this,pw],by simp[Y,this,pw],(Ω.1 this).1⟩
end
def sQ(w B k b r){J}(n:Nat)(p q)(j:bD w B k b r J)(l:r.g.roots[n]?=U (p,q))(K:r.g.roots.length<=1000000):
 ZV prog 200 #[.pointer k,n] w λe w'=>e=.returned (.agg #[p,q])/\Z w w w':=by
 obtain⟨c0,_,z⟩:=j.ptr;obtain⟨N,o,H,G,d,m,_,_,c2,_,_,_,_,_,h3,_⟩:=j.2.2.1.own.reads;have hb:=az c2;have A:=(μ.1 l).1;obtain⟨a,L,rfl,y,x,s⟩:=h3;obtain⟨h,i,rfl,f,c⟩:=s (by omega);obtain⟨u,D⟩:=c n p q l;have C:(w.alloc<|Θ #[Ξ Δ 0,Ξ Δ 0] 50) (h,i+n*2)=U (Ξ Δ p):=by rw[(af w _).cell (p:=⟨h,i+n*2,I⟩) f];exact u
 have E:(w.alloc<|Θ #[Ξ Δ 0,Ξ Δ 0] 50) (h,i+n*2+1)=U (Ξ Δ q):=by rw[(af w _).cell (p:=⟨h,i+n*2+1,I⟩) f];exact D
 have F:((n:Int)<0)=False:=by simp
 have t:¬((r.g.roots.length:Int)<=(n:Int)):=by omega
 have e1:decide ((r.g.roots.length:Int)<=(n:Int))=η:=by simp;omega
 clear c s j
 go_enter (fU func200 rfl),ntmps200
 go_wp2_with fail
 ((with_reducible refine(cd _ _).mono ?_))
 rintro e w' ⟨rfl,rfl⟩
 go_wp2_with fail
 refine Zg (v:=.agg #[p,q]) (by simp[ZI,results200,go_sem]) rfl ⟨rfl,?_⟩;exact(ψ _ _).alloc .refl _
def OV.block{w B gk v l}(h:OV w B v l)(a:v.ownBlock=U gk):∃b,w.heap[gk]?=U (.cells b 50 (0,0)):=by
 obtain⟨e1,_⟩|⟨f,d,e,e1,_,c,_⟩:=h.2
 rw[e1]at a;cases a;rw[e1]at a;cases a;exact⟨_,c⟩
def cR.upd{w w' J B b gk g g' n o m row}(G:B<=b)(hb:w.heap[b]?=U (Θ #[n,o,row (0,0),row (0,1),row (0,2),m] 114 (0,0)))(E:RC w B n (cellsOf row 3 g.new))(C:RC w B o (cellsOf row 4 g.old))(h3:OI w B m g.marked)(h4:kD w B row g)(h5:∀j,J j->j≠b/\∀k,IsKey g k->(row k).ownBlock≠U j){k}(u:IsKey g k)(p:(row k).ownBlock=U gk)(d:∀j,j≠gk->w'.heap[j]?=w.heap[j]?)(q:OV w' B (row k) (bd g' k))(a:∀k',IsKey g' k'->IsKey g k')(l:∀k',k'≠k->IsKey g k'->bd g' k'=bd g k')(y:cellsOf row 3 g'.new=cellsOf row 3 g.new)(x:cellsOf row 4 g'.old=cellsOf row 4 g.old)(F:g'.marked=g.marked):cR w' B b g' J:=by
 obtain⟨r,f⟩:=(h4.1 k u).block p;have v:∀{j:Nat} {c:Array θ} {t:ZR} {fr:Nat×Nat},w.heap[j]?=U (.cells c t fr) ->t≠50->w'.heap[j]?=w.heap[j]?:=λ{j c t fr} s D=>d j λe=>by
  subst e;rw[f]at s;cases s
  exact D rfl
 refine⟨n,o,m,row,G,(v hb<|by decide).trans hb,?_,?_,?_,⟨?_,?_⟩,λj s=>⟨(h5 j s).1,λk u=>(h5 j s).2 k<|a k u⟩⟩;rw[y];exact E.below λg r h=>v h (by decide);rw[x];exact C.below λg r h=>v h (by decide);rw[F];exact aS h3 λg h=>d g λe=>by subst e;exact cF h3 f (by decide) h
 intro k' i;by_cases e:k'=k
 subst e;exact q;rw[l k' e (a k' i)];exact aS (h4.1 k'<|a k' i) λg h=>d g λe2=>by subst e2;exact h4.2 k' k (a k' i) u e g h p
 exactλz A e1 e2=>h4.2 z A (a z e1)<|a A e2
def cR.el{w B b g n J}(h:cR w B b g J)(A:n<g.roots.length)(x):
 ∃gr m p q,w (b,2)=U (.slice (gr:Nat) g.roots.length m)/\w ((gr:Nat),n*2)=U (Ξ Δ p)/\w ((gr:Nat),n*2+1)=U (Ξ Δ q)/\(∀i,w.frozen? ⟨gr,i,I⟩=η)/\B<=gr/\g.roots.length<=m/\m<=maxLen/\(∃v,w.heap[gr]?=U (.cells v 50 (0,0)))/\(∀j,J j->j≠gr)/\
  cR ((w.setCell ((gr:Nat),n*2)<|Ξ Δ x.1).setCell ((gr:Nat),n*2+1)<|Ξ Δ x.2) B b {g with roots:=g.roots.set n x} J:=by
 obtain⟨O,o,m,row,N,hb,E,C,h3,h4,h5⟩:=h;have h0:=h4.roots.1;obtain⟨a,F,l,t,u,G⟩:=aF h0;obtain⟨gr,rfl,_,_,d,_⟩:=G (by omega);have f:IsKey g (0,0):=.inl ⟨rfl,by decide,by decide⟩;rw[l]at h0 d;obtain⟨p,q,s⟩:=ep A;obtain⟨D,H,L,K,_⟩:=h0.at_ s;refine⟨gr,F,p,q,by simp[Y,hb,l],D,H,L,K,t,u,h0.block d,λj y e=>(h5 j y).2 _ f (by rw[l,e];exact d),?_⟩;refine cR.upd (gk:=gr) (k:=(0,0)) N hb E C h3 h4 h5 f (by rw[l];exact d) (λj y=>cr y) ?_ ?_ ?_ rfl rfl rfl;rw[l];exact h0.set A;rintro⟨a,c⟩ h;simpa[IsKey]using h;rintro⟨a,c⟩ r _;simp only[bd,cellAt];by_cases z:a=0
 have:c≠0:=λe=>r (by rw[z,e]);simp[z,this];simp[z]
def bD.el{w B c b r J}{n gr:Nat}{x a}(h:bD w B c b r J)(f:w.heap[gr]?=U (.cells a 50 (0,0)))(d:cR ((w.setCell (gr,n*2)<|Ξ Δ x.1).setCell (gr,n*2+1)<|Ξ Δ x.2) B b {r.g with roots:=r.g.roots.set n x} J):
 bD ((w.setCell (gr,n*2)<|Ξ Δ x.1).setCell (gr,n*2+1)<|Ξ Δ x.2) B c b (Md.el r n x) J:=by
 refine⟨h.1,?_,by simpa[Md.el]using d,h.2.2.2⟩;rw[cr (λe=>by have:=h.2.1;rw[e,f]at this;cases this)];exact h.2.1
def afB(w B l b r){J}(n)(p q:Int)(F:bD w B l b r J)(N:n<r.g.roots.length)(E:B<=w):
 ZV prog 201 #[ω (U ⟨l,0,I⟩),n,.agg #[p,q]] w λe w'=>e=.returned (.tuple #[])/\bD w' B l b (Md.el r n (p,q)) J/\Z B w w'/\tc J w w':=by
 have h:=af w<|Θ #[p,q] 50;have d:=F.below h;obtain⟨c0,_,X⟩:=d.ptr;obtain⟨gr,m,p0,q0,c2,Q,f2,G,s,T,W,⟨cur,a⟩,o,L⟩:=d.2.2.1.el (x:=(p,q)) N;have K:(w.alloc<|Θ #[p,q] 50).cell? ⟨w.heap.size,0,I⟩=U (Ξ Δ p):=by go_simp
 have O:(w.alloc<|Θ #[p,q] 50).cell? ⟨w.heap.size,1,I⟩=U (Ξ Δ q):=by go_simp
 have HO:=V<|R d<|R a L;have g0:=G<|n*2;have g1:=G<|n*2+1;have t:=h.mono E;have P:=V o;have k:=V h;clear o;have C:¬gr=l:=λe=>by have:=d.2.1;rw[<-e,a]at this;cases this
 have A:¬gr=b:=λe=>by obtain⟨_,_,c,hc⟩:=d.2.2.1.own.obj;rw[<-e,a]at hc;cases hc
 have v:¬gr=w.heap.size:=by
  obtain⟨gr0,m0,_,_,y,S,_⟩:=F.2.2.1.el (x:=(p,q)) N;have e:=(h.cell (p:=⟨b,2,I⟩)<|az y).trans y;rw[c2]at e;injection e with e
  injection e with e _ _
  injection e with e
  injection e with e _ _
  have:=az S;omega
 clear d a L G F
 go_enter (fU func201 rfl),ntmps201
 go_wp2_with fail
 generalize w.alloc _=H at c0 c2 Q f2 g0 g1 K O HO t k⊢;obtain⟨bv,f⟩:∃x,x=w.heap.size:=⟨_,rfl⟩;rw[<-f]at K O v k⊢;replace f:=V f
 go_region_held3 (λx=>x.cell? ⟨l,0,I⟩=U (ω<|U ⟨b,0,I⟩)/\x.cell? ⟨b,2,I⟩=U (ZQ (U ⟨gr,0,I⟩) r.g.roots.length m)/\x.cell? ⟨bv,0,I⟩=U (Ξ Δ p)/\x.cell? ⟨bv,1,I⟩=U (Ξ Δ q)) ((refine⟨?_,?_,?_,?_⟩<;>(repeat (first|with_reducible assumption|with_reducible refine dO ?_|with_reducible refine da C ?_|with_reducible refine da A ?_|with_reducible refine da v ?_)))) (fail)
 go_wp2_with fail
 have i:bD ((H.setCell ⟨gr,n*2,I⟩<|Ξ Δ p).setCell ⟨gr,n*2+1,I⟩<|Ξ Δ q) B l b (Md.el r n (p,q)) J:=bD.el (x:=(p,q)) HO.out.1 HO.out.2.1 HO.out.2.2;have u:=bD.below i<|(ψ _ _).drew;have z:=((t.setCell (p:=⟨gr,n*2,I⟩) s<|Ξ Δ p).setCell (p:=⟨gr,n*2+1,I⟩) s<|Ξ Δ q).drew;have D:tc J w (((H.setCell ⟨gr,n*2,I⟩<|Ξ Δ p).setCell ⟨gr,n*2+1,I⟩<|Ξ Δ q).drew):=λj hj hl=>(cr<|P.out j hj).trans<|k.out.block j (by rw[f.out];exact hl);go_end0;exact⟨rfl,u,z,D⟩
end
section
variable{b B br:Nat}(w:Z8){J:Nat->Prop}
def bD.all{w r}(h:bD w B br b r J):w br=U (.pointer b)/\w (br,1)=U (Ξ Δ r.minors)/\w (br,2)=U (Ξ Δ r.uJ)/\w (br,3)=U (Ξ Δ r.fk)/\w (br,4)=U (Ξ Δ r.dA)/\(∀i,w.frozen? ⟨br,i,I⟩=η)/\B<=br:=by
 have a:=h.2.1;refine⟨?_,?_,?_,?_,?_,λi=>by simp[ξ,a],h.1⟩
 all_goals simp[Y,a,pw]
def cR.off{w w' g c t fr}(h:cR w B b g J)(hc:w.heap[br]?=U (.cells c t fr))(d:t≠114/\t≠76/\t≠50/\t≠3)(l:∀k,k≠br->w'.heap[k]?=w.heap[k]?):cR w' B b g J:=by
 obtain⟨n,o,m,row,x,hb,v,u,h3,h4,h5⟩:=h;have r:∀{j:Nat} {s:Array θ} {p:ZR} {a:Nat×Nat},w.heap[j]?=U (.cells s p a) ->t≠p->w'.heap[j]?=w.heap[j]?:=λ{j s p a} y z=>l j λe=>by grind
 exact⟨n,o,m,row,x,(r hb d.1).trans hb,v.below λg f q=>r q d.2.1,u.below λg f q=>r q d.2.1,hZ h3 hc d.2.2.2 l,⟨λk i=>hZ (h4.1 k i) hc d.2.2.1 l,h4.2⟩,h5⟩
def PI{w r r' i}{x y:Int}(h:bD w B br b r J)(c:r'.g=r.g)(hc:((pw br b r).setIfInBounds i x).setIfInBounds 4 y=pw br b r'):bD ((w.setCell (br,i) x).setCell (br,4) y) B br b r' J:=by refine⟨h.1,?_,?_,h.2.2.2⟩;rw[aB (aB h.2.1 i _) 4 _,hc];rw[c];exact h.2.2.1.off h.2.1 (by simp) λk a=>cr a
def Af:ZV prog 306 #[.agg #[]] w λe w'=>e=.returned (Ξ Δ 0)/\Z w w w':=by
 go_enter (fU func306 rfl),ntmps306
 go_wp2
 go_ret;exact⟨rfl,(ψ _ _).alloc .refl _⟩
def wM(B a b n r g')(D:im r.g)(z:bD w B a b r J)(H:B<=w.heap.size)(f:Md.collect .minor r.g=U (n,g'))(hm:0<=r.minors/\r.minors<=1000)(P:0<=r.dA/\r.dA<=100000)(hn:n<=1000):
 ZV prog 208 #[ω (U ⟨a,0,I⟩),.iface 102<|.agg #[]] w λe w'=>e=.returned (.bool ZM)/\bD w' B a b (Md.counted r .minor n g') J/\Z B w w'/\tc J w w':=by
 have HR:=V z;obtain⟨c0,c1,c2,c3,Q,k,q⟩:=z.all;have K:=IY;have W:=V D;have HC:=V f;have S:IntKind.i64.wrap (r.minors+1)=r.minors+1:=wrap_small _ (by omega) (by omega);have L:IntKind.i64.wrap (r.dA+(n:Int))=r.dA+(n:Int):=wrap_small _ (by omega) (by omega);clear c1 c2 c3 Q k z D f
 go_enter (fU func208 rfl),ntmps208
 go_wp2_with fail
 refine(lz _ B b r.g HR.out.2.2.1 W.out H).mono ?_;rintro e A t;unfold cq at t;rw[HC.out]at t;obtain⟨rfl,s,l,o,d⟩:=t;have y:=V d;clear d;have i:bD A B a b {r with g:=g'} J:=⟨HR.out.1,(o _ _ HR.out.2.1).trans HR.out.2.1,s,HR.out.2.2.2⟩;obtain⟨d0,O,d2,d3,F,k,_⟩:=i.all;have N:=k 1;have f2:=k 2;have f3:=k 3;have T:=k 4;have v:=V i;have c:=az F;have x:=Nat.le_trans H l.size;clear s o i k c0
 go_wp2_with fail
 go_region_with (first|(go_at_call 306;(with_reducible refine(Af _).mono ?_);rintro e u ⟨rfl,C⟩;have z3:Z A.heap.size A u:=(ψ _ _).drew.trans C;have X:=(z3.cell (p:=⟨a,1,I⟩) c).trans O;have k2:=(z3.frozen (p:=⟨a,1,I⟩) c).trans N;have k3:=cG z3 F c;have k4:=(z3.frozen (p:=⟨a,4,I⟩) c).trans T))
 go_wp2_with fail
 have h:bD ((u.setCell (a,1)<|Ξ Δ<|r.minors+1).setCell (a,4)<|Ξ Δ<|r.dA+(n:Int)) B a b (Md.counted r .minor n g') J:=PI (v.out.below z3) rfl rfl;have m:=((l.trans<|z3.mono x).setCell (p:=⟨a,1,I⟩) q<|Ξ Δ<|r.minors+1).setCell (p:=⟨a,4,I⟩) q<|Ξ Δ<|r.dA+(n:Int);have d:tc J w ((u.setCell (a,1)<|Ξ Δ<|r.minors+1).setCell (a,4)<|Ξ Δ<|r.dA+(n:Int)):=λj G E=>(cr<|HR.out.2.2.2 j G).trans<|(z3.block j<|Nat.lt_of_lt_of_le E l.size).trans<|y.out j G E;go_ret;exact⟨rfl,by first|exact h|exact h.below (ψ _ _).drew,by first|exact m|exact m.drew,d⟩
def Ag:ZV prog 310 #[.agg #[]] w λe w'=>e=.returned (Ξ Δ 2)/\Z w w w':=by
 go_enter (fU func310 rfl),ntmps310
 go_wp2
 go_ret;exact⟨rfl,(ψ _ _).alloc .refl _⟩
def wN(B c b n r g')(S:∀j,J j->j<w.heap.size)(A:Jn r.g)(E:im (Md.iF r.g))(z:bD w B c b r J)(K:B<=w.heap.size)(f:Md.collect .major r.g=U (n,g'))(hm:0<=r.fk/\r.fk<=1000)(P:0<=r.dA/\r.dA<=100000)(hn:n<=1000):
 ZV prog 208 #[ω (U ⟨c,0,I⟩),.iface 120<|.agg #[]] w λe w'=>e=.returned (.bool ZM)/\bD w' B c b (Md.counted r .major n g') J/\Z B w w'/\tc J w w':=by
 have HR:=V z;obtain⟨c0,c1,c2,c3,Q,k,q⟩:=z.all;have N:=I0;have HP:=V E;have HC:=V f;have T:IntKind.i64.wrap (r.fk+1)=r.fk+1:=wrap_small _ (by omega) (by omega);have O:IntKind.i64.wrap (r.dA+(n:Int))=r.dA+(n:Int):=wrap_small _ (by omega) (by omega);clear c1 c2 c3 Q k z E f
 go_enter (fU func208 rfl),ntmps208
 go_wp2_with fail
 refine(sP _ B b r.g S HR.out.2.2.1 A HP.out K).mono ?_;rintro e C t;unfold cq at t;rw[HC.out]at t;obtain⟨rfl,s,l,o,d⟩:=t;have y:=V d;clear d;have i:bD C B c b {r with g:=g'} J:=⟨HR.out.1,(o _ _ HR.out.2.1).trans HR.out.2.1,s,HR.out.2.2.2⟩;obtain⟨d0,d1,d2,L,G,k,_⟩:=i.all;have f1:=k 1;have f2:=k 2;have X:=k 3;have W:=k 4;have v:=V i;have a:=az G;have x:=Nat.le_trans K l.size;clear s o i k c0
 go_wp2_with fail
 go_region_with (first|(go_at_call 310;(with_reducible refine(Ag _).mono ?_);rintro e u ⟨rfl,D⟩;have z3:Z C.heap.size C u:=(ψ _ _).drew.trans D;have k1:=cG z3 L a;have k2:=(z3.frozen (p:=⟨c,3,I⟩) a).trans X;have k3:=cG z3 G a;have k4:=(z3.frozen (p:=⟨c,4,I⟩) a).trans W))
 go_wp2_with fail
 have h:bD ((u.setCell (c,3)<|Ξ Δ<|r.fk+1).setCell (c,4)<|Ξ Δ<|r.dA+(n:Int)) B c b (Md.counted r .major n g') J:=PI (v.out.below z3) rfl rfl;have m:=((l.trans<|z3.mono x).setCell (p:=⟨c,3,I⟩) q<|Ξ Δ<|r.fk+1).setCell (p:=⟨c,4,I⟩) q<|Ξ Δ<|r.dA+(n:Int);have d:tc J w ((u.setCell (c,3)<|Ξ Δ<|r.fk+1).setCell (c,4)<|Ξ Δ<|r.dA+(n:Int)):=λj H F=>(cr<|HR.out.2.2.2 j H).trans<|(z3.block j<|Nat.lt_of_lt_of_le F l.size).trans<|y.out j H F;go_ret;exact⟨rfl,by first|exact h|exact h.below (ψ _ _).drew,by first|exact m|exact m.drew,d⟩
end
def Roomy(r r':Md.RS):Prop:=(r.g.new.length<8/\r'=r)\/(8<=r.g.new.length/\r.g.new.length<=1000/\im r.g/\∃n g',Md.collect .minor r.g=U (n,g')/\r'=Md.counted r .minor n g'/\(0<=r.minors/\r.minors<=1000)/\(0<=r.dA/\r.dA<=100000)/\n<=1000)
def bD.anJ{w B d b r J}(h:bD w B d b r J):∃a m,w.cell? ⟨b,0,I⟩=U (.slice a r.g.new.length m):=by obtain⟨n,o,m,row,i,hb,⟨e,f,c,_⟩,_⟩:=h.2.2.1;rw[aT]at c;refine⟨e,f,?_⟩;rw[<-c];simp[Y,hb]
def WD(w B f b r r'){J}(d:bD w B f b r J)(s:B<=w.heap.size)(l:Roomy r r'):
 ZV prog 232 #[ω (U ⟨f,0,I⟩)] w λe w'=>e=.returned (.tuple #[])/\bD w' B f b r' J/\Z B w w'/\tc J w w':=by
 have HR:=V d;obtain⟨c0,_,_⟩:=d.ptr;obtain⟨a,m,c1⟩:=d.anJ;obtain⟨q,rfl⟩|⟨q,t,k,n,u,h3,rfl,h4,h5,o⟩:=l
 ·have p:(r'.g.new.length:Int)<8:=by omega
  clear d
  go_enter (fU func232 rfl),ntmps232
  go_wp2
  go_step3
  go_wp2
  go_step3
  go_wp2_with fail
  rw[Zb];refine Zg (results_none rfl _ _ _) rfl ?_;exact⟨rfl,HR.out,ψ _ _,λ_ _ _=>rfl⟩
 ·have p:¬(r.g.new.length:Int)<8:=by omega
  clear d;have HC:=V<|R k h3;clear k h3
  go_enter (fU func232 rfl),ntmps232
  go_wp2
  go_step3
  go_wp2
  go_step3
  go_wp2_with fail
  refine(wM _ B f b n r u HC.out.1 HR.out s HC.out.2 h4 h5 o).mono ?_;rintro e v ⟨rfl,c,j,h⟩;have i:=V c;clear c
  go_wp2_with fail
  rw[Zb];refine Zg (results_none rfl _ _ _) rfl ?_;exact⟨rfl,i.out,j,h⟩
end Kn
namespace Kn
open Go Go.RowKit Go.Extern.Stop Go.Stop Go.Extern Md
section
variable(a p:Addr)(W:Z8)(c:Int)(t:Addr)(h v old:θ)(w:Z8)
def afV:(ReflectliteValue.unpack<|.iface 179<|ω<|U t).run prog w
 =.ok (.agg #[.pointer (1,179),.pointer w.heap.size,Ξ Zy 150]) (w.alloc<|Θ #[ω (U t)] 179):=by kernel_rfl
def agX:(ReflectliteValue.methodAny (ReflectliteValue.valueError "reflectlite.Value.Type" 0) (λt _ _ _=>ReflectliteType.toType t) #[.agg #[.pointer (1,179),ω<|U a,Ξ Zy 150]]).run prog w
 =.ok (.iface 273<|.agg #[.pointer (1,179)]) w:=by kernel_rfl
def aae:(Zs 463 273 (.agg #[h]) "Kind").run prog w=.ok (302,h) w:=by kernel_rfl
def agY:((ReflectliteType.abiMethod λt=>Functor.map (λa:Nat=>Ξ Y8 (a:Int))<|Rtype.kind t) #[.pointer (1,179)]).run prog w=.ok (Ξ .u8 22) w:=by kernel_rfl
def agZ:((ReflectliteType.abiMethod λt=>Functor.map (λa:Nat=>Ξ Y8 (a:Int))<|Rtype.kind t) #[.pointer (1,177)]).run prog w=.ok (Ξ .u8 25) w:=by kernel_rfl
def ahd(z f v):
 ReflectliteValue.method z f #[v]=(do match<-ReflectliteValue.parts v with|none=>z|some (t,a,fl)=>f t a fl<|fl %32):=rfl
def aeB:(ReflectliteValue.parts<|.agg #[.pointer (1,179),ω<|U a,Ξ Zy 150]).run prog w=.ok (U (179,a,150)) w:=by kernel_rfl
def ae9:(isAgg 179).run prog w=.ok η w:=by kernel_rfl
def agl(b:W a=U (ω<|U p)):
 (ReflectliteValue.method (ReflectliteValue.valueError "reflectlite.Value.IsNil" 0) ReflectliteValue.isNil #[.agg #[.pointer (1,179),ω<|U a,Ξ Zy 150]]).run prog W=.ok (.bool η) W:=by
 rw[ahd];simp only[ZZ,aeB,Z4];have:=ae9 W;simp[ReflectliteValue.isNil,Y6,ZZ,b,Z4]at this⊢
def aan:(Zs 463 273 (.agg #[h]) "Elem").run prog w=.ok (337,.agg #[h]) w:=by kernel_rfl
def KH:(Zs 463 273 (.agg #[h]) "Implements").run prog w=.ok (338,.agg #[h]) w:=by kernel_rfl
def Ka:(Zs 463 273 (.agg #[h]) "AssignableTo").run prog w=.ok (335,.agg #[h]) w:=by kernel_rfl
def ag0:(ReflectliteType.method ReflectliteType.elem #[.agg #[.pointer (1,179)]]).run prog w=.ok (.iface 273<|.agg #[.pointer (1,177)]) w:=by kernel_rfl
def Xu:(ReflectliteType.relation "Implements" ReflectliteType.implements_ #[.agg #[.pointer (1,177)],.iface 273<|.agg #[.pointer (1,174)]]).run prog w=.ok (.bool ZM) w:=by kernel_rfl
def aga:(ReflectliteType.typeOf #[.iface 177 v]).run prog w=.ok (.iface 273<|.agg #[.pointer (1,177)]) w:=by kernel_rfl
def Xw:(ReflectliteType.relation "AssignableTo" ReflectliteType.assignableTo #[.agg #[.pointer (1,177)],.iface 273<|.agg #[.pointer (1,177)]]).run prog w=.ok (.bool ZM) w:=by kernel_rfl
def afZ(e w):(ReflectliteValue.unpack<|.iface 177<|.agg #[Ξ Δ e]).run prog w
 =.ok (.agg #[.pointer (1,177),.pointer w.heap.size,Ξ Zy 153]) (w.alloc<|Θ #[Ξ Δ e] 177):=by kernel_rfl
def agb:(Rtype.elem? 179).run prog w=.ok (U 177) w:=by kernel_rfl
def ahy:(ReflectliteValue.mk 177 p ReflectliteValue.flagAddr).run prog w=.ok (.agg #[.pointer (1,177),ω<|U p,Ξ Zy 409]) w:=by kernel_rfl
def ag1(b:W a=U (ω<|U p)):
 (ReflectliteValue.method (ReflectliteValue.valueError "reflectlite.Value.Elem" 0) ReflectliteValue.elem #[.agg #[.pointer (1,179),ω<|U a,Ξ Zy 150]]).run prog W
   =.ok (.agg #[.pointer (1,177),ω<|U p,Ξ Zy 409]) W:=by
 rw[ahd];simp only[ZZ,aeB,Z4];have:=ae9 W;simp[ReflectliteValue.elem,Y6,ZZ,b,Z4]at this⊢;simp[this,b,Z4,agb,ahy]
def ahz(x):ReflectliteValue.set #[v,x]=(do
 let(U (dst,a,fl),U (src,b,_)):=(<-ReflectliteValue.parts v,<-ReflectliteValue.parts x)
  |unsupported (.noEntry "extern/(internal/reflectlite.Value).Set.zeroValue")
 if fl/ReflectliteValue.flagAddr %2==0 then unsupported (.noEntry "extern/(internal/reflectlite.Value).Set.unaddressable")
 let val<-Y6 src b
 if<-Rtype.directlyAssignable dst src then Za dst a val
 else if<-Rtype.implements dst src then
  if(<-Rtype.kind src)==20 then
   match val with
   |.nilIface=>unsupported<|.noEntry "extern/reflectlite: a nil value of one interface type handed on as a value of another"
   |_=>Za dst a val
  else Za dst a (.iface src val)
 else panicString ("reflectlite.Set: value of type "++(<-Rtype.spelt src)++ " is not assignable to type "++(<-Rtype.spelt dst))
 pure (.tuple #[])):=rfl
def agm:(ReflectliteValue.parts<|.agg #[.pointer (1,177),ω<|U a,Ξ Zy 409]).run prog w=.ok (U (177,a,409)) w:=by kernel_rfl
def agn:(ReflectliteValue.parts<|.agg #[.pointer (1,177),ω<|U a,Ξ Zy 153]).run prog w=.ok (U (177,a,153)) w:=by kernel_rfl
def ago:(Rtype.directlyAssignable 177 177).run prog w=.ok ZM w:=by kernel_rfl
def agx:(isAgg 177).run prog w=.ok ZM w:=by kernel_rfl
def ahf:(sizeOf 177).run prog w=.ok 1 w:=by kernel_rfl
def ahA(a b e old)(W:Z8)(hb:W b=U (Ξ Δ e))(h:W a=U old)(c:W.frozen? a=η):
 (ReflectliteValue.set #[.agg #[.pointer (1,177),ω<|U a,Ξ Zy 409],.agg #[.pointer (1,177),ω<|U b,Ξ Zy 153]]).run prog W
   =.ok (.tuple #[]) (W.setCell a e):=by
 rw[ahz];simp only[ZZ,agm,agn,Z4];have g:=agx W;have f:=ahf W;have h3:=ago W;simp[ReflectliteValue.flagAddr,Y6,ZZ,hb,Z4,Za,Value.cells,storeCells,Addr.add]at g f h3⊢;have d:(loadCells b 1).run prog W=.ok #[Ξ Δ e] W:=by simp[loadCells,loadCellsFrom,ZZ,Addr.add,hb,Z4]
 rw[d];dsimp only;rw[h3];simp[storeCells,Addr.add];rw[run_store prog W a _ _ (by rfl)];simp[h,c]
def PQ(w:Z8):Prop:=w.cell? ⟨0,0,I⟩=U (.iface 273<|.agg #[.pointer (1,174)])
def PQ.below{w w':Z8}(h:PQ w)(b:Z w w w'):PQ w':=cG b h (by
 obtain h0|a:=Nat.eq_zero_or_pos w.heap.size
 unfold PQ at h;simp[Y,h0]at h;exact a)
def ajn(a:Addr)(x:θ)(old:θ)(w:Z8)(k:w a=U (ω<|U t))(d:w t=U old)(f:w.frozen? t=η):
 ZV prog 195 #[.iface 177 (.agg #[Ξ Δ c]),x,.agg #[.pointer (1,179),ω<|U a,Ξ Zy 150],.iface 273<|.agg #[.pointer (1,177)]] w λev w'=>ev=.returned (.bool ZM)/\∃w1,Z w w w1/\w'=w1.setCell t c:=by
 have i:=@χ prog 192 _ (λb=>ReflectliteValue.unpack<|b.getD 0<|.tuple #[]) aD.func192 (by kernel_rfl) (by kernel_rfl) (by kernel_rfl) (by kernel_rfl);have l:=@χ prog 228 _ ReflectliteType.typeOf aD.func228 (by kernel_rfl) (by kernel_rfl) (by kernel_rfl) (by kernel_rfl);have m:=@χ prog 335 _ (ReflectliteType.relation "AssignableTo" ReflectliteType.assignableTo) aD.func335 (by kernel_rfl) (by kernel_rfl) (by kernel_rfl) (by kernel_rfl);have n:=@χ prog 229 _ (ReflectliteValue.method (ReflectliteValue.valueError "reflectlite.Value.Elem" 0) ReflectliteValue.elem) aD.func229 (by kernel_rfl) (by kernel_rfl) (by kernel_rfl) (by kernel_rfl);have j:=@χ prog 230 _ ReflectliteValue.set aD.func230 (by kernel_rfl) (by kernel_rfl) (by kernel_rfl) (by kernel_rfl);have r:=aga;have s:=Ka;have p:=Xw;have o:=afZ;have g:a.block<w:=by
  obtain h|h:=Nat.lt_or_ge a.block w.heap.size
  exact h;simp[Y,ZO h]at k
 have e:t.block<w:=by
  obtain h|h:=Nat.lt_or_ge t.block w.heap.size
  exact h;simp[Y,ZO h]at d
 have q:=ag1 a t (w.alloc<|Θ #[.pointer (1,179),ω<|U a,Ξ Zy 150] 222) (by rw[κ _ _ a g];exact k);have st:=ahA t (w.heap.size+1:Nat) c old ((w.alloc<|Θ #[.pointer (1,179),ω<|U a,Ξ Zy 150] 222).alloc<|Θ #[Ξ Δ c] 177) (by rw[World.cell?_alloc_at _ _ _ _ (by simp)];rfl)
  (by rw[κ _ _ t (by simp;omega),κ _ _ t e];exact d)
  (by rw[ZW _ _ t (by simp;omega),ZW _ _ t<|Nat.ne_of_lt e];exact f)
 go_enter (fU func195 rfl),ntmps195
 go_wp2
 refine wp_loop_rounds 1 ?_;rw[rounds_succ]
 go_wp2
 go_ret;exact⟨rfl,_,((ψ _ _).alloc .refl _).alloc (by simp) _,rfl⟩
def ahg(g:PQ w)(d:w t=U old)(i:w.frozen? t=η):
 ZV prog 146 #[.iface 177 (.agg #[Ξ Δ c]),.iface 179<|ω<|U t] w λev w'=>ev=.returned (.bool ZM)/\∃w1,Z w w w1/\w'=w1.setCell t c:=by
 have p:=@χ prog 192 _ (λa=>ReflectliteValue.unpack<|a.getD 0<|.tuple #[]) aD.func192 (by kernel_rfl) (by kernel_rfl) (by kernel_rfl) (by kernel_rfl);have l:=@χ prog 193 _ (ReflectliteValue.methodAny (ReflectliteValue.valueError "reflectlite.Value.Type" 0) λt _ _ _=>ReflectliteType.toType t) aD.func193 (by kernel_rfl) (by kernel_rfl) (by kernel_rfl) (by kernel_rfl);have n:=@χ prog 194 _ (ReflectliteValue.method (ReflectliteValue.valueError "reflectlite.Value.IsNil" 0) ReflectliteValue.isNil) aD.func194 (by kernel_rfl) (by kernel_rfl) (by kernel_rfl) (by kernel_rfl);have o:=@χ prog 302 _ (ReflectliteType.abiMethod λt=>do pure (Ξ .u8<|<-Rtype.kind t)) aD.func302 (by kernel_rfl) (by kernel_rfl) (by kernel_rfl) (by kernel_rfl);have m:=@χ prog 337 _ (ReflectliteType.method ReflectliteType.elem) aD.func337 (by kernel_rfl) (by kernel_rfl) (by kernel_rfl) (by kernel_rfl);have k:=@χ prog 338 _ (ReflectliteType.relation "Implements" ReflectliteType.implements_) aD.func338 (by kernel_rfl) (by kernel_rfl) (by kernel_rfl) (by kernel_rfl);have A:=afV;have y:=agX;have z:=aae;have x:=aan;have v:=KH;have KQ:=agY;have q:=agZ;have u:=ag0;have r:=Xu;have f:0<w.heap.size:=by
  obtain h0|h:=Nat.eq_zero_or_pos w.heap.size
  unfold PQ at g;simp[Y,h0]at g;exact h
 have b:t.block<w.heap.size:=by
  obtain h|h:=Nat.lt_or_ge t.block w.heap.size
  exact h;simp[Y,ZO h]at d
 have B:=agl ⟨w.heap.size,0,I⟩ t ((w.alloc<|Θ #[ω (U t)] 179).alloc<|Θ #[ω (U ⟨1,179,I⟩),.pointer w.heap.size,Ξ Zy 150] 222) (by simp);have s:((w.alloc<|Θ #[ω (U t)] 179).alloc<|Θ #[ω (U ⟨1,179,I⟩),ω<|U ⟨w.heap.size,0,I⟩,Ξ Zy 150] 222).cell? ⟨0,0,I⟩=U (.iface 273<|.agg #[ω (U ⟨1,174,I⟩)]):=by rw[κ _ _ ⟨0,0,I⟩ (by simp),κ _ _ ⟨0,0,I⟩ f];exact g
 go_enter (fU func146 rfl),ntmps146
 go_wp2_with fail
 refine(ajn c t ⟨w.heap.size,0,I⟩ _ old _ (by simp) ?_ ?_).mono ?_;rw[κ _ _ t (by simp;omega),κ _ _ t b];exact d;rw[ZW _ _ t (by simp;omega),ZW _ _ t<|Nat.ne_of_lt b];exact i;rintro e w' ⟨rfl,w1,j,rfl⟩
 go_wp2
 go_ret;exact⟨rfl,w1,(((ψ _ _).alloc .refl _).alloc (by simp) _).trans<|j.mono (by simp;omega),rfl⟩
def ahh:(ZA (.iface 177<|.agg #[Ξ Δ c]) 20 174 ZM).run prog w=.ok (.tuple #[.iface 177 (.agg #[Ξ Δ c]),.bool ZM]) w:=by kernel_rfl
def WH:(ZA .nilIface 20 174 ZM).run prog w=.ok (.tuple #[.nilIface,.bool η]) w:=by kernel_rfl
def eE:ZV prog 81 #[.nilIface] w λev w'=>ev=.returned (Ξ Δ 0)/\Z w w w':=by
 have h:=WH
 go_enter (fU func81 rfl),ntmps81
 go_wp2
 go_ret;exact⟨rfl,ψ _ _⟩
def af0(f:PQ w):ZV prog 81 #[.iface 177 (.agg #[Ξ Δ c])] w λev w'=>ev=.returned c/\Z w w w':=by
 have h:=ahh;have g:=V f;clear f
 go_enter (fU func81 rfl),ntmps81
 go_wp2_with fail
 have b:=af w<|Θ #[Ξ Δ 0] 177;refine(ahg c w.heap.size (Ξ Δ 0) _ (g.out.below b) (by simp)<|by simp).mono ?_;rintro e w' ⟨rfl,d,a,rfl⟩;have hc:(d.setCell w.heap.size c) w.heap.size=U (Ξ Δ c):=by simp[Y,(heap_setCell_same (i:=0) (v:=Ξ Δ c) (w:=d)<|(a.block w<|by simp).trans<|Z9 w _)]
 go_wp2_with fail
 go_ret;exact⟨rfl,((b.trans<|a.mono<|by simp).setCell .refl _)⟩
end
end Kn
namespace Kn
open Go Go.RowKit Md
section
variable{b:Nat}{t:ZR}{w:Z8}
def Idle(f:FuncId):Prop:=∀p x w,w p=U x->w.frozen? p=η->CallsD prog f #[ω (U p)] .returning w λe u' w'=>e=.returned (.tuple #[])/\u'=.returning/\∃w1,Z w w w1/\w'=w1.setCell p (Ξ Δ 0)
def Catch(f:FuncId):Prop:=∀p x c w,PQ w->w p=U x->w.frozen? p=η->CallsD prog f #[ω (U p)] (.panicking<|gK c) w λe u' w'=>e=.returned (.tuple #[])/\u'=.panicking [{v:=.iface 177<|.agg #[Ξ Δ c],recovered:=ZM}]/\∃w1,Z w w w1/\w'=w1.setCell p c
def Ju(w:Z8)(b a):((w.alloc b).alloc a).heap[w.heap.size+1]?=U a/\Z w w ((w.alloc b).alloc a)/\((w.alloc b).alloc a).heap.size=w.heap.size+1+1:=by refine⟨?_,(af w _).alloc (by simp) _,by simp⟩;have:=Z9 (w.alloc b) a;simpa using this
def al3(w:Z8)(c a b):(((w.alloc c).alloc a).alloc b).heap[w.heap.size+1]?=U a/\(((w.alloc c).alloc a).alloc b).heap[w.heap.size+1+1]?=U b/\Z w w (((w.alloc c).alloc a).alloc b)/\(((w.alloc c).alloc a).alloc b).heap.size=w.heap.size+1+1+1:=by refine⟨?_,?_,((af w _).alloc (by simp) _).alloc (by simp;omega) _,by simp⟩;rw[Zh _ _ _ (by simp)];exact(Ju w c a).1;have:=Z9 ((w.alloc c).alloc a) b;simpa using this
def d7{x fr}(h:w.heap[b]?=U (Θ #[x] t fr)):w b=U x:=by simp[Y,h]
def cD{i:Nat}{c}(h:w.heap[b]?=U (.cells c t (0,0))):w.frozen? (b,i)=η:=by simp[ξ,h]
def behind{w2 w9 x y}(hb:Z w w w2)(d:w2.heap[b]?=U (Θ #[x] t (0,0)))(f:w.heap.size<=b)(a:Z w2 w2 w9):
 (w9.setCell b y).heap[b]?=U (Θ #[y] t (0,0))/\Z w w (w9.setCell b y)/\∀k,k≠b->k<w2->(w9.setCell b y).heap[k]?=w2.heap[k]?:=by
 refine⟨?_,(hb.trans<|a.mono hb.size).setCell f _,λk e c=>?_⟩;rw[aB ((a.block b<|(Ω.1 d).1).trans d)];rfl;rw[aa e,a.block k c]
def WI:Idle 80:=λp x w c f=>by
 have b:=ZX c;refine ZT (fU func80 rfl) rfl λa cs g=>?_;apply ZJ;simp[Zi,go_sem,Zx,g,ntmps80,ZN];refine(eE w).mono ?_;rintro e d ⟨rfl,hb⟩;have i:=(hb.cell b).trans c;have h:=(hb.frozen b).trans f;cases a
 simp_all [go_sem,ZC,ZI,results80]
 exact⟨d,hb,rfl⟩
def OL:Idle 103:=λp x w c f=>by
 have b:=ZX c;refine ZT (fU func103 rfl) rfl λa cs g=>?_;apply ZJ;simp[Zi,go_sem,Zx,g,ntmps103,ZN];refine(eE w).mono ?_;rintro e d ⟨rfl,hb⟩;have i:=(hb.cell b).trans c;have h:=(hb.frozen b).trans f;cases a
 simp_all [go_sem,ZC,ZI,results103]
 exact⟨d,hb,rfl⟩
def ON:Idle 105:=λp x w c f=>by
 have b:=ZX c;refine ZT (fU func105 rfl) rfl λa cs g=>?_;apply ZJ;simp[Zi,go_sem,Zx,g,ntmps105,ZN];refine(eE w).mono ?_;rintro e d ⟨rfl,hb⟩;have i:=(hb.cell b).trans c;have h:=(hb.frozen b).trans f;cases a
 simp_all [go_sem,ZC,ZI,results105]
 exact⟨d,hb,rfl⟩
def ag2:Idle 118:=λp x w c f=>by
 have b:=ZX c;refine ZT (fU func118 rfl) rfl λa cs g=>?_;apply ZJ;simp[Zi,go_sem,Zx,g,ntmps118,ZN];refine(eE w).mono ?_;rintro e d ⟨rfl,hb⟩;have i:=(hb.cell b).trans c;have h:=(hb.frozen b).trans f;cases a
 simp_all [go_sem,ZC,ZI,results118]
 exact⟨d,hb,rfl⟩
def OR:Idle 143:=λp x w c f=>by
 have b:=ZX c;refine ZT (fU func143 rfl) rfl λa cs g=>?_;apply ZJ;simp[Zi,go_sem,Zx,g,ntmps143,ZN];refine(eE w).mono ?_;rintro e d ⟨rfl,hb⟩;have i:=(hb.cell b).trans c;have h:=(hb.frozen b).trans f;cases a
 simp_all [go_sem,ZC,ZI,results143]
 exact⟨d,hb,rfl⟩
end
section
variable{b:Nat}{t:ZR}{w:Z8}
def dm.px{B g}(h:dm w B b g):∃a0 p c a1 v m1 d y m2 l i f s j x q e u,w.heap[b]?=U (Θ #[.slice a0 p c,.slice a1 v m1,.slice d y m2,.slice l i f,.slice s j x,.slice q e u] 114 (0,0))/\∀w',dm w' B b g->w'.heap[b]?=w.heap[b]?->GV w' (.agg #[.slice a0 p c,.slice a1 v m1,.slice d y m2,.slice l i f,.slice s j x,.slice q e u]) g:=by obtain⟨n,o,m,row,hB,hb,E,A,h3,h4⟩:=h;obtain⟨r0,r1,r2⟩:=h4.roots;obtain⟨an,X,J,_⟩:=id E;obtain⟨T,P,G,_⟩:=id A;obtain⟨O,mm,F,_⟩:=aF h3;obtain⟨a0,c,z,_⟩:=aF r0;obtain⟨a1,m1,e1,_⟩:=aF r1;obtain⟨d,m2,e2,_⟩:=aF r2;have a:=hb;rw[J,G,F,z,e1,e2]at a;refine⟨_,_,_,_,_,_,_,_,_,_,_,_,_,_,_,_,_,_,a,λw' h k=>?_⟩;obtain⟨v0,v1,v2,Q,W,S,c0,c1,c2,c3,r,t,C,D,K,N,L,H⟩:=h.reads;rw[a]at k;simp[Y,k]at c0 c1 c2 c3 r t;subst c0 c1 c2 c3 r t;exact⟨_,_,_,_,_,_,rfl,C,D,K,N,L,H⟩
def io(w:Z8)(b:Nat)(v0 v1 v2 v3 v4 v5:θ):Z8:=(((((w.setCell b v0).setCell (b,1) v1).setCell (b,2) v2).setCell (b,3) v3).setCell (b,4) v4).setCell (b,5) v5
def kn{d e g f x4 h v0 v1 v2 v3 v4 v5}(hb:w.heap[b]?=U (Θ #[d,e,g,f,x4,h] t (0,0))):
 (io w b v0 v1 v2 v3 v4 v5).heap[b]?=U (Θ #[v0,v1,v2,v3,v4,v5] t (0,0))/\(∀k,k≠b->(io w b v0 v1 v2 v3 v4 v5).heap[k]?=w.heap[k]?)/\(io w b v0 v1 v2 v3 v4 v5).heap.size=w/\∀H,H<=b->Z H w (io w b v0 v1 v2 v3 v4 v5):=by
 refine⟨heap_setCell_same (i:=5) (v:=v5)<|heap_setCell_same (i:=4) (v:=v4)<|heap_setCell_same (i:=3) (v:=v3)<|heap_setCell_same (i:=2) (v:=v2)<|heap_setCell_same (i:=1) (v:=v1)<|heap_setCell_same (i:=0) (v:=v0) hb,λk a=>?_,by simp[io],λH c=>?_⟩;unfold io;rw[aa a,aa a,aa a,aa a,aa a,aa a];exact((((((ψ H w).setCell (p:=⟨b,0,I⟩) c _).setCell (p:=⟨b,1,I⟩) c _).setCell (p:=⟨b,2,I⟩) c _).setCell (p:=⟨b,3,I⟩) c _).setCell (p:=⟨b,4,I⟩) c _).setCell (p:=⟨b,5,I⟩) c _
def jF{x}(h:w.heap[b]?=U (Θ #[x] t (0,0))):(w.setCell b x).heap[b]?=U (Θ #[x] t (0,0))/\(∀k:Nat,(w.setCell b x).heap[k]?=w.heap[k]?)/\Z w w (w.setCell b x):=by
 have h0:(w.setCell b x).heap[b]?=U (Θ #[x] t (0,0)):=by rw[aB h];rfl
 have a:∀k:Nat,(w.setCell b x).heap[k]?=w.heap[k]?:=λk=>by
  by_cases c:k=b
  grind
  exact aa c
 exact⟨h0,a,⟨rfl,rfl,rfl,by simp,λk _=>a k⟩⟩
def fz{w9 x}(h:w.heap[b]?=U (Θ #[x] t (0,0)))(a:Z w w w9):(w9.setCell b x).heap[b]?=U (Θ #[x] t (0,0))/\Z w w (w9.setCell b x):=by obtain⟨h0,_,c⟩:=jF<|(a.block b<|(Ω.1 h).1).trans h;exact⟨h0,a.trans<|c.mono a.size⟩
def afG{w4 H B a eb g s D y u x4 z v0 v1 v2 v3 v4 v5}(m:dm w4 B b g)(C:∀w',dm w' B b g->w'.heap[b]?=w4.heap[b]?->GV w' (.agg #[v0,v1,v2,v3,v4,v5]) g)(d:w4.heap[a]?=U (Θ #[s,D,y,u,x4,z] 26 (0,0)))(p:w4.heap[eb]?=U (Θ #[Ξ Δ 0] 34 (0,0)))(w:H<=a)(F:H<=eb):
 ((io w4 a v0 v1 v2 v3 v4 v5).setCell eb<|Ξ Δ 0).heap[eb]?=U (Θ #[Ξ Δ 0] 34 (0,0))/\
 ∀w9,Z ((io w4 a v0 v1 v2 v3 v4 v5).setCell eb<|Ξ Δ 0).heap.size ((io w4 a v0 v1 v2 v3 v4 v5).setCell eb<|Ξ Δ 0) w9->(w9.setCell eb<|Ξ Δ 0).heap[a]?=U (Θ #[v0,v1,v2,v3,v4,v5] 26 (0,0))/\(w9.setCell eb<|Ξ Δ 0).heap[eb]?=U (Θ #[Ξ Δ 0] 34 (0,0))/\GV (w9.setCell eb<|Ξ Δ 0) (.agg #[v0,v1,v2,v3,v4,v5]) g/\(H<=w4->Z H w4 (w9.setCell eb<|Ξ Δ 0)):=by
 obtain⟨x,l,E,t⟩:=kn (v0:=v0) (v1:=v1) (v2:=v2) (v3:=v3) (v4:=v4) (v5:=v5) d;have j:eb≠a:=λe=>by rw[e,d]at p;cases p
 generalize io w4 a v0 v1 v2 v3 v4 v5=w5 at *;obtain⟨q1,q,f⟩:=jF<|(l eb j).trans p;refine⟨q1,λw9 A=>?_⟩;generalize w5.setCell eb (Ξ Δ 0)=r at *;obtain⟨r1,r2⟩:=fz q1 A;have o:a<r:=by have:=f.size;have:=(Ω.1 d).1;omega
 have i:b<r:=by have:=f.size;have:=m.obj.2.1;omega
 obtain⟨_,_,cb,c⟩:=m.obj;have n:b≠a:=λe=>by rw[e,d]at c;cases c
 exact⟨(r2.block a o).trans<|(q a).trans x,r1,C _ ((((cR.wC (J:=λ_=>False) m λ_ h=>h.elim).off d (by decide) λk v=>(q k).trans<|l k v).own).below r2)<|(r2.block b i).trans<|(q b).trans<|l b n,λG=>(t H w).trans<|((f.mono<|by omega).trans<|r2.mono (by have:=f.size;omega))⟩
def qh(w v g g')(k n:Nat)(s)(hv:GV w v g)(hk:oy g)(hm:g.marked.length<=1000000)(hz:cN g=0)(q:Md.collect s g=U (n,g'))(hc:∀w B b,cR w B b g (λ_=>False) ->B<=w->ZV prog 144 #[.pointer b,.iface k<|.agg #[]] w (cq (λ_=>False) B b g s w)):
 ZV prog 78 #[v,.iface k<|.agg #[]] w λe w'=>(∃r,e=.returned (.tuple #[r,Ξ Δ 0])/\GV w' r g')/\Z w w w':=by
 have hmf:∀(fn:Fn) (first cap:Array θ) (w:Z8),(Zw fn first cap).run prog w=.ok (.func fn first cap) w:=λ_ _ _ _=>rfl;have HV:=V hv;have HK:=V hk;have HC:=V hc;have HCO:=V q;obtain⟨vn,o,r,wi,d,m,rfl,h1,h2,h3,h4,h5,h6⟩:=hv;clear hk h1 h2 h3 h4 h5 h6 hc q
 go_enter_defers (fU func78 rfl),ntmps78
 go_wp2_with fail
 obtain⟨c,u,a,hz3⟩:=al3 w (Θ #[vn,o,r,wi,d,m] 26) (Θ #[(),(),(),(),(),()] 26)<|Θ #[Ξ Δ 0] 34;refine(Xb _ _ g (HV.out.below a) HK.out hz hm).mono ?_;rintro e w2 ⟨⟨b,rfl,A⟩,j⟩;have x:=a.trans<|j.mono a.size;have HG2:=V<|A.less (B':=w.heap.size+1+1+1)<|by omega
 have HB2:=V<|j.mono (B':=w.heap.size+1+1+1)<|by omega
 have hs2:=j.size;have HY:=V<|R ((j.block (w.heap.size+1)<|by omega).trans c)<|(j.block (w.heap.size+1+1)<|by omega).trans u;clear j a A c u
 go_wp2_with fail
 refine(HC.out _ (w.heap.size+1+1+1) b (cR.wC HG2.out λ_ h=>h.elim)<|by omega).mono ?_;rintro e w3 t;unfold cq at t;rw[HCO.out]at t;obtain⟨rfl,y,a,_,_⟩:=t;have C:=V y.own;have p:=x.trans<|a.mono (B':=w.heap.size)<|by omega
 have c:=(a.block (w.heap.size+1)<|by omega).trans HY.out.1;have u:=(a.block (w.heap.size+1+1)<|by omega).trans HY.out.2;clear x HB2 y HY a
 go_wp2_with fail
 ((with_reducible refine(cd _ _).mono ?_))
 rintro e w4 ⟨rfl,rfl⟩;obtain⟨a0,N,Q,a1,W,m1,T,K,m2,L,G,F,P,J,X,O,E,S,hb,D⟩:=C.out.px;have c0:w4 b=U (.slice a0 N Q):=by simp[Y,hb]
 have c1:w4 (b,1)=U (.slice a1 W m1):=by simp[Y,hb]
 have c2:w4 (b,2)=U (.slice T K m2):=by simp[Y,hb]
 have c3:w4 (b,3)=U (.slice L G F):=by simp[Y,hb]
 have c4:w4 (b,4)=U (.slice P J X):=by simp[Y,hb]
 have c5:w4 (b,5)=U (.slice O E S):=by simp[Y,hb]
 have z:=V<|R hb<|R D<|R p<|R c u;have d0:w4 (w.heap.size+1:Nat)=U ():=by simp[Y,c]
 have d1:w4 (w.heap.size+1,1)=U ():=by simp[Y,c]
 have d2:w4 (w.heap.size+1,2)=U ():=by simp[Y,c]
 have d3:w4 (w.heap.size+1,3)=U ():=by simp[Y,c]
 have d4:w4 (w.heap.size+1,4)=U ():=by simp[Y,c]
 have d5:w4 (w.heap.size+1,5)=U ():=by simp[Y,c]
 have de:=d7 u;have f0:=cD (i:=0) c;have f1:=cD (i:=1) c;have f2:=cD (i:=2) c;have f3:=cD (i:=3) c;have f4:=cD (i:=4) c;have f5:=cD (i:=5) c;have fe:=cD (i:=0) u;clear hb D p c u hs2 hz3
 go_wp2_with fail
 rw[show((((((w4.setCell (w.heap.size+1:Nat)<|.slice a0 N Q).setCell (w.heap.size+1,1)<|.slice a1 W m1).setCell (w.heap.size+1,2)<|.slice T K m2).setCell (w.heap.size+1,3)<|.slice L G F).setCell (w.heap.size+1,4)<|.slice P J X).setCell (w.heap.size+1,5)<|.slice O E S)=io w4 (w.heap.size+1) (.slice a0 N Q) (.slice a1 W m1) (.slice T K m2) (.slice L G F) (.slice P J X) (.slice O E S)from rfl];obtain⟨k1,k2⟩:=afG (H:=w) C.out z.out.2.1 z.out.2.2.2.1 z.out.2.2.2.2 (by omega) (by omega);refine leaves_cons (f:=143) (args:=#[.pointer (w.heap.size+1+1:Nat)]) (by simp) (by simp[go_sem]) ?_;refine(OR (w.heap.size+1+1:Nat) (Ξ Δ 0) _ (d7 k1)<|cD k1).mono ?_;rintro e u' w'' ⟨rfl,rfl,w9,BP,rfl⟩;obtain⟨q1,q2,q3,q4⟩:=k2 w9 BP;generalize w9.setCell (w.heap.size+1+1:Nat) (Ξ Δ 0)=l at *;have z0:l (w.heap.size+1:Nat)=U (.slice a0 N Q):=by simp[Y,q1]
 have z1:l (w.heap.size+1,1)=U (.slice a1 W m1):=by simp[Y,q1]
 have z2:l (w.heap.size+1,2)=U (.slice T K m2):=by simp[Y,q1]
 have z3:l (w.heap.size+1,3)=U (.slice L G F):=by simp[Y,q1]
 have z4:l (w.heap.size+1,4)=U (.slice P J X):=by simp[Y,q1]
 have z5:l (w.heap.size+1,5)=U (.slice O E S):=by simp[Y,q1]
 simp[Leaves,settle,ZI,results78,go_sem,z0,z1,z2,z3,z4,z5,(d7 q2)];exact⟨q3,z.out.2.2.1.trans<|q4 z.out.2.2.1.size⟩
end
end Kn
