/- A part of the proof of GcBack; no conditions. -/
import Derived.Test.YtbnmpafbfoaggaaGreatDoorK5
import Derived.Test.YtbnmpafbfoaggaaGreatDoorK0
import Derived.Conc.AppendWalk
import Derived.Conc.Beside
import Derived.Conc.CrowdBase
import Derived.Conc.FxWorld
set_option linter.defProp false
set_option linter.unusedVariables false
set_option linter.unusedSimpArgs false
set_option maxRecDepth 100000
set_option maxHeartbeats 16000000
noncomputable section
open Bool renaming false->V,true->I,false_eq_true->ZA,and_eq_true->Y7
open Option renaming some->U,map_eq_some_iff->ω,none->θ
open Go renaming Goroutine->R,World->ξ,Value->ι,Addr->Z1,Frame->ZW,TypeId->ZS,callFunc->ZM,Event->ZH,Program->Zn,HappensBefore->Zl,Item->Zd,Obj->Y9,deafBehind->YP,Question->YN,Trace->Yv,mayWake->Ys,MemOp->Yl,FuncId->Yf,loadVar->X9
open Go.Value renaming pointer->Ω,int->Θ,slice->υ,agg->ZL
open Array renaming mem_singleton->Ψ,getElem?_eq_getElem->ψ,getElem?_push_lt->μ,size_setIfInBounds->Z4,mem_of_getElem?->ZU,getElem?_eq_some_iff->ZQ,getElem?_push_size->ZK,size_push->ZD,getElem?_eq_none->Zp,getElem?_setIfInBounds_ne->Za,size_map->Y5,mem_iff_getElem?->YX,getElem?_modify->YV,ext'->Yx,replicate->Yn
open Go.IntKind renaming wrap->Ξ,i64->Γ,u64->ZR,wrap_i64->Zt,i32->Yz,wrap_u64->Yy
open Go.MemAct renaming ofEvent->Δ,touch?->Z9
open Go.Obj renaming cells->χ
open Go.Conc renaming mem_ofEvents->φ,g?_old->ζ,touchAt->ZG,getElem?_append_cases->ZC,noRace_append->ZB,Deaf->Zk,deafBehind_still->Zh,QuitsD->Zf,Deaf_other->Ze,woken->Y6,awake_of->Y4,step_solo_go->Y0,seen_none->YZ,touch_of->YS,seen_app->YR,runT_crowd_go->Yw,knows_own->Yu,woken_quitsD->Yq,Past->Yk,ofEvents_eq->Yj,lt_size_of_getElem?->Yg,counts_old->Yd,Leavers->Ya
open Go.MemOp renaming ofEvents->ο
open Nat renaming lt_of_lt_of_le->κ,not_lt_zero->ZV,not_lt->ZJ,lt_succ_of_lt->ZI,lt_irrefl->ZF,le_refl->ZE,zero_le->Zr,le_trans->Zm,add_zero->Y8,mul_comm->YT,lt_or_ge->YQ,zero_add->YO,sub_add_cancel->Yr,eq_zero_or_pos->Yp,pos_of_ne_zero->Yo,lt_succ_self->Yi,mul_le_mul->Ye
open List renaming mem_cons_self->η,not_mem_nil->ε,mem_cons_of_mem->Z8,mem_cons->Z2,mem_toArray->ZX,exists_cons_of_ne_nil->Zz,length_cons->Zq,foldl_cons->Zj,zipWith->Zb,mem_singleton->Yt
open Classical renaming byContradiction->Z0,axiomOfChoice->Zy
open Option.some renaming injEq->ZY
open Prod.Lex renaming right->ZT,left->Zg
open Go.Result renaming andThen->ZP,evThen->Zv
open Go.Extern.ReflectliteValue renaming valueError->ZO,method->Zx,unpack->YM,methodAny->YL,isNil->YK,elem->YJ,set->YI
open Go.Frame renaming enter->ZN,oper?->Yb
open Go.Extern.ReflectliteType renaming relation->Zw,toType->YH,typeOf->YG,assignableTo->YF,method->YE,elem->YD,implements_->YB,abiMethod->YA
open Go.ConcM renaming OsLater->Zu
open Go.Sem renaming runT_eq->Zs
open Go.Region renaming schedule->Zo,wanted->Ym
open Go.Instr renaming sureAddr->Zi,loadAt->YW,indexAt->Yh,alloc->Yc
open Go.Trace renaming g?->Zc
open Int renaming toNat_natCast->Y',fdiv_eq_ediv_of_nonneg->YY,eq_ofNat_of_zero_le->YU
open Go.Mode renaming plain->Y2
namespace Go.Proofs.YtbnmpafbfoaggaaGreatDoor
namespace Ph
open Go Go.Conc
section
def SC(d:bG)(ds:List bG)(cs:List ZW)(F:Nat->Nat->ι):R:=G (d.fr<|JF d.n<|cO d.l<|F 0)<|KN ds (λi=>F<|i+1)++cs
def aQ(d:bG)(ds:List bG)(cs:List ZW)(g:R):Prop:=∃F,g=SC d ds cs F
theorem jN:∀(ds:List bG) (qH:List ZW),ck ds qH=ck ds (qH.take ds.length)
 |[],qH=>by cases qH<;>simp[ck]
 |d::ds,[]=>by simp
 |d::ds,fr::qH=>by simp[ck,<-jN ds qH]
theorem lg:∀(ds:List bG) (qH:List ZW),(ck ds qH).length=min ds.length qH.length
 |[],qH=>by cases qH<;>simp[ck]
 |d::ds,[]=>by simp[ck]
 |d::ds,fr::qH=>by simp only[ck,Zq,lg ds qH];omega
section
variable{P:Zn}{main:Bool}{g:R}
def aQ.of{d ds cs r}(b:r=G (d.fr r.frame.tmps) (ck ds r.callers++cs))(c:(r.frame::r.callers.take ds.length).map (λfr=>fr.tmps.size)=(d::ds).map (·.n))(h3:Zb (λd fr=>d.l.map λp=>fr.tmps.getD p.1 undef) (d::ds) (r.frame::r.callers.take ds.length)=(d::ds).map (λd=>d.l.map Prod.snd)):aQ d ds cs r:=by
 have e1:=congrArg Goroutine.frame b;have e2:=congrArg Goroutine.callers b;dsimp only[G]at e1 e2;have f:=congrArg List.length c;simp only[List.map_cons,Zq,List.length_map]at f;have e:ds.length<=r.callers.length:=by
  have:(r.callers.take ds.length).length=ds.length:=by omega
  rw[List.length_take]at this;omega
 have a:r.callers.take ds.length=ck ds (r.callers.take ds.length):=by
  rw[<-jN];have g:(ck ds r.callers).length=ds.length:=by rw[lg];omega
  grind
 obtain⟨F,hF⟩:=A4 (d::ds) (r.frame::r.callers.take ds.length) (by simp only[ck];rw[<-a,<-e1]) c h3
 refine⟨F,?_⟩;simp only[KN,List.cons.injEq]at hF;unfold SC;rw[<-hF.1,<-hF.2,a,<-jN,<-e2];rw[b];rw[<-e1,<-e2];rfl
def aQ.QF{d b ds a cs}(stop k)(c:∀F,bN P main stop k (SC d ds cs F)=G (b.fr (bN P main stop k<|SC d ds cs F).frame.tmps) (ck a (bN P main stop k<|SC d ds cs F).callers++cs))(e:∀F,((bN P main stop k<|SC d ds cs F).frame::(bN P main stop k<|SC d ds cs F).callers.take a.length).map (λfr=>fr.tmps.size)=(b::a).map (·.n))(h3:∀F,Zb (λd fr=>d.l.map λp=>fr.tmps.getD p.1 undef) (b::a) ((bN P main stop k<|SC d ds cs F).frame::(bN P main stop k<|SC d ds cs F).callers.take a.length)=(b::a).map (λd=>d.l.map Prod.snd))(g)(h:aQ d ds cs g):bZ P main k (aQ b a cs) g:=by obtain⟨F,rfl⟩:=h;exact bZ.run stop k<|aQ.of (c F) (e F)<|h3 F
def aQ.F3{d b ds a cs}(v stop k)(c:∀F,bN P main stop k (fin v<|SC d ds cs F)=G (b.fr (bN P main stop k<|fin v<|SC d ds cs F).frame.tmps) (ck a (bN P main stop k<|fin v<|SC d ds cs F).callers++cs))(e:∀F,((bN P main stop k<|fin v<|SC d ds cs F).frame::(bN P main stop k<|fin v<|SC d ds cs F).callers.take a.length).map (λfr=>fr.tmps.size)=(b::a).map (·.n))(h3:∀F,Zb (λd fr=>d.l.map λp=>fr.tmps.getD p.1 undef) (b::a) ((bN P main stop k<|fin v<|SC d ds cs F).frame::(bN P main stop k<|fin v<|SC d ds cs F).callers.take a.length)=(b::a).map (λd=>d.l.map Prod.snd))(g)(h:aQ d ds cs g):bZ P main k (aQ b a cs) (fin v g):=by obtain⟨F,rfl⟩:=h;exact bZ.run stop k<|aQ.of (c F) (e F)<|h3 F
def aQ.head{d ds cs s}(h:∀F,au (SC d ds cs F)=U s)(g)(a:aQ d ds cs g):au g=U s:=by obtain⟨F,rfl⟩:=a;exact h F
def aQ.iX{d ds cs g}(h:aQ d ds cs g):g.frame.fn=d.fn:=by obtain⟨F,rfl⟩:=h;rfl
end
def cz3(ds:List bG)(r:R):R×List Nat×List (List ι):=(r,(r.frame::r.callers.take ds.length.pred).map λfr=>fr.tmps.size,Zb (λd fr=>d.l.map λp=>fr.tmps.getD p.1 undef) ds (r.frame::r.callers.take ds.length.pred))
def cg3(d:bG)(ds:List bG)(cs:List ZW)(r:R):R×List Nat×List (List ι):=(G (d.fr r.frame.tmps)<|ck ds r.callers++cs,(d::ds).map (·.n),(d::ds).map λd=>d.l.map Prod.snd)
def Xg(P:Zn)(m:Bool)(k:Nat)(d:bG)(ds:List bG)(d':bG)(ds':List bG):Prop:=∀cs g,aQ d ds cs g->bZ P m k (aQ d' ds' cs) g
def Xf(P:Zn)(m:Bool)(k:Nat)(v:ι)(d:bG)(ds:List bG)(d':bG)(ds':List bG):Prop:=∀cs g,aQ d ds cs g->bZ P m k (aQ d' ds' cs) (fin v g)
def Cg(P:Zn)(k:Nat)(d:bG)(ds:List bG)(d':bG)(ds':List bG):Prop:=∀cs c0 g,aQ d ds (c0::cs) g->bZ P I k (aQ d' ds' (c0::cs)) g
def Cf(P:Zn)(k:Nat)(v:ι)(d:bG)(ds:List bG)(d':bG)(ds':List bG):Prop:=∀cs c0 g,aQ d ds (c0::cs) g->bZ P I k (aQ d' ds' (c0::cs)) (fin v g)
def bJ{P m k d b ds a cs}(stop)(h:∀F,cz3 (b::a) (bN P m stop k<|SC d ds cs F)=cg3 b a cs (bN P m stop k<|SC d ds cs F))(g)(c:aQ d ds cs g):bZ P m k (aQ b a cs) g:=aQ.QF stop k (λf=>(wV.three<|h f).1) (λf=>(wV.three<|h f).2.1) (λf=>(wV.three<|h f).2.2) g c
def aR{P m k v d b ds a cs}(stop)(h:∀F,cz3 (b::a) (bN P m stop k<|fin v<|SC d ds cs F)=cg3 b a cs (bN P m stop k<|fin v<|SC d ds cs F))(g)(c:aQ d ds cs g):bZ P m k (aQ b a cs) (fin v g):=aQ.F3 v stop k (λf=>(wV.three<|h f).1) (λf=>(wV.three<|h f).2.1) (λf=>(wV.three<|h f).2.2) g c
def Kh(d:bG)(ds:List bG)(s:Sem Next):Prop:=∀cs g,aQ d ds cs g->au g=U s
def CL(d:bG)(ds:List bG)(s:Sem Next):Prop:=∀cs c0 g,aQ d ds (c0::cs) g->au g=U s
end
section
noncomputable abbrev up:=Cg P0 300
noncomputable abbrev lP:=Cf P0 300
def jq:Bool->CallKind
 |true=>.deferred
 |false=>.normal
def fK(b:Bool)(T:List Zd)(l:List (Nat×ι)):bG:={fn:=166,n:=43,T,l,kind:=jq b}
def fF(T:List Zd)(b:Bool)(k:Int):bG:={fn:=84,n:=8,T,l:=[bv 0 b,iv 1 k]}
def kH(d:bG)(ds:List bG)(stop:R->Bool):R:=bN P0 I stop 300<|SC d ds [default] λ_ _=>undef
def c8(d:bG)(ds:List bG)(v:ι)(stop:R->Bool):R:=bN P0 I stop 300<|fin v<|SC d ds [default] λ_ _=>undef
def ack(f:Yf)(g:R):Bool:=
 g.frame.fn==f&&match g.frame.mode,g.frame.todo with
 |.run,.inRegion ops (i::_)::_=>match((ops[i]?).map (·.op):Option Op)with
  |some (.go ..)=>I
  |_=>V
 |_,_=>V
def lQ(f:Yf)(g:R):Bool:=g.frame.fn==f&&rE g
def gC0:=bN P0 I (ah 166 3) 300 {frame:=ZN P0 166 #[Ω (U a0),υ (U a0) 1 1,Θ Γ 5] .normal,callers:=[default],status:=.running,dying:=θ}
def tk3:=aK gC0
abbrev PI:List (Nat×ι):=[pv 0 a0,(1,υ (U a0) 1 1),iv 2 5]
def gC1:=c8 (fK V tk3 PI) [] (Ω<|U a0)<|aC 84 4
def Tw:=aK gC1
def L9:=cH 0 gC1
def L':=aK<|kH {fF Tw V 6 with l:=[bv 4 V,bv 0 V,iv 1 6]} [fK V L9 PI]<|ah 166 20
def tk6:=aK<|c8 (fK V L' [pv 0 a0,(1,υ (U a0) 1 1),iv 2 5,iv 19 1]) [] (υ (U a0) 1 1)<|ah 166 6
abbrev aae:List (Nat×ι):=[pv 0 a0,(1,υ (U a0) 1 1),iv 2 5,(20,υ (U a0) 1 1)]
def CO:=aK<|c8 (fK V tk6 aae) [] (Ω<|U a0)<|eh 166
def tk7:=aK<|c8 (fK V CO aae) [] undef<|ah 166 7
def tk8:=aK<|c8 (fK V tk7 PI) [] (Ω<|U a0)<|ah 166 8
def uq:=aK<|c8 (fK V tk8 PI) [] (Ω<|U a0)<|aC 166 24
def GD:=aK<|kH (fK V uq [bv 24 I,(21,υ (U a0) 1 1),iv 22 1,iv 23 0,pv 3 a0,pv 6 a0,pv 7 a0,pv 8 a0]) []<|ah 166 26
structure MP where
 ca:Option Z1
 n:Nat
 m:Nat
 gb:Z1
 eb:Z1
 lk:Z1
 wg:Z1
variable(b:Bool)(q:MP)(v:Int)(v0:ι)(i:Int)(ib cb:Z1)(k w:Int)(E ce:Z1)
def MP.l(q:MP):List (Nat×ι):=[pv 3 q.gb,pv 6 q.eb,pv 7 q.lk,pv 8 q.wg,(21,.slice q.ca q.n q.m),iv 22 q.n]
def MP.wp(q:MP)(cb ib:Z1):WP:=⟨q.wg,q.gb,cb,q.lk,q.eb,ib⟩
def eu:MP:=⟨U a0,1,1,a0,a0,a0,a0⟩
def kg(b:Bool)(q:MP)(T:List Zd)(ex:List (Nat×ι)):bG:=fK b T<|ex++q.l
def gA(q:MP)(T:List Zd)(ex:List (Nat×ι))(ds:List Deferred):bG:={fn:=210,n:=117,T,l:=ex++[pv 0 q.wg,iv 1 1],defers:=ds}
def gAr(T:List Zd)(ds:List Deferred):bG:={fn:=210,n:=117,T,l:=[],defers:=ds,mode:=.returning}
def gM(q:MP)(f:Yf)(n:Nat)(T:List Zd)(ex:List (Nat×ι)):bG:={fn:=f,n,T,l:=ex++[pv 0 q.wg]}
def gQ(q:MP)(T:List Zd)(ex:List (Nat×ι)):bG:={fn:=216,n:=84,T,l:=ex++[pv 0 q.wg]}
def GE:=aK<|c8 (kg V eu GD [iv 23 0]) [] (Ω<|U a0)<|ah 166 27
def tk9:=aK<|c8 (kg V eu GE [iv 23 0]) [] (.agg #[])<|ah 166 9
def GF:=aK<|c8 (kg V eu tk9 [iv 23 0]) [] (Ω<|U a0)<|ah 166 10
def yl:=aK<|c8 (kg V eu GF [iv 23 0]) [] (Ω<|U a0)<|eh 166
def ym:=aK<|c8 (kg V eu yl [iv 23 0]) [] undef<|eh 166
def gC2:=c8 (kg V eu ym [iv 23 0]) [] undef<|ah 210 14
def Mb:=aK gC2
def qs:=cH 0 gC2
noncomputable abbrev Ak:List bG:=[(kg V eu qs [iv 23 0,pv 9 a0,pv 10 a0])]
def gC3:=c8 (gA eu Mb [] []) Ak (.tuple #[])<|ah 242 9
def CP:=aK gC3
def Mc:=cH 0 gC3
def Tx:=aK<|c8 (gM eu 242 10 CP []) (gA eu Mc [bv 4 V] [dK]::Ak) (Θ ZR 0)<|ah 210 48
def CQ:=aK<|kH (gA eu Tx [bv 47 V,(6,Θ ZR 0),bv 4 V] [dK]) Ak<|aC 210 67
abbrev Ki:List (Nat×ι):=[(6,Θ ZR 0),bv 4 V,jv 7 0,(8,Θ .u32 0)]
def Me:=aK<|kH (gA eu CQ (bv 67 I::Ki) [dK]) Ak<|ah 210 71
def Mf:=aK<|c8 (gA eu Me Ki [dK]) Ak (Ω<|U a0)<|ah 210 72
def yn:=aK<|c8 (gA eu Mf Ki [dK]) Ak (.tuple #[])<|aC 210 74
def Ty:=aK<|kH (gA eu yn (bv 74 V::Ki) [dK]) Ak<|ah 210 79
def Tz:=aK<|kH (gA eu Ty (bv 78 V::Ki) [dK]) Ak<|ah 210 92
def tar:=aK<|kH (gA eu Tz (bv 91 I::Ki) [dK]) Ak rE
def Mg:=aK<|kH (gAr tar []) Ak<|ack 166
def gC4:=kH (kg V eu uq [bv 24 V,iv 23 0]) []<|ah 216 7
def tq7:=aK gC4
def cC:=cH 0 gC4
noncomputable abbrev pQ:List bG:=[(kg V eu cC [])]
def gC5:=c8 (gQ eu tq7 []) pQ (.tuple #[])<|ah 244 6
def nP:=aK gC5
def GJ:=cH 0 gC5
def yo:=aK<|c8 (gM eu 244 7 nP []) (gQ eu GJ []::pQ) (Θ ZR 0)<|aC 216 19
abbrev yY:List (Nat×ι):=[(2,Θ ZR 0),jv 3 0,(4,Θ .u32 0)]
def Mh:=aK<|kH (gQ eu yo (bv 19 I::yY)) pQ<|ah 216 20
def Mi:=aK<|c8 (gQ eu Mh yY) pQ (.tuple #[])<|ah 216 22
def Mj:=aK<|c8 (gQ eu Mi yY) pQ (Ω<|U a0)<|ah 216 23
def TA:=aK<|c8 (gQ eu Mj yY) pQ (.tuple #[])<|ah 216 27
def TB:=aK<|kH (gQ eu TA (bv 26 I::yY)) pQ<|ah 216 32
def A9:=aK<|kH (gQ eu TB (bv 31 V::yY)) pQ<|ah 166 32
def gC6:=kH (gQ eu yo (bv 19 V::yY)) pQ<|ah 254 12
def yp:=aK gC6
def GK:=cH 0 gC6
def GL:=aK<|c8 (gM eu 254 13 yp []) (gQ eu GK yY::pQ) (.bool I)<|aC 216 52
def Mk:=aK<|kH (gQ eu GL (bv 52 I::yY)) pQ<|ah 216 56
def Ml:=aK<|c8 (gQ eu Mk yY) pQ (Ω<|U a0)<|ah 216 57
def TD:=aK<|c8 (gQ eu Ml yY) pQ (.tuple #[])<|ah 216 62
def Mm:=aK<|kH (gQ eu TD [bv 61 V,bv 5 V]) pQ<|ah 216 72
def gC7:=c8 (gQ eu Mm []) pQ (.tuple #[])<|ah 244 6
def Mn:=cH 0 gC7
def Mo:=aK<|c8 (gM eu 244 7 nP []) (gQ eu Mn []::pQ) (Θ ZR 0)<|ah 216 78
def Mp:=aK<|c8 (gQ eu Mo []) pQ (.tuple #[])<|ah 216 80
def TE:=aK<|c8 (gQ eu Mp []) pQ (Ω<|U a0)<|ah 216 81
def rH:=aK<|c8 (kg V eu A9 []) [] (υ (U a0) 1 1)<|aC 166 35
abbrev PJ:List (Nat×ι):=[(32,υ (U a0) 1 1),iv 33 1,iv 34 0]
def Mr:=aK<|kH (kg V eu rH (bv 35 I::PJ)) []<|ah 166 36
def Ms:=aK<|c8 (kg V eu Mr PJ) [] (Ω<|U a0)<|ah 166 37
def gC8:=c8 (kg V eu Ms PJ) [] (Θ Γ 0)<|aC 84 4
def Mt:=cH 0 gC8
abbrev qt(v:Int)(k:Int)(w:Int):List (Nat×ι):=[(2,Θ ZR v),jv 3 k,(4,Θ .u32 w)]
abbrev tz(v:Int)(k:Int)(w:Int):List (Nat×ι):=[(6,Θ ZR v),bv 4 V,jv 7 k,(8,Θ .u32 w)]
noncomputable abbrev iI (b:Bool) (q:MP) (cb:Z1) (ib:Z1) (i:Int):List bG:=[(kg b q qs [pv 10 cb,pv 9 ib,iv 23 i])]
abbrev aaz(E:Z1)(n:Nat)(i:Int):List (Nat×ι):=[(32,υ (U E) n n),iv 33 n,iv 34 i]
abbrev aay(gb:Z1)(v0:ι)(ca:Option Z1)(n:Nat)(m:Nat)(room:Int):List (Nat×ι):=[pv 3 gb,(0,v0),(1,.slice ca n m),iv 2 room]
def acn(ca n m room gb):lP (Ω<|U gb) (fK b tk3 [(0,v0),(1,.slice ca n m),iv 2 room]) [] {fF Tw (decide<|(n:Int)>room) 6 with l:=[bv 4 (decide<|(n:Int)>room),bv 0<|decide<|(n:Int)>room,iv 1 6]} [fK b L9 (aay gb v0 ca n m room)]:=by cases b<;>exactλ_ _=>aR (aC 84 4) λ_=>by kernel_rfl
def akV(ca n m room gb):up {fF Tw (V) 6 with l:=[bv 4 (V),bv 0<|V,iv 1 6]} [fK b L9 (aay gb v0 ca n m room)] (fK b L' (iv 19 n::aay gb v0 ca n m room)) []:=by cases b<;>exactλ_ _=>bJ (ah 166 20) λ_=>by kernel_rfl
def TF(ca n m room gb E):lP (υ (U E) n n) (fK b L' (iv 19 n::aay gb v0 ca n m room)) [] (fK b tk6 ((20,υ (U E) n n)::aay gb v0 ca n m room)) []:=by cases b<;>exactλ_ _=>aR (ah 166 6) λ_=>by kernel_rfl
def aco(ca n m room gb eb E):lP (Ω<|U eb) (fK b tk6 ((20,υ (U E) n n)::aay gb v0 ca n m room)) [] (fK b CO ((20,υ (U E) n n)::pv 6 eb::aay gb v0 ca n m room)) []:=by cases b<;>exactλ_ _=>aR (eh 166) λ_=>by kernel_rfl
def Mv(ca n m room gb eb E):lP (undef) (fK b CO ((20,υ (U E) n n)::pv 6 eb::aay gb v0 ca n m room)) [] (fK b tk7 (pv 6 eb::aay gb v0 ca n m room)) []:=by cases b<;>exactλ_ _=>aR (ah 166 7) λ_=>by kernel_rfl
def acp(ca n m room gb eb lk):lP (Ω<|U lk) (fK b tk7 (pv 6 eb::aay gb v0 ca n m room)) [] (fK b tk8 (pv 7 lk::pv 6 eb::aay gb v0 ca n m room)) []:=by cases b<;>exactλ_ _=>aR (ah 166 8) λ_=>by kernel_rfl
def acr(ca n m room gb eb lk wg):lP (Ω<|U wg) (fK b tk8 (pv 7 lk::pv 6 eb::aay gb v0 ca n m room)) [] (kg b ⟨ca,n,m,gb,eb,lk,wg⟩ uq [bv 24 (decide<|(0:Int)<n),iv 23 0]) []:=by cases b<;>exactλ_ _=>aR (aC 166 24) λ_=>by kernel_rfl
def GM:up (kg b q uq [bv 24 I,iv 23 i]) [] (kg b q GD [iv 25 i,iv 23 i]) []:=by cases b<;>exactλ_ _=>bJ (ah 166 26) λ_=>by kernel_rfl
def TG:lP (Ω<|U ce) (kg b q GD [iv 25 i,iv 23 i]) [] (kg b q GE [pv 26 ce,iv 25 i,iv 23 i]) []:=by cases b<;>exactλ_ _=>aR (ah 166 27) λ_=>by kernel_rfl
def TH(v):lP (v) (kg b q GE [pv 26 ce,iv 25 i,iv 23 i]) [] (kg b q tk9 [(27,v),iv 25 i,iv 23 i]) []:=by cases b<;>exactλ_ _=>aR (ah 166 9) λ_=>by kernel_rfl
def acs(v):lP (Ω<|U ib) (kg b q tk9 [(27,v),iv 25 i,iv 23 i]) [] (kg b q GF [pv 9 ib,(27,v),iv 25 i,iv 23 i]) []:=by cases b<;>exactλ_ _=>aR (ah 166 10) λ_=>by kernel_rfl
def TJ(v):lP (Ω<|U cb) (kg b q GF [pv 9 ib,(27,v),iv 25 i,iv 23 i]) [] (kg b q yl [pv 10 cb,pv 9 ib,(27,v),iv 25 i,iv 23 i]) []:=by cases b<;>exactλ_ _=>aR (eh 166) λ_=>by kernel_rfl
def Mw(v):lP (undef) (kg b q yl [pv 10 cb,pv 9 ib,(27,v),iv 25 i,iv 23 i]) [] (kg b q ym [pv 10 cb,pv 9 ib,(27,v),iv 23 i]) []:=by cases b<;>exactλ_ _=>aR (eh 166) λ_=>by kernel_rfl
def My(v):lP (undef) (kg b q ym [pv 10 cb,pv 9 ib,(27,v),iv 23 i]) [] (gA q Mb [] []) (iI b q cb ib i):=by cases b<;>exactλ_ _=>aR (ah 210 14) λ_=>by kernel_rfl
def TK:lP (.tuple #[]) (gA q Mb [] []) (iI b q cb ib i) (gM q 242 10 CP [pv 7 q.wg,(8,Θ ZR 4294967296)]) (gA q Mc [bv 4 V] [dK]::iI b q cb ib i):=by cases b<;>exactλ_ _=>aR (ah 242 9) λ_=>by kernel_rfl
def Mz(v):lP (Θ ZR v) (gM q 242 10 CP [pv 7 q.wg,(8,Θ ZR 4294967296)]) (gA q Mc [bv 4 V] [dK]::iI b q cb ib i) (gA q Tx [bv 47 (bits .and ZR v 2147483648 !=0),(6,Θ ZR v),bv 4 V] [dK]) (iI b q cb ib i):=by cases b<;>exactλ_ _=>aR (ah 210 48) λ_=>by kernel_rfl
def acu(v):up (gA q Tx [bv 47 V,(6,Θ ZR v),bv 4 V] [dK]) (iI b q cb ib i) (gA q CQ [bv 67 (decide<|Ξ Yz (v.fdiv 4294967296)=1),(6,Θ ZR v),bv 4 V,jv 7<|Ξ Yz<|v.fdiv 4294967296,(8,Θ .u32<|Ξ .u32<|bits .and ZR v 2147483647)] [dK]) (iI b q cb ib i):=by cases b<;>exactλ_ _=>bJ (aC 210 67) λ_=>by kernel_rfl
def TL(v k w):up (gA q CQ (bv 67 I::tz v k w) [dK]) (iI b q cb ib i) (gA q Me (pv 70 (q.wg.add 1)::tz v k w) [dK]) (iI b q cb ib i):=by cases b<;>exactλ_ _=>bJ (ah 210 71) λ_=>by kernel_rfl
def TM(v k w):lP (Ω<|U<|q.wg.add 1) (gA q Me (pv 70 (q.wg.add 1)::tz v k w) [dK]) (iI b q cb ib i) (gA q Mf (pv 71 (q.wg.add 1)::tz v k w) [dK]) (iI b q cb ib i):=by cases b<;>exactλ_ _=>aR (ah 210 72) λ_=>by kernel_rfl
def TN(v k w):lP (.tuple #[]) (gA q Mf (pv 71 (q.wg.add 1)::tz v k w) [dK]) (iI b q cb ib i) (gA q yn (bv 74 (decide<|k<0)::tz v k w) [dK]) (iI b q cb ib i):=by cases b<;>exactλ_ _=>aR (aC 210 74) λ_=>by kernel_rfl
def TO(v k w):up (gA q CQ (bv 67 V::tz v k w) [dK]) (iI b q cb ib i) (gA q yn (bv 74 (decide<|k<0)::tz v k w) [dK]) (iI b q cb ib i):=by cases b<;>exactλ_ _=>bJ (aC 210 74) λ_=>by kernel_rfl
def TP(v k w):up (gA q yn (bv 74 V::tz v k w) [dK]) (iI b q cb ib i) (gA q Ty (bv 78 (w !=0)::tz v k w) [dK]) (iI b q cb ib i):=by cases b<;>exactλ_ _=>bJ (ah 210 79) λ_=>by kernel_rfl
def TQ(v k w):up (gA q Ty (bv 78 V::tz v k w) [dK]) (iI b q cb ib i) (gA q Tz (bv 91 (decide<|k>0)::tz v k w) [dK]) (iI b q cb ib i):=by cases b<;>exactλ_ _=>bJ (ah 210 92) λ_=>by kernel_rfl
def acv(v k w):up (gA q Tz (bv 91 I::tz v k w) [dK]) (iI b q cb ib i) (gAr tar [dK]) (iI b q cb ib i):=by cases b<;>exactλ_ _=>bJ (rE) λ_=>by kernel_rfl
def acw:up (gAr tar []) (iI b q cb ib i) (kg b q Mg [(29,.func (.func 211) #[] (q.wp cb ib).tx),iv 23 i]) []:=by cases b<;>exactλ_ _=>bJ (ack 166) λ_=>by kernel_rfl
def TR(a):lP (undef) (kg b q Mg [(29,a),iv 23 i]) [] (kg b q uq [bv 24 (decide<|Ξ Γ (i+1)<q.n),iv 23<|Ξ Γ<|i+1]) []:=by cases b<;>exactλ_ _=>aR (aC 166 24) λ_=>by kernel_rfl
def GN:up (kg b q uq [bv 24 V,iv 23 i]) [] (gQ q tq7 []) [(kg b q cC [])]:=by cases b<;>exactλ_ _=>bJ (ah 216 7) λ_=>by kernel_rfl
def acx:lP (.tuple #[]) (gQ q tq7 []) [(kg b q cC [])] (gM q 244 7 nP [pv 5 q.wg]) [gQ q GJ [],(kg b q cC [])]:=by cases b<;>exactλ_ _=>aR (ah 244 6) λ_=>by kernel_rfl
def MA:lP (Θ ZR v) (gM q 244 7 nP [pv 5 q.wg]) [gQ q GJ [],(kg b q cC [])] (gQ q yo [bv 19 (decide<|Ξ Yz (v.fdiv 4294967296)=0),(2,Θ ZR v),jv 3<|Ξ Yz<|v.fdiv 4294967296,(4,Θ .u32<|Ξ .u32<|bits .and ZR v 2147483647)]) [(kg b q cC [])]:=by cases b<;>exactλ_ _=>aR (aC 216 19) λ_=>by kernel_rfl
def TS:up (gQ q yo (bv 19 I::qt v k w)) [(kg b q cC [])] (gQ q Mh<|qt v k w) [(kg b q cC [])]:=by cases b<;>exactλ_ _=>bJ (ah 216 20) λ_=>by kernel_rfl
def TU:lP (.tuple #[]) (gQ q Mh<|qt v k w) [(kg b q cC [])] (gQ q Mi (pv 21 q.wg::qt v k w)) [(kg b q cC [])]:=by cases b<;>exactλ_ _=>aR (ah 216 22) λ_=>by kernel_rfl
def TV:lP (Ω<|U q.wg) (gQ q Mi (pv 21 q.wg::qt v k w)) [(kg b q cC [])] (gQ q Mj (pv 22 q.wg::qt v k w)) [(kg b q cC [])]:=by cases b<;>exactλ_ _=>aR (ah 216 23) λ_=>by kernel_rfl
def TW:lP (.tuple #[]) (gQ q Mj (pv 22 q.wg::qt v k w)) [(kg b q cC [])] (gQ q TA (bv 26 (decide<|w=0)::qt v k w)) [(kg b q cC [])]:=by cases b<;>exactλ_ _=>aR (ah 216 27) λ_=>by kernel_rfl
def acy:up (gQ q TA (bv 26 I::qt v k w)) [(kg b q cC [])] (gQ q TB (bv 31 (bits .and ZR v 2147483648 !=0)::qt v k w)) [(kg b q cC [])]:=by cases b<;>exactλ_ _=>bJ (ah 216 32) λ_=>by kernel_rfl
def acz:up (gQ q TB (bv 31 V::qt v k w)) [(kg b q cC [])] (kg b q A9 []) []:=by cases b<;>exactλ_ _=>bJ (ah 166 32) λ_=>by kernel_rfl
def TX:up (gQ q yo (bv 19 V::qt v k w)) [(kg b q cC [])] (gM q 254 13 yp [pv 9 q.wg,(10,Θ ZR v),(11,Θ ZR<|Ξ ZR<|v+1)]) [gQ q GK (qt v k w),(kg b q cC [])]:=by cases b<;>exactλ_ _=>bJ (ah 254 12) λ_=>by kernel_rfl
def TY:lP (.bool I) (gM q 254 13 yp [pv 9 q.wg,(10,Θ ZR v),(11,Θ ZR<|Ξ ZR<|v+1)]) [gQ q GK (qt v k w),(kg b q cC [])] (gQ q GL (bv 52 (decide<|w=0)::qt v k w)) [(kg b q cC [])]:=by cases b<;>exactλ_ _=>aR (aC 216 52) λ_=>by kernel_rfl
def TZ:lP (.bool V) (gM q 254 13 yp [pv 9 q.wg,(10,Θ ZR v),(11,Θ ZR<|Ξ ZR<|v+1)]) [gQ q GK (qt v k w),(kg b q cC [])] (gM q 244 7 nP [pv 5 q.wg]) [gQ q GJ [],(kg b q cC [])]:=by cases b<;>exactλ_ _=>aR (ah 244 6) λ_=>by kernel_rfl
def T1:up (gQ q GL (bv 52 I::qt v k w)) [(kg b q cC [])] (gQ q Mk (pv 55 (q.wg.add 1)::qt v k w)) [(kg b q cC [])]:=by cases b<;>exactλ_ _=>bJ (ah 216 56) λ_=>by kernel_rfl
def T2:lP (Ω<|U<|q.wg.add 1) (gQ q Mk (pv 55 (q.wg.add 1)::qt v k w)) [(kg b q cC [])] (gQ q Ml (pv 56 (q.wg.add 1)::qt v k w)) [(kg b q cC [])]:=by cases b<;>exactλ_ _=>aR (ah 216 57) λ_=>by kernel_rfl
def T3:lP (.tuple #[]) (gQ q Ml (pv 56 (q.wg.add 1)::qt v k w)) [(kg b q cC [])] (gQ q TD [bv 61 (bits .and ZR v 2147483648 !=0),bv 5 V]) [(kg b q cC [])]:=by cases b<;>exactλ_ _=>aR (ah 216 62) λ_=>by kernel_rfl
def acA:up (gQ q TD [bv 61 V,bv 5 V]) [(kg b q cC [])] (gQ q Mm [pv 70 (q.wg.add 1),bv 71 V]) [(kg b q cC [])]:=by cases b<;>exactλ_ _=>bJ (ah 216 72) λ_=>by kernel_rfl
def T4:lP (.tuple #[]) (gQ q Mm [pv 70 (q.wg.add 1),bv 71 V]) [(kg b q cC [])] (gM q 244 7 nP [pv 5 q.wg]) [gQ q Mn [],(kg b q cC [])]:=by cases b<;>exactλ_ _=>aR (ah 244 6) λ_=>by kernel_rfl
def GO:lP (Θ ZR v) (gM q 244 7 nP [pv 5 q.wg]) [gQ q Mn [],(kg b q cC [])] (gQ q Mo [bv 6 (v !=0)]) [(kg b q cC [])]:=by cases b<;>exactλ_ _=>aR (ah 216 78) λ_=>by kernel_rfl
def T5:lP (.tuple #[]) (gQ q Mo [bv 6 V]) [(kg b q cC [])] (gQ q Mp [pv 79 q.wg,bv 6 V]) [(kg b q cC [])]:=by cases b<;>exactλ_ _=>aR (ah 216 80) λ_=>by kernel_rfl
def T6:lP (Ω<|U q.wg) (gQ q Mp [pv 79 q.wg,bv 6 V]) [(kg b q cC [])] (gQ q TE [pv 80 q.wg,bv 6 V]) [(kg b q cC [])]:=by cases b<;>exactλ_ _=>aR (ah 216 81) λ_=>by kernel_rfl
def T7:lP (.tuple #[]) (gQ q TE [pv 80 q.wg,bv 6 V]) [(kg b q cC [])] (kg b q A9 []) []:=by cases b<;>exactλ_ _=>aR (ah 166 32) λ_=>by kernel_rfl
def T8(n):lP (υ (U E) n n) (kg b q A9 []) [] (kg b q rH [bv 35 (decide<|(0:Int)<n),(32,υ (U E) n n),iv 33 n,iv 34 0]) []:=by cases b<;>exactλ_ _=>aR (aC 166 35) λ_=>by kernel_rfl
def T9(n i):up (kg b q rH (bv 35 I::aaz E n i)) [] (kg b q Mr<|aaz E n i) []:=by cases b<;>exactλ_ _=>bJ (ah 166 36) λ_=>by kernel_rfl
def Ua(n i):lP (Ω<|U ce) (kg b q Mr<|aaz E n i) [] (kg b q Ms (pv 36 ce::aaz E n i)) []:=by cases b<;>exactλ_ _=>aR (ah 166 37) λ_=>by kernel_rfl
def Ub(n i e):lP (Θ Γ e) (kg b q Ms (pv 36 ce::aaz E n i)) [] {fF Tw (e !=0) e with l:=[bv 4 (e !=0),bv 0<|e !=0,iv 1 e]} [(kg b q Mt<|aaz E n i)]:=by cases b<;>exactλ_ _=>aR (aC 84 4) λ_=>by kernel_rfl
def acB(n i e):up {fF Tw V e with l:=[bv 4 V,bv 0 V,iv 1 e]} [(kg b q Mt<|aaz E n i)] (kg b q rH [bv 35 (decide<|Ξ Γ (i+1)<n),(32,υ (U E) n n),iv 33 n,iv 34<|Ξ Γ<|i+1]) []:=by cases b<;>exactλ_ _=>bJ (aC 166 35) λ_=>by kernel_rfl
def tkr:=aK<|kH (kg V eu rH (bv 35 V::PJ)) []<|lQ 166
def Uc(n i):up (kg b q rH (bv 35 V::aaz E n i)) [] {fn:=166,n:=43,T:=tkr,l:=[],mode:=.returning,kind:=jq b} []:=by cases b<;>exactλ_ _=>bJ (lQ 166) λ_=>by kernel_rfl
end
section
def i9(t:ZS):Sem Next:=do pure (.value<|<-Yc t I (.tuple #[]))
def PL(t:ZS)(x:ι):Sem Next:=do pure (.value<|<-Instr.box t x)
def mkS(t:ZS)(a b:ι):Sem Next:=do pure (.value<|<-Instr.makeSlice t a b)
def vX(P:Zn)(t:ZS)(z:ι):Prop:=∀w es,(zeroValue t).runT P w es=(.ok z w,es)
section
variable{P:Zn}{main:Bool}{g:R}{t:ZS}{w w':ξ}{ad:Z1}{v u z:ι}{q:Bool}
def vX.run(h:vX P t z)(w):(zeroValue t).run P w=.ok z w:=by
 have:=h w #[]
 simp_all
def vX.events(h:vX P t z)(w es):(zeroValue t).events P w es=es:=by simp
def gq(h:au g=U (i9 t))(hz:vX P t z):stepG P main g w=.go (fin (.pointer w.heap.size) g) (w.alloc<|.cells z.cells t) #[]:=by obtain⟨_,_,_,k,_⟩:=bU (w':=w.alloc<|.cells z.cells t) h;rw[k (.pointer w.heap.size),YZ];unfold i9 Yc newVar newRow;simp[hz.run,hz.events,ZP,Zv]
def rI(h:au g=U (PL t u)):stepG P main g w=.go (fin (.pointer w.heap.size) g) (w.alloc<|.cells u.cells t) #[]:=by obtain⟨_,_,_,k,_⟩:=bU (w':=w.alloc<|.cells u.cells t) h;rw[k (.pointer w.heap.size),YZ];unfold PL Instr.box newVar newRow;simp
def ut{x y v2}(h:au g=U (gh t (Ω<|U ad)<|.agg #[x,y]))(hs:dt P t 2)(c:x.oneCell'=I)(b:y.oneCell'=I)(hc:w (ad.add 0)=U v)(hz:w.frozen? (ad.add 0)=V)(e:(w.setCell (ad.add 0) x) (ad.add 1)=U v2)(d:(w.setCell (ad.add 0) x).frozen? (ad.add 1)=V)(f:bR P g.frame.fn V):
 stepG P main g w=.go (fin undef g) ((w.setCell (ad.add 0) x).setCell (ad.add 1) y) #[⟨.cell<|ad.add 0,I,V⟩,⟨.cell<|ad.add 1,I,V⟩]:=by
 obtain⟨_,_,_,_,k,_⟩:=bU (P:=P) (main:=main) (w:=w) (w':=(w.setCell (ad.add 0) x).setCell (ad.add 1) y) (es:=#[⟨.cell<|ad.add 0,I,V⟩,⟨.cell<|ad.add 1,I,V⟩]) h;rw[k];rw[seen_def];unfold bR at f;simp[seenStep,f];rw[Zs];unfold gh Instr.storeAt Zi storeVar;have a:(ZL #[x,y]).cells=#[x,y]:=rfl;simp[hs.run,hs.events,a,storeCells,hc,hz,e,d,ZP,Zv,events_store P _ _ _ x .plain c,run_store P _ _ x .plain c,events_store P _ _ _ y .plain b,run_store P _ _ y .plain b]
def Ba{f tx}(h:au g=U (pure<|.spawn {target:=.fn f tx,args:=#[]})):
 stepG P main g w=.spawn (fin undef g) {frame:={(default:ZW)with fn:=P.funcs.size,defers:=[{target:=.fn f tx,args:=#[]}],mode:=.panicking [goexitEntry]},callers:=[],status:=.running,dying:=θ} w #[]:=by
 unfold au at h;by_cases d:d9 g=I
 ·rw[if_pos d]at h;obtain⟨fr,cs,st,j,off⟩:=g;obtain⟨fn,b,todo,defers,mode,kind,l⟩:=fr;obtain⟨o,a,e⟩:=ω.1 h;obtain⟨rfl,rfl,rfl,rfl,k⟩:st=.running/\j=θ/\off=θ/\l=θ/\(kind==.early)=V:=by unfold Ph.d9 at d;dsimp only at d;split at d<;>first|(cases d;done)|exact⟨rfl,rfl,rfl,rfl,rfl⟩
  unfold rC at a;dsimp only at a e;cases mode with
  |run=>
   obtain _|⟨i,rest⟩:=todo
   cases a
   cases i with
   |inRegion c todo=>
    obtain _|⟨i,is⟩:=todo
    cases a
    dsimp only at a;by_cases hw:(((c[i]?).map (Ym · (yielded c b))).getD V)=I
    rw[if_pos hw]at a;unfold stepG;dsimp only;unfold stepG.exec;dsimp only;simp only[if_pos hw];unfold stepG.oper;simp only[Yb,a];unfold stepG.apply;have m:(execOp (Frame.eval {fn:=fn,tmps:=b,todo:=.inRegion c (i::is)::rest,defers:=defers,mode:=.run,kind:=kind,roundOf:=θ}) o).runT P w #[]=(.ok (.spawn {target:=.fn f tx,args:=#[]}) w,#[]):=by rw[e];rfl
    simp only[if_true,m,k,ZA,if_false,YZ];simp only[Bool.and_false,Bool.false_and,ZA,if_false,GStep.after];rfl;rw[if_neg hw]at a;cases a
   |_=>cases a
  |_=>cases a
 rw[if_neg d]at h;cases h
end
def z83:vX P0 83 (υ θ 0 0):=λw a=>by kernel_rfl
def akX:vX P0 249 (.agg #[Θ Yz 0,Θ .u32 0]):=λw a=>by kernel_rfl
def akY:vX P0 255 (.agg #[Θ ZR 0,Θ .u32 0]):=λw a=>by kernel_rfl
def z3:vX P0 3 (Θ Γ 0):=λw a=>by kernel_rfl
def z76:∃v,vX P0 76 (.agg #[Θ Γ 0,v]):=⟨υ θ 0 0,λw a=>by kernel_rfl⟩
def aaf(b q i cb ib cs c0 g)(h:aQ (kg b q Mg [(29,.func (.func 211) #[] (q.wp cb ib).tx),iv 23 i]) [] (c0::cs) g):au g=U (pure<|.spawn<|vA<|q.wp cb ib):=by cases b<;>exact aQ.head (λF=>by kernel_rfl) g h
end
section
def akZ:∃i,P0.info? 34=U i/\i.zero=U (Θ Γ 0)/\i.size=1/\i.bytes<=8:=by
 obtain⟨i,hi,a⟩:=ω.1 (by kernel_rfl:(P0.info? 34).map (λi=>(i.zero,i.size,decide<|i.bytes<=8))=U (U<|Θ Γ 0,1,I))
 grind
def bP(n:Nat):Array ι:=Yn n<|Θ Γ 0
def Bb(n):madeCells #[Θ Γ 0] n=bP n:=by
 unfold madeCells bP
 grind
section
variable{main:Bool}{g:R}{w:ξ}{n:Nat}
def Ef(e:n<1048576)(h:au g=U (mkS 83 (Θ Γ n)<|Θ Γ n)):stepG P0 main g w=.go (fin (υ (U ⟨w.heap.size,0,θ⟩) n n) g) (w.alloc<|.cells (bP n) 34) #[]:=by
 obtain⟨i,hi,hz,hs,hb⟩:=akZ;have c:(i.bytes:Int)*(n:Int)<=281474976710656:=by
  have:i.bytes*n<=8*1048576:=Ye hb (by omega)
  grind
 have d:(n:Int).toNat*i.bytes<=140737488355328:=by have:i.bytes*n<=8*1048576:=Ye hb (by omega);rw[Y',YT];omega
 have h3:(n:Int).toNat*i.size<=16777216:=by rw[Y',hs];omega
 have a:=run_makeSlice (P:=P0) w 83 34 i _ L8 hi hz Γ Γ n n (by omega) (Int.le_refl _) h3 c (by omega);have b:(Θ Γ 0).cells=#[Θ Γ 0]:=rfl;rw[Y',hs,Nat.mul_one,b,Bb]at a;obtain⟨_,_,_,k,_⟩:=bU (P:=P0) (main:=main) (w:=w) (w':=w.alloc<|.cells (bP n) 34) (es:=#[]) h;rw[k (υ (U ⟨w.heap.size,0,θ⟩) n n),YZ];rw[Zs];unfold mkS;simp[a,events_make (P:=P0) w 83 34 i _ L8 hi hz Γ Γ n n (by omega) (Int.le_refl _) c (by omega) d #[],ZP,Zv]
end
end
end Ph
namespace Ph
open Go Go.Conc
open Go.ConcM (muA msA MuAt ShAt Eff BookOK book_nil book_dis book_en book_one book_rw book_sem)
open Go.ConcR (stA smA WgAt mk)
section
inductive Mq where
 |q7|ql|qc (k0:Nat)|QO|KO|Bd|GQ|Eg|rJ|qm|MB|Eh|yq|kI
def Mx(s:Mq)(h:Sh)(s':Mq)(h':Sh):Prop:=
 match s with
 |.q7=>s'=.ql/\h'=h
 |.ql=>h'=h/\s'=if h.k=0 then .QO else .qc h.k
 |.qc k0=>(h.k=k0/\h'={h with wt:=1}/\s'=.GQ)\/(h.k≠k0/\h'=h/\s'=.ql)
 |.QO=>s'=.KO/\h'=h
 |.KO=>s'=.Bd/\h'=h
 |.Bd=>s'=.kI/\h'=h
 |.GQ=>s'=.Eg/\h'=h
 |.Eg=>s'=.rJ/\h'=h
 |.rJ=>0<h.ws/\h'={h with ws:=h.ws-1}/\s'=.qm
 |.qm=>s'=.MB/\h'=h
 |.MB=>s'=.Eh/\h'=h
 |.Eh=>s'=.yq/\h'=h
 |.yq=>s'=.kI/\h'=h
 |.kI=>False
def CR:Mq->Nat
 |.q7|.KO|.Bd|.Eh|.yq|.kI=>0
 |_=>1
def EvQ(Mu Wg:Nat)(s s':Mq)(es:Array ZH):Prop:=
 match s with
 |.Bd|.yq=>es=#[mk (.acquire<|stA Wg)]
 |.Eg=>es=#[mk (.write<|smA Wg)]
 |_=>BookOK Mu Wg (CR s) (CR s') es
def wv(k wt:Nat):Int:=(k:Int)*4294967296+(wt:Int)
def qG(k0:Nat):List (Nat×ι):=[(2,Θ ZR<|wv k0 0),jv 3 (k0:Int),(4,Θ .u32 0)]
def Ei(b:Bool)(q:MP):bG:=kg b q cC []
def ey(b:Bool)(q:MP)(cs:List ZW)(s:Mq)(g:R):Prop:=
 match s with
 |.q7=>aQ (gQ q tq7 []) [Ei b q] cs g
 |.ql=>aQ (gM q 244 7 nP [pv 5 q.wg]) [gQ q GJ [],Ei b q] cs g
 |.qc k0=>aQ (gM q 254 13 yp [pv 9 q.wg,(10,Θ ZR<|wv k0 0),(11,Θ ZR<|Ξ ZR<|wv k0 0+1)]) [gQ q GK (qG k0),Ei b q] cs g/\k0<1073741824
 |.QO=>aQ (gQ q Mh<|qG 0) [Ei b q] cs g
 |.KO=>aQ (gQ q Mi (pv 21 q.wg::qG 0)) [Ei b q] cs g
 |.Bd=>aQ (gQ q Mj (pv 22 q.wg::qG 0)) [Ei b q] cs g
 |.GQ=>∃k0,aQ (gQ q Mk (pv 55 (q.wg.add 1)::qG k0)) [Ei b q] cs g/\k0<1073741824
 |.Eg=>∃k0,aQ (gQ q Ml (pv 56 (q.wg.add 1)::qG k0)) [Ei b q] cs g/\k0<1073741824
 |.rJ=>aQ (gQ q Mm [pv 70 (q.wg.add 1),bv 71 V]) [Ei b q] cs g
 |.qm=>aQ (gM q 244 7 nP [pv 5 q.wg]) [gQ q Mn [],Ei b q] cs g
 |.MB=>aQ (gQ q Mo [bv 6 V]) [Ei b q] cs g
 |.Eh=>aQ (gQ q Mp [pv 79 q.wg,bv 6 V]) [Ei b q] cs g
 |.yq=>aQ (gQ q TE [pv 80 q.wg,bv 6 V]) [Ei b q] cs g
 |.kI=>aQ (kg b q A9 []) [] cs g
def nR(tM tW:ZS)(Mu Wg:Nat)(b:Bool)(q:MP)(cs:List ZW)(s:Mq)(h:Sh)(g:R)(w:ξ):Prop:=∃s' h' g' w' es,Mx s h s' h'/\stepG P0 I g w=.go g' w' es/\ShAt tM tW Mu Wg w' (dU h')/\Eff Mu Wg w w'/\EvQ Mu Wg s s' es/\bZ P0 I 2000 (ey b q cs s') g'
def QP:P0.underlying 294=U (.pointer 245):=by kernel_rfl
def QQ:(P0.info? 245).map (λi=>decide<|i.size=0)=U V:=by kernel_rfl
section
variable{tM tW:ZS}{Mu Wg:Nat}{b:Bool}{q:MP}{cs:List ZW}{c0:ZW}{h:Sh}{g:R}{w:ξ}
def acD(hw:ShAt tM tW Mu Wg w (dU h))(hs:ey b q (c0::cs) .q7 g):nR tM tW Mu Wg b q (c0::cs) .q7 h g w:=by
 have a:au g=U (ZM 236 #[]):=by cases b<;>exact aQ.head (λF=>by kernel_rfl) g hs
 exact⟨.ql,h,_,w,_,⟨rfl,rfl⟩,mC .disable (λg h=>by cases h) F2 a,hw,Eff.refl w,book_dis 0,(acx b q cs c0 g hs).le<|by omega⟩
def acE(e:q.wg=stA Wg)(f:h.k<1073741824)(h0:h.wt=0)(hw:ShAt tM tW Mu Wg w (dU h))(hs:ey b q (c0::cs) .ql g):nR tM tW Mu Wg b q (c0::cs) .ql h g w:=by
 have j:au g=U (ZM 269 #[Ω (U q.wg)]):=by cases b<;>exact aQ.head (λF=>by kernel_rfl) g hs
 have hc:w.cell? q.wg=U (Θ ZR<|wv h.k 0):=by rw[e,hw.2.cellSt];show U (Θ ZR<|(h.k:Int)*4294967296+(h.wt:Int))=_;rw[h0];rfl
 refine⟨_,h,_,w,_,⟨rfl,rfl⟩,rD Sa j hc,hw,Eff.refl w,?_,?_⟩;show BookOK Mu Wg 1 (CR (if _ then _ else _)) _;split<;>exact book_one 0 _ _<|.inr (by rw[e];rfl)
 refine bZ.le (bZ.trans (n:=300) (k:=300) (MA b q (wv h.k 0) cs c0 g hs) λg c=>?_) (by omega);have i:(wv h.k 0).fdiv 4294967296=(h.k:Int):=by unfold wv;rw[YY _ (by decide)];omega
 have l:Ξ .u32 (bits .and ZR (wv h.k 0) 2147483647)=0:=by
  unfold wv;rw[(Go.ConcN.st_waiters h.k 0 (by omega)<|by omega)]
  decide
 rw[i,wrap_small (by omega)<|by omega,l]at c;by_cases a:h.k=0
 rw[if_pos a];rw[(decide_eq_true<|by omega)]at c;have d:=TS b q _ _ _ cs c0 g c;rw[a]at d;exact d;rw[if_neg a];rw[(decide_eq_false<|by omega)]at c;exact bZ.mono (TX b q _ _ _ cs c0 g c) .refl λg c=>⟨c,f⟩
def acF{k0}(a:q.wg=stA Wg)(d:Mu≠Wg)(l:h.k<1073741824)(h0:h.wt=0)(hw:ShAt tM tW Mu Wg w (dU h))(hs:ey b q (c0::cs) (.qc k0) g):nR tM tW Mu Wg b q (c0::cs) (.qc k0) h g w:=by
 obtain⟨hs,e⟩:=hs;have e1:Ξ ZR (wv k0 0+1)=wv k0 1:=by unfold wv;rw[Yy];omega
 have i:au g=U (ZM 275 #[Ω (U q.wg),Θ ZR<|wv k0 0,Θ ZR<|Ξ ZR<|wv k0 0+1]):=by cases b<;>exact aQ.head (λF=>by kernel_rfl) g hs
 have hc:w.cell? q.wg=U (Θ ZR<|wv h.k 0):=by rw[a,hw.2.cellSt];show U (Θ ZR<|(h.k:Int)*4294967296+(h.wt:Int))=_;rw[h0];rfl
 have hz:w.frozen? q.wg=V:=by rw[a];exact hw.2.thaw 0
 by_cases c:h.k=k0
 rw[c]at hc;refine⟨.GQ,{h with wt:=1},_,_,_,.inl ⟨c,rfl,rfl⟩,nJ aa7 i hc hz,?_,Eff.set _ _<|.inr (by rw[a];rfl),book_rw 0 _<|.inr (by rw[a];rfl),?_⟩;rw[a,e1,<-c];exact hw.setWg d _;refine bZ.le (bZ.trans (n:=300) (k:=300) (TY b q _ _ _ cs c0 g hs) λg f=>?_) (by omega);exact bZ.mono (T1 b q _ _ _ cs c0 g f) .refl λg f=>⟨k0,f,e⟩;refine⟨.ql,h,_,_,_,.inr ⟨c,rfl,rfl⟩,kY aa7 i hc hz λj=>c (by unfold wv at j;omega),hw,Eff.refl w,book_one 0 _ _<|.inr (by rw[a];rfl),(TZ b q _ _ _ cs c0 g hs).le<|by omega⟩
def Ud(hw:ShAt tM tW Mu Wg w (dU h))(hs:ey b q (c0::cs) .QO g):nR tM tW Mu Wg b q (c0::cs) .QO h g w:=by
 have a:au g=U (ZM 237 #[]):=by cases b<;>exact aQ.head (λF=>by kernel_rfl) g hs
 exact⟨.KO,h,_,w,_,⟨rfl,rfl⟩,mC .enable (λg h=>by cases h) tw a,hw,Eff.refl w,book_en 0,(TU b q _ _ _ cs c0 g hs).le<|by omega⟩
def CS(a:q.wg=stA Wg)(hw:ShAt tM tW Mu Wg w (dU h))(b:au g=U (iC 288 219<|Ω<|U q.wg)):stepG P0 I g w=.go (fin (Ω<|U q.wg) g) w #[]:=iD b QL yf QM (by rw[a];exact hw.2.cellSt)
def Ue(a:q.wg=stA Wg)(hw:ShAt tM tW Mu Wg w (dU h))(hs:ey b q (c0::cs) .KO g):nR tM tW Mu Wg b q (c0::cs) .KO h g w:=by
 have c:au g=U (iC 288 219<|Ω<|U q.wg):=by cases b<;>exact aQ.head (λF=>by kernel_rfl) g hs
 exact⟨.Bd,h,_,w,_,⟨rfl,rfl⟩,CS a hw c,hw,Eff.refl w,book_nil 0,(TV b q _ _ _ cs c0 g hs).le<|by omega⟩
def Uf(c:q.wg=stA Wg)(hw:ShAt tM tW Mu Wg w (dU h))(hs:ey b q (c0::cs) .Bd g):nR tM tW Mu Wg b q (c0::cs) .Bd h g w:=by
 have e:au g=U (ZM 252 #[Ω (U q.wg)]):=by cases b<;>exact aQ.head (λF=>by kernel_rfl) g hs
 have d:(#[⟨.mark<|.acquire q.wg,V,I⟩]:Array ZH)=#[mk (.acquire<|stA Wg)]:=by rw[c];rfl
 refine⟨.kI,h,_,w,_,⟨rfl,rfl⟩,kZ .acquire (λ_ g h=>by cases h) La e,hw,Eff.refl w,d,?_⟩;refine bZ.le (bZ.trans (n:=300) (k:=600) (TW b q _ _ _ cs c0 g hs) λg a=>?_) (by omega);refine bZ.trans (n:=300) (k:=300) (acy b q _ _ _ cs c0 g a) λg a=>?_;rw[(by decide:(bits .and ZR (wv 0 0) 2147483648 !=0)=V)]at a;exact acz b q _ _ _ cs c0 g a
def Ug(a:q.wg=stA Wg)(hw:ShAt tM tW Mu Wg w (dU h))(hs:ey b q (c0::cs) .GQ g):nR tM tW Mu Wg b q (c0::cs) .GQ h g w:=by
 obtain⟨e,hs,c⟩:=hs;have d:au g=U (iC 294 219<|Ω<|U<|q.wg.add 1):=by cases b<;>exact aQ.head (λF=>by kernel_rfl) g hs
 have e1:q.wg.add 1=smA Wg:=by rw[a];rfl
 exact⟨.Eg,h,_,w,_,⟨rfl,rfl⟩,iD (P:=P0) (main:=I) d QP yf QQ (by rw[e1];exact hw.2.cellSm),hw,Eff.refl w,book_nil 1,bZ.mono (T2 b q _ _ _ cs c0 g hs) (by omega) λg f=>⟨e,f,c⟩⟩
def Uh(a:q.wg=stA Wg)(hw:ShAt tM tW Mu Wg w (dU h))(hs:ey b q (c0::cs) .Eg g):nR tM tW Mu Wg b q (c0::cs) .Eg h g w:=by
 obtain⟨d,hs,i⟩:=hs;have e1:q.wg.add 1=smA Wg:=by rw[a];rfl
 have j:au g=U (ZM 255 #[Ω (U<|q.wg.add 1)]):=by cases b<;>exact aQ.head (λF=>by kernel_rfl) g hs
 have c:(#[⟨.mark<|.write<|q.wg.add 1,V,I⟩]:Array ZH)=#[mk (.write<|smA Wg)]:=by rw[e1];rfl
 refine⟨.rJ,h,_,w,_,⟨rfl,rfl⟩,kZ .write (λ_ g h=>by cases h) akM j,hw,Eff.refl w,c,?_⟩;refine bZ.le (bZ.trans (n:=300) (k:=300) (T3 b q _ _ _ cs c0 g hs) λg e=>?_) (by omega);have f:(bits .and ZR (wv d 0) 2147483648 !=0)=V:=by unfold wv;rw[(Go.ConcN.st_flag d 0 (by omega)<|by omega)];rfl
 rw[f]at e;exact acA b q cs c0 g e
def yr(a:q.wg=stA Wg)(h0:h.ws=0)(hw:ShAt tM tW Mu Wg w (dU h))(hs:ey b q (c0::cs) .rJ g):stepG P0 I g w=.go {g with status:=.blocked} w #[]:=by
 have c:au g=U (ZM 256 #[Ω (U<|q.wg.add 1),.bool V]):=by cases b<;>exact aQ.head (λF=>by kernel_rfl) g hs
 have e1:q.wg.add 1=smA Wg:=by rw[a];rfl
 refine xU aa8 c rfl ?_;rw[e1,hw.2.cellSm];show U (Θ IntKind.u32 (h.ws:Int))=_;rw[h0];rfl
def Ui(a:q.wg=stA Wg)(c:Mu≠Wg)(h0:0<h.ws)(hw:ShAt tM tW Mu Wg w (dU h))(hs:ey b q (c0::cs) .rJ g):nR tM tW Mu Wg b q (c0::cs) .rJ h g w:=by
 have d:au g=U (ZM 256 #[Ω (U<|q.wg.add 1),.bool V]):=by cases b<;>exact aQ.head (λF=>by kernel_rfl) g hs
 have e1:q.wg.add 1=smA Wg:=by rw[a];rfl
 have hc:w.cell? (q.wg.add 1)=U (Θ .u32 (h.ws:Int)):=by rw[e1,hw.2.cellSm];rfl
 refine⟨.qm,{h with ws:=h.ws-1},_,_,_,⟨h0,rfl,rfl⟩,P' (P:=P0) (main:=I) aa8 d rfl hc (by omega) (by rw[e1];exact hw.2.thaw 1),?_,Eff.set _ _<|.inr (by rw[e1];rfl),book_sem 0 _<|.inr (by rw[e1];rfl),(T4 b q cs c0 g hs).le<|by omega⟩;rw[e1];have:=hw.setWs c<|(h.ws:Int) -1;unfold dU at this⊢;dsimp only at this⊢;rw[<-(by omega:(h.ws:Int) -1=((h.ws-1:Nat):Int))];exact this
def acG(a:q.wg=stA Wg)(c:h.k=0)(h0:h.wt=0)(hw:ShAt tM tW Mu Wg w (dU h))(hs:ey b q (c0::cs) .qm g):nR tM tW Mu Wg b q (c0::cs) .qm h g w:=by
 have d:au g=U (ZM 269 #[Ω (U q.wg)]):=by cases b<;>exact aQ.head (λF=>by kernel_rfl) g hs
 have hc:w.cell? q.wg=U (Θ ZR 0):=by rw[a,hw.2.cellSt];show U (Θ ZR<|(h.k:Int)*4294967296+(h.wt:Int))=_;rw[h0,c];rfl
 exact⟨.MB,h,_,w,_,⟨rfl,rfl⟩,rD Sa d hc,hw,Eff.refl w,book_one 0 _ _<|.inr (by rw[a];rfl),(GO b q 0 cs c0 g hs).le<|by omega⟩
def Uj(hw:ShAt tM tW Mu Wg w (dU h))(hs:ey b q (c0::cs) .MB g):nR tM tW Mu Wg b q (c0::cs) .MB h g w:=by
 have a:au g=U (ZM 237 #[]):=by cases b<;>exact aQ.head (λF=>by kernel_rfl) g hs
 exact⟨.Eh,h,_,w,_,⟨rfl,rfl⟩,mC .enable (λg h=>by cases h) tw a,hw,Eff.refl w,book_en 0,(T5 b q cs c0 g hs).le<|by omega⟩
def Uk(a:q.wg=stA Wg)(hw:ShAt tM tW Mu Wg w (dU h))(hs:ey b q (c0::cs) .Eh g):nR tM tW Mu Wg b q (c0::cs) .Eh h g w:=by
 have c:au g=U (iC 288 219<|Ω<|U q.wg):=by cases b<;>exact aQ.head (λF=>by kernel_rfl) g hs
 exact⟨.yq,h,_,w,_,⟨rfl,rfl⟩,CS a hw c,hw,Eff.refl w,book_nil 0,(T6 b q cs c0 g hs).le<|by omega⟩
def Ul(a:q.wg=stA Wg)(hw:ShAt tM tW Mu Wg w (dU h))(hs:ey b q (c0::cs) .yq g):nR tM tW Mu Wg b q (c0::cs) .yq h g w:=by
 have d:au g=U (ZM 252 #[Ω (U q.wg)]):=by cases b<;>exact aQ.head (λF=>by kernel_rfl) g hs
 have c:(#[⟨.mark<|.acquire q.wg,V,I⟩]:Array ZH)=#[mk (.acquire<|stA Wg)]:=by rw[a];rfl
 exact⟨.kI,h,_,w,_,⟨rfl,rfl⟩,kZ .acquire (λ_ g h=>by cases h) La d,hw,Eff.refl w,c,(T7 b q cs c0 g hs).le<|by omega⟩
end
end
section
inductive Ma where
 |GR|tA|QR|GS|ar|yt
def Ax(s:Ma)(h:Sh)(s':Ma)(h':Sh):Prop:=
 match s with
 |.GR=>s'=.tA/\h'=h
 |.tA=>h'={h with k:=h.k+1}/\s'=if h.k=0 then .QR else .ar
 |.QR=>s'=.GS/\h'=h
 |.GS=>s'=.ar/\h'=h
 |.ar=>s'=.yt/\h'=h
 |.yt=>False
def CU:Ma->Nat
 |.GR|.yt=>0
 |_=>1
def EvA(Mu Wg:Nat)(s s':Ma)(es:Array ZH):Prop:=
 match s with
 |.GS=>es=#[mk (.read<|smA Wg)]
 |_=>BookOK Mu Wg (CU s) (CU s') es
def K28(b:Bool)(q:MP)(i:Int)(ib cb:Z1):bG:=kg b q qs [pv 10 cb,pv 9 ib,iv 23 i]
def aG(k:Nat):List (Nat×ι):=[(6,Θ ZR<|wv k 0),bv 4 V,jv 7 (k:Int),(8,Θ .u32 0)]
def jO(b:Bool)(q:MP)(i:Int)(ib cb:Z1)(cs:List ZW)(s:Ma)(g:R):Prop:=
 match s with
 |.GR=>aQ (gA q Mb [] []) [K28 b q i ib cb] cs g
 |.tA=>aQ (gM q 242 10 CP [pv 7 q.wg,(8,Θ ZR 4294967296)]) [gA q Mc [bv 4 V] [dK],K28 b q i ib cb] cs g
 |.QR=>aQ (gA q Me (pv 70 (q.wg.add 1)::aG 1) [dK]) [K28 b q i ib cb] cs g
 |.GS=>aQ (gA q Mf (pv 71 (q.wg.add 1)::aG 1) [dK]) [K28 b q i ib cb] cs g
 |.ar=>aQ (gAr tar [dK]) [K28 b q i ib cb] cs g
 |.yt=>aQ (kg b q Mg [(29,.func (.func 211) #[] (q.wp cb ib).tx),iv 23 i]) [] cs g
def Ej(tM tW:ZS)(Mu Wg:Nat)(b:Bool)(q:MP)(i:Int)(ib cb:Z1)(cs:List ZW)(s:Ma)(h:Sh)(g:R)(w:ξ):Prop:=∃s' h' g' w' es,Ax s h s' h'/\stepG P0 I g w=.go g' w' es/\ShAt tM tW Mu Wg w' (dU h')/\Eff Mu Wg w w'/\EvA Mu Wg s s' es/\bZ P0 I 2000 (jO b q i ib cb cs s') g'
section
variable{tM tW:ZS}{Mu Wg:Nat}{b:Bool}{q:MP}{i:Int}{ib cb:Z1}{cs:List ZW}{c0:ZW}{h:Sh}{g:R}{w:ξ}
def Um(hw:ShAt tM tW Mu Wg w (dU h))(hs:jO b q i ib cb (c0::cs) .GR g):Ej tM tW Mu Wg b q i ib cb (c0::cs) .GR h g w:=by
 have a:au g=U (ZM 236 #[]):=by cases b<;>exact aQ.head (λF=>by kernel_rfl) g hs
 exact⟨.tA,h,_,w,_,⟨rfl,rfl⟩,mC .disable (λg h=>by cases h) F2 a,hw,Eff.refl w,book_dis 0,(TK b q i ib cb cs c0 g hs).le<|by omega⟩
def yu{k:Nat}(c:0<k)(hs:aQ (gA q yn (bv 74 (decide<|(k:Int)<0)::aG k) [dK]) [K28 b q i ib cb] (c0::cs) g):bZ P0 I 900 (jO b q i ib cb (c0::cs) .ar) g:=by refine bZ.trans (k:=600) (TP b q i ib cb _ _ _ cs c0 g hs) λg a=>?_;refine bZ.trans (k:=300) (TQ b q i ib cb _ _ _ cs c0 g a) λg a=>?_;rw[(decide_eq_true<|by omega)]at a;exact acv b q i ib cb _ _ _ cs c0 g a
def MC(a:q.wg=stA Wg)(j:Mu≠Wg)(v:h.k<1073741823)(h0:h.wt=0)(hw:ShAt tM tW Mu Wg w (dU h))(hs:jO b q i ib cb (c0::cs) .tA g):Ej tM tW Mu Wg b q i ib cb (c0::cs) .tA h g w:=by
 have t:au g=U (ZM 268 #[Ω (U q.wg),Θ ZR 4294967296]):=by cases b<;>exact aQ.head (λF=>by kernel_rfl) g hs
 have hc:w.cell? q.wg=U (Θ ZR<|wv h.k 0):=by rw[a,hw.2.cellSt];show U (Θ ZR<|(h.k:Int)*4294967296+(h.wt:Int))=_;rw[h0];rfl
 have e:=qF (P:=P0) (main:=I) aa6 t hc (by rw[a];exact hw.2.thaw 0);have ev:IntKind.u64.wrap (wv h.k 0+4294967296)=wv (h.k+1) 0:=by unfold wv;rw[Yy];omega
 rw[ev]at e;refine⟨_,{h with k:=h.k+1},_,_,_,⟨rfl,rfl⟩,e,?_,Eff.set _ _<|.inr (by rw[a];rfl),?_,?_⟩;have o:dU {h with k:=h.k+1}={dU h with wg:=wv (h.k+1) 0}:=by unfold dU wv;dsimp only;rw[h0]
 rw[a,o];exact hw.setWg j _
 ·show BookOK Mu Wg 1 (CU (if _ then _ else _)) _;split<;>exact book_rw 0 _<|.inr (by rw[a];rfl)
 refine bZ.le (bZ.trans (n:=300) (k:=1500) (Mz b q i ib cb (wv (h.k+1) 0) cs c0 g hs) λg c=>?_) (by omega);have r:=Go.ConcN.st_flag (h.k+1) 0 (by omega) (by omega);have m:=Go.ConcN.st_waiters (h.k+1) 0 (by omega) (by omega);have l:(bits .and ZR (wv (h.k+1) 0) 2147483648 !=0)=V:=by unfold wv;rw[r];rfl
 have s:(wv (h.k+1) 0).fdiv 4294967296=((h.k+1:Nat):Int):=by unfold wv;rw[YY _ (by decide)];omega
 have p:Ξ Yz ((h.k+1:Nat):Int)=((h.k+1:Nat):Int):=wrap_small (by omega) (by omega);have u:Ξ .u32 (bits .and ZR (wv (h.k+1) 0) 2147483647)=0:=by
  unfold wv;rw[m]
  decide
 rw[l]at c;refine bZ.trans (n:=300) (k:=1200) (acu b q i ib cb _ cs c0 g c) λg c=>?_;rw[s,p,u]at c;by_cases d:h.k=0
 rw[if_pos d];have e1:decide (((h.k+1:Nat):Int)=1)=I:=decide_eq_true (by omega);rw[e1]at c;have f:=TL b q i ib cb _ _ _ cs c0 g c;rw[d]at f;exact f.le (by omega);rw[if_neg d];have e1:decide (((h.k+1:Nat):Int)=1)=V:=decide_eq_false (by omega);rw[e1]at c;exact bZ.le (bZ.trans (n:=300) (k:=900) (TO b q i ib cb _ _ _ cs c0 g c) λg c=>yu (by omega) c) (by omega)
def Un(a:q.wg=stA Wg)(hw:ShAt tM tW Mu Wg w (dU h))(hs:jO b q i ib cb (c0::cs) .QR g):Ej tM tW Mu Wg b q i ib cb (c0::cs) .QR h g w:=by
 have c:au g=U (iC 294 219<|Ω<|U<|q.wg.add 1):=by cases b<;>exact aQ.head (λF=>by kernel_rfl) g hs
 have e1:q.wg.add 1=smA Wg:=by rw[a];rfl
 exact⟨.GS,h,_,w,_,⟨rfl,rfl⟩,iD (P:=P0) (main:=I) c QP yf QQ (by rw[e1];exact hw.2.cellSm),hw,Eff.refl w,book_nil 1,(TM b q i ib cb _ _ _ cs c0 g hs).le<|by omega⟩
def Uo(a:q.wg=stA Wg)(hw:ShAt tM tW Mu Wg w (dU h))(hs:jO b q i ib cb (c0::cs) .GS g):Ej tM tW Mu Wg b q i ib cb (c0::cs) .GS h g w:=by
 have e1:q.wg.add 1=smA Wg:=by rw[a];rfl
 have e:au g=U (ZM 243 #[Ω (U<|q.wg.add 1)]):=by cases b<;>exact aQ.head (λF=>by kernel_rfl) g hs
 have c:(#[⟨.mark<|.read<|q.wg.add 1,V,I⟩]:Array ZH)=#[mk (.read<|smA Wg)]:=by rw[e1];rfl
 refine⟨.ar,h,_,w,_,⟨rfl,rfl⟩,kZ .read (λ_ g h=>by cases h) akL e,hw,Eff.refl w,c,?_⟩;exact bZ.le (bZ.trans (n:=300) (k:=900) (TN b q i ib cb _ _ _ cs c0 g hs) λg d=>yu (k:=1) (by omega) d) (by omega)
def acH(hw:ShAt tM tW Mu Wg w (dU h))(hs:jO b q i ib cb (c0::cs) .ar g):Ej tM tW Mu Wg b q i ib cb (c0::cs) .ar h g w:=by obtain⟨F,rfl⟩:=hs;exact⟨.yt,h,_,w,_,⟨rfl,rfl⟩,wO .enable (λg h=>by cases h) tw rfl rfl,hw,Eff.refl w,book_en 0,(acw b q i ib cb cs c0 _ ⟨F,rfl⟩).le<|by omega⟩
end
end
end Ph
namespace Ph
open Go Go.Conc
section
section
variable(b:Bool)(v0:ι)(ca:Option Z1)(n m:Nat)(room:Int)(gb eb lk wg E ce ib cb:Z1)(q:MP)(i e:Int)(v:ι)(cs:List ZW)(c0:ZW)(g:R)
def acI(h:aQ (fK b tk3 [(0,v0),(1,.slice ca n m),iv 2 room]) [] (c0::cs) g):au g=U (PL 104 v0):=by cases b<;>exact aQ.head (λF=>by kernel_rfl) g h
def Up(h:aQ (fK b L' [iv 19 n,pv 3 gb,(0,v0),(1,.slice ca n m),iv 2 room]) [] (c0::cs) g):au g=U (mkS 83 (Θ Γ n)<|Θ Γ n):=by cases b<;>exact aQ.head (λF=>by kernel_rfl) g h
def acJ(h:aQ (fK b tk6 [(20,υ (U E) n n),pv 3 gb,(0,v0),(1,.slice ca n m),iv 2 room]) [] (c0::cs) g):au g=U (i9 83):=by cases b<;>exact aQ.head (λF=>by kernel_rfl) g h
def MD(h:aQ (fK b CO [(20,υ (U E) n n),pv 6 eb,pv 3 gb,(0,v0),(1,.slice ca n m),iv 2 room]) [] (c0::cs) g):au g=U (gh 83 (Ω<|U eb)<|υ (U E) n n):=by cases b<;>exact aQ.head (λF=>by kernel_rfl) g h
def acK(h:aQ (fK b tk7 [pv 6 eb,pv 3 gb,(0,v0),(1,.slice ca n m),iv 2 room]) [] (c0::cs) g):au g=U (i9 249):=by cases b<;>exact aQ.head (λF=>by kernel_rfl) g h
def acL(h:aQ (fK b tk8 [pv 7 lk,pv 6 eb,pv 3 gb,(0,v0),(1,.slice ca n m),iv 2 room]) [] (c0::cs) g):au g=U (i9 255):=by cases b<;>exact aQ.head (λF=>by kernel_rfl) g h
def Uq(h:aQ (kg b q GD [iv 25 i,iv 23 i]) [] (c0::cs) g):au g=U (G2 22 (.slice q.ca q.n q.m)<|Θ Γ i):=by cases b<;>exact aQ.head (λF=>by kernel_rfl) g h
def Ur(h:aQ (kg b q GE [pv 26 ce,iv 25 i,iv 23 i]) [] (c0::cs) g):au g=U (bI 76<|Ω<|U ce):=by cases b<;>exact aQ.head (λF=>by kernel_rfl) g h
def acM(h:aQ (kg b q tk9 [(27,v),iv 25 i,iv 23 i]) [] (c0::cs) g):au g=U (i9 3):=by cases b<;>exact aQ.head (λF=>by kernel_rfl) g h
def Us(h:aQ (kg b q GF [pv 9 ib,(27,v),iv 25 i,iv 23 i]) [] (c0::cs) g):au g=U (i9 76):=by cases b<;>exact aQ.head (λF=>by kernel_rfl) g h
def ME(h:aQ (kg b q yl [pv 10 cb,pv 9 ib,(27,v),iv 25 i,iv 23 i]) [] (c0::cs) g):au g=U (gh 3 (Ω<|U ib)<|Θ Γ i):=by cases b<;>exact aQ.head (λF=>by kernel_rfl) g h
def MF(h:aQ (kg b q ym [pv 10 cb,pv 9 ib,(27,v),iv 23 i]) [] (c0::cs) g):au g=U (gh 76 (Ω<|U cb) v):=by cases b<;>exact aQ.head (λF=>by kernel_rfl) g h
def Ut(h:aQ (kg b q A9 []) [] (c0::cs) g):au g=U (bI 83<|Ω<|U q.eb):=by cases b<;>exact aQ.head (λF=>by kernel_rfl) g h
def Uu(h:aQ (kg b q Mr [(32,υ (U E) n n),iv 33 n,iv 34 i]) [] (c0::cs) g):au g=U (G2 83 (υ (U E) n n)<|Θ Γ i):=by cases b<;>exact aQ.head (λF=>by kernel_rfl) g h
def Uv(h:aQ (kg b q Ms [pv 36 ce,(32,υ (U E) n n),iv 33 n,iv 34 i]) [] (c0::cs) g):au g=U (bI 34<|Ω<|U ce):=by cases b<;>exact aQ.head (λF=>by kernel_rfl) g h
def ak6:P0.underlying 22=U (.slice 76):=by kernel_rfl
def si3:dt P0 3 1:=λw a=>by kernel_rfl
def ak7:dt P0 83 1:=λw a=>by kernel_rfl
def uw:bR P0 166 V:=by rfl
end
section
variable{P:Zn}{main:Bool}{g:R}{t:ZS}{w:ξ}{ad:Z1}
def jr{k e}{i n m z:Nat}(h:au g=U (G2 t (υ (U ad) n m)<|.int k i))(b:P.underlying t=U (.slice e))(hs:dt P e z)(hi:i<n):
 stepG P main g w=.go (fin (Ω<|U<|ad.add<|i*z) g) w #[]:=by
 obtain⟨_,_,_,c,_⟩:=bU (P:=P) (main:=main) (w:=w) (w':=w) (es:=(G2 t (υ (U ad) n m)<|.int k i).events P w #[]) h;have a:(G2 t (υ (U ad) n m)<|.int k i).events P w #[]=#[]:=by
  unfold G2 Yh;simp[asIntOf,run_underlying b,hi,hs.run,ZP,Zv]
  try (intro h;omega)
 rw[c (Ω<|U<|ad.add<|i*z),a,YZ];rw[Zs];unfold G2 Yh;simp[asIntOf,run_underlying b,hi,hs.run,ZP]
end
end
section
variable(v0:Z1)(xc xe:Nat)(hi:Int)(ca:Option Z1)(n m:Nat)(i:Int)(xx:Nat)(pe:Z1)(v:ι)(xv xw:Nat)(q N:Int)
noncomputable abbrev Ux:=Xg P0 V 300
noncomputable abbrev kB:=Xf P0 V 300
def pz(x:Nat):ι:=.pointer x
def q1(x:Nat):ι:=.pointer (x,1)
def ak8(xe:Nat):Deferred:={target:=.fn (.func 248) #[pz xe],args:=#[]}
def fX(v0:Z1)(xc xe:Nat)(T:List Zd)(ex:List (Nat×ι)):bG:={fn:=213,n:=48,T,l:=ex++[pv 0 v0,(3,pz xc),(4,pz xe)],defers:=[ak8 xe]}
def hZ(v0:Z1)(T:List Zd)(ex:List (Nat×ι)):bG:={fn:=167,n:=29,T,l:=ex++[pv 0 v0]}
def mX(v0:Z1)(T:List Zd)(ex:List (Nat×ι)):bG:={fn:=169,n:=30,T,l:=ex++[pv 0 v0]}
def CV(T:List Zd)(b:Bool)(k:Int):bG:={fn:=84,n:=8,T,l:=[bv 4 b,bv 0 b,iv 1 k]}
def MG(d:bG)(ds:List bG)(stop:R->Bool):R:=bN P0 V stop 300<|SC d ds [default] λ_ _=>undef
def dc(d:bG)(ds:List bG)(v:ι)(stop:R->Bool):R:=bN P0 V stop 300<|fin v<|SC d ds [default] λ_ _=>undef
def gx3:=bN P0 V (ah 213 3) 300 {frame:=ZN P0 213 #[Ω (U a0),.agg #[Θ Γ 0,υ (U a0) 1 1]] .normal,callers:=[default],status:=.running,dying:=θ}
def tx3:=aK gx3
def tx4:=aK<|dc {fn:=213,n:=48,T:=tx3,l:=[pv 0 a0,(1,.agg #[Θ Γ 0,υ (U a0) 1 1])]} [] (pz 7)<|ah 213 4
def Ek:=aK<|dc {fn:=213,n:=48,T:=tx4,l:=[pv 0 a0,(3,pz 7)]} [] (pz 8)<|ah 213 11
def tB:=aK<|dc (fX a0 7 8 Ek []) [] (Θ Γ 0)<|ah 213 15
def tC:=aK<|dc (fX a0 7 8 tB [bv 13 V]) [] (Θ Γ 0)<|ah 213 21
def yx:=aK<|dc (fX a0 7 8 tC []) [] (Θ Γ 0)<|ah 213 26
def acN:=dc (fX a0 7 8 yx [iv 5 0,iv 6 4]) [] (υ (U a0) 1 1)<|aC 84 4
def CX:=aK acN
def Uy:=cH 0 acN
def MH:=aK<|MG (CV CX V 5) [(fX a0 7 8 Uy [iv 5 0,iv 6 4])]<|ah 213 32
def ak9:=dc (fX a0 7 8 MH [iv 5 0,iv 6 4]) [] (υ (U a0) 1 1)<|aC 84 4
def Uz:=cH 0 ak9
def MI:=aK<|MG (CV CX V 6) [(fX a0 7 8 Uz [])]<|ah 213 38
def Ar:=aK<|dc (fX a0 7 8 MI []) [] (υ (U a0) 1 1)<|aC 213 41
abbrev KD:List (Nat×ι):=[(38,υ (U a0) 1 1),iv 39 1,iv 40 0]
def MJ:=aK<|MG (fX a0 7 8 Ar (bv 41 I::KD)) []<|ah 213 42
def MK:=aK<|dc (fX a0 7 8 MJ KD) [] (Ω<|U a0)<|ah 213 43
def tx8:=aK<|dc (fX a0 7 8 MK KD) [] (.agg #[Θ Γ 0,Θ Γ 0])<|ah 213 8
def ML:=aK<|dc (fX a0 7 8 tx8 ((43,.agg #[Θ Γ 0,Θ Γ 0])::KD)) [] (pz 9)<|eh 213
def GT:=aK<|dc (fX a0 7 8 ML ((8,pz 9)::KD)) [] undef<|ah 213 45
def gv3:=dc (fX a0 7 8 GT (pv 44 a0::KD)) [] (.agg #[Θ Γ 0,Θ Γ 0])<|ah 167 3
def tv3:=aK gv3
def ja:=cH 0 gv3
noncomputable abbrev zi:List bG:=[(fX a0 7 8 ja KD)]
def MM:=aK<|dc (hZ a0 tv3 []) zi (pz 10)<|ah 167 5
def GU:=aK<|dc (hZ a0 MM [(3,pz 10)]) zi (Θ Γ 0)<|ah 167 10
def GW:=aK<|dc (hZ a0 MM [(3,pz 10)]) zi (Θ Γ 2)<|ah 167 20
def El:=aK<|dc (hZ a0 MM [(3,pz 10)]) zi (Θ Γ 3)<|ah 167 27
def MN:=aK<|dc (hZ a0 GU [(3,pz 10)]) zi (Θ Γ 1)<|ah 167 13
def ala:=dc (hZ a0 MN [iv 11 1]) zi (Θ Γ 1)<|aC 84 4
def acO:=cH 0 ala
def alb:=dc (hZ a0 GW []) zi (Θ Γ 0)<|aC 84 4
def acP:=cH 0 alb
def gp3:=dc (hZ a0 El [pv 26 a0]) zi (.agg #[Θ Γ 3,Θ Γ 0])<|ah 169 3
def tp3:=aK gp3
def fi:=cH 0 gp3
def tp9:=aK<|dc (mX a0 tp3 []) ((hZ a0 fi [])::zi) (pz 11)<|ah 169 9
def Em:=aK<|dc (mX a0 tp9 [(3,pz 11)]) ((hZ a0 fi [])::zi) (υ (U a0) 1 1)<|ah 169 12
def MO:=aK<|dc (mX a0 Em [iv 4 1,(3,pz 11)]) ((hZ a0 fi [])::zi) (Θ Γ 3)<|ah 169 18
def Be:=aK<|dc (mX a0 Em [iv 4 1,(3,pz 11)]) ((hZ a0 fi [])::zi) (Θ Γ 4)<|ah 169 21
def MQ:=aK<|dc (mX a0 Be [iv 4 1,(3,pz 11)]) ((hZ a0 fi [])::zi) (Θ Γ 0)<|ah 169 25
def alc:=dc (mX a0 MQ [bv 23 V,iv 4 1,(3,pz 11)]) ((hZ a0 fi [])::zi) (Θ Γ 0)<|aC 84 4
def acQ:=cH 0 alc
def txe:=aK<|MG (fX a0 7 8 Ar (bv 41 V::KD)) []<|eh 213
noncomputable abbrev cY (v0:Z1) (xc:Nat) (xe:Nat) (ca:Option Z1) (n:Nat) (m:Nat) (i:Int):List bG:=[(fX v0 xc xe ja [(38,.slice ca n m),iv 39 n,iv 40 i])]
abbrev lh(ca:Option Z1)(n:Nat)(m:Nat)(i:Int):List (Nat×ι):=[(38,.slice ca n m),iv 39 n,iv 40 i]
abbrev UA(i:Int)(n:Nat)(ca:Option Z1)(m:Nat):List (Nat×ι):=[bv 41 (decide<|Ξ Γ (i+1)<n),(38,.slice ca n m),iv 39 n,iv 40<|Ξ Γ<|i+1]
def MR(v1 v2 cs):bZ P0 V 300 (aQ {fn:=213,n:=48,T:=tx3,l:=[pv 0 v0,(1,.agg #[v1,v2])]} [] cs) {frame:=ZN P0 213 #[Ω (U v0),.agg #[v1,v2]] .normal,callers:=cs,status:=.running,dying:=θ}:=bZ.run (ah 213 3) 300 (aQ.of (by kernel_rfl) (by kernel_rfl)<|by kernel_rfl)
def acS(c a):kB (pz a) {fn:=213,n:=48,T:=tx3,l:=[pv 0 v0,(1,c)]} [] {fn:=213,n:=48,T:=tx4,l:=[pv 0 v0,(3,pz a)]} []:=λ_=>aR (ah 213 4) λ_=>by kernel_rfl
def acT:kB (pz xe) {fn:=213,n:=48,T:=tx4,l:=[pv 0 v0,(3,pz xc)]} [] (fX v0 xc xe Ek [(10,pz xc)]) []:=λ_=>aR (ah 213 11) λ_=>by kernel_rfl
def acU:kB (Θ Γ 0) (fX v0 xc xe Ek [(10,pz xc)]) [] (fX v0 xc xe tB [(14,pz xc),bv 13 V]) []:=λ_=>aR (ah 213 15) λ_=>by kernel_rfl
def acV:kB (Θ Γ 0) (fX v0 xc xe tB [(14,pz xc),bv 13 V]) [] (fX v0 xc xe tC [(20,pz xc)]) []:=λ_=>aR (ah 213 21) λ_=>by kernel_rfl
def acW:kB (Θ Γ 0) (fX v0 xc xe tC [(20,pz xc)]) [] (fX v0 xc xe yx [(25,q1 xc),iv 5 0,iv 6 4]) []:=λ_=>aR (ah 213 26) λ_=>by kernel_rfl
def acX:kB (Θ Γ 1) (fX v0 xc xe Ek [(10,pz xc)]) [] (fX v0 xc xe tB [(14,pz xc),bv 13 V]) []:=λ_=>aR (ah 213 15) λ_=>by kernel_rfl
def acY:kB (Θ Γ 1) (fX v0 xc xe tB [(14,pz xc),bv 13 V]) [] (fX v0 xc xe tC [(20,pz xc)]) []:=λ_=>aR (ah 213 21) λ_=>by kernel_rfl
def acZ:kB (Θ Γ 1) (fX v0 xc xe tC [(20,pz xc)]) [] (fX v0 xc xe yx [(25,q1 xc),iv 5 1,iv 6 1]) []:=λ_=>aR (ah 213 26) λ_=>by kernel_rfl
def ac0:kB (Θ Γ 2) (fX v0 xc xe Ek [(10,pz xc)]) [] (fX v0 xc xe tB [(14,pz xc),bv 13 V]) []:=λ_=>aR (ah 213 15) λ_=>by kernel_rfl
def ac1:kB (Θ Γ 2) (fX v0 xc xe tB [(14,pz xc),bv 13 V]) [] (fX v0 xc xe tC [(20,pz xc)]) []:=λ_=>aR (ah 213 21) λ_=>by kernel_rfl
def ac2:kB (Θ Γ 2) (fX v0 xc xe tC [(20,pz xc)]) [] (fX v0 xc xe yx [(25,q1 xc),iv 5 2,iv 6 2]) []:=λ_=>aR (ah 213 26) λ_=>by kernel_rfl
def UB(lo hi ca n m):kB (.slice ca n m) (fX v0 xc xe yx [(25,q1 xc),iv 5 lo,iv 6 hi]) [] (CV CX (decide<|(n:Int)<lo) 5) [(fX v0 xc xe Uy [iv 6 hi])]:=λ_=>aR (aC 84 4) λ_=>by kernel_rfl
def ac3:Ux (CV CX V 5) [(fX v0 xc xe Uy [iv 6 hi])] (fX v0 xc xe MH [(31,q1 xc),iv 6 hi]) []:=λ_=>bJ (ah 213 32) λ_=>by kernel_rfl
def UC:kB (.slice ca n m) (fX v0 xc xe MH [(31,q1 xc),iv 6 hi]) [] (CV CX (decide<|(n:Int)>hi) 6) [(fX v0 xc xe Uz [])]:=λ_=>aR (aC 84 4) λ_=>by kernel_rfl
def ac4:Ux (CV CX V 6) [(fX v0 xc xe Uz [])] (fX v0 xc xe MI [(37,q1 xc)]) []:=λ_=>bJ (ah 213 38) λ_=>by kernel_rfl
def UD:kB (.slice ca n m) (fX v0 xc xe MI [(37,q1 xc)]) [] (fX v0 xc xe Ar [bv 41 (decide<|(0:Int)<n),(38,.slice ca n m),iv 39 n,iv 40 0]) []:=λ_=>aR (aC 213 41) λ_=>by kernel_rfl
def ald:Ux (fX v0 xc xe Ar (bv 41 I::lh ca n m i)) [] (fX v0 xc xe MJ<|lh ca n m i) []:=λ_=>bJ (ah 213 42) λ_=>by kernel_rfl
def ale:Ux (fX v0 xc xe Ar (bv 41 V::lh ca n m i)) [] (fX v0 xc xe txe []) []:=λ_=>bJ (eh 213) λ_=>by kernel_rfl
def UE:kB (Ω<|U pe) (fX v0 xc xe MJ<|lh ca n m i) [] (fX v0 xc xe MK (pv 42 pe::lh ca n m i)) []:=λ_=>aR (ah 213 43) λ_=>by kernel_rfl
def UF:kB (v) (fX v0 xc xe MK (pv 42 pe::lh ca n m i)) [] (fX v0 xc xe tx8 ((43,v)::lh ca n m i)) []:=λ_=>aR (ah 213 8) λ_=>by kernel_rfl
def ac5:kB (pz xv) (fX v0 xc xe tx8 ((43,v)::lh ca n m i)) [] (fX v0 xc xe ML ((8,pz xv)::(43,v)::lh ca n m i)) []:=λ_=>aR (eh 213) λ_=>by kernel_rfl
def UG:kB (undef) (fX v0 xc xe ML ((8,pz xv)::(43,v)::lh ca n m i)) [] (fX v0 xc xe GT (pv 44 v0::(8,pz xv)::lh ca n m i)) []:=λ_=>aR (ah 213 45) λ_=>by kernel_rfl
def UH(a b):kB (.agg #[a,b]) (fX v0 xc xe GT (pv 44 v0::(8,pz xv)::lh ca n m i)) [] (hZ v0 tv3 [(1,.agg #[a,b])]) (cY v0 xc xe ca n m i):=λ_=>aR (ah 167 3) λ_=>by kernel_rfl
def ac6:kB (pz xw) (hZ v0 tv3 [(1,v)]) (cY v0 xc xe ca n m i) (hZ v0 MM [(4,pz xw),(3,pz xw)]) (cY v0 xc xe ca n m i):=λ_=>aR (ah 167 5) λ_=>by kernel_rfl
def alf:kB (Θ Γ 0) (hZ v0 MM [(4,pz xw),(3,pz xw)]) (cY v0 xc xe ca n m i) (hZ v0 GU [(9,q1 xw),(3,pz xw)]) (cY v0 xc xe ca n m i):=λ_=>aR (ah 167 10) λ_=>by kernel_rfl
def alg:kB (Θ Γ 2) (hZ v0 MM [(4,pz xw),(3,pz xw)]) (cY v0 xc xe ca n m i) (hZ v0 GW [(19,q1 xw),(3,pz xw)]) (cY v0 xc xe ca n m i):=λ_=>aR (ah 167 20) λ_=>by kernel_rfl
def alh:kB (Θ Γ 3) (hZ v0 MM [(4,pz xw),(3,pz xw)]) (cY v0 xc xe ca n m i) (hZ v0 El [pv 26 v0,(3,pz xw)]) (cY v0 xc xe ca n m i):=λ_=>aR (ah 167 27) λ_=>by kernel_rfl
def ali:kB (Θ Γ 4) (hZ v0 MM [(4,pz xw),(3,pz xw)]) (cY v0 xc xe ca n m i) (hZ v0 El [pv 26 v0,(3,pz xw)]) (cY v0 xc xe ca n m i):=λ_=>aR (ah 167 27) λ_=>by kernel_rfl
def UI:kB N (hZ v0 GU [(9,q1 xw),(3,pz xw)]) (cY v0 xc xe ca n m i) (hZ v0 MN [(12,q1 xw),iv 11 (if 99<N then 99 else N),(3,pz xw)]) (cY v0 xc xe ca n m i):=λ_=>aR (ah 167 13) λ_=>by kernel_rfl
def UJ(a N:Int):kB N (hZ v0 MN [(12,q1 xw),iv 11 a,(3,pz xw)]) (cY v0 xc xe ca n m i) (CV CX (a !=(if N< -99 then-99 else N)) 13) ((hZ v0 acO [])::cY v0 xc xe ca n m i):=λ_=>aR (aC 84 4) λ_=>by kernel_rfl
def ac7:Ux (CV CX V 13) ((hZ v0 acO [])::cY v0 xc xe ca n m i) (fX v0 xc xe Ar<|UA i n ca m) []:=λ_=>bJ (aC 213 41) λ_=>by kernel_rfl
def UK:kB N (hZ v0 GW [(19,q1 xw),(3,pz xw)]) (cY v0 xc xe ca n m i) (CV CX (N !=0) 13) ((hZ v0 acP [])::cY v0 xc xe ca n m i):=λ_=>aR (aC 84 4) λ_=>by kernel_rfl
def ac8:Ux (CV CX V 13) ((hZ v0 acP [])::cY v0 xc xe ca n m i) (fX v0 xc xe Ar<|UA i n ca m) []:=λ_=>bJ (aC 213 41) λ_=>by kernel_rfl
def UM(a b):kB (.agg #[a,b]) (hZ v0 El [pv 26 v0,(3,pz xw)]) (cY v0 xc xe ca n m i) (mX v0 tp3 [(1,.agg #[a,b])]) ((hZ v0 fi [])::cY v0 xc xe ca n m i):=λ_=>aR (ah 169 3) λ_=>by kernel_rfl
def ac9(a):kB (pz a) (mX v0 tp3 [(1,v)]) ((hZ v0 fi [])::cY v0 xc xe ca n m i) (mX v0 tp9 [pv 8 ((v0.add 0).add 1),(3,pz a)]) ((hZ v0 fi [])::cY v0 xc xe ca n m i):=λ_=>aR (ah 169 9) λ_=>by kernel_rfl
def ada(c a b):kB (.slice c a b) (mX v0 tp9 [pv 8 ((v0.add 0).add 1),(3,pz xx)]) ((hZ v0 fi [])::cY v0 xc xe ca n m i) (mX v0 Em [(11,pz xx),iv 4 a,(3,pz xx)]) ((hZ v0 fi [])::cY v0 xc xe ca n m i):=λ_=>aR (ah 169 12) λ_=>by kernel_rfl
def adb:kB (Θ Γ 3) (mX v0 Em [(11,pz xx),iv 4 q,(3,pz xx)]) ((hZ v0 fi [])::cY v0 xc xe ca n m i) (mX v0 MO [pv 17 ((v0.add 0).add 0),(3,pz xx)]) ((hZ v0 fi [])::cY v0 xc xe ca n m i):=λ_=>aR (ah 169 18) λ_=>by kernel_rfl
def adc:kB (Θ Γ 4) (mX v0 Em [(11,pz xx),iv 4 q,(3,pz xx)]) ((hZ v0 fi [])::cY v0 xc xe ca n m i) (mX v0 Be [(20,q1 xx),iv 4 q,(3,pz xx)]) ((hZ v0 fi [])::cY v0 xc xe ca n m i):=λ_=>aR (ah 169 21) λ_=>by kernel_rfl
def UN(c a b):kB (.slice c a b) (mX v0 MO [pv 17 ((v0.add 0).add 0),(3,pz xx)]) ((hZ v0 fi [])::cY v0 xc xe ca n m i) (mX v0 Be [(20,q1 xx),iv 4 a,(3,pz xx)]) ((hZ v0 fi [])::cY v0 xc xe ca n m i):=λ_=>aR (ah 169 21) λ_=>by kernel_rfl
def UO(N:Nat):kB (Θ Γ (N:Int)) (mX v0 Be [(20,q1 xx),iv 4 q,(3,pz xx)]) ((hZ v0 fi [])::cY v0 xc xe ca n m i) (mX v0 MQ [(24,q1 xx),bv 23 V,iv 4 q,(3,pz xx)]) ((hZ v0 fi [])::cY v0 xc xe ca n m i):=λ_=>aR (ah 169 25) λ_=>by kernel_rfl
def UP:kB N (mX v0 MQ [(24,q1 xx),bv 23 V,iv 4 q,(3,pz xx)]) ((hZ v0 fi [])::cY v0 xc xe ca n m i) (CV CX (decide<|N>=q) 9) ((mX v0 acQ [])::(hZ v0 fi [])::cY v0 xc xe ca n m i):=λ_=>aR (aC 84 4) λ_=>by kernel_rfl
def ade:Ux (CV CX V 9) ((mX v0 acQ [])::(hZ v0 fi [])::cY v0 xc xe ca n m i) (fX v0 xc xe Ar<|UA i n ca m) []:=λ_=>bJ (aC 213 41) λ_=>by kernel_rfl
def adf(c):Kh {fn:=213,n:=48,T:=tx3,l:=[pv 0 v0,(1,c)]} [] (PL 76 c):=λ_=>aQ.head λ_=>by kernel_rfl
def adg:Kh {fn:=213,n:=48,T:=tx4,l:=[pv 0 v0,(3,pz xc)]} [] (i9 34):=λ_=>aQ.head λ_=>by kernel_rfl
def UQ:Kh (fX v0 xc xe Ek [(10,pz xc)]) [] (bI 3<|pz xc):=λ_=>aQ.head λ_=>by kernel_rfl
def UR:Kh (fX v0 xc xe tB [(14,pz xc),bv 13 V]) [] (bI 3<|pz xc):=λ_=>aQ.head λ_=>by kernel_rfl
def UT:Kh (fX v0 xc xe tC [(20,pz xc)]) [] (bI 3<|pz xc):=λ_=>aQ.head λ_=>by kernel_rfl
def UU(lo hi):Kh (fX v0 xc xe yx [(25,q1 xc),iv 5 lo,iv 6 hi]) [] (bI 23<|q1 xc):=λ_=>aQ.head λ_=>by kernel_rfl
def UV:Kh (fX v0 xc xe MH [(31,q1 xc),iv 6 hi]) [] (bI 23<|q1 xc):=λ_=>aQ.head λ_=>by kernel_rfl
def UW:Kh (fX v0 xc xe MI [(37,q1 xc)]) [] (bI 23<|q1 xc):=λ_=>aQ.head λ_=>by kernel_rfl
def UX:Kh (fX v0 xc xe MJ<|lh ca n m i) [] (G2 23 (.slice ca n m) i):=λ_=>aQ.head λ_=>by kernel_rfl
def UY:Kh (fX v0 xc xe MK (pv 42 pe::lh ca n m i)) [] (bI 50<|Ω<|U pe):=λ_=>aQ.head λ_=>by kernel_rfl
def adh:Kh (fX v0 xc xe tx8 ((43,v)::lh ca n m i)) [] (i9 50):=λ_=>aQ.head λ_=>by kernel_rfl
def UZ:Kh (fX v0 xc xe ML ((8,pz xv)::(43,v)::lh ca n m i)) [] (gh 50 (pz xv) v):=λ_=>aQ.head λ_=>by kernel_rfl
def U0:Kh (fX v0 xc xe GT (pv 44 v0::(8,pz xv)::lh ca n m i)) [] (bI 50<|pz xv):=λ_=>aQ.head λ_=>by kernel_rfl
def adi:Kh (hZ v0 tv3 [(1,v)]) (cY v0 xc xe ca n m i) (PL 50 v):=λ_=>aQ.head λ_=>by kernel_rfl
def adj:Kh (hZ v0 MM [(4,pz xw),(3,pz xw)]) (cY v0 xc xe ca n m i) (bI 3<|pz xw):=λ_=>aQ.head λ_=>by kernel_rfl
def U1:Kh (hZ v0 GU [(9,q1 xw),(3,pz xw)]) (cY v0 xc xe ca n m i) (bI 3<|q1 xw):=λ_=>aQ.head λ_=>by kernel_rfl
def U2(a):Kh (hZ v0 MN [(12,q1 xw),iv 11 a,(3,pz xw)]) (cY v0 xc xe ca n m i) (bI 3<|q1 xw):=λ_=>aQ.head λ_=>by kernel_rfl
def U3:Kh (hZ v0 GW [(19,q1 xw),(3,pz xw)]) (cY v0 xc xe ca n m i) (bI 3<|q1 xw):=λ_=>aQ.head λ_=>by kernel_rfl
def U4:Kh (hZ v0 El [pv 26 v0,(3,pz xw)]) (cY v0 xc xe ca n m i) (bI 50<|pz xw):=λ_=>aQ.head λ_=>by kernel_rfl
def adk:Kh (mX v0 tp3 [(1,v)]) ((hZ v0 fi [])::cY v0 xc xe ca n m i) (PL 50 v):=λ_=>aQ.head λ_=>by kernel_rfl
def adl:Kh (mX v0 tp9 [pv 8 ((v0.add 0).add 1),(3,pz xx)]) ((hZ v0 fi [])::cY v0 xc xe ca n m i) (bI 22<|Ω<|U<|(v0.add 0).add 1):=λ_=>aQ.head λ_=>by kernel_rfl
def U5:Kh (mX v0 Em [(11,pz xx),iv 4 q,(3,pz xx)]) ((hZ v0 fi [])::cY v0 xc xe ca n m i) (bI 3<|pz xx):=λ_=>aQ.head λ_=>by kernel_rfl
def U6:Kh (mX v0 MO [pv 17 ((v0.add 0).add 0),(3,pz xx)]) ((hZ v0 fi [])::cY v0 xc xe ca n m i) (bI 22<|Ω<|U<|(v0.add 0).add 0):=λ_=>aQ.head λ_=>by kernel_rfl
def U7:Kh (mX v0 Be [(20,q1 xx),iv 4 q,(3,pz xx)]) ((hZ v0 fi [])::cY v0 xc xe ca n m i) (bI 3<|q1 xx):=λ_=>aQ.head λ_=>by kernel_rfl
def U8:Kh (mX v0 MQ [(24,q1 xx),bv 23 V,iv 4 q,(3,pz xx)]) ((hZ v0 fi [])::cY v0 xc xe ca n m i) (bI 3<|q1 xx):=λ_=>aQ.head λ_=>by kernel_rfl
def adm:Kh (fX v0 xc xe txe []) [] (gh 34 (pz xe)<|Θ Γ 0):=λ_=>aQ.head λ_=>by kernel_rfl
def fR(xe:Nat)(T:List Zd)(ex:List (Nat×ι)):bG:={fn:=248,n:=3,T,l:=ex++[(0,pz xe)],kind:=.deferred}
def As(v0:Z1)(xc xe:Nat)(T:List Zd):bG:={fn:=213,n:=48,T,l:=[pv 0 v0,(3,pz xc),(4,pz xe)],mode:=.returning}
def gxz:=dc (fX a0 7 8 txe []) [] undef<|ah 248 1
def tr1:=aK gxz
def KP:=cH 0 gxz
def GX:=aK<|dc (fR 8 tr1 []) [As a0 7 8 KP] .nilIface<|eh 248
def txz:=aK<|dc (fR 8 GX [iv 2 0]) [As a0 7 8 KP] undef<|lQ 213
def GY(cs g)(h:aQ (fR xe tr1 []) [As v0 xc xe KP] cs g)(w):stepG P0 V g w=.go (fin .nilIface g) w #[]:=by obtain⟨F,rfl⟩:=h;kernel_rfl
def adp:kB (undef) (fX v0 xc xe txe []) [] (fR xe tr1 []) [(As v0 xc xe KP)]:=λ_=>aR (ah 248 1) λ_=>by kernel_rfl
def adq:kB (.nilIface) (fR xe tr1 []) [(As v0 xc xe KP)] (fR xe GX [iv 2 0]) [(As v0 xc xe KP)]:=λ_=>aR (eh 248) λ_=>by kernel_rfl
def U9:Kh (fR xe GX [iv 2 0]) [(As v0 xc xe KP)] (gh 34 (pz xe)<|Θ Γ 0):=λ_=>aQ.head λ_=>by kernel_rfl
def U':kB (undef) (fR xe GX [iv 2 0]) [(As v0 xc xe KP)] (As v0 xc xe txz) []:=λ_=>aR (lQ 213) λ_=>by kernel_rfl
end
section
structure yy(n0:Nat)(Y X X':Nat->Prop)(w w':ξ)(es:Array ZH):Prop where
 tape:w'.tape=w.tape
 drawn:w'.drawn=w.drawn
 os:w'.os=w.os
 output:w'.output=w.output
 size:w.heap.size<=w'.heap.size
 others:∀x,x<w.heap.size->¬X x->w'.heap[x]?=w.heap[x]?
 grow:∀x,X x->X' x
 fresh:∀x,X' x->¬X x->w.heap.size<=x
 full:∀x,w.heap.size<=x->x<w'.heap.size->X' x
 Ft:∀e∈es,match e.loc with
  |.cell a=>(X' a.block\/(a.block<n0/\e.write=V/\Y a.block))/\e.sync=V
  |.obj r=>X' r/\e.sync=V
  |.mark (.extern _)=>True
  |_=>False
structure PK where
 B0:Nat
 h0:Array Y9
 Y:Nat->Prop
 TT:ZS->Prop
 C:Nat
structure o7(K:PK)(X:List Nat)(O:List (Nat×Y9))(w:ξ):Prop where
 old:∀b,b<K.B0->w.heap[b]?=K.h0[b]?
 size:K.B0<=w.heap.size
 own:∀x∈X,K.B0<=x/\x<w.heap.size/\∃cs e f,w.heap[x]?=U (.cells cs e f)/\K.TT e
 known:∀p∈O,p.1∈X/\w.heap[p.1]?=U p.2
def PX(K:PK)(gE:R):Nat->List Nat->List (Nat×Y9) ->R->Prop
 |0,_,_,_=>False
 |N+1,X,O,g=>g.status=.running/\∀w,o7 K X O w->
   (X.length<=K.C/\∃w' es,stepG P0 V g w=.go gE w' es/\yy K.B0 K.Y (·∈X) (·∈X) w w' es/\o7 K X O w')\/
   ∃g' X' O' w' es,stepG P0 V g w=.go g' w' es/\yy K.B0 K.Y (·∈X) (·∈X') w w' es/\o7 K X' O' w'/\PX K gE N X' O' g'
section
variable{K:PK}{gE g g':R}{N:Nat}{X:List Nat}{O:List (Nat×Y9)}{w w':ξ}
def PX.running(h:PX K gE N X O g):g.status=.running:=by
 cases N with
 |zero=>exact h.elim
 |succ N=>exact h.1
def PX.mono:∀{N a} {X} {O} {g},N<=a->PX K gE N X O g->PX K gE a X O g
 |0,_,_,_,_,_,h=>h.elim
 |N+1,0,_,_,_,hM,_=>by omega
 |N+1,a+1,X,O,g,hM,h=>by refine⟨h.1,λw hw=>(h.2 w hw).imp id ?_⟩;rintro⟨j,i,c,b,f,e,d,h3,h4⟩;exact⟨j,i,c,b,f,e,d,h3,PX.mono (by omega) h4⟩
def o7.others(h:o7 K X O w)(hs:w.heap.size<=w'.heap.size)(j:∀b,b<K.B0->w'.heap[b]?=w.heap[b]?)(d:∀x,x∈X->w'.heap[x]?=w.heap[x]?):o7 K X O w':=by refine⟨λb hb=>(j b hb).trans<|h.old b hb,Zm h.size hs,λx g=>?_,λp i=>?_⟩;obtain⟨a,c,cs,e,f,h3,h4⟩:=h.own x g;exact⟨a,κ c hs,cs,e,f,by rw[d x g];exact h3,h4⟩;obtain⟨a,c⟩:=h.known p i;exact⟨a,by rw[d _ a];exact c⟩
def mY{b g c es} (i:∀e∈es,match e.loc with
 |.cell a=>(c a.block\/(a.block<g/\e.write=V/\b a.block))/\e.sync=V
 |.obj r=>c r/\e.sync=V
 |.mark (.extern _)=>True
 |_=>False):yy g b c c w w es:=
 ⟨rfl,rfl,rfl,rfl,.refl,λ_ _ _=>rfl,λ_ h=>h,λx f d=>absurd f d,λx f d=>absurd d<|ZJ.2 f,i⟩
def PX.path(h:PX K gE N X O g'):∀{k} {g},Path P0 V k g g'->PX K gE (N+k) X O g
 |0,g,hp=>by have:=hp;rw[<-this];exact h
 |k+1,g,hp=>by obtain⟨c,b,a,d⟩:=hp;exact⟨c,λw hw=>.inr ⟨b,X,O,w,#[],a w,mY<|by simp,hw,PX.path h d⟩⟩
def PX.to{n S}(b:bZ P0 V n S g)(h:∀g',S g'->PX K gE N X O g'):PX K gE (N+n) X O g:=by obtain⟨k,c,g',a,hs⟩:=b;exact PX.mono (by omega)<|(h g' hs).path a
def PX.look{n S es}(f:g.status=.running)(b:∀w,o7 K X O w->stepG P0 V g w=.go g' w es)(i:∀e∈es,∃a,e=⟨.cell a,V,V⟩/\(a.block∈X\/(a.block<K.B0/\K.Y a.block)))(c:bZ P0 V n S g')(h:∀g',S g'->PX K gE N X O g'):PX K gE (N+n+1) X O g:=by
 refine⟨f,λw hw=>.inr ⟨g',X,O,w,es,b w hw,mY λe d=>?_,hw,PX.to c h⟩⟩
 grind
def yz(w:ξ)(cs e):(w.alloc<|.cells cs e).heap.size=w.heap.size+1/\(∀x,x<w.heap.size->(w.alloc<|.cells cs e).heap[x]?=w.heap[x]?)/\(w.alloc<|.cells cs e).heap[w.heap.size]?=U (.cells cs e):=by refine⟨?_,λx a=>?_,?_⟩;simp;show(w.heap.push _)[x]?=_;rw[μ a,ψ a];show(w.heap.push _)[w.heap.size]?=_;rw[ZK]
def PX.new{n}{S:Nat->R->Prop}{cs e}(q:g.status=.running)(o:K.TT e)(l:Nat->R)(k:∀w,o7 K X O w->stepG P0 V g w=.go (l w.heap.size) (w.alloc<|.cells cs e) #[])(f:∀x,bZ P0 V n (S x)<|l x)(h:∀x g',K.B0<=x->S x g'->PX K gE N (x::X) ((x,.cells cs e)::O) g'):PX K gE (N+n+1) X O g:=by
 refine⟨q,λw hw=>.inr ⟨l w.heap.size,w.heap.size::X,(w.heap.size,.cells cs e)::O,w.alloc<|.cells cs e,#[],k w hw,⟨rfl,rfl,rfl,rfl,?_,λx d t=>?_,λx d=>Z8 _ d,λx d t=>?_,λx i j=>?_,by simp⟩,⟨λb hb=>?_,?_,λx d=>?_,λp f=>?_⟩,PX.to (f _) λg' hs=>h _ g' hw.size hs⟩⟩
 all_goals obtain⟨u,c,a⟩:=yz w cs e
 omega;exact c x d
 grind
 have:x=w.heap.size:=by omega
 subst this;exact η;rw[c b (κ hb hw.size)];exact hw.old b hb;have:=hw.size;omega;obtain rfl|d:=Z2.1 d
 ·exact⟨hw.size,by omega,cs,e,_,a,o⟩
 obtain⟨i,j,m,s,r,h3,h4⟩:=hw.own x d;exact⟨i,by omega,m,s,r,by rw[c x j];exact h3,h4⟩;obtain rfl|f:=Z2.1 f
 ·exact⟨η,a⟩
 obtain⟨i,j⟩:=hw.known p f;exact⟨Z8 _ i,by rw[c _ (hw.own _ i).2.1];exact j⟩
def PX.qu{n S x cs cs' e O' es}(v:g.status=.running)(B:(x,.cells cs e)∈O)(u:∀p∈O',p=(x,.cells cs' e)\/(p∈O/\p.1≠x))(j:∀w,o7 K X O w->w.heap[x]?=U (.cells cs e) ->∃w',stepG P0 V g w=.go g' w' es/\w'.tape=w.tape/\w'.drawn=w.drawn/\w'.os=w.os/\w'.output=w.output/\w'.heap.size=w.heap.size/\w'.heap[x]?=U (.cells cs' e)/\∀y,y≠x->w'.heap[y]?=w.heap[y]?)(E:∀ev∈es,∃a wr,ev=⟨.cell a,wr,V⟩/\a.block=x)(k:bZ P0 V n S g')(h:∀g',S g'->PX K gE N X O' g'):PX K gE (N+n+1) X O g:=by
 refine⟨v,λw hw=>.inr ?_⟩;obtain⟨c,i⟩:=hw.known _ B;obtain⟨w',f,d,h3,h4,h5,C,t,l⟩:=j w hw i;refine⟨g',X,O',w',es,f,⟨d,h3,h4,h5,by omega,λy q A=>l y λe=>A<|e▸c,λ_ h=>h,λy f d=>absurd f d,λy f d=>by omega,λev s=>?_⟩,⟨λb hb=>?_,by rw[C];exact hw.size,λy q=>?_,λp k=>?_⟩,PX.to k h⟩
 grind
 rw[l b (λe=>by have:=(hw.own x c).1;omega)];exact hw.old b hb;obtain⟨q1,r,z,e1,D,m,o⟩:=hw.own y q
 grind
 obtain rfl|⟨q1,r⟩:=u p k
 ·exact⟨c,t⟩
 obtain⟨m,o⟩:=hw.known p q1;exact⟨m,by rw[l _ r];exact o⟩
end
end
end Ph
namespace Ph
open Go Go.Conc
open Go.ConcN (RelBy fork_knows)
section
def blk:Loc->Nat
 |.cell a=>a.block
 |.obj r=>r
 |_=>0
def cc{t u i x}(h:ZG (t++u) i=U x):(i<t.size/\ZG t i=U x)\/∃op,op∈u/\op.act.touch?=U x/\(t++u)[i]?=U op:=by
 obtain⟨op,b,c⟩:=YS h;obtain⟨hi,a⟩|⟨_,d⟩:=ZC b
 exact .inl ⟨hi,by rw[touchAt_of a];exact c⟩
 grind
def CY{B}{act:MemAct}{x}(h:act.low B)(a:act.touch?=U x)(b:x.loc.isMemory=I):blk x.loc<B:=by
 cases act with
 |access e=>simp only[Z9,ZY]at a;subst a;obtain⟨loc,wr,c⟩:=e;cases loc<;>first|exact h|(simp[Loc.isMemory]at b)
 |mark m=>
  cases m<;>simp only[Z9,ZY,reduceCtorEq]at a
  subst a;exact h;subst a;exact h
 |_=>simp[Z9]at a
section
variable(Shun ic:Loc->Prop)(Own:Nat->Loc->Prop)(p0 r Z:Nat)(H:Nat->Nat)(B:Nat)
structure TI(t:Yv):Prop where
 clean:∀said,¬Race said t
 seen:∀op∈t,op.act.low B
 quiet:∀i x,ZG t i=U x->ic x.loc->x.kind≠.plain/\(x.kind=.said->t.g? i=U 0)
 known:∀i x,ZG t i=U x->x.loc.isMemory=I->(Shun x.loc/\x.kind=.atomic)\/ic x.loc\/
  (∃j,j<r/\t.g? i=U (p0+j)/\x.kind≠.atomic/\(Own j x.loc\/(x.write=V/\blk x.loc<Z/\∀k,¬Own k x.loc)))\/Knows t 0 i
 wk:∀j,j<r->∀i x,ZG t i=U x->x.loc.isMemory=I->(Own j x.loc\/(x.write=I/\blk x.loc<H j/\¬ic x.loc/\¬Shun x.loc/\∀k,¬Own k x.loc)) ->Knows t (p0+j) i
 over:∀i g,t.g? i=U g->g≠0->(g<p0\/p0+r<=g) ->t.counts i->∃j,t.g? j=U 0/\Zl t i j
structure Fam:Prop where
 own:∀k k' l,Own k l->Own k' l->k=k'
 ownSh:∀k l,Own k l->¬ic l/\¬Shun l
 hz:∀j,j<r->H j<=Z
 pos:0<p0
 QS:∀l,ic l->l.isMemory=I
def OkW(j:Nat)(op:Yl):Prop:=op.g=p0+j/\∀x,op.act.touch?=U x->x.loc.isMemory=I->(ic x.loc/\x.kind=.atomic)\/(x.kind≠.atomic/\Own j x.loc)\/(x.kind≠.atomic/\x.write=V/\blk x.loc<H j/\¬ic x.loc/\¬Shun x.loc/\∀k,¬Own k x.loc)
def Ok0(op:Yl):Prop:=op.g=0/\∀x,op.act.touch?=U x->x.loc.isMemory=I->(ic x.loc/\x.kind≠.plain)\/(¬ic x.loc/\¬Shun x.loc/\(∀k,¬Own k x.loc)/\(x.write=I->Z<=blk x.loc))
end
section
variable{Shun ic:Loc->Prop}{Own Own':Nat->Loc->Prop}{p0 r Z Z':Nat}{H H':Nat->Nat}{B B':Nat}{t u:Yv}
def TI.mono(h:TI Shun ic Own p0 r Z H B t)(a:B<=B'):TI Shun ic Own p0 r Z H B' t:=⟨h.clean,λop b=>MemAct.low_mono a<|h.seen op b,h.quiet,h.known,h.wk,h.over⟩
def TI.low(h:TI Shun ic Own p0 r Z H B t){i x}(d:ZG t i=U x)(a:x.loc.isMemory=I):blk x.loc<B:=by obtain⟨op,c,b⟩:=YS d;exact CY (h.seen op<|ZU c) b a
def TI.grow(h:TI Shun ic Own p0 r Z H B t)(g:∀k l,Own k l->Own' k l)(f:∀k l,Own' k l->Own k l\/B<=blk l):TI Shun ic Own' p0 r Z H B t:=by
 have c:∀{i x k},ZG t i=U x->x.loc.isMemory=I->Own' k x.loc->Own k x.loc:=λb a d=>(f _ _ d).elim id λhb=>absurd (h.low b a)<|ZJ.2 hb;refine⟨h.clean,h.seen,h.quiet,λi x b a=>?_,λj e i x b a d=>h.wk j e i x b a ?_,h.over⟩;obtain k|k|⟨j,e,hg,hk,k⟩|k:=h.known i x b a
 ·grind
 grind
 grind
 grind
 grind
def nS(h:∀i g,t.g? i=U g->g≠0->(g<p0\/p0+r<=g) ->t.counts i->∃j,t.g? j=U 0/\Zl t i j)
 (p:∀op∈u,op.g=0\/op.act.touch?=θ\/(p0<=op.g/\op.g<p0+r)):∀i g,(t++u).g? i=U g->g≠0->(g<p0\/p0+r<=g) ->(t++u).counts i->∃j,(t++u).g? j=U 0/\Zl (t++u) i j:=by
 intro i g e a c hc;obtain⟨op,m,b⟩:=ω.1 e;obtain⟨hi,_⟩|⟨_,k⟩:=ZC m
 obtain⟨j,d,o⟩:=h i g (by rw[<-ζ (u:=u) hi];exact e) a c<|(Yd hi).1 hc;have n:j<t.size:=by obtain⟨z,hz,_⟩:=ω.1 d;exact Yg hz
 exact⟨j,by rw[ζ n];exact d,hb_app u o⟩;obtain h0|h0|h0:=p op k
 ·exact absurd (b.symm.trans h0) a
 obtain⟨x,s,_⟩:=hc;obtain⟨l,q,f⟩:=YS s
 grind
 omega
def TI.appW(F:Fam Shun ic Own p0 r Z H)(h:TI Shun ic Own p0 r Z H B t){j}(s:j<r)(m:∀op∈u,OkW Shun ic Own p0 H j op)(z:∀op∈u,op.act.low B):TI Shun ic Own p0 r Z H B (t++u):=by
 refine⟨λo=>?_,YR h.seen z,λi x p hs=>?_,λi x p n=>?_,λk l i x p n f=>?_,nS h.over λop c=>.inr<|.inr ?_⟩;refine ZB (h.clean o) (λop c=>(m op c).1) λi a y op c b hb hc=>?_;obtain⟨c1,c2,c3,A⟩:=hc;obtain⟨hs,l⟩|⟨_,f⟩|⟨_,hw,hz,hs,w,f⟩:=(m op c).2 b hb<|c1▸c2
 exfalso;have:=h.quiet i a y<|c1▸hs;obtain e|e|⟨_,_,e⟩:=A
 exact this.1 e;rw[l]at e;cases e;rw[l]at e;cases e;exact h.wk j s i a y c2<|.inl<|c1▸f;exact h.wk j s i a y c2<|.inr ⟨c3.resolve_right<|by simp[hw],c1▸hz,c1▸hs,c1▸w,by rw[c1];exact f⟩;obtain⟨hi,d⟩|⟨op,c,d,f⟩:=cc p
 ·obtain⟨q1,C⟩:=h.quiet i x d hs;exact⟨q1,λe=>by rw[ζ hi];exact C e⟩
 by_cases n:x.loc.isMemory=I
 ·obtain⟨_,l⟩|⟨_,f⟩|⟨_,_,_,q,_⟩:=(m op c).2 x d n
  ·rw[l];exact⟨by simp,by simp⟩
  exact absurd hs (F.ownSh _ _ f).1;exact absurd hs q
 exact absurd (F.QS _ hs) n;obtain⟨hi,d⟩|⟨op,c,d,f⟩:=cc p
 ·obtain k|k|⟨j',hj',hg,k⟩|k:=h.known i x d n
  ·exact .inl k
  exact .inr<|.inl k;exact .inr<|.inr<|.inl ⟨j',hj',by rw[ζ hi];exact hg,k⟩;exact .inr<|.inr<|.inr<|k.app u
 obtain⟨hs,_⟩|⟨l,g⟩|⟨l,hw,hz,_,_,q⟩:=(m op c).2 x d n
 ·exact .inr<|.inl hs
 exact .inr<|.inr<|.inl ⟨j,s,by simp[Zc,f,(m op c).1],l,.inl g⟩;exact .inr<|.inr<|.inl ⟨j,s,by simp[Zc,f,(m op c).1],l,.inr ⟨hw,κ hz<|F.hz j s,q⟩⟩;obtain⟨hi,d⟩|⟨op,c,d,v⟩:=cc p
 ·exact(h.wk k l i x d n f).app u
 have own:=Yu v;rw[(m op c).1]at own;obtain⟨hs,_⟩|⟨_,g⟩|⟨_,hw,_,_,_,q⟩:=(m op c).2 x d n
 obtain f|⟨_,_,o3,_,_⟩:=f
 ·exact absurd hs (F.ownSh _ _ f).1
 exact absurd hs o3;obtain f|⟨_,_,_,_,o5⟩:=f
 ·rw[F.own _ _ _ f g];exact own
 exact absurd g<|o5 j;obtain f|⟨o1,_⟩:=f
 ·exact absurd f<|q k
 rw[hw]at o1;cases o1;rw[(m op c).1];omega
def TI.app0(F:Fam Shun ic Own p0 r Z H)(h:TI Shun ic Own p0 r Z H B t)(l:∀op∈u,Ok0 Shun ic Own Z op)(C:∀op∈u,op.act.low B):TI Shun ic Own p0 r Z H B (t++u):=by
 have own:∀{i:Nat} {op:Yl},op∈u->(t++u)[i]?=U op->Knows (t++u) 0 i:=λc f=>by have:=Yu f;rwa[(l _ c).1]at this
 refine⟨λm=>?_,YR h.seen C,λi x n hs=>?_,λi x n p=>?_,λk g i x n p f=>?_,nS h.over λop c=>.inl (l op c).1⟩;refine ZB (h.clean m) (λop c=>(l op c).1) λi a y op c b hb hc=>?_;obtain⟨c1,c2,c3,D⟩:=hc;obtain⟨hs,g⟩|⟨hs,v,f,hw⟩:=(l op c).2 b hb<|c1▸c2
 obtain⟨q1,w⟩:=h.quiet i a y<|c1▸hs;obtain e|e|⟨_,e,_⟩:=D
 exact absurd e q1;exact absurd e g;have o:=w e;obtain⟨z,hz,q⟩:=ω.1 o;have:=Yu hz;rwa[q]at this;obtain k|k|⟨j,hj,o,g,k⟩|k:=h.known i a y c2
 ·exact absurd (c1▸k.1) v
 exact absurd (c1▸k) hs
 grind
 exact k;obtain⟨hi,d⟩|⟨op,c,d,f⟩:=cc n
 ·obtain⟨q1,w⟩:=h.quiet i x d hs;exact⟨q1,λe=>by rw[ζ hi];exact w e⟩
 obtain⟨_,g⟩|⟨s,_⟩:=(l op c).2 x d<|F.QS _ hs
 ·exact⟨g,λ_=>by simp[Zc,f,(l op c).1]⟩
 exact absurd hs s;obtain⟨hi,d⟩|⟨op,c,d,f⟩:=cc n
 ·obtain k|k|⟨j',hj',o,k⟩|k:=h.known i x d p
  ·exact .inl k
  exact .inr<|.inl k;exact .inr<|.inr<|.inl ⟨j',hj',by rw[ζ hi];exact o,k⟩;exact .inr<|.inr<|.inr<|k.app u
 exact .inr<|.inr<|.inr<|own c f;obtain⟨hi,d⟩|⟨op,c,d,A⟩:=cc n
 ·exact(h.wk k g i x d p f).app u
 exfalso;obtain⟨hs,_⟩|⟨_,_,s,hw⟩:=(l op c).2 x d p
 obtain f|⟨_,_,o3,_,_⟩:=f
 ·exact(F.ownSh _ _ f).1 hs
 exact o3 hs;obtain f|⟨o1,o2,_⟩:=f
 ·exact s k f
 have:=hw o1;have:=F.hz k g;omega
def TI.CZ(h:TI Shun ic Own p0 r Z H B t){g}(m:∀op∈u,op.g=g)(s:∀op∈u,op.act.touch?=θ)(p:∀op∈u,op.act.low B):TI Shun ic Own p0 r Z H B (t++u):=by
 have old:∀{i:Nat} {x:Touch},ZG (t++u) i=U x->i<t.size/\ZG t i=U x:=λf=>by
  obtain h|⟨op,d,c,_⟩:=cc f
  exact h
  grind
 refine⟨λj=>ZB (h.clean j) m λi a v op d b hb hc=>(by grind),YR h.seen p,λi x f hs=>?_,λi x f l=>?_,λk n i x f l o=>(h.wk k n i x (old f).2 l o).app u,nS h.over λop d=>.inr<|.inl<|s op d⟩;obtain⟨hi,c⟩:=old f;obtain⟨q1,q⟩:=h.quiet i x c hs;exact⟨q1,λe=>by rw[ζ hi];exact q e⟩;obtain⟨hi,c⟩:=old f;obtain k|k|⟨j',hj',m,k⟩|k:=h.known i x c l
 exact .inl k;exact .inr<|.inl k;exact .inr<|.inr<|.inl ⟨j',hj',by rw[ζ hi];exact m,k⟩;exact .inr<|.inr<|.inr<|k.app u
def TI.fork(F:Fam Shun ic Own p0 r Z H)(h:TI Shun ic Own p0 r Z H B t){x y}(s:x.g=0/\x.act=.go (p0+r))(q:y.g=p0+r/\y.act=.start)(h0:Zk t 0=0)(z:Zk t (p0+r)=0)(A:∀j,j<r->H' j=H j)(E:Z<=Z'):TI Shun ic Own p0 (r+1) Z' H' B (t++#[x,y]):=by
 have l:∀op∈#[x,y],op.act.touch?=θ:=by
  intro op c;simp only[ZX,Z2,ε,or_false]at c;obtain rfl|rfl:=c
  rw[s.2];rfl;rw[q.2];rfl
 have old:∀{i:Nat} {a:Touch},ZG (t++#[x,y]) i=U a->i<t.size/\ZG t i=U a:=λm=>by
  obtain h|⟨op,c,hx',_⟩:=cc m
  exact h;rw[l op c]at hx';cases hx'
 have e:t++#[x,y]=(t++#[x])++#[y]:=by apply Yx;simp
 refine⟨λn=>?_,YR h.seen λop c=>?_,λi a m hs=>?_,λi a m v=>?_,λj G i a m v d=>?_,λi g p w C hc=>nS (u:=#[x,y]) h.over (λop c=>.inr<|.inl<|l op c) i g p w (by omega) hc⟩;rw[e];exact ZB (g:=p0+r) (ZB (g:=0) (h.clean n) (λop c=>by simp at c;rw[c];exact s.1) (λi a _ op c b hb _=>by rw[l op (by simp at c⊢;exact .inl c)]at hb;cases hb))
  (λop c=>by simp at c;rw[c];exact q.1) (λi a _ op c b hb _=>by rw[l op (by simp at c⊢;exact .inr c)]at hb;cases hb)
 simp only[ZX,Z2,ε,or_false]at c;obtain rfl|rfl:=c
 rw[s.2];trivial;rw[q.2];trivial;obtain⟨hi,f⟩:=old m;obtain⟨q1,D⟩:=h.quiet i a f hs;exact⟨q1,λe=>by rw[ζ hi];exact D e⟩;obtain⟨hi,f⟩:=old m;obtain k|k|⟨j',hj',p,k0,k⟩|k:=h.known i a f v
 exact .inl k;exact .inr<|.inl k;refine .inr<|.inr<|.inl ⟨j',by omega,by rw[ζ hi];exact p,k0,?_⟩;obtain k|⟨k1,k2,k3⟩:=k
 exact .inl k;exact .inr ⟨k1,by omega,k3⟩;exact .inr<|.inr<|.inr<|k.app _;obtain⟨hi,f⟩:=old m;by_cases o:j<r
 rw[A j o]at d;exact(h.wk j o i a f v d).app _;obtain rfl:j=r:=by omega
 refine fork_knows s q h0 z ?_;obtain k|k|⟨j',hj',p,k0,k⟩|k:=h.known i a f v
 exfalso;obtain d|⟨_,_,_,o4,_⟩:=d
 exact(F.ownSh _ _ d).2 k.1;exact o4 k.1;exfalso;obtain d|⟨_,_,o3,_⟩:=d
 exact(F.ownSh _ _ d).1 k;exact o3 k;exfalso;obtain k|⟨k1,k2,k3⟩:=k
 obtain d|⟨_,_,_,_,o5⟩:=d
 ·have:=F.own _ _ _ k d;omega
 exact o5 _ k;obtain d|⟨o1,_⟩:=d
 ·exact k3 _ d
 rw[k1]at o1;cases o1;exact k
def TI.GZ(F:Fam Shun ic Own p0 r Z H)(h:TI Shun ic Own p0 r Z H B t){a}(P:∀j,j<r->∃i,RelBy a t (p0+j) i)(S:NoRelease a t)(h0:Zk t 0=0){y}(e:y.g=0/\y.act=.mark (.acquire a))(T:a.block<B):
 Yk (λl=>Shun l\/ic l) B (t++#[y]):=by
 have d:(t++#[y])[t.size]?=U y:=by rw[Array.getElem?_append_right .refl];simp
 have A:∀op∈#[y],op.act.touch?=θ:=by intro op b;simp only[ZX,Z2,ε,or_false]at b;rw[b,e.2];rfl
 have v:∀op∈#[y],op.act.low B:=by intro op b;simp only[ZX,Z2,ε,or_false]at b;rw[b,e.2];exact T
 have K:=h.CZ (u:=#[y]) (g:=0) (λop b=>by simp at b;rw[b];exact e.1) A v;have o:∀{j i:Nat},j<r->i<t.size->t.g? i=U (p0+j) ->t.counts i->Zl (t++#[y]) i t.size:=by
  intro j i L hi m hc;obtain⟨q,C⟩:=P j L;have f:=lt_of_act? C.act;have W:=Nat.le_of_not_lt λp=>C.after i p m hc;have n:Zl (t++#[y]) q t.size:=.single<|.inr ⟨.marked f (.inr (by rw[act?_old f];exact C.act)) (by rw[act?_of d,e.2]) (λk _ J=>by rw[act?_old J];exact S k),(heard_old f).2 C.heard,⟨0,by simp[Zc,d,e.1],by rw[deaf_old .refl];exact h0⟩⟩;obtain p|s:=YQ i q
  exact .trans (.single<|.inl ⟨p,p0+j,by rw[ζ hi];exact m,by rw[ζ f];exact C.g⟩) n;obtain rfl:i=q:=by omega
  exact n
 refine⟨K.clean,λi x Q D=>?_,λi g m w hc=>?_,?_,K.seen⟩;obtain⟨hi,c⟩|⟨op,b,c,_⟩:=cc Q
 ·obtain k|k|⟨j,L,m,J,k⟩|k:=h.known i x c D
  ·exact .inr ⟨.inl k.1,k.2⟩
  obtain⟨q1,X⟩:=h.quiet i x c k;cases hkd:x.kind with
  |plain=>exact absurd hkd q1
  |atomic=>exact .inr ⟨.inr k,rfl⟩
  |said=>left;obtain⟨z,hz,G⟩:=ω.1<|X hkd;have:=Yu hz;rw[G]at this;exact this.app _
  exact .inl ⟨t.size,y,d,e.1,.inr<|o L hi m ⟨x,c,D,.inl J⟩⟩;exact .inl<|k.app _
 rw[A op b]at c;cases c;by_cases N:g<p0\/p0+r<=g
 ·exact K.over i g m w N hc
 have hi:i<t.size:=by
  apply Z0;intro s;obtain⟨op,O,E⟩:=ω.1 m;obtain⟨hi,_⟩|⟨_,D⟩:=ZC O
  exact s hi;simp at D;rw[D,e.1]at E;exact w E.symm
 obtain⟨j,rfl⟩:∃j,g=p0+j:=⟨g-p0,by omega⟩;exact⟨t.size,by simp[Zc,d,e.1],o (j:=j) (by omega) hi (by rw[<-ζ (u:=#[y]) hi];exact m)<|(Yd hi).1 hc⟩;rw[Deaf_push];unfold deafStep;rw[e.2];exact h0
def TI.start(h:Yk Shun B t)(e:∀l,ic l->B<=blk l/\l.isMemory=I)(h3:0<p0):TI Shun ic Own p0 0 Z H B t:=by
 refine⟨h.clean,h.seen,λi x b hs=>?_,λi x b c=>?_,λj n=>by omega,λi g m a _ hc=>h.over i g m a hc⟩;obtain⟨op,d,f⟩:=YS b;have:=CY (h.seen op<|ZU d) f (e _ hs).2
 grind
 obtain k|k:=h.known i x b c
 ·grind
 grind
end
end
end Ph
namespace Ph
open Go Go.Conc
open Go.ConcM (muA msA MuAt ShAt Eff BookOK Bk2)
open Go.ConcR (stA smA WgAt mk)
section
structure PC where
 ca:Option Z1
 n:Nat
 m:Nat
 b:Bool
 c0:ZW
 cs:List ZW
 p0:Nat
 B0:Nat
 h0:Array Y9
 v0:Z1
 v1:Nat->ι
 v2:Nat->ι
 ev:Nat->Int
 S:Nat->Prop
 TT:ZS->Prop
 C:Nat
namespace PC
variable(K:PC)
def E:Z1:=⟨K.B0+1,0,θ⟩
def q:MP:=⟨K.ca,K.n,K.m,⟨K.B0,0,θ⟩,⟨K.B0+2,0,θ⟩,muA<|K.B0+3,stA<|K.B0+4⟩
def wp(i c:Nat):WP:=K.q.wp ⟨c,0,θ⟩ ⟨i,0,θ⟩
def pk:PK:={B0:=K.B0,h0:=K.h0,Y:=λb=>¬K.S b,TT:=K.TT,C:=K.C}
def Fin(j:Nat)(cs1:List ZW):R:={frame:=cs1.head!.finish<|Θ Γ<|K.ev j,callers:=cs1.tail,status:=.running,dying:=θ}
def Entry(j:Nat)(cs1:List ZW):R:={frame:=ZN P0 213 #[Ω (U K.v0),.agg #[K.v1 j,K.v2 j]] .normal,callers:=cs1,status:=.running,dying:=θ}
def ic(l:Go.Loc):Prop:=∃a,l=.cell a/\(a.block=K.B0+3\/a.block=K.B0+4)
def Shun(l:Go.Loc):Prop:=gO.mT K.S l
def Own(X:Nat->Nat->Prop)(j:Nat)(l:Go.Loc):Prop:=(l=.cell ⟨K.B0+1,j,θ⟩/\j<K.n)\/(l.isMemory=I/\X j (blk l))
end PC
structure dX(K:PC):Prop where
 MT:∀j,j<K.n->∀cs1,cs1≠[] ->∃N,PX K.pk (K.Fin j cs1) N [] [] (K.Entry j cs1)
 ads:∀j,j<K.n->(K.v1 j).oneCell'=I/\(K.v2 j).oneCell'=I
 nB:K.n<1048576
 pos:0<K.p0
 size:K.h0.size=K.B0
 data:∀j,j<K.n->∃a,K.ca=U a/\a.block<K.B0/\¬K.S a.block/\a.spot=θ/\∃cs e f,K.h0[a.block]?=U (.cells cs e f)/\cs[a.off+j*2]?=U (K.v1 j)/\cs[a.off+j*2+1]?=U (K.v2 j)
 SB:∀b,K.S b->b<K.B0
 TT:K.TT 104/\K.TT 34/\K.TT 83/\K.TT 249/\K.TT 255/\K.TT 3/\K.TT 76
def kK:St->Nat
 |.w7=>6
 |.w8=>5
 |.pv=>4
 |.gl|.gs|.gm|.gn|.gx=>1
 |.fin=>0
 |_=>2
def cu:St->Bool
 |.u1|.uv|.ur|.ud|.u0|.uc _|.ux|.us|.uh|.ue|.gv|.gr|.gd|.ga|.gl|.gs|.gm|.gn|.gx|.fin=>I
 |_=>V
def dC:St->Bool
 |.gd|.ga|.gl|.gs|.gm|.gn|.gx|.fin=>I
 |_=>V
def C0(x):kK (hd x)=2/\cu (hd x)=V/\dC (hd x)=V/\hd x≠.w8/\hd x≠.pv/\hd x≠.fin:=by unfold hd;split<;>simp[kK,cu,dC]
def aag(o):kK (k8 o)=2/\cu (k8 o)=I/\dC (k8 o)=V/\k8 o≠.w8/\k8 o≠.pv/\k8 o≠.fin:=by unfold k8;split<;>simp[kK,cu,dC]
def ez:St->Bool
 |.e4=>I
 |_=>V
def il:St->Bool
 |.gr=>I
 |_=>V
structure NxF(s s':St):Prop where
 lv:kK s'<=kK s
 GZ:cu s'=(cu s||ez s)
 rel:dC s'=(dC s||il s)
 no8:s'≠.w8/\s'≠.pv/\(s'=.fin↔s=.gx)
def G8{s s' h h'}(a:Nx s h s' h'):NxF s s':=by
 cases s with
 |w7=>exact a.elim
 |w8=>exact a.elim
 |pv=>exact a.elim
 |fin=>exact a.elim
 |l0=>obtain⟨_,rfl,_⟩|⟨_,rfl,_⟩:=a<;>exact⟨by simp[kK],by simp[cu,ez],by simp[dC,il],by simp⟩
 |r0=>obtain⟨rfl,_⟩:=a;obtain⟨q1,e,d,b,f,c⟩:=C0 ⟨0,h.mu,0,V,V⟩;exact⟨by rw[q1];simp[kK],by rw[e];simp[cu,ez],by rw[d];simp[dC,il],b,f,by simp[c]⟩
 |sq x=>obtain⟨_,rfl|⟨_,rfl⟩⟩:=a;exact⟨by simp[kK],by simp[cu,ez],by simp[dC,il],by simp⟩;split<;>exact⟨by simp[kK],by simp[cu,ez],by simp[dC,il],by simp⟩
 |c1 x=>obtain⟨_,rfl,_⟩|⟨_,rfl,_⟩:=a<;>exact⟨by simp[kK],by simp[cu,ez],by simp[dC,il],by simp⟩
 |r1 x=>obtain⟨rfl,_⟩:=a;obtain⟨q1,e,d,b,f,c⟩:=C0 {x with old:=h.mu};exact⟨by rw[q1];simp[kK],by rw[e];simp[cu,ez],by rw[d];simp[dC,il],b,f,by simp[c]⟩
 |r3 x=>obtain⟨rfl,_⟩:=a;obtain⟨q1,e,d,b,f,c⟩:=C0 {x with old:=h.mu};exact⟨by rw[q1];simp[kK],by rw[e];simp[cu,ez],by rw[d];simp[dC,il],b,f,by simp[c]⟩
 |c2 x=>
  obtain⟨_,_,rfl⟩|⟨_,rfl,_⟩:=a
  split
  ·exact⟨by simp[kK],by simp[cu,ez],by simp[dC,il],by simp⟩
  split<;>exact⟨by simp[kK],by simp[cu,ez],by simp[dC,il],by simp⟩
  exact⟨by simp[kK],by simp[cu,ez],by simp[dC,il],by simp⟩
 |t1 x=>obtain⟨_,t,rfl⟩:=a;exact⟨by simp[kK],by simp[cu,ez],by simp[dC,il],by simp⟩
 |s1 x=>obtain⟨_,_,rfl⟩:=a;split<;>exact⟨by simp[kK],by simp[cu,ez],by simp[dC,il],by simp⟩
 |t2 x=>obtain⟨_,t,rfl⟩:=a;exact⟨by simp[kK],by simp[cu,ez],by simp[dC,il],by simp⟩
 |r2 x=>
  obtain⟨_,rfl⟩:=a;split
  exact⟨by simp[kK],by simp[cu,ez],by simp[dC,il],by simp⟩;obtain⟨q1,e,d,b,f,c⟩:=C0 {x with old:=h.mu,it:=0,aw:=I};exact⟨by rw[q1];simp[kK],by rw[e];simp[cu,ez],by rw[d];simp[dC,il],b,f,by simp[c]⟩
 |u0=>
  obtain⟨_,rfl⟩:=a;split
  exact⟨by simp[kK],by simp[cu,ez],by simp[dC,il],by simp⟩;obtain⟨q1,e,d,b,f,c⟩:=aag {h.mu with L:=V};exact⟨by rw[q1];simp[kK],by rw[e];simp[cu,ez],by rw[d];simp[dC,il],b,f,by simp[c]⟩
 |uc o=>obtain⟨_,rfl,_⟩|⟨_,rfl,_⟩:=a<;>exact⟨by simp[kK],by simp[cu,ez],by simp[dC,il],by simp⟩
 |ux=>obtain⟨rfl,_⟩:=a;obtain⟨q1,e,d,b,f,c⟩:=aag h.mu;exact⟨by rw[q1];simp[kK],by rw[e];simp[cu,ez],by rw[d];simp[dC,il],b,f,by simp[c]⟩
 |ga=>obtain⟨_,rfl⟩:=a;split<;>exact⟨by simp[kK],by simp[cu,ez],by simp[dC,il],by simp⟩
 |_=>obtain⟨rfl,_⟩:=a;exact⟨by simp[kK],by simp[cu,ez],by simp[dC,il],by simp⟩
def adt{s s' h h'}(a:Nx s h s' h')(b:h'.k≠h.k):kK s'<kK s\/s=.gs:=by
 cases s with
 |ga=>obtain⟨_,rfl⟩:=a;split<;>simp[kK]
 |gs=>exact .inr rfl
 |w7=>exact a.elim
 |w8=>exact a.elim
 |pv=>exact a.elim
 |fin=>exact a.elim
 |l0=>obtain⟨_,_,rfl⟩|⟨_,_,rfl⟩:=a<;>exact absurd rfl b
 |c1 x=>obtain⟨_,_,rfl⟩|⟨_,_,rfl⟩:=a<;>exact absurd rfl b
 |c2 x=>obtain⟨_,rfl,_⟩|⟨_,_,rfl⟩:=a<;>exact absurd rfl b
 |uc x=>obtain⟨_,_,rfl⟩|⟨_,_,rfl⟩:=a<;>exact absurd rfl b
 |s1 x=>obtain⟨_,rfl,_⟩:=a;exact absurd rfl b
 |sq x=>obtain⟨rfl,_⟩:=a;exact absurd rfl b
 |t1 x=>obtain⟨rfl,_⟩:=a;exact absurd rfl b
 |t2 x=>obtain⟨rfl,_⟩:=a;exact absurd rfl b
 |r2 x=>obtain⟨rfl,_⟩:=a;exact absurd rfl b
 |u0=>obtain⟨rfl,_⟩:=a;exact absurd rfl b
 |gm=>obtain⟨_,rfl⟩:=a;exact absurd rfl b
 |us=>obtain⟨_,rfl⟩:=a;exact absurd rfl b
 |uh=>obtain⟨_,rfl⟩:=a;exact absurd rfl b
 |a1 x=>obtain⟨_,rfl⟩:=a;exact absurd rfl b
 |_=>obtain⟨_,rfl⟩:=a;exact absurd rfl b
def MU{s s' h h'}(a:Nx s h s' h')(b:h.ms<h'.ms\/h.ws<h'.ws):s=.us\/s=.uh\/s=.gm:=by
 cases s with
 |us=>exact .inl rfl
 |uh=>exact .inr<|.inl rfl
 |gm=>exact .inr<|.inr rfl
 |w7=>exact a.elim
 |w8=>exact a.elim
 |pv=>exact a.elim
 |fin=>exact a.elim
 |ga=>obtain⟨rfl,_⟩:=a;exact absurd b (by simp)
 |gs=>obtain⟨_,rfl⟩:=a;exact absurd b (by simp)
 |l0=>obtain⟨_,_,rfl⟩|⟨_,_,rfl⟩:=a<;>exact absurd b (by simp)
 |c1 x=>obtain⟨_,_,rfl⟩|⟨_,_,rfl⟩:=a<;>exact absurd b (by simp)
 |c2 x=>obtain⟨_,rfl,_⟩|⟨_,_,rfl⟩:=a<;>exact absurd b (by simp)
 |uc x=>obtain⟨_,_,rfl⟩|⟨_,_,rfl⟩:=a<;>exact absurd b (by simp)
 |s1 x=>obtain⟨_,rfl,_⟩:=a;exact absurd b (by simp)
 |sq x=>obtain⟨rfl,_⟩:=a;exact absurd b (by simp)
 |t1 x=>obtain⟨rfl,_⟩:=a;exact absurd b (by simp)
 |t2 x=>obtain⟨rfl,_⟩:=a;exact absurd b (by simp)
 |r2 x=>obtain⟨rfl,_⟩:=a;exact absurd b (by simp)
 |u0=>obtain⟨rfl,_⟩:=a;exact absurd b (by simp)
 |a1 x=>obtain⟨_,rfl⟩:=a;exact absurd b (by simp)
 |_=>obtain⟨_,rfl⟩:=a;exact absurd b (by simp)
inductive WSit(K:PC)(j:Nat)(p:WP):St->(Nat->Prop) ->Nat->Nat->Nat->R->ξ->Prop
 |go {s:St} {X:Nat->Prop} {k:Nat} {g g':R} {w:ξ} (h:Path P0 V k g g') (hs:fh p (K.ev j) K.E K.n j s g') (h8:s≠.w8) (hp:s≠.pv) (hf:s≠.fin):WSit K j p s X (kK s) k 1 g w
 |w8 {X:Nat->Prop} {k:Nat} {g g':R} {w:ξ} (h:Path P0 V k g g') (hs:bj (fW p LB [(7,Ω (U K.v0))] [aZ p]) [fB []] g'):WSit K j p .w8 X 5 k 1 g w
 |blk {x:Lc} {X:Nat->Prop} {g:R} {w:ξ} (hs:bh p (K.ev j) (.s1 x) g):WSit K j p (.s1 x) X 2 0 0 {g with status:=.blocked} w
 |ap {X:Nat->Prop} {k:Nat} {g:R} {w:ξ} (cs1:List ZW) (h:Path P0 V k g (K.Entry j cs1)) (h1:bj (fW p QG [] [aZ p]) [fB []] (G cs1.head! cs1.tail)) (h2:cs1≠[]):WSit K j p .pv X 4 k 1 g w
 |pv {X:Nat->Prop} {k:Nat} {g:R} {w:ξ} (cs1:List ZW) (Xl:List Nat) (O:List (Nat×Y9)) (hX:X=(·∈Xl)) (h:PX K.pk (K.Fin j cs1) k Xl O g) (ha:o7 K.pk Xl O w) (h1:bj (fW p QG [] [aZ p]) [fB []] (G cs1.head! cs1.tail)) (h2:cs1≠[]):WSit K j p .pv X 3 k 1 g w
 |fin {X:Nat->Prop} {g:R} {w:ξ} (h:g.status=.finished):WSit K j p .fin X 0 0 1 g w
def js{p e s g}(h:bh p e s g):g.status=.running/\g.offers=θ:=by
 have a:∀{d:bG} {ds:List bG},bj d ds g->g.status=.running/\g.offers=θ:=λh=>by obtain⟨F,rfl⟩:=h;exact⟨rfl,rfl⟩
 unfold bh at h;split at h
 all_goals first
  |exact a h
  |(obtain⟨_,h⟩:=h;exact a h)
  |exact a h.1
  |(obtain⟨_,_,h⟩:=h;exact a h)
  |(obtain h|h:=h<;>exact a h)
  |exact h.elim
def rK{p e E n i s g}(h:fh p e E n i s g):g.status=.running/\g.offers=θ:=by
 have a:∀{d:bG} {ds:List bG},bj d ds g->g.status=.running/\g.offers=θ:=λh=>by obtain⟨F,rfl⟩:=h;exact⟨rfl,rfl⟩
 unfold fh at h;split at h
 all_goals first
  |exact a h
  |(obtain⟨_,h⟩:=h;exact a h)
  |exact js h
def Path.running{P main k g g'}(h:Path P main k g g')(h':g'.status=.running):g.status=.running:=by
 cases k with
 |zero=>cases h;exact h'
 |succ k=>exact h.1
def WSit.status{K j p s X l k z g w}(h:WSit K j p s X l k z g w):(g.status=.running/\z=1)\/(g.status=.blocked/\z=0/\g.offers=θ/\∃x,s=.s1 x)\/(g.status=.finished/\s=.fin/\z=1):=by
 cases h with
 |go h hs=>exact .inl ⟨h.running (rK hs).1,rfl⟩
 |w8 h hs=>obtain⟨F,rfl⟩:=hs;exact .inl ⟨h.running rfl,rfl⟩
 |blk hs=>exact .inr<|.inl ⟨rfl,rfl,(js hs).2,_,rfl⟩
 |ap a h=>exact .inl ⟨h.running rfl,rfl⟩
 |pv a b O c h=>exact .inl ⟨h.running,rfl⟩
 |fin h=>exact .inr<|.inr ⟨h,rfl,rfl⟩
end
section
def bM{w:ξ}{b o:Nat}{cs e f}(h:w.heap[b]?=U (.cells cs e f)):w (b,o)=cs[o]?:=by simp[World.cell?,h]
def g8{w:ξ}{b o:Nat}{cs e}(h:w.heap[b]?=U (.cells cs e)):w.frozen? (b,o)=V:=by simp[World.frozen?,h]
def jP{w:ξ}{b o:Nat}{cs e f v}(h:w.heap[b]?=U (.cells cs e f)):(w.setCell (b,o) v).heap[b]?=U (.cells (cs.setIfInBounds o v) e f):=by simp[World.setCell,YV,h]
def dh{w:ξ}{a b v}(h:b≠a.block):(w.setCell a v).heap[b]?=w.heap[b]?:=by simp only[World.setCell,YV];rw[if_neg (Ne.symm h)]
def cE{w:ξ}{a v}:(w.setCell a v).heap.size=w:=by simp
def aP(b o n):((b,o):Z1).add n=⟨b,o+n,θ⟩:=by unfold Addr.add;simp
structure db(K:PC)(val:Nat->Int)(h:Sh)(w:ξ):Prop where
 size:K.B0+5<=w
 low:∀b,b<K.B0->w.heap[b]?=K.h0[b]?
 gb:w.heap[K.B0]?=U (χ #[Ω (U K.v0)] 104)
 er:∃cs,w.heap[K.B0+1]?=U (.cells cs 34)/\cs.size=K.n/\∀i,i<K.n->cs[i]?=U (Θ Γ (val i))
 eb:w.heap[K.B0+2]?=U (χ #[υ (U K.E) K.n K.n] 83)
 sh:ShAt 249 255 (K.B0+3) (K.B0+4) w (dU h)
def uy(K:PC)(w:ξ)(j i c:Nat):Prop:=w.heap[i]?=U (χ #[Θ Γ j] 3)/\w.heap[c]?=U (χ #[K.v1 j,K.v2 j] 76)
structure uz(K:PC)(j:Nat)(dn:Bool)(s s':St)(X X':Nat->Prop)(h':Sh)(val:Nat->Int)(w w':ξ):Prop where
 tape:w'.tape=w.tape
 output:w'.output=w.output
 os:Zu w.os w'.os
 size:w.heap.size<=w'
 sh:ShAt 249 255 (K.B0+3) (K.B0+4) w' (dU h')
 er:∃cs,w'.heap[K.B0+1]?=U (.cells cs 34)/\cs.size=K.n/\∀i,i<K.n->cs[i]?=U (Θ Γ (if(dn=I/\ez s=I)/\i=j then K.ev j else val i))
 others:∀x,x<w.heap.size->x≠K.B0+1->x≠K.B0+3->x≠K.B0+4->(s=.pv->¬X x) ->w'.heap[x]?=w.heap[x]?
 grow:∀x,X x->X' x
 fresh:∀x,X' x->¬X x->w.heap.size<=x/\x<w'
 full:∀x,w.heap.size<=x->x<w'->X' x
 keep:s≠.pv->X'=X
 rows:s=.pv->s'≠.pv->∀x,X' x->∃cs e f,w'.heap[x]?=U (.cells cs e f)/\K.TT e
 enum:s=.pv->s'≠.pv->∃f:Nat->Nat,∀x,X' x->∃i,i<K.C/\x=f i
structure Va(K:PC)(j i c:Nat)(dn:Bool)(s s':St)(X':Nat->Prop)(w':ξ)(es:Array ZH):Prop where
 ok:∀e∈es,∀x,(Δ e).touch?=U x->x.loc.isMemory=I->(K.ic x.loc/\x.kind=.atomic)\/(x.kind≠.atomic/\(x.loc=.cell (K.B0+1,j)\/X' (blk x.loc)))\/
  (x.kind≠.atomic/\x.write=V/\((blk x.loc<K.B0/\¬K.S (blk x.loc))\/blk x.loc=K.B0\/blk x.loc=K.B0+2\/blk x.loc=i\/blk x.loc=c))
 low:∀e∈es,(Δ e).low w'
 dfb:YP (deaf s) es=deaf s'
 norel:∀e∈es,e.loc≠.mark (.release (stA (K.B0+4)))
 rel:dn=I->s=.gr->es=#[mk (.releaseMerge (stA (K.B0+4)))]
 after:dC s=I->∀i e,es[i]?=U e->(Δ e).touch?=θ\/((∃ad wr,e=⟨.cell ad,wr,I⟩)/\0<YP (deaf s) (es.extract 0 i))
def WPg(dn:Bool)(s s':St)(h h':Sh)(l l' k k' z z':Nat)(g g':R):Prop:=
 (dn=V/\s'=s/\h'=h/\l'=l/\((k'<k/\z'=z)\/(k'=k/\z'<z/\h.ms=0/\g'.status=.blocked)))\/
 (dn=I/\Nx s h s' h'/\l=kK s/\l'=kK s'/\z'=1/\(h.ms<h'.ms\/h.ws<h'.ws->Ys P0 g=I/\g'.status=.running))\/
 (dn=V/\h'=h/\l'<l/\z'=1/\((s=.w7/\s'=.w8)\/(s=.w8/\s'=.pv)\/(s=.pv/\(s'=.pv\/s'=.ld))))
section
variable{K:PC}{j i c:Nat}{s s':St}{X X':Nat->Prop}{l k z:Nat}{h h':Sh}{val:Nat->Int}{g:R}{w w':ξ}{es:Array ZH}
def uz.refl{dn}(W:db K val h w)(d:dn=I->ez s=V)(c:s≠.pv\/s'=.pv):uz K j dn s s' X X h val w w:=⟨rfl,rfl,.refl _,.refl,W.sh,by obtain⟨cs,b,a,h3⟩:=W.er;exact⟨cs,b,a,λi hi=>by rw[if_neg λh=>by have:=d h.1.1;rw[h.1.2]at this;cases this];exact h3 i hi⟩,λ_ _ _ _ _ _=>rfl,λ_ h=>h,λx b a=>absurd b a,λx b a=>absurd a (ZJ.2 b),λ_=>rfl,λb a=>c.elim (absurd b) (λh=>absurd h a),λb a=>c.elim (absurd b) (λh=>absurd h a)⟩
def qM{dn}(hd:deaf s=deaf s')(b:dn=I->s≠.gr):Va K j i c dn s s' X' w' #[]:=⟨by simp,by simp,hd,by simp,λa h=>absurd h<|b a,by simp⟩
def lR(hd:deaf s=0)(f:deaf s'=0)(m:s≠.gr)(hrel:dC s=V)(b:∀e∈es,∃a,e=⟨.cell a,V,V⟩/\(a.block=K.B0\/a.block=K.B0+2\/a.block=i\/a.block=c)/\a.block<w'):Va K j i c I s s' X' w' es:=by
 refine⟨λe d x g n=>?_,λe d=>?_,?_,λe d=>?_,λ_ h=>absurd h m,λh=>by rw[hrel]at h;cases h⟩;obtain⟨a,rfl,k,_⟩:=b e d;simp only[Δ,Z9,ZY]at g;subst g;exact .inr<|.inr ⟨by simp,rfl,.inr k⟩;obtain⟨a,rfl,_,l⟩:=b e d;exact l;rw[hd,f];exact Zh (λe d=>by obtain⟨a,rfl,_⟩:=b e d;simp) 0
 grind
def G9(hb:BookOK (K.B0+3) (K.B0+4) (deaf s) (deaf s') es)(l:s≠.gr)(hs:K.B0+5<=w'):Va K j i c I s s' X' w' es:=by
 obtain⟨f,k,h3⟩:=hb;refine⟨λe b x g m=>?_,λe b=>?_,k,λe b=>?_,λ_ h=>absurd h l,λ_ n e b=>?_⟩;obtain h|h|⟨a,y,rfl,ha⟩:=f e b
 ·obtain⟨loc,wr,d⟩:=e;dsimp only at h;subst h;simp[Δ,Z9]at g
 obtain⟨loc,wr,d⟩:=e;dsimp only at h;subst h;simp[Δ,Z9]at g;simp only[Δ,Z9,ZY]at g;subst g;exact .inl ⟨⟨a,rfl,ha⟩,by simp⟩;obtain h|h|⟨a,y,rfl,ha⟩:=f e b
 ·obtain⟨loc,wr,d⟩:=e;dsimp only at h;subst h;trivial
 obtain⟨loc,wr,d⟩:=e;dsimp only at h;subst h;trivial;show a.block<_;omega;obtain h|h|⟨a,y,rfl,ha⟩:=f e b
 ·rw[h];simp
 rw[h];simp;simp;obtain h|h:=h3 n e b
 ·exact .inl h
 obtain h'|h'|⟨a,y,rfl,ha⟩:=f e<|ZU b
 ·left;obtain⟨loc,wr,d⟩:=e;dsimp only at h';subst h';rfl
 left;obtain⟨loc,wr,d⟩:=e;dsimp only at h';subst h';rfl;exact .inr ⟨⟨a,y,rfl⟩,h⟩
def rL{mm}(b:(mm=.acquire (muA<|K.B0+3)\/mm=.releaseMerge (muA<|K.B0+3)\/mm=.releaseMerge (stA<|K.B0+4)))(hd:deaf s=deaf s')(d:s=.gr->mm=.releaseMerge (stA<|K.B0+4))(hs:K.B0+5<=w'):Va K j i c I s s' X' w' #[mk mm]:=by
 have f:(Δ<|mk mm).touch?=θ:=by obtain rfl|rfl|rfl:=b<;>rfl
 refine⟨λe a x g _=>?_,λe a=>?_,?_,λe a=>?_,λ_ h=>by rw[d h],λ_ n e a=>.inl ?_⟩
 grind
 rw[Ψ.1 a];obtain rfl|rfl|rfl:=b
 show K.B0+3<_;omega;show K.B0+3<_;omega;show K.B0+4<_;omega;rw[<-hd];exact Zh (λe a=>by rw[Ψ.1 a];obtain rfl|rfl|rfl:=b<;>simp[mk]) _;rw[Ψ.1 a];obtain rfl|rfl|rfl:=b<;>simp[mk]
 rw[Ψ.1 (ZU a)];exact f
def uz.lib(W:db K val h w)(f:ez s=V)(e:s≠.pv)(d:ShAt 249 255 (K.B0+3) (K.B0+4) w' (dU h'))(a:Eff (K.B0+3) (K.B0+4) w w'):uz K j I s s' X X h' val w w':=
 ⟨a.tape,a.output,a.os,Nat.le_of_eq a.size.symm,d,by
   obtain⟨cs,c,b,h3⟩:=W.er;exact⟨cs,by rw[a.block _ (by omega) (by omega)];exact c,b,λi hi=>by rw[if_neg λh=>by rw[f]at h;cases h.1.2];exact h3 i hi⟩,
   λx _ _ h3 h4 _=>a.block x h3 h4,λ_ h=>h,λx c b=>absurd c b,λx c b=>absurd b (by rw[a.size];exact ZJ.2 c),λ_=>rfl,λh=>absurd h e,λh=>absurd h e⟩
def adu{p e}(hs:bh p e .us g):Ys P0 g=I:=by obtain⟨a,F,rfl⟩:=hs;kernel_rfl
def adv{p e}(hs:bh p e .uh g):Ys P0 g=I:=by obtain⟨a,F,rfl⟩:=hs;kernel_rfl
def adw{p e}(hs:bh p e .gm g):Ys P0 g=I:=by obtain⟨F,rfl⟩:=hs;kernel_rfl
def En{p e E n i}(hs:bh p e s g):fh p e E n i s g/\s≠.w8/\s≠.pv/\s≠.fin:=by cases s<;>first|exact hs.elim|exact⟨hs,by simp,by simp,by simp⟩
def Bf{p e E n i}(a:CK s=I)(hs:fh p e E n i s g):bh p e s g:=by cases s<;>first|exact hs|(cases a)
def MV(K:PC)(j i c:Nat)(s:St)(X:Nat->Prop)(l k z:Nat)(h:Sh)(val:Nat->Int)(g:R)(w:ξ):Prop:=∃dn s' X' l' k' z' h' g' w' es,stepG P0 V g w=.go g' w' es/\WSit K j (K.wp i c) s' X' l' k' z' g' w'/\uz K j dn s s' X X' h' val w w'/\Va K j i c dn s s' X' w' es/\WPg dn s s' h h' l l' k k' z z' g g'/\(4<=l'->X'=X)
def vK(W:db K val h w){g1}(b:∀w,stepG P0 V g w=.go g1 w #[])(a:WSit K j (K.wp i c) s X l k z g1 w):MV K j i c s X l (k+1) z h val g w:=⟨V,s,X,l,k,z,h,g1,w,#[],b w,a,uz.refl W (λh=>by cases h)<|by grind,qM rfl<|by simp,.inl ⟨rfl,rfl,rfl,rfl,.inl ⟨by omega,rfl⟩⟩,λ_=>rfl⟩
def adx:(K.wp i c).lk=muA (K.B0+3):=rfl
def ady:(K.wp i c).wg=stA (K.B0+4):=rfl
def Vb{tM tW:ZS}(W:db K val h w)(y:CK s=I)(hs:bh (K.wp i c) (K.ev j) s g)
 (k:(∃x,s=.s1 x/\h.ms=0/\stepG P0 V g w=.go {g with status:=.blocked} w #[])\/Out 249 255 (K.B0+3) (K.B0+4) (K.wp i c) (K.ev j) s h g w):MV K j i c s X (kK s) 0 1 h val g w:=by
 obtain⟨x,rfl,o,e⟩|⟨t,A,C,u,G,m,e,r,v,d,D,z,J,a,l⟩:=k
 exact⟨V,.s1 x,X,2,0,0,h,_,w,#[],e,.blk hs,uz.refl W (λ_=>rfl)<|.inl<|by simp,qM rfl<|by simp,.inl ⟨rfl,rfl,rfl,rfl,.inr ⟨rfl,by omega,o,rfl⟩⟩,λ_=>rfl⟩;obtain⟨q1,H,B,F⟩:=En (E:=K.E) (n:=K.n) (i:=j) l;have p:ez s=V:=by cases s<;>first|rfl|cases y
 have q:s≠.pv:=by rintro rfl;cases y
 have b:K.B0+5<=u:=by rw[v.size];exact W.size
 refine⟨I,t,X,kK t,D,1,A,C,u,G,e,.go a q1 H B F,uz.lib W p q r v,?_,.inr<|.inl ⟨rfl,m,rfl,rfl,rfl,λhw=>?_⟩,λ_=>rfl⟩;cases s with
 |la f=>have:=m.1;subst this;have:=d;rw[this];exact rL (.inl rfl) rfl (by simp) b
 |ur=>have:=m.1;subst this;have:=d;rw[this];exact rL (.inr<|.inl rfl) rfl (by simp) b
 |gr=>have:=m.1;subst this;have:=d;rw[this];exact rL (.inr<|.inr rfl) rfl (λ_=>rfl) b
 |_=>exact G9 d (by simp) b
 refine⟨?_,?_⟩
 ·obtain rfl|rfl|rfl:=MU m hw
  ·exact adu hs
  exact adv hs;exact adw hs
 exact a.running (js l).1
def uz.MT(A:dX K)(W:db K val h w)(p:∀x,X x->K.B0+5<=x)(k:∀x,X' x->x<w'.heap.size)(a:yy K.B0 (λb=>¬K.S b) X X' w w' es)(c:s'≠.pv->∀x,X' x->∃cs e f,w'.heap[x]?=U (.cells cs e f)/\K.TT e)(d:s'≠.pv->∃f:Nat->Nat,∀x,X' x->∃i,i<K.C/\x=f i):uz K j V .pv s' X X' h val w w':=by
 have hs:=W.size;have m:∀x,x<K.B0+5->¬X x:=λx o n=>by have:=p x n;omega
 refine⟨a.tape,a.output,by rw[a.os];exact .refl _,a.size,W.sh.of_block (a.others _ (by omega)<|m _<|by omega)<|a.others _ (by omega)<|m _<|by omega,?_,λx o _ _ _ q=>a.others x o<|q rfl,a.grow,λx g l=>⟨a.fresh x g l,k x g⟩,a.full,λh=>absurd rfl h,λ_=>c,λ_=>d⟩;obtain⟨cs,g,l,h3⟩:=W.er;exact⟨cs,by rw[a.others _ (by omega) (m _<|by omega)];exact g,l,λi hi=>by rw[if_neg λh=>by cases h.1.1];exact h3 i hi⟩
def yG(A:dX K)(W:db K val h w)(n:∀x,X' x->x<w')(l:yy K.B0 (λb=>¬K.S b) X X' w w' es)(hd:deaf s'=0):Va K j i c V .pv s' X' w' es:=by
 have hs:=W.size;have q:=l.size;refine⟨λe k x o s=>?_,λe k=>?_,?_,λe k=>?_,by simp,by simp[dC]⟩;have d:=l.Ft e k;obtain⟨loc,wr,p⟩:=e;cases loc with
 |cell a=>
  obtain⟨f,g⟩:=d;dsimp only at f g;subst g;simp only[Δ,Z9,ZY]at o;subst o;obtain f|⟨f,g,h3⟩:=f
  exact .inr<|.inl ⟨by simp,.inr f⟩;exact .inr<|.inr ⟨by simp,g,.inl ⟨f,h3⟩⟩
 |obj r=>obtain⟨f,g⟩:=d;dsimp only at f g;subst g;simp only[Δ,Z9,ZY]at o;subst o;exact .inr<|.inl ⟨by simp,.inr f⟩
 |mark m=>cases m<;>first|exact d.elim|(simp[Δ,Z9]at o)
 |_=>exact d.elim
 have d:=l.Ft e k;obtain⟨loc,wr,p⟩:=e;cases loc with
 |cell a=>
  obtain f|⟨f,_⟩:=d.1
  exact n _ f;show a.block<_;have f:=f;omega
 |obj r=>have g:=d.2;subst g;cases wr<;>exact n _ d.1
 |mark m=>cases m<;>first|exact d.elim|trivial
 |_=>exact d.elim
 rw[hd];exact Zh (λe k=>by
  have d:=l.Ft e k;obtain⟨loc,wr,p⟩:=e;cases loc with
  |mark m=>cases m<;>first|exact d.elim|simp
  |_=>first|simp|exact d.elim) 0
 have d:=l.Ft e k;obtain⟨loc,wr,p⟩:=e;cases loc with
 |mark m=>cases m<;>first|exact d.elim|simp
 |_=>first|simp|exact d.elim
def RY(A:dX K)(hj:j<K.n)(W:db K val h w)(C:∀x,X x->K.B0+5<=x){b q O N}(hl:l=4\/(l=3/\N=k))(u:X=(·∈q))(F:PX K.pk (K.Fin j b) N q O g)(ha:o7 K.pk q O w)(D:bj (fW (K.wp i c) QG [] [aZ (K.wp i c)]) [fB []] (G b.head! b.tail))(B:b≠[]):MV K j i c .pv X l k 1 h val g w:=by
 subst u;cases N with
 |zero=>exact F.elim
 |succ N=>
  obtain⟨L,s,y,m,d,f⟩|⟨S,t,Q,s,y,m,d,f,v⟩:=F.2 w ha
  obtain⟨J,rest,rfl⟩:=Zz B;have a:∀x,x∈q->x<s.heap.size:=λx r=>(f.own x r).2.1;obtain⟨T,P,g2,o,z⟩:=acj (p:=K.wp i c) (e:=K.ev j) (E:=K.E) (n:=K.n) (i:=j) (W:=J) (cs:=rest) (by exact D);refine⟨V,.ld,(·∈q),2,T,1,h,_,s,y,m,.go o z (by simp) (by simp)<|by simp,uz.MT A W C a d (λ_ x r=>(f.own x r).2.2) λ_=>⟨λi=>q.getD i 0,λx r=>?_⟩,yG A W a d rfl,.inr<|.inr ⟨rfl,rfl,?_,rfl,.inr<|.inr ⟨rfl,.inr rfl⟩⟩,λh=>absurd h<|by omega⟩;obtain⟨n,H,e⟩:=List.mem_iff_getElem.1 r;refine⟨n,κ H L,?_⟩;show x=q.getD n 0;rw[List.getD_eq_getElem?_getD,List.getElem?_eq_getElem H];exact e.symm;omega;have a:∀x,x∈t->x<s.heap.size:=λx r=>(f.own x r).2.1;refine⟨V,.pv,(·∈t),3,N,1,h,S,s,y,m,.pv b t Q rfl v f D B,uz.MT A W C a d (by simp)<|by simp,yG A W a d rfl,?_,λh=>absurd h<|by omega⟩;obtain rfl|⟨rfl,rfl⟩:=hl
  exact .inr<|.inr ⟨rfl,rfl,by omega,rfl,.inr<|.inr ⟨rfl,.inl rfl⟩⟩;exact .inl ⟨rfl,rfl,rfl,rfl,.inl ⟨by omega,rfl⟩⟩
def Eo(A:dX K)(Q:j<K.n)(W:db K val h w)(hX:∀x,X x->K.B0+5<=x)(r:uy K w j i c)(hi:i<w)(hc:c<w)(hX0:4<=l->X=λ_=>False)(P:WSit K j (K.wp i c) s X l k z g w)(hr:g.status=.running){RO RA RT RQ RH RU RV RC RG RL RM B y wa}(hI:rQ h s RO RA RT RQ RH RU RV RC)(hL:aaA h s)(hB:rG B s)(hBB:B<1048576)(hm:h.mu.c<=B)(hms:h.ms<=1)(hW:mW wa y h (RG+nG s) (RL+nL s) (RM+nM s))(hk:h.k<1073741824)(hws:h.ws<1000):
 MV K j i c s X l k z h val g w:=by
 have hsz:=W.size;cases P with
 |@go _ _ k _ g' _ o hs h8 H hf=>
  cases k with
  |succ k=>obtain⟨_,g1,d,u⟩:=o;exact vK W d (.go u hs h8 H hf)
  |zero=>
   have:=o;subst this;by_cases T:CK s=I
   ·have J:=Bf T hs;exact Vb (tM:=249) (tW:=255) W T J (yj (B:=B) adx ady (by omega) hI hL hB hBB hm hms hW hk hws W.sh T J)
   cases s with
   |w7=>
    obtain⟨d,t,q,L,b,f⟩:=acd (p:=K.wp i c) (e:=K.ev j) (E:=K.E) (n:=K.n) (i:=j) (g0:=K.v0) (w:=w) (by show w K.B0=_;rw[bM W.gb];rfl) hs
    exact⟨V,.w8,X,5,t,1,h,_,w,_,d,.w8 b f,uz.refl W (λ_=>rfl) (.inl (by simp)),⟨(lR (K:=K) (j:=j) (i:=i) (c:=c) (s:=.w7) (s':=.w8) (X':=X) (w':=w) rfl rfl (by simp) rfl (λe m=>⟨K.B0,Ψ.1 m,.inl rfl,by show K.B0<_;omega⟩)).ok,by
     intro e m;rw[Ψ.1 m];show K.B0<_;omega,rfl,by
     intro e m;rw[Ψ.1 m];simp,by simp,by simp[dC]⟩,.inr (.inr ⟨rfl,rfl,by simp[kK],rfl,.inl ⟨rfl,rfl⟩⟩),λ_=>rfl⟩
   |w8=>exact absurd rfl h8
   |pv=>exact absurd rfl H
   |fin=>exact absurd rfl hf
   |e1=>
    obtain⟨d,t,q,L,b,f⟩:=acf (p:=K.wp i c) (e:=K.ev j) (E:=K.E) (n:=K.n) (i:=j) (w:=w) (by show w (K.B0+2:Nat)=_;rw[bM W.eb];rfl) hs
    exact⟨I,.e2,X,2,t,1,h,_,w,_,d,.go b f (by simp) (by simp) (by simp),uz.refl W (λ_=>rfl) (.inl (by simp)),
     lR rfl rfl (by simp) rfl (λe m=>⟨(K.B0+2:Nat),Ψ.1 m,.inr (.inl rfl),by show K.B0+2<_;omega⟩),.inr (.inl ⟨rfl,⟨rfl,rfl⟩,rfl,rfl,rfl,by simp⟩),λ_=>rfl⟩
   |e2=>
    obtain⟨d,t,q,L,b,f⟩:=acg (p:=K.wp i c) (e:=K.ev j) (E:=K.E) (n:=K.n) (i:=j) (w:=w) (by show w i=_;rw[bM r.1];rfl) hs
    exact⟨I,.e3,X,2,t,1,h,_,w,_,d,.go b f (by simp) (by simp) (by simp),uz.refl W (λ_=>rfl) (.inl (by simp)),
     lR rfl rfl (by simp) rfl (λe m=>⟨i,Ψ.1 m,.inr (.inr (.inl rfl)),hi⟩),.inr (.inl ⟨rfl,⟨rfl,rfl⟩,rfl,rfl,rfl,by simp⟩),λ_=>rfl⟩
   |e3=>
    obtain⟨d,t,q,L,b,f⟩:=ach (p:=K.wp i c) (e:=K.ev j) (E:=K.E) (n:=K.n) (i:=j) (w:=w) Q hs;exact⟨I,.e4,X,2,t,1,h,_,w,_,d,.go b f (by simp) (by simp) (by simp),uz.refl W (λ_=>rfl) (.inl (by simp)),
     qM rfl (by simp),.inr (.inl ⟨rfl,⟨rfl,rfl⟩,rfl,rfl,rfl,by simp⟩),λ_=>rfl⟩
   |e4=>
    obtain⟨cs,q1,F,S⟩:=W.er;have ea:(K.E.add j).add 0=⟨K.B0+1,j,θ⟩:=by show((⟨K.B0+1,0,θ⟩:Z1).add j).add 0=_;simp only[aP,YO,Y8]
    obtain⟨d,t,q,L,b,f⟩:=aci (p:=K.wp i c) (e:=K.ev j) (E:=K.E) (n:=K.n) (i:=j) (w:=w) (v:=Θ Γ<|val j) (by rw[ea,bM q1];exact S j Q) (by rw[ea];exact g8 q1) hs;rw[ea]at d;refine⟨I,.u1,X,2,t,1,h,_,_,_,d,.go b f (by simp) (by simp)<|by simp,⟨rfl,rfl,.refl _,by rw[cE];exact ZE _,W.sh.of_block (dh<|by simp)<|dh<|by simp,⟨_,jP q1,by simpa using F,λi' hi'=>?_⟩,λx _ o _ _ _=>dh o,λ_ h=>h,λx o h2=>absurd o h2,λx o h2=>absurd h2 (by rw[cE];omega),λ_=>rfl,(λh=>by cases h),λh=>by cases h⟩,⟨λe m x hx hm=>?_,λe m=>?_,rfl,λe m=>?_,by simp,by simp[dC]⟩,.inr<|.inl ⟨rfl,⟨rfl,rfl⟩,rfl,rfl,rfl,by simp⟩,λ_=>rfl⟩;rw[Array.getElem?_setIfInBounds];by_cases G:j=i'
    subst G;rw[if_pos rfl,if_pos<|by omega,if_pos ⟨⟨rfl,rfl⟩,rfl⟩];rw[if_neg G,if_neg λh=>G h.2.symm];exact S i' hi';rw[Ψ.1 m]at hx;simp only[Δ,Z9,ZY]at hx;subst hx;exact .inr<|.inl ⟨by simp,.inl rfl⟩;rw[Ψ.1 m,cE];show K.B0+1<_;omega;rw[Ψ.1 m];simp
   |gx=>exact⟨I,.fin,X,0,0,1,h,_,w,#[],QN (p:=K.wp i c) (e:=K.ev j) (w:=w) hs,.fin rfl,uz.refl W (λ_=>rfl)<|.inl<|by simp,qM rfl<|by simp,.inr<|.inl ⟨rfl,⟨rfl,rfl⟩,rfl,rfl,rfl,by simp⟩,λ_=>rfl⟩
   |_=>exact absurd rfl T
 |@w8 _ k _ g' _ o hs=>
  cases k with
  |succ k=>obtain⟨_,g1,d,u⟩:=o;exact vK W d (.w8 u hs)
  |zero=>
   have:=o;subst this;obtain⟨d,t,q,L,b,C,q1,F,S⟩:=ace (p:=K.wp i c) (g0:=K.v0) (w:=w) (v1:=K.v1 j) (v2:=K.v2 j) (by
    show w.cell? ((⟨c,0,θ⟩:Z1).add 0)=_;rw[aP,bM r.2];rfl) (by
    show w.cell? ((⟨c,0,θ⟩:Z1).add 1)=_;rw[aP,bM r.2];rfl) hs
   subst S;have hes:∀e∈(#[⟨.cell<|(K.wp i c).cb.add 0,V,V⟩,⟨.cell<|(K.wp i c).cb.add 1,V,V⟩]:Array ZH),∃a,e=(⟨.cell a,V,V⟩:ZH)/\(a.block=K.B0\/a.block=K.B0+2\/a.block=i\/a.block=c)/\a.block<w:=by
    intro e m;simp only[ZX,Z2,ε,or_false]at m;obtain rfl|rfl:=m
    exact⟨(c:Z1).add 0,rfl,.inr<|.inr<|.inr<|by rw[aP],by rw[aP];exact hc⟩;exact⟨(c:Z1).add 1,rfl,.inr<|.inr<|.inr<|by rw[aP],by rw[aP];exact hc⟩
   have D:=lR (K:=K) (j:=j) (i:=i) (c:=c) (s:=.w8) (s':=.pv) (X':=X) (w':=w) rfl rfl (by simp) rfl hes;exact⟨V,.pv,X,4,t,1,h,_,w,_,d,.ap C b q1 F,uz.refl W (λ_=>rfl)<|.inl<|by simp,⟨D.ok,D.low,D.dfb,D.norel,by simp,by simp[dC]⟩,.inr<|.inr ⟨rfl,rfl,by omega,rfl,.inr<|.inl ⟨rfl,rfl⟩⟩,λ_=>rfl⟩
 |blk hs=>cases hr
 |@ap _ k _ _ C o q1 F=>
  cases k with
  |succ k=>obtain⟨_,g1,d,u⟩:=o;exact vK W d (.ap C u q1 F)
  |zero=>have:=o;subst this;have hX1:=hX0 .refl;subst hX1;obtain⟨N,H⟩:=A.MT j Q C F;exact RY A Q W hX (.inl rfl) (by funext x;simp) H ⟨W.low,by show K.B0<=_;omega,by simp,by simp⟩ q1 F
 |@pv _ k _ _ C Xl O hXl H ha q1 F=>exact RY A Q W hX (.inr ⟨rfl,rfl⟩) hXl H ha q1 F
 |fin hs=>rw[hs]at hr;cases hr
end
end
end Ph
namespace Ph
open Go Go.Conc
section
def Vd:pS P0 50 I:=λw a=>by kernel_rfl
def Ve:pS P0 23 V:=λw a=>by kernel_rfl
def adA:pS P0 22 V:=λw a=>by kernel_rfl
def Ha:dt P0 50 2:=λw a=>by kernel_rfl
def alj:P0.underlying 23=U (.slice 50):=by kernel_rfl
def z34:vX P0 34 (Θ Γ 0):=λw a=>by kernel_rfl
def z50:vX P0 50 (.agg #[Θ Γ 0,Θ Γ 0]):=λw a=>by kernel_rfl
def li:bR P0 213 V:=by rfl
def yH:bR P0 167 V:=by rfl
def yI:bR P0 169 V:=by rfl
def adB:bR P0 248 V:=by rfl
def Fu(nN nO:Nat)(k N:Int):Prop:=(k=0/\-99<=N/\N<=99)\/(k=2/\N=0)\/(k=3/\0<=N/\N<nN)\/(k=4/\0<=N/\N<nO)
def OkK(k:Int)(n:Nat):Prop:=(k=0/\n<=4)\/(k=1/\n=1)\/(k=2/\n=2)
structure alk(K:PK)(v0:Z1)(nN nO:Nat)(v1 v2:ι)(kd:Int)(ca:Option Z1)(n m:Nat)(vk vn:Nat->Int):Prop where
 e1:v1=Θ Γ kd
 e2:v2=.slice ca n m
 ok:OkK kd n
 new:v0.spot=θ/\v0.block<K.B0/\K.Y v0.block/\∃cs e f oa om pa pm,K.h0[v0.block]?=U (.cells cs e f)/\cs[v0.off]?=U (.slice oa nN om)/\cs[v0.off+1]?=U (.slice pa nO pm)
 eT:∀i,i<n->Fu nN nO (vk i) (vn i)/\∃a,ca=U a/\a.spot=θ/\a.block<K.B0/\K.Y a.block/\∃cs e f,K.h0[a.block]?=U (.cells cs e f)/\cs[a.off+i*2]?=U (Θ Γ (vk i))/\cs[a.off+i*2+1]?=U (Θ Γ (vn i))
section
variable{K:PK}{gE g:R}{N:Nat}{X:List Nat}{O:List (Nat×Y9)}{w:ξ}
def PX.o8{n x o:Nat}{cs e t v S}(d:g.status=.running)(f:(x,.cells cs e)∈O)(m:au g=U (bI t<|.pointer (x,o)))(l:pS P0 t V)(k:cs[o]?=U v)(j:bR P0 g.frame.fn V)(i:bZ P0 V n S (fin v g))(h:∀g',S g'->PX K gE N X O g'):PX K gE (N+n+1) X O g:=by
 by_cases a:∃w,o7 K X O w
 have b:x∈X:=by obtain⟨w,hw⟩:=a;exact(hw.known _ f).1
 refine PX.look d (λw hw=>?_) (λev c=>⟨(x,o),Ψ.1 c,.inl b⟩) i h;exact du m l (by rw[bM (hw.known _ f).2];exact k) j;exact⟨d,λw hw=>absurd ⟨w,hw⟩ a⟩
def PX.adC{n x e t v d S}(f:g.status=.running)(c:(x,χ #[v,d] e)∈O)(m:au g=U (bI t<|.pointer x))(l:pS P0 t I)(hs:dt P0 t 2)(k:bR P0 g.frame.fn V)(j:bZ P0 V n S (fin (.agg #[v,d]) g))(h:∀g',S g'->PX K gE N X O g'):PX K gE (N+n+1) X O g:=by
 by_cases a:∃w,o7 K X O w
 have i:x∈X:=by obtain⟨w,hw⟩:=a;exact(hw.known _ c).1
 refine PX.look (es:=#[⟨.cell<|(x:Z1).add 0,V,V⟩,⟨.cell<|(x:Z1).add 1,V,V⟩]) f (λw hw=>?_) (λev b=>?_) j h;exact jp m l hs (by rw[aP,bM (hw.known _ c).2];rfl) (by rw[aP,bM (hw.known _ c).2];rfl) k;simp only[aP,ZX,Z2,ε]at b
 grind
 exact⟨f,λw hw=>absurd ⟨w,hw⟩ a⟩
def PX.adD{n b o:Nat}{cs e t f v S}(l:g.status=.running)(hb:b<K.B0)(m:K.Y b)(h0:K.h0[b]?=U (.cells cs e f))(k:au g=U (bI t<|.pointer (b,o)))(j:pS P0 t V)(i:cs[o]?=U v)(d:bR P0 g.frame.fn V)(c:bZ P0 V n S (fin v g))(h:∀g',S g'->PX K gE N X O g'):PX K gE (N+n+1) X O g:=by refine PX.look l (λw hw=>?_) (λev a=>⟨(b,o),Ψ.1 a,.inr ⟨hb,m⟩⟩) c h;exact du k j (by rw[bM (by rw[hw.old b hb];exact h0)];exact i) d
def PX.alm{n b o cs e t f v d S}(p:g.status=.running)(hb:b<K.B0)(q:K.Y b)(h0:K.h0[b]?=U (.cells cs e f))(m:au g=U (bI t<|.pointer (b,o)))(l:pS P0 t I)(hs:dt P0 t 2)(k:cs[o]?=U v)(a:cs[o+1]?=U d)(j:bR P0 g.frame.fn V)(i:bZ P0 V n S (fin (.agg #[v,d]) g))(h:∀g',S g'->PX K gE N X O g'):PX K gE (N+n+1) X O g:=by
 refine PX.look (es:=#[⟨.cell<|((b,o):Z1).add 0,V,V⟩,⟨.cell<|((b,o):Z1).add 1,V,V⟩]) p (λw hw=>?_) (λev c=>?_) i h;exact jp m l hs (by rw[aP,bM (by rw[hw.old b hb];exact h0)];exact k) (by rw[aP,bM (by rw[hw.old b hb];exact h0)];exact a) j;simp only[aP,ZX,Z2,ε,or_false]at c
 grind
def PX.box{n t u}{S:Nat->R->Prop}(d:g.status=.running)(c:K.TT t)(b:au g=U (PL t u))(a:∀x,bZ P0 V n (S x)<|fin (pz x) g)(h:∀x g',K.B0<=x->S x g'->PX K gE N (x::X) ((x,.cells u.cells t)::O) g'):PX K gE (N+n+1) X O g:=PX.new d c (λx=>fin (pz x) g) (λw hw=>rI b) a h
def PX.var{n t z}{S:Nat->R->Prop}(d:g.status=.running)(c:K.TT t)(b:au g=U (i9 t))(hz:vX P0 t z)(a:∀x,bZ P0 V n (S x)<|fin (pz x) g)(h:∀x g',K.B0<=x->S x g'->PX K gE N (x::X) ((x,.cells z.cells t)::O) g'):PX K gE (N+n+1) X O g:=PX.new d c (λx=>fin (pz x) g) (λw hw=>gq b hz) a h
def PX.adE{n x e t v u O' S}(l:g.status=.running)(q:(x,χ #[v] e)∈O)(o:∀p∈O',p=(x,χ #[u] e)\/(p∈O/\p.1≠x))(k:au g=U (gh t (.pointer x) u))(hs:dt P0 t 1)(m:u.cells=#[u])(c:u.oneCell'=I)(i:bR P0 g.frame.fn V)(f:bZ P0 V n S (fin undef g))(h:∀g',S g'->PX K gE N X O' g'):PX K gE (N+n+1) X O g:=by refine PX.qu (cs':=#[u]) l q o (λw hw a=>?_) (λev d=>⟨x,I,Ψ.1 d,rfl⟩) f h;have b:=iS (main:=V) (w:=w) k hs m c (v:=v) (by rw[aP,bM a];rfl) (by rw[aP];exact g8 a) i;rw[aP]at b;exact⟨_,b,rfl,rfl,rfl,rfl,cE,by rw[jP a];rfl,λy j=>dh<|by exact j⟩
def PX.aln{n x e t v f u c O' S}(m:g.status=.running)(z:(x,χ #[v,f] e)∈O)(r:∀p∈O',p=(x,χ #[u,c] e)\/(p∈O/\p.1≠x))(l:au g=U (gh t (.pointer x)<|.agg #[u,c]))(hs:dt P0 t 2)(q:u.oneCell'=I)(d:c.oneCell'=I)(k:bR P0 g.frame.fn V)(j:bZ P0 V n S (fin undef g))(h:∀g',S g'->PX K gE N X O' g'):PX K gE (N+n+1) X O g:=by
 refine PX.qu (cs':=#[u,c]) (es:=#[⟨.cell x,I,V⟩,⟨.cell (x,1),I,V⟩]) m z r (λw hw a=>?_) (λev s=>?_) j h;have e1:=jP (o:=0) (v:=u) a;have b:=ut (P:=P0) (main:=V) (w:=w) l hs q d (v:=v) (v2:=f) (by rw[aP,bM a];rfl) (by rw[aP];exact g8 a) (by rw[aP,aP,bM e1];rfl) (by rw[aP,aP];exact g8 e1) k;rw[aP,aP]at b;exact⟨_,b,rfl,rfl,rfl,rfl,by rw[cE,cE],by rw[(jP (o:=1) (v:=c) e1)];rfl,λy i=>by rw[dh (by exact i),dh<|by exact i]⟩
 grind
end
end
end Ph
namespace Ph
open Go Go.Conc
open Go.ConcM (muA msA MuAt ShAt Eff BookOK Bk2)
open Go.ConcR (stA smA WgAt mk)
section
inductive cZ where
 |OY|KQ|k9|vL|iJ|iK
 |ad (s:Ma)
 |mq (s:Mq)
section
variable(K:PC)(r i c:Nat)
def lj(s:cZ)(g:R):Prop:=
 match s with
 |.OY=>aQ (kg K.b K.q GD [iv 25 r,iv 23 r]) [] (K.c0::K.cs) g
 |.KQ=>∃a,K.ca=U a/\aQ (kg K.b K.q GE [pv 26 (a.add<|r*2),iv 25 r,iv 23 r]) [] (K.c0::K.cs) g
 |.k9=>aQ (kg K.b K.q tk9 [(27,.agg #[K.v1 r,K.v2 r]),iv 25 r,iv 23 r]) [] (K.c0::K.cs) g
 |.vL=>aQ (kg K.b K.q GF [pv 9 i,(27,.agg #[K.v1 r,K.v2 r]),iv 25 r,iv 23 r]) [] (K.c0::K.cs) g
 |.iJ=>aQ (kg K.b K.q yl [pv 10 c,pv 9 i,(27,.agg #[K.v1 r,K.v2 r]),iv 25 r,iv 23 r]) [] (K.c0::K.cs) g
 |.iK=>aQ (kg K.b K.q ym [pv 10 c,pv 9 i,(27,.agg #[K.v1 r,K.v2 r]),iv 23 r]) [] (K.c0::K.cs) g
 |.ad s=>jO K.b K.q r i c (K.c0::K.cs) s g
 |.mq s=>ey K.b K.q (K.c0::K.cs) s g
def tD(s:cZ)(w:ξ):Prop:=
 match s with
 |.vL=>w.heap[i]?=U (χ #[Θ Γ 0] 3)
 |.iJ=>w.heap[i]?=U (χ #[Θ Γ 0] 3)/\∃u v,w.heap[c]?=U (χ #[u,v] 76)
 |.iK=>w.heap[i]?=U (χ #[Θ Γ r] 3)/\∃u v,w.heap[c]?=U (χ #[u,v] 76)
 |.ad _=>uy K w r i c
 |_=>True
inductive o9:cZ->Nat->Nat->R->Prop
 |go {s:cZ} {k:Nat} {g g':R} (h:Path P0 I k g g') (hs:lj K r i c s g'):o9 s k 1 g
 |blk {g:R} (hs:lj K r i c (.mq .rJ) g):o9 (.mq .rJ) 0 0 {g with status:=.blocked}
end
def mE:cZ->Nat
 |.ad s=>CU s
 |.mq s=>CR s
 |_=>0
def wa:cZ->Bool
 |.mq .GQ|.mq .Eg|.mq .rJ=>I
 |_=>V
def xa:cZ->Nat
 |.ad .QR|.ad .GS|.ad .ar|.ad .yt=>1
 |_=>0
def gone:cZ->Bool
 |.mq .qm|.mq .MB|.mq .Eh|.mq .yq|.mq .QO|.mq .KO|.mq .Bd|.mq .kI=>I
 |_=>V
def Au:cZ->Bool
 |.mq _=>V
 |_=>I
def rM(h:Sh):cZ->Nat
 |.OY=>20|.KQ=>19|.k9=>18|.vL=>17|.iJ=>16|.iK=>15
 |.ad .GR=>14|.ad .tA=>13|.ad .QR=>12|.ad .GS=>11|.ad .ar=>10|.ad .yt=>9
 |.mq .q7=>13|.mq .ql=>11
 |.mq (.qc k0)=>if k0=h.k then 10 else 12
 |.mq .GQ=>9|.mq .Eg=>8|.mq .rJ=>7|.mq .qm=>6|.mq .MB=>5|.mq .Eh=>4|.mq .yq=>3
 |.mq .QO=>9|.mq .KO=>8|.mq .Bd=>7
 |.mq .kI=>0
def QT(s:cZ)(h:Sh)(s':cZ)(h':Sh):Prop:=
 match s with
 |.OY=>s'=.KQ/\h'=h
 |.KQ=>s'=.k9/\h'=h
 |.k9=>s'=.vL/\h'=h
 |.vL=>s'=.iJ/\h'=h
 |.iJ=>s'=.iK/\h'=h
 |.iK=>s'=.ad .GR/\h'=h
 |.ad s=>∃t,s'=.ad t/\Ax s h t h'
 |.mq s=>∃t,s'=.mq t/\Mx s h t h'
def iE:cZ->Prop
 |.mq (.qc k0)=>0<k0
 |_=>True
def pb{s s' h h'}(a:QT s h s' h'):h'.mu=h.mu/\h'.ms=h.ms/\rM h' s'<rM h s/\Au s'=Au s/\h'.ws<=h.ws/\(iE s->iE s')/\(gone s=I->h.k=0->gone s'=I/\h'.k=0):=by
 cases s with
 |ad s=>
  obtain⟨t,rfl,a⟩:=a;cases s with
  |yt=>exact a.elim
  |tA=>obtain⟨rfl,rfl⟩:=a;split<;>simp[rM,Au,iE,gone]
  |_=>obtain⟨rfl,rfl⟩:=a;simp[rM,Au,iE,gone]
 |mq s=>
  obtain⟨t,rfl,a⟩:=a;cases s with
  |kI=>exact a.elim
  |ql=>
   obtain⟨rfl,rfl⟩:=a;split
   simp[rM,Au,iE,gone];rename_i d;simp[rM,Au,iE,gone];omega
  |qc c=>
   obtain⟨b,rfl,rfl⟩|⟨b,rfl,rfl⟩:=a
   simp[rM,Au,iE,gone,b];have:¬(c=h'.k):=λe=>b e.symm;simp[rM,Au,iE,gone,this]
  |rJ=>obtain⟨b,rfl,rfl⟩:=a;simp[rM,Au,iE,gone]
  |_=>obtain⟨rfl,rfl⟩:=a;simp[rM,Au,iE,gone]
 |_=>obtain⟨rfl,rfl⟩:=a;simp[rM,Au,iE,gone]
def RZ{s s' h h' G L a}(b:QT s h s' h')(j:iE s)(c:mW (wa s) (xa s) h G L a):mW (wa s') (xa s') h' G L a/\(gone s'=I->gone s=I\/h'.k=0):=by
 cases s with
 |ad s=>
  obtain⟨t,rfl,b⟩:=b;cases s with
  |yt=>exact b.elim
  |tA=>
   obtain⟨rfl,rfl⟩:=b;obtain⟨f,i,h3,h4⟩:=c;simp only[wa,xa]at f h3 h4;split
   exact⟨⟨by simp only[xa];omega,i,λ_=>h3 trivial,λh=>by cases h⟩,by simp[gone]⟩;exact⟨⟨by simp only[xa];omega,i,λ_=>h3 trivial,λh=>by cases h⟩,by simp[gone]⟩
  |_=>obtain⟨rfl,rfl⟩:=b;exact⟨c,by simp[gone]⟩
 |mq s=>
  obtain⟨t,rfl,b⟩:=b;cases s with
  |kI=>exact b.elim
  |ql=>
   obtain⟨rfl,rfl⟩:=b;split
   rename_i g;exact⟨c,λ_=>.inr g⟩;exact⟨c,by simp[gone]⟩
  |qc m=>
   obtain⟨f,rfl,rfl⟩|⟨f,rfl,rfl⟩:=b
   ·obtain⟨q1,l,e,d⟩:=c;simp only[wa,xa]at q1 e d;have e:=e trivial;have j:0<m:=j;exact⟨⟨q1,.refl,(λh=>by cases h),λ_=>⟨rfl,by(try dsimp only);omega,.inr ⟨by omega,λ_=>by(try dsimp only);omega,λh=>by cases h⟩⟩⟩,by simp[gone]⟩
   exact⟨c,by simp[gone]⟩
  |rJ=>
   obtain⟨f,rfl,rfl⟩:=b;obtain⟨q1,l,e,d⟩:=c;simp only[wa,xa]at q1 e d;have d:=d trivial;have g:h.k=0:=by omega
   exact⟨⟨q1,l,(λ_=>⟨by(try dsimp only);omega,by(try dsimp only);omega,by omega,by omega⟩),λh=>by cases h⟩,λ_=>.inr g⟩
  |q7=>obtain⟨rfl,rfl⟩:=b;exact⟨c,by simp[gone]⟩
  |GQ=>obtain⟨rfl,rfl⟩:=b;exact⟨c,by simp[gone]⟩
  |Eg=>obtain⟨rfl,rfl⟩:=b;exact⟨c,by simp[gone]⟩
  |_=>obtain⟨rfl,rfl⟩:=b;exact⟨c,λ_=>.inl rfl⟩
 |_=>obtain⟨rfl,rfl⟩:=b;exact⟨c,by simp[gone]⟩
structure SFx(K:PC)(r i c i' c':Nat)(dn:Bool)(s s':cZ)(h':Sh)(w w':ξ):Prop where
 tape:w'.tape=w.tape
 output:w'.output=w.output
 os:Zu w.os w'.os
 size:w.heap.size<=w'
 sh:ShAt 249 255 (K.B0+3) (K.B0+4) w' (dU h')
 others:∀x,x<w.heap.size->x≠K.B0+3->x≠K.B0+4->(dn=I->s=.iJ->x≠i) ->(dn=I->s=.iK->x≠c) ->w'.heap[x]?=w.heap[x]?
 rows:∀x,w.heap.size<=x->x<w'->∃cs e f,w'.heap[x]?=U (.cells cs e f)/\K.TT e
 adG:∀x,dn=I->(s=.iJ/\x=i\/s=.iK/\x=c) ->∃cs e f,w'.heap[x]?=U (.cells cs e f)/\K.TT e
 box:tD K r i' c' s' w'
 bi:(i'=i/\(dn=I->s≠.k9))\/(dn=I/\s=.k9/\i'=w/\w'.heap.size=w.heap.size+1)
 bc:(c'=c/\(dn=I->s≠.vL))\/(dn=I/\s=.vL/\c'=w/\w'.heap.size=w.heap.size+1)
 only:w.heap.size<w'->dn=I/\(s=.k9\/s=.vL)
structure SEv(K:PC)(i c:Nat)(s s':cZ)(w':ξ)(es:Array ZH):Prop where
 ok:∀e∈es,∀x,(Δ e).touch?=U x->x.loc.isMemory=I->(K.ic x.loc/\x.kind≠.plain)\/(x.write=V/\blk x.loc<K.B0/\¬K.S (blk x.loc))\/(s=.iJ/\blk x.loc=i)\/(s=.iK/\blk x.loc=c)
 low:∀e∈es,(Δ e).low w'
 dfb:YP (mE s) es=mE s'
 norel:∀e∈es,e.loc≠.mark (.release (stA (K.B0+4)))
 acq:s'=.mq .kI->s≠.mq .kI->es=#[mk (.acquire (stA (K.B0+4)))]
def nW:cZ->Bool
 |.vL|.iJ|.iK|.ad _=>I
 |_=>V
def pc:cZ->Bool
 |.iJ|.iK|.ad _=>I
 |_=>V
def Hb{s s' h h'}(a:Mx s h s' h')(b:s'=.kI):s=.Bd\/s=.yq:=by
 subst b;cases s with
 |Bd=>exact .inl rfl
 |yq=>exact .inr rfl
 |kI=>exact a.elim
 |qc c=>obtain⟨_,_,h⟩|⟨_,_,h⟩:=a<;>cases h
 |rJ=>obtain⟨_,_,h⟩:=a;cases h
 |ql=>obtain⟨_,h⟩:=a;split at h<;>cases h
 |_=>obtain⟨h,_⟩:=a;cases h
def SPg(dn:Bool)(s s':cZ)(h h':Sh)(i i' c c' k k' z z':Nat)(g':R):Prop:=(dn=V/\s'=s/\h'=h/\i'=i/\c'=c/\((k'<k/\z'=z)\/(k'=k/\z'<z/\h.ws=0/\g'.status=.blocked)))\/(dn=I/\QT s h s' h'/\z'=1)
section
variable{K:PC}{r i c i' c':Nat}{s s':cZ}{k z:Nat}{h h':Sh}{val:Nat->Int}{g:R}{w w':ξ}{es:Array ZH}
def nX(hd:mE s=mE s')(d:s'=.mq .kI->s=.mq .kI):SEv K i c s s' w' #[]:=⟨by simp,by simp,hd,by simp,λa b=>absurd (d a) b⟩
def yJ(hb:BookOK (K.B0+3) (K.B0+4) (mE s) (mE s') es)(hs:K.B0+5<=w')(k:s'=.mq .kI->s=.mq .kI):SEv K i c s s' w' es:=by
 obtain⟨d,g,h3⟩:=hb;refine⟨λe b x f l=>?_,λe b=>?_,g,λe b=>?_,λd g=>absurd (k d) g⟩;obtain h|h|⟨a,y,rfl,ha⟩:=d e b
 ·obtain⟨loc,wr,j⟩:=e;dsimp only at h;subst h;simp[Δ,Z9]at f
 obtain⟨loc,wr,j⟩:=e;dsimp only at h;subst h;simp[Δ,Z9]at f;simp only[Δ,Z9,ZY]at f;subst f;exact .inl ⟨⟨a,rfl,ha⟩,by simp⟩;obtain h|h|⟨a,y,rfl,ha⟩:=d e b
 ·obtain⟨loc,wr,j⟩:=e;dsimp only at h;subst h;trivial
 obtain⟨loc,wr,j⟩:=e;dsimp only at h;subst h;trivial;show a.block<_;omega;obtain h|h|⟨a,y,rfl,ha⟩:=d e b
 ·rw[h];simp
 rw[h];simp;simp
def nY{mm}(b:mm=.acquire (stA<|K.B0+4)\/mm=.write (smA<|K.B0+4)\/mm=.read (smA<|K.B0+4))(hd:mE s=mE s')(hs:K.B0+5<=w')(f:s'=.mq .kI->mm=.acquire (stA<|K.B0+4)):SEv K i c s s' w' #[mk mm]:=by
 refine⟨λe a x d h=>?_,λe a=>?_,?_,λe a=>?_,λg _=>by rw[f g]⟩;rw[Ψ.1 a]at d;obtain rfl|rfl|rfl:=b
 cases d
 cases d
 exact .inl ⟨⟨_,rfl,.inr rfl⟩,by simp⟩;cases d
 exact .inl ⟨⟨_,rfl,.inr rfl⟩,by simp⟩;rw[Ψ.1 a];obtain rfl|rfl|rfl:=b
 trivial;show K.B0+4<_;omega;show K.B0+4<_;omega;rw[<-hd];exact Zh (λe a=>by rw[Ψ.1 a];obtain rfl|rfl|rfl:=b<;>simp[mk]) _;rw[Ψ.1 a];obtain rfl|rfl|rfl:=b<;>simp[mk]
def yK(W:db K val h w)(a:tD K r i c s' w)(d:s≠.k9)(b:s≠.vL)(h3:s≠.iJ)(h4:s≠.iK):SFx K r i c i c I s s' h w w:=⟨rfl,rfl,.refl _,.refl,W.sh,λ_ _ _ _ _ _=>rfl,λx d b=>absurd b<|ZJ.2 d,λx _ f=>by obtain⟨e,_⟩|⟨e,_⟩:=f<;>contradiction,a,.inl ⟨rfl,λ_=>d⟩,.inl ⟨rfl,λ_=>b⟩,λh=>absurd h<|ZF _⟩
def C7(W:db K val h w)(d:ShAt 249 255 (K.B0+3) (K.B0+4) w' (dU h'))(a:Eff (K.B0+3) (K.B0+4) w w')(b:tD K r i c s' w')(g:s≠.k9)(f:s≠.vL)(h3:s≠.iJ)(h4:s≠.iK):SFx K r i c i c I s s' h' w w':=⟨a.tape,a.output,a.os,Nat.le_of_eq a.size.symm,d,λx _ q1 j _ _=>a.block x q1 j,λx g f=>absurd f (by rw[a.size];exact ZJ.2 g),λx _ k=>by obtain⟨e,_⟩|⟨e,_⟩:=k<;>contradiction,b,.inl ⟨rfl,λ_=>g⟩,.inl ⟨rfl,λ_=>f⟩,λh=>absurd h (by rw[a.size];exact ZF _)⟩
def MW(K:PC)(r i c:Nat)(s:cZ)(k z:Nat)(h:Sh)(g:R)(w:ξ):Prop:=∃dn s' k' z' h' i' c' g' w' es,stepG P0 I g w=.go g' w' es/\o9 K r i' c' s' k' z' g'/\SFx K r i c i' c' dn s s' h' w w'/\SEv K i c s s' w' es/\SPg dn s s' h h' i i' c c' k k' z z' g'
def nZ:K.q.wg=stA (K.B0+4):=rfl
def gt{t}(W:db K val h w)(v:nR 249 255 (K.B0+3) (K.B0+4) K.b K.q (K.c0::K.cs) t h g w):MW K r i c (.mq t) 0 1 h g w:=by
 obtain⟨p,u,x,o,y,j,k,l,n,a,z,s,A,f,m⟩:=v;have d:K.B0+5<=o:=by rw[n.size];exact W.size
 refine⟨I,.mq p,z,1,u,i,c,x,o,y,k,.go f m,C7 W l n trivial (by simp) (by simp) (by simp)<|by simp,?_,.inr ⟨rfl,⟨p,rfl,j⟩,rfl⟩⟩;cases t with
 |Bd=>obtain⟨rfl,_⟩:=j;have:=a;rw[this];exact nY (.inl rfl) rfl d λ_=>rfl
 |yq=>obtain⟨rfl,_⟩:=j;have:=a;rw[this];exact nY (.inl rfl) rfl d λ_=>rfl
 |Eg=>obtain⟨rfl,_⟩:=j;have:=a;rw[this];exact nY (.inr<|.inl rfl) rfl d (by simp)
 |_=>exact yJ a d (λe=>by obtain h|h:=Hb j<|cZ.mq.inj e<;>cases h)
def rN{t}(W:db K val h w)(hi:i<w)(A:K.B0+5<=i)(B:K.B0+5<=c)(a:uy K w r i c)(y:Ej 249 255 (K.B0+3) (K.B0+4) K.b K.q r i c (K.c0::K.cs) t h g w):MW K r i c (.ad t) 0 1 h g w:=by
 obtain⟨o,u,v,n,z,p,k,m,j,f,x,s,C,d,l⟩:=y;have e:K.B0+5<=n:=by rw[j.size];exact W.size
 refine⟨I,.ad o,x,1,u,i,c,v,n,z,k,.go d l,C7 W m j ⟨by rw[j.block _ (by omega) (by omega)];exact a.1,by rw[j.block _ (by omega) (by omega)];exact a.2⟩ (by simp) (by simp) (by simp)<|by simp,?_,.inr ⟨rfl,⟨o,rfl,p⟩,rfl⟩⟩;cases t with
 |GS=>obtain⟨rfl,_⟩:=p;have:=f;rw[this];exact nY (.inr<|.inr rfl) rfl e (by simp)
 |_=>exact yJ f e (by simp)
def Hc(W:db K val h w)(b:tD K r i c s w){g1}(d:∀w,stepG P0 I g w=.go g1 w #[])(a:o9 K r i c s k z g1):MW K r i c s (k+1) z h g w:=by exact⟨V,s,k,z,h,i,c,g1,w,#[],d w,a,⟨rfl,rfl,.refl _,.refl,W.sh,λ_ _ _ _ _ _=>rfl,λx f e=>absurd e<|ZJ.2 f,(λx h=>by cases h),b,.inl ⟨rfl,λh=>by cases h⟩,.inl ⟨rfl,λh=>by cases h⟩,λh=>absurd h<|ZF _⟩,nX rfl id,.inl ⟨rfl,rfl,rfl,rfl,rfl,.inl ⟨by omega,rfl⟩⟩⟩
def Bg{i ib cb cs t b q}(h:jO b q i ib cb cs t g):g.status=.running/\g.offers=θ:=by
 have a:∀{d:bG} {ds:List bG},aQ d ds cs g->g.status=.running/\g.offers=θ:=λh=>by obtain⟨F,rfl⟩:=h;exact⟨rfl,rfl⟩
 cases t<;>exact a h
def Bh{cs t b q}(h:ey b q cs t g):g.status=.running/\g.offers=θ:=by
 have a:∀{d:bG} {ds:List bG},aQ d ds cs g->g.status=.running/\g.offers=θ:=λh=>by obtain⟨F,rfl⟩:=h;exact⟨rfl,rfl⟩
 cases t with
 |qc c=>exact a h.1
 |GQ=>obtain⟨_,h,_⟩:=h;exact a h
 |Eg=>obtain⟨_,h,_⟩:=h;exact a h
 |_=>exact a h
def jQ(h:lj K r i c s g):g.status=.running/\g.offers=θ:=by
 have a:∀{d:bG} {ds:List bG} {cs:List ZW},aQ d ds cs g->g.status=.running/\g.offers=θ:=λh=>by obtain⟨F,rfl⟩:=h;exact⟨rfl,rfl⟩
 cases s with
 |ad t=>exact Bg h
 |mq t=>exact Bh h
 |KQ=>obtain⟨_,_,h⟩:=h;exact a h
 |_=>exact a h
def o9.status(h:o9 K r i c s k z g):(g.status=.running/\z=1)\/(g.status=.blocked/\z=0/\g.offers=θ/\s=.mq .rJ):=by
 cases h with
 |go h hs=>exact .inl ⟨h.running (jQ hs).1,rfl⟩
 |blk hs=>exact .inr ⟨rfl,rfl,(jQ hs).2,rfl⟩
def Bi(A:dX K)(H:Au s=I->r<K.n)(W:db K val h w)(m:tD K r i c s w)(hi:nW s=I->K.B0+5<=i/\i<w)(hc:pc s=I->K.B0+5<=c/\c<w/\i≠c)(hsit:o9 K r i c s k z g)(hr:g.status=.running)(hgo:s=.ad .yt->0<k)(hend:s=.mq .kI->0<k)(hk:h.k<1073741823){G L d}(hI:mW (wa s) (xa s) h G L d)(X:gone s=I->h.k=0):MW K r i c s k z h g w:=by
 have hsz:=W.size;cases hsit with
 |blk hs=>cases hr
 |@go _ k _ g' S hs=>
  cases k with
  |succ k=>obtain⟨_,g1,C,h1'⟩:=S;exact Hc W m C<|.go h1' hs
  |zero=>
   have:=S;subst this;cases s with
   |OY=>obtain⟨a,ha,E,Q,T,cs,e,f,q1,q2,q3⟩:=A.data r<|H rfl;have hh:=Uq (h:=hs);have hca:K.q.ca=U a:=ha;rw[hca]at hh;obtain⟨O,N,g2,l,y⟩:=TG K.b K.q r (a.add<|r*2) K.cs K.c0 g' hs;exact⟨I,.KQ,O,1,h,i,c,_,w,_,jr (P:=P0) (main:=I) (w:=w) (ad:=a) (k:=Γ) (i:=r) hh ak6 L7<|H rfl,.go l ⟨a,ha,y⟩,yK W trivial (by simp) (by simp) (by simp)<|by simp,nX rfl<|by simp,.inr ⟨rfl,⟨rfl,rfl⟩,rfl⟩⟩
   |KQ=>
    obtain⟨a,ha,hs⟩:=hs;obtain⟨a',ha',E,Q,T,cs,e,f,q1,q2,q3⟩:=A.data r<|H rfl;rw[ha]at ha';cases ha'
    obtain⟨ab,ao,asp⟩:=a;dsimp only at T q1 q2 q3 E Q;subst T;rw[aP]at hs;obtain⟨O,N,g2,l,y⟩:=TH K.b K.q r (ab,ao+r*2) (.agg #[K.v1 r,K.v2 r]) K.cs K.c0 g' hs;refine⟨I,.k9,O,1,h,i,c,_,w,_,jp (P:=P0) (main:=I) (w:=w) (Ur (h:=hs)) acb L7 (v:=K.v1 r) (v2:=K.v2 r) (by rw[aP,bM (by rw[W.low _ E];exact q1)];exact q2) (by rw[aP,bM (by rw[W.low _ E];exact q1)];exact q3) (by rw[aQ.iX hs];exact uw),.go l y,yK W trivial (by simp) (by simp) (by simp)<|by simp,⟨λe D x p hm=>?_,λe D=>?_,rfl,λe D=>?_,by simp⟩,.inr ⟨rfl,⟨rfl,rfl⟩,rfl⟩⟩
    all_goals
     simp only[aP,ZX,Z2,ε,or_false]at D
    right;left;obtain rfl|rfl:=D
    cases p;exact⟨rfl,E,Q⟩
    cases p;exact⟨rfl,E,Q⟩
    obtain rfl|rfl:=D
    ·show ab<_;omega
    show ab<_;omega;obtain rfl|rfl:=D<;>simp
   |k9=>
    obtain⟨O,N,g2,l,y⟩:=acs K.b K.q r w.heap.size (.agg #[K.v1 r,K.v2 r]) K.cs K.c0 g' hs;have j:(w.alloc<|.cells (Θ Γ 0).cells 3).heap=w.heap.push (χ #[Θ Γ 0] 3):=rfl;refine⟨I,.vL,O,1,h,w.heap.size,c,_,_,_,gq (P:=P0) (main:=I) (w:=w) (acM (h:=hs)) z3,.go l y,⟨rfl,rfl,.refl _,by rw[j];simp,W.sh.of_block (by rw[j,μ<|by omega];simp[ψ (by omega:K.B0+3<w.heap.size)]) (by rw[j,μ<|by omega];simp[ψ (by omega:K.B0+4<w.heap.size)]),λx p _ _ _ _=>?_,λx S J=>?_,λx _ p=>?_,?_,.inr ⟨rfl,rfl,rfl,by rw[j];simp⟩,.inl ⟨rfl,by simp⟩,λ_=>⟨rfl,.inl rfl⟩⟩,nX rfl<|by simp,.inr ⟨rfl,⟨rfl,rfl⟩,rfl⟩⟩;rw[j,μ p,ψ p];rw[j]at J⊢;simp only[ZD]at J;have:x=w.heap.size:=by omega
    subst this;exact⟨#[Θ Γ 0],3,(0,0),by simp,A.TT.2.2.2.2.2.1⟩;obtain⟨e,_⟩|⟨e,_⟩:=p<;>cases e
    show(w.alloc _).heap[w.heap.size]?=_;rw[j];simp
   |vL=>
    have hi:=hi rfl;obtain⟨zv,hz⟩:=z76;obtain⟨O,N,g2,l,y⟩:=TJ K.b K.q r ⟨i,0,θ⟩ ⟨w.heap.size,0,θ⟩ (.agg #[K.v1 r,K.v2 r]) K.cs K.c0 g' hs;have j:(w.alloc<|.cells (ZL #[Θ Γ 0,zv]).cells 76).heap=w.heap.push (χ #[Θ Γ 0,zv] 76):=rfl;refine⟨I,.iJ,O,1,h,i,w.heap.size,_,_,_,gq (P:=P0) (main:=I) (w:=w) (Us (h:=hs)) hz,.go l y,⟨rfl,rfl,.refl _,by rw[j];simp,W.sh.of_block (by rw[j,μ<|by omega];simp[ψ (by omega:K.B0+3<w.heap.size)]) (by rw[j,μ<|by omega];simp[ψ (by omega:K.B0+4<w.heap.size)]),λx p _ _ _ _=>?_,λx S J=>?_,λx _ p=>?_,⟨?_,Θ Γ 0,zv,?_⟩,.inl ⟨rfl,by simp⟩,.inr ⟨rfl,rfl,rfl,by rw[j];simp⟩,λ_=>⟨rfl,.inr rfl⟩⟩,nX rfl<|by simp,.inr ⟨rfl,⟨rfl,rfl⟩,rfl⟩⟩;rw[j,μ p,ψ p];rw[j]at J⊢;simp only[ZD]at J;have:x=w.heap.size:=by omega
    subst this;exact⟨#[Θ Γ 0,zv],76,(0,0),by simp,A.TT.2.2.2.2.2.2⟩;obtain⟨e,_⟩|⟨e,_⟩:=p<;>cases e
    rw[j,μ hi.2,<-ψ hi.2];exact m;rw[j];simp
   |iJ=>
    have hi:=hi rfl;obtain⟨F,hc2,hic⟩:=hc rfl;obtain⟨b1,u,v,b2⟩:=m;have C:=iS (P:=P0) (main:=I) (w:=w) (ME (h:=hs)) si3 rfl rfl (v:=Θ Γ 0) (by rw[aP,bM b1];rfl) (by rw[aP];exact g8 b1) (by rw[aQ.iX hs];exact uw);rw[aP]at C;obtain⟨O,N,g2,l,y⟩:=Mw K.b K.q r ⟨i,0,θ⟩ ⟨c,0,θ⟩ (.agg #[K.v1 r,K.v2 r]) K.cs K.c0 g' hs;have e1:=jP (o:=0) (v:=Θ Γ r) b1;refine⟨I,.iK,O,1,h,i,c,_,_,_,C,.go l y,⟨rfl,rfl,.refl _,by rw[cE];exact ZE _,W.sh.of_block (dh (by show K.B0+3≠i;omega))<|dh (by show K.B0+4≠i;omega),λx _ _ _ q1 _=>dh<|q1 rfl rfl,λx S J=>absurd J (by rw[cE];omega),λx _ p=>?_,⟨e1,u,v,?_⟩,.inl ⟨rfl,by simp⟩,.inl ⟨rfl,by simp⟩,λh=>absurd h (by rw[cE];exact ZF _)⟩,⟨λe D x p hm=>?_,λe D=>?_,rfl,λe D=>?_,by simp⟩,.inr ⟨rfl,⟨rfl,rfl⟩,rfl⟩⟩;obtain⟨_,rfl⟩|⟨e,_⟩:=p
    ·exact⟨_,_,_,e1,A.TT.2.2.2.2.2.1⟩
    cases e
    rw[dh (by exact Ne.symm hic)];exact b2;rw[Ψ.1 D]at p;cases p
    exact .inr<|.inr<|.inl ⟨rfl,rfl⟩;rw[Ψ.1 D,cE];exact hi.2;rw[Ψ.1 D];simp
   |iK=>
    have hi:=hi rfl;have hc:=hc rfl;obtain⟨b1,u,v,b2⟩:=m;have e1:=jP (o:=0) (v:=K.v1 r) b2;have e2:=jP (o:=1) (v:=K.v2 r) e1;have C:=ut (P:=P0) (main:=I) (w:=w) (MF (h:=hs)) L7 (A.ads r<|H rfl).1 (A.ads r<|H rfl).2 (v:=u) (v2:=v) (by rw[aP,bM b2];rfl) (by rw[aP];exact g8 b2) (by rw[aP,aP,bM e1];rfl) (by rw[aP,aP];exact g8 e1) (by rw[aQ.iX hs];exact uw);rw[aP,aP]at C;obtain⟨O,N,g2,l,y⟩:=My K.b K.q r ⟨i,0,θ⟩ ⟨c,0,θ⟩ (.agg #[K.v1 r,K.v2 r]) K.cs K.c0 g' hs;have so:∀{x:Nat},x≠c->((w.setCell ⟨c,0,θ⟩<|K.v1 r).setCell ⟨c,1,θ⟩<|K.v2 r).heap[x]?=w.heap[x]?:=λp=>by rw[dh (by exact p),dh<|by exact p]
    refine⟨I,.ad .GR,O,1,h,i,c,_,_,_,C,.go l y,⟨rfl,rfl,.refl _,by rw[cE,cE];exact ZE _,W.sh.of_block (so<|by omega)<|so<|by omega,λx _ _ _ _ q1=>so<|q1 rfl rfl,λx S J=>absurd J (by rw[cE,cE];omega),λx _ p=>?_,⟨?_,?_⟩,.inl ⟨rfl,by simp⟩,.inl ⟨rfl,by simp⟩,λh=>absurd h (by rw[cE,cE];exact ZF _)⟩,⟨λe D x p hm=>?_,λe D=>?_,rfl,λe D=>?_,by simp⟩,.inr ⟨rfl,⟨rfl,rfl⟩,rfl⟩⟩;obtain⟨e,_⟩|⟨_,rfl⟩:=p
    ·cases e
    exact⟨_,_,_,e2,A.TT.2.2.2.2.2.2⟩;rw[so hc.2.2];exact b1;exact e2
    all_goals
     simp only[ZX,Z2,ε,or_false]at D
    right;right;right;obtain rfl|rfl:=D
    cases p;exact⟨rfl,rfl⟩
    cases p;exact⟨rfl,rfl⟩
    rw[cE,cE];obtain rfl|rfl:=D<;>exact hc.2.1
    obtain rfl|rfl:=D<;>simp
   |ad t=>
    have B:=hi rfl;have F:=hc rfl;have hid:wa (.ad t)=V:=rfl;cases t with
    |GR=>exact rN W B.2 B.1 F.1 m<|Um W.sh hs
    |tA=>exact rN W B.2 B.1 F.1 m<|MC nZ (by omega) hk ((hI.idle hid).1) W.sh hs
    |QR=>exact rN W B.2 B.1 F.1 m<|Un nZ W.sh hs
    |GS=>exact rN W B.2 B.1 F.1 m<|Uo nZ W.sh hs
    |ar=>exact rN W B.2 B.1 F.1 m<|acH W.sh hs
    |yt=>exact absurd (hgo rfl) (by omega)
   |mq t=>
    cases t with
    |q7=>exact gt W<|acD W.sh hs
    |ql=>exact gt W<|acE nZ (by omega) (hI.idle rfl).1 W.sh hs
    |qc k0=>exact gt W<|acF nZ (by omega) (by omega) (hI.idle rfl).1 W.sh hs
    |QO=>exact gt W<|Ud W.sh hs
    |KO=>exact gt W<|Ue nZ W.sh hs
    |Bd=>exact gt W<|Uf nZ W.sh hs
    |GQ=>exact gt W<|Ug nZ W.sh hs
    |Eg=>exact gt W<|Uh nZ W.sh hs
    |rJ=>
     by_cases h0:h.ws=0
     have C:=yr (tM:=249) (tW:=255) (Mu:=K.B0+3) nZ h0 W.sh hs;exact⟨V,.mq .rJ,0,0,h,i,c,_,w,#[],C,.blk hs,⟨rfl,rfl,.refl _,.refl,W.sh,λ_ _ _ _ _ _=>rfl,λx S J=>absurd J<|ZJ.2 S,(λx h=>by cases h),trivial,.inl ⟨rfl,λh=>by cases h⟩,.inl ⟨rfl,λh=>by cases h⟩,λh=>absurd h<|ZF _⟩,nX rfl id,.inl ⟨rfl,rfl,rfl,rfl,rfl,.inr ⟨rfl,by omega,h0,rfl⟩⟩⟩;exact gt W<|Ui nZ (by omega) (by omega) W.sh hs
    |qm=>exact gt W<|acG nZ (X rfl) (hI.idle rfl).1 W.sh hs
    |MB=>exact gt W<|Uj W.sh hs
    |Eh=>exact gt W<|Uk nZ W.sh hs
    |yq=>exact gt W<|Ul nZ W.sh hs
    |kI=>exact absurd (hend rfl) (by omega)
end
end
end Ph
namespace Ph
open Go Go.Conc
open Go.ConcN (sumTo upd sumTo_upd upd_ne upd_same RelBy)
open Go.ConcM (muA msA MuAt ShAt Eff BookOK Bk2)
open Go.ConcR (stA smA WgAt mk)
open Go.ConcX (again_blocked)
section
variable{g':R}{w':ξ}{p:WP}
structure CD where
 r:Nat
 s:cZ
 i:Nat
 c:Nat
 k:Nat
 z:Nat
 st:Nat->St
 X:Nat->Nat->Prop
 l:Nat->Nat
 kk:Nat->Nat
 zz:Nat->Nat
 ib:Nat->Nat
 cb:Nat->Nat
 H:Nat->Nat
 Z:Nat
 h:Sh
 q:Nat->Nat
 f:Nat->Nat->Nat
def valOf(K:PC)(D:CD)(i:Nat):Int:=if i<D.r/\cu (D.st i)=I then K.ev i else 0
structure CW(K:PC)(w0:ξ)(D:CD)(w:ξ):Prop where
 tape:w.tape=w0.tape
 output:w.output=w0.output
 os:Zu w0.os w.os
 at_:db K (valOf K D) D.h w
 box:∀j,j<D.r->uy K w j (D.ib j) (D.cb j)
 Hd:tD K D.r D.i D.c D.s w
 hz:∀j,j<D.r->K.B0+5<=D.ib j/\D.ib j<D.H j/\K.B0+5<=D.cb j/\D.cb j<D.H j/\D.H j<=D.Z
 zs:K.B0+5<=D.Z/\D.Z<=w
 Bj:∀j,j<D.r->∀k,¬D.X k (D.ib j)/\¬D.X k (D.cb j)
 hi:nW D.s=I->D.Z<=D.i/\D.i<w/\∀k,¬D.X k D.i
 hc:pc D.s=I->D.Z<=D.c/\D.c<w/\D.i≠D.c/\∀k,¬D.X k D.c
 xr:∀k x,D.X k x->k<D.r/\K.B0+5<=x/\x<w
 xd:∀k k' x,D.X k x->D.X k' x->k=k'
 x4:∀j,j<D.r->4<=D.l j->D.X j=λ_=>False
 rows:∀x,K.B0+5<=x->x<w->(∃j,j<D.r/\D.st j=.pv/\D.X j x)\/∃cs e f,w.heap[x]?=U (.cells cs e f)/\K.TT e
 who:∀x,K.B0+5<=x->x<w->(∃j,j<D.r/\D.st j=.pv/\D.X j x)\/(∃j,j<D.r/\D.l j<=2/\∃i,i<K.C/\x=D.f j i)\/(∃j,j<D.r/\(x=D.ib j\/x=D.cb j))\/(nW D.s=I/\x=D.i)\/(pc D.s=I/\x=D.c)
structure CN(K:PC)(D:CD):Prop where
 rn:D.r<=K.n
 inr:Au D.s=I->D.r<K.n
 out:Au D.s=V->D.r=K.n
 gi:GI D.r D.st D.h
 vM:∀j,j<D.r->rG K.n (D.st j)
 wg:mW (wa D.s) (xa D.s) D.h (cnt D.r nG D.st) (cnt D.r nL D.st) (cnt D.r nM D.st)
 mf:iE D.s
 gone:gone D.s=I->D.h.k=0
 zs:D.z=0->D.h.ws=0
 zw:∀j,j<D.r->D.zz j=0->D.h.ms=0
structure CT(K:PC)(D:CD)(B:Nat)(t:Yv):Prop where
 d0:Zk t 0=mE D.s
 dw:∀j,j<D.r->Zk t (K.p0+j)=deaf (D.st j)
 dz:∀j,K.p0+D.r<=j->Zk t j=0
 ti:D.s≠.mq .kI->TI K.Shun K.ic (K.Own D.X) K.p0 D.r D.Z D.H B t/\(∀j,j<D.r->dC (D.st j)=I->∃i,RelBy (stA (K.B0+4)) t (K.p0+j) i)/\NoRelease (stA (K.B0+4)) t
 pa:D.s=.mq .kI->Yk (λl=>K.Shun l\/K.ic l) B t/\∀i x,ZG t i=U x->K.ic x.loc->x.kind≠.plain
structure CI(K:PC)(w0:ξ)(D:CD)(gs:Array R)(w:ξ)(t:Yv):Prop where
 size:gs.size=K.p0+D.r
 g0:∃g,gs[0]?=U g/\o9 K D.r D.i D.c D.s D.k D.z g
 old:∀j g,0<j->j<K.p0->gs[j]?=U g->Zf P0 (D.q j) (Zk t j) g
 wk:∀j,j<D.r->∃g,gs[K.p0+j]?=U g/\WSit K j (K.wp (D.ib j) (D.cb j)) (D.st j) (D.X j) (D.l j) (D.kk j) (D.zz j) g w
 cw:CW K w0 D w
 cn:CN K D
 ct:CT K D w t
def mu(K:PC)(D:CD):Nat×Nat×Nat×Nat×Nat:=(K.n-D.r,sumTo D.r D.l,meas D.r D.st D.h+rM D.h D.s,sumTo D.r D.kk+D.k+sumTo K.p0 D.q,sumTo D.r D.zz+D.z)
def vN(a b:Nat×Nat×Nat×Nat×Nat):Prop:=a.1<b.1\/(a.1=b.1/\(a.2.1<b.2.1\/(a.2.1=b.2.1/\(a.2.2.1<b.2.2.1\/(a.2.2.1=b.2.2.1/\(a.2.2.2.1<b.2.2.2.1\/(a.2.2.2.1=b.2.2.2.1/\a.2.2.2.2<b.2.2.2.2)))))))
def MX:WellFounded vN:=by
 have h:=(inferInstance:WellFoundedRelation (Nat×Nat×Nat×Nat×Nat)).wf;refine Subrelation.wf (λ{a b} c=>?_) h;obtain⟨e,d,b3,b4,b5⟩:=b;obtain h|⟨rfl,h|⟨rfl,h|⟨rfl,h|⟨rfl,h⟩⟩⟩⟩:=c
 exact Zg _ _ h;exact ZT _<|Zg _ _ h;exact ZT _<|ZT _<|Zg _ _ h;exact ZT _<|ZT _<|ZT _<|Zg _ _ h;exact ZT _<|ZT _<|ZT _<|ZT _ h
def dY(g g':R):Bool:=Ys P0 g&&g'.status !=.blocked&&g'.status !=.waiting
def yL{g o}:woken P0 g g' w' o=if dY g g' then o.again w' else o:=rfl
def WSit.woken{K j s X l k z g a a' w}(h:WSit K j p s X l k z g w):WSit K j p s X l k (if dY a a' then 1 else z) (Y6 P0 a a' w' g) w:=by
 rw[yL];by_cases hw:dY a a'=I
 rw[if_pos hw,if_pos hw];have b:∀{g:R},g.status=.running\/g.status=.finished->g.again w'=g:=λh=>again_running _ h;cases h with
 |go h hs n f i=>rw[b (.inl<|h.running (rK hs).1)];exact .go h hs n f i
 |w8 h hs=>rw[b (.inl<|h.running (by obtain⟨F,rfl⟩:=hs;rfl))];exact .w8 h hs
 |blk hs=>have:=js hs;rw[again_blocked this.1 this.2];exact .go rfl hs (by simp) (by simp) (by simp)
 |ap c h e d=>rw[b (.inl<|h.running rfl)];exact .ap c h e d
 |pv c m O q h o e d=>rw[b (.inl h.running)];exact .pv c m O q h o e d
 |fin h=>rw[b (.inr h)];exact .fin h
 grind
def o9.woken{K r i c s k z g a a'}(h:o9 K r i c s k z g):o9 K r i c s k (if dY a a' then 1 else z) (Y6 P0 a a' w' g):=by
 rw[yL];by_cases hw:dY a a'=I
 rw[if_pos hw,if_pos hw];cases h with
 |go h hs=>rw[again_running _ (.inl<|h.running (jQ hs).1)];exact .go h hs
 |blk hs=>have:=jQ hs;rw[again_blocked this.1 this.2];exact .go rfl hs
 grind
def WSit.others{K j p s X l k z g}{w w':ξ}(h:WSit K j p s X l k z g w)(hs:w.heap.size<=w')(r:∀b,b<K.B0->w'.heap[b]?=w.heap[b]?)(q:s=.pv->∀x,X x->w'.heap[x]?=w.heap[x]?):WSit K j p s X l k z g w':=by
 cases h with
 |go h hs m f i=>exact .go h hs m f i
 |w8 h hs=>exact .w8 h hs
 |blk hs=>exact .blk hs
 |ap a h d c=>exact .ap a h d c
 |pv a n O e h o d c=>exact .pv a n O e h (o.others hs r λx t=>q rfl x<|by simp_all) d c
 |fin h=>exact .fin h
def WSit.at{K j s X l k z g w}(h:WSit K j p s X l k z g w)(d):WSit K j p s X l k z g (w.at d):=h.others .refl (λ_ _=>rfl) (λ_ _ _=>rfl)
def WSit.lv3{K j s X l k z g w}(h:WSit K j p s X l k z g w):(s=.pv->2<l)/\(s=.ld->l=2):=by
 cases h with
 |go h hs i b f=>exact⟨(λh=>absurd h b),λh=>by rw[h];rfl⟩
 |w8 h hs=>exact⟨(λh=>by cases h),λh=>by cases h⟩
 |blk hs=>exact⟨(λh=>by cases h),λh=>by cases h⟩
 |ap a h d c=>exact⟨(λ_=>by omega),λh=>by cases h⟩
 |pv a m O e h n d c=>exact⟨(λ_=>by omega),λh=>by cases h⟩
 |fin h=>exact⟨(λh=>by cases h),λh=>by cases h⟩
def db.at{K a h w}(W:db K a h w)(d):db K a h (w.at d):=⟨W.size,W.low,W.gb,W.er,W.eb,W.sh.of_block rfl rfl⟩
def MY{K r i c s w}(h:tD K r i c s w)(d):tD K r i c s (w.at d):=by trivial
def CW.at{K w0 w D}(C:CW K w0 D w)(d):CW K w0 D (w.at d):=⟨C.tape,C.output,C.os,C.at_.at d,C.box,MY C.Hd d,C.hz,C.zs,C.Bj,C.hi,C.hc,C.xr,C.xd,C.x4,C.rows,C.who⟩
def C8{f i r x}(hi:i<r):sumTo r (upd f i x)+f i=sumTo r f+x:=sumTo_upd f x id hi
def JH{α}(f:Nat->α)(i):upd f i (f i)=f:=by
 funext a
 simp only[upd]
 grind
def eA{F n st i s'}(hi:i<n)(h:F s'=F (st i)):cnt n F (upd st i s')=cnt n F st:=by have:=lO (F:=F) (st:=st) hi s';omega
def pd{gs:Array R}{f a}(h:a<gs.size):((gs.map f).setIfInBounds a g')[a]?=U g':=by simp[h]
def fw{gs:Array R}{f a j}(h:a≠j):((gs.map f).setIfInBounds a g')[j]?=gs[j]?.map f:=by grind
def gu{g fn pos es}:∀op∈ο g fn pos es,op.g=g:=λop a=>by obtain⟨e,_,rfl⟩:=φ a;rfl
def gw{K:PC}{X k l}(h:K.Own X k l):(l=.cell (K.B0+1,k))\/X k (blk l):=h.elim (λh=>.inl h.1) λh=>.inr h.2
def fam{K w0 w D}(A:dX K)(C:CW K w0 D w):Fam K.Shun K.ic (K.Own D.X) K.p0 D.r D.Z D.H:=by
 have c:∀{k x},D.X k x->K.B0+5<=x:=λh=>(C.xr _ _ h).2.1;refine⟨λk i l b f=>?_,λk l b=>⟨λhs=>?_,λhs=>?_⟩,λj d=>(C.hz j d).2.2.2.2,A.pos,λl e=>by obtain⟨a,rfl,_⟩:=e;rfl⟩;obtain e1|e1:=gw b<;>obtain e2|e2:=gw f
 ·grind
 rw[e1]at e2;have:K.B0+5<=K.B0+1:=c e2;omega;rw[e2]at e1;have:K.B0+5<=K.B0+1:=c e1;omega;exact C.xd _ _ _ e1 e2;obtain⟨a,rfl,g⟩:=hs;obtain e1|e1:=gw b
 simp only[Loc.cell.injEq]at e1;subst e1;dsimp only at g;omega;have:K.B0+5<=a.block:=c e1;omega;obtain e1|e1:=gw b
 ·subst e1;have:K.B0+1<K.B0:=A.SB _ hs;omega
 have h5:=c e1;cases l with
 |cell a=>have:=A.SB _ hs;simp only[blk]at h5;omega
 |obj r=>have:=A.SB _ hs;simp only[blk]at h5;omega
 |_=>exact hs.elim
end
end Ph
namespace Ph
open Go Go.Conc
open Go.ConcN (sumTo upd sumTo_upd upd_ne upd_same RelBy)
open Go.ConcM (muA msA MuAt ShAt Eff BookOK Bk2)
open Go.ConcR (stA smA WgAt mk)
def alp{s s' h h'}(a:Nx s h s' h'):h'.k<=h.k:=by
 cases s with
 |w7=>exact a.elim
 |w8=>exact a.elim
 |pv=>exact a.elim
 |fin=>exact a.elim
 |ga=>obtain⟨rfl,_⟩:=a;exact Nat.sub_le _ _
 |gs=>obtain⟨_,rfl⟩:=a;exact Zr _
 |l0=>obtain⟨_,_,rfl⟩|⟨_,_,rfl⟩:=a<;>exact .refl
 |c1 x=>obtain⟨_,_,rfl⟩|⟨_,_,rfl⟩:=a<;>exact .refl
 |c2 x=>obtain⟨_,rfl,_⟩|⟨_,_,rfl⟩:=a<;>exact .refl
 |uc x=>obtain⟨_,_,rfl⟩|⟨_,_,rfl⟩:=a<;>exact .refl
 |s1 x=>obtain⟨_,rfl,_⟩:=a;exact .refl
 |sq x=>obtain⟨rfl,_⟩:=a;exact .refl
 |t1 x=>obtain⟨rfl,_⟩:=a;exact .refl
 |t2 x=>obtain⟨rfl,_⟩:=a;exact .refl
 |r2 x=>obtain⟨rfl,_⟩:=a;exact .refl
 |u0=>obtain⟨rfl,_⟩:=a;exact .refl
 |gm=>obtain⟨_,rfl⟩:=a;exact .refl
 |us=>obtain⟨_,rfl⟩:=a;exact .refl
 |uh=>obtain⟨_,rfl⟩:=a;exact .refl
 |a1 x=>obtain⟨_,rfl⟩:=a;exact .refl
 |_=>obtain⟨_,rfl⟩:=a;exact .refl
def early:St->Bool
 |.w7|.w8|.pv|.ld=>I
 |_=>V
def rO{s}(h:early s=I):nO s=0/\nA s=0/\nT s=0/\nQ s=0/\nH s=0/\nU s=0/\nV s=0/\nC s=0/\nG s=1/\nL s=0/\nM s=0/\cu s=V/\dC s=V/\ez s=V/\il s=V:=by cases s<;>first|(cases h;done)|exact⟨rfl,rfl,rfl,rfl,rfl,rfl,rfl,rfl,rfl,rfl,rfl,rfl,rfl,rfl,rfl⟩
def Ep{s h B}(a:early s=I):aaA h s/\rG B s:=by cases s<;>first|(cases a;done)|exact⟨trivial,trivial⟩
structure PgF(K:PC)(D:CD)(j:Nat)(dn:Bool)(s':St)(h':Sh)(l' k' z':Nat)(g g':R):Prop where
 gi:GI D.r (upd D.st j s') h'
 wg:mW (wa D.s) (xa D.s) h' (cnt D.r nG (upd D.st j s')) (cnt D.r nL (upd D.st j s')) (cnt D.r nM (upd D.st j s'))
 vM:rG K.n s'
 GZ:cu s'=(cu (D.st j)||(dn&&ez (D.st j)))
 rel:dC s'=(dC (D.st j)||(dn&&il (D.st j)))
 le:l'<=D.l j
 k:h'.k<=D.h.k
 wake:dY g g'=V->h'.ms<=D.h.ms/\h'.ws<=D.h.ws
 z:z'=0->h'.ms=0
 low:(l'<D.l j)\/(l'=D.l j/\h'.k=D.h.k/\meas D.r (upd D.st j s') h'<meas D.r D.st D.h)\/(l'=D.l j/\s'=D.st j/\h'=D.h/\(k'<D.kk j\/(k'=D.kk j/\z'<D.zz j/\dY g g'=V)))
def He{K D j S s' h' J k' z' g g'}(C:CN K D)(a:j<D.r)(pg:WPg S (D.st j) s' D.h h' (D.l j) J (D.kk j) k' (D.zz j) z' g g')(hg':g'.status≠.waiting):PgF K D j S s' h' J k' z' g g':=by
 have o:=C.vM j a;obtain⟨rfl,rfl,rfl,rfl,P⟩|⟨rfl,d,q,t,hz,A⟩|⟨rfl,rfl,q,hz,hs⟩:=pg
 rw[<-JH D.st j]at o;refine⟨by rw[JH];exact C.gi,by rw[JH];exact C.wg,C.vM j a,by simp,by simp,.refl,.refl,λ_=>⟨ZE _,.refl⟩,λh0=>?_,.inr<|.inr ⟨rfl,rfl,rfl,?_⟩⟩;obtain⟨_,h⟩|⟨_,h,b,_⟩:=P
 ·exact C.zw j a (by rw[<-h];exact h0)
 exact b;obtain⟨h,_⟩|⟨b,O,_,h4⟩:=P
 ·exact .inl h
 refine .inr ⟨b,O,?_⟩;unfold dY;rw[h4];simp;have u:=G8 d;have e:∀F:St->Nat,cnt D.r F D.st-F (D.st j)+F (D.st j)=cnt D.r F D.st:=λF=>Yr<|gj a;have y:∀F:St->Nat,cnt D.r F (upd D.st j s')=cnt D.r F D.st-F (D.st j)+F s':=λF=>by have b:=lO (F:=F) (st:=D.st) a s';have O:=gj (F:=F) (st:=D.st) a;omega
 have c:mW (wa D.s) (xa D.s) D.h ((cnt D.r nG D.st-nG (D.st j))+nG (D.st j)) ((cnt D.r nL D.st-nL (D.st j))+nL (D.st j)) ((cnt D.r nM D.st-nM (D.st j))+nM (D.st j)):=by rw[e,e,e];exact C.wg
 refine⟨C.gi.step a d,by rw[y,y,y];exact c.core d,d.akU (Zm C.gi.wW.1 C.rn) o,by rw[u.GZ];simp,by rw[u.rel];simp,by rw[t,q];exact u.lv,alp d,λhw=>?_,λh0=>by omega,?_⟩;apply Z0;intro hn;obtain⟨q1,q2⟩:=A (by omega);unfold dY at hw;rw[q1,q2]at hw;cases hw
 obtain h|h:=YQ J<|D.l j
 ·exact .inl h
 right;left;refine⟨Nat.le_antisymm (by rw[t,q];exact u.lv) h,?_,C.gi.lower a d⟩;apply Z0;intro p;obtain b|b:=adt d p
 omega;have m:=d;rw[b]at m c;obtain⟨_,rfl⟩:=m;have n1:nL .gs=1:=rfl;cases hwa:wa D.s with
 |false=>have:=(c.idle hwa).2.2.1;omega
 |true=>have:=(c.wait hwa).2.2;apply p;show 0=D.h.k;omega
 have f:early (D.st j)=I/\early s'=I:=by obtain⟨b,rfl⟩|⟨b,rfl⟩|⟨b,rfl|rfl⟩:=hs<;>rw[b]<;>exact⟨rfl,rfl⟩
 obtain⟨a1,a2,a3,a4,a5,a6,a7,T,a9,z,E,L,N,GR,G⟩:=rO f.1;obtain⟨X,b2,b3,b4,b5,b6,b7,b8,b9,w,v,H,x,W,b15⟩:=rO f.2;have Q:=Ep (h:=D.h) (B:=K.n) f.2;refine⟨⟨?_,λi hi=>?_⟩,?_,Q.2,by rw[H,L,GR];rfl,by rw[x,N,G];rfl,Nat.le_of_lt q,.refl,λ_=>⟨ZE _,.refl⟩,λh0=>by omega,.inl q⟩;rw[eA a (by rw[X,a1]),eA a<|by rw[b2,a2],eA a<|by rw[b3,a3],eA a<|by rw[b4,a4],eA a<|by rw[b5,a5],eA a<|by rw[b6,a6],eA a<|by rw[b7,a7],eA a<|by rw[b8,T]];exact C.gi.Ee;simp only[upd];split
 exact Q.1;exact C.gi.loc i hi;rw[eA a (by rw[b9,a9]),eA a<|by rw[w,z],eA a<|by rw[v,E]];exact C.wg
def MZ{K r i c s w w'}(h:tD K r i c s w)(hi:nW s=I->w'.heap[i]?=w.heap[i]?)(hc:pc s=I->w'.heap[c]?=w.heap[c]?):tD K r i c s w':=by
 cases s with
 |vL=>show w'.heap[i]?=_;rw[hi rfl];exact h
 |iJ=>obtain⟨b,u,v,a⟩:=h;exact⟨by rw[hi rfl];exact b,u,v,by rw[hc rfl];exact a⟩
 |iK=>obtain⟨b,u,v,a⟩:=h;exact⟨by rw[hi rfl];exact b,u,v,by rw[hc rfl];exact a⟩
 |ad t=>obtain⟨b,a⟩:=h;exact⟨by rw[hi rfl];exact b,by rw[hc rfl];exact a⟩
 |_=>trivial
def adK{h h' s}(a:h'.k=h.k):rM h' s=rM h s:=by
 cases s with
 |mq t=>cases t<;>simp[rM,a]
 |ad t=>cases t<;>rfl
 |_=>rfl
def Er{Sh B g t fn pos es}(h:Yk Sh B t)(P:g≠0)(S:∀i x,ZG t i=U x->(∃e∈es,∃y,(Δ e).touch?=U y/\y.loc=x.loc) ->x.loc.isMemory=I->x.kind≠.plain)(s:∀i e,es[i]?=U e->(Δ e).touch?=θ\/((∃ad wr,e=⟨.cell ad,wr,I⟩)/\0<YP (Zk t g) (es.extract 0 i)))(k:∀e∈es,∀x,(Δ e).touch?=U x->x.loc.isMemory=I->Sh x.loc/\x.kind=.atomic)(T:∀e∈es,(Δ e).low B):Yk Sh B (t++ο g fn pos es):=by
 have o:∀e∈es,∀x,(Δ e).touch?=U x->x.loc.isMemory=I:=by
  intro e d x n;obtain⟨i,hi⟩:=YX.1 d;obtain h0|⟨⟨ad,wr,rfl⟩,_⟩:=s i e hi
  rw[h0]at n;cases n;simp only[Δ,Z9,ZY]at n;subst n;rfl
 refine⟨λp=>ZB (g:=g) (h.clean p) gu λi a J op f b hb hc=>?_,λi a J w=>?_,λi v q D hc=>?_,?_,YR h.seen λop f=>?_⟩;exfalso;obtain⟨e,d,rfl⟩:=φ f;obtain⟨c1,c2,c3,W⟩:=hc;obtain⟨hs,l⟩:=k e d b hb<|o e d b hb;obtain e1|e1|⟨_,_,e1⟩:=W
 exact S i a J ⟨e,d,b,hb,c1.symm⟩ c2 e1;rw[l]at e1;cases e1;rw[l]at e1;cases e1;obtain⟨hi,c⟩|⟨op,f,c,m⟩:=cc J
 ·exact(h.known i a c w).imp (·.app _) id
 obtain⟨e,d,rfl⟩:=φ f;exact .inr<|k e d a c w;obtain⟨op,m,K⟩:=ω.1 q;obtain⟨hi,_⟩|⟨C,w⟩:=ZC m
 obtain⟨j,N,O⟩:=h.over i v (by rw[<-ζ (u:=ο g fn pos es) hi];exact q) D<|(Yd hi).1 hc;have A:j<t.size:=by obtain⟨z,hz,_⟩:=ω.1 N;exact Yg hz
 exact⟨j,by rw[ζ A];exact N,hb_app _ O⟩;exfalso;have H:v=g:=by rw[<-K];exact gu op w
 subst H;obtain⟨x,n,_,l⟩:=hc;obtain⟨Q,r,c⟩:=YS n;rw[m]at r;cases r
 have A:(ο v fn pos es)[i-t.size]?=U op:=by rw[Array.getElem?_append]at m;simpa[ZJ.2 C]using m
 rw[Yj,Array.getElem?_map]at A;obtain⟨e,d,rfl⟩:=ω.1 A;have E:i-t.size<=es.size:=by
  obtain L|L:=YQ (i-t.size) es.size
  omega;rw[Zp L]at d;cases d
 obtain h0|⟨⟨ad,wr,rfl⟩,hd⟩:=s _ e d
 simp only at c;rw[h0]at c;cases c;have G:=(k _ (ZU d) x c<|o _ (ZU d) x c).2;obtain l|⟨g2,hg2,hdf⟩:=l
 exact l G;have F:g2=v:=by simp[Zc,m]at hg2;exact hg2.symm
 subst F;have:=deaf_inside t g2 fn pos es (i-t.size) E;rw[show t.size+(i-t.size)=i by omega,hdf]at this;omega;rw[Ze t P _ gu];exact h.hears;obtain⟨e,d,rfl⟩:=φ f;exact T e d
section
def CD.qu(D:CD)(j:Nat)(s':St)(X':Nat->Prop)(l' k' z':Nat)(h':Sh)(wk:Bool)(f':Nat->Nat):CD:={D with st:=upd D.st j s',X:=upd D.X j X',l:=upd D.l j l',kk:=upd D.kk j k',zz:=upd (λa=>if wk then 1 else D.zz a) j z',z:=if wk then 1 else D.z,h:=h',f:=upd D.f j f'}
section
variable{K:PC}{w0 w w':ξ}{D:CD}{gs:Array R}{t:Yv}{j:Nat}{dn:Bool}{s':St}{X':Nat->Prop}{l' k' z':Nat}{h':Sh}{g g':R}{es:Array ZH}{f':Nat->Nat}
def Bk(c:j<D.r){wk}(b:cu s'=(cu (D.st j)||(dn&&ez (D.st j))))(i):(if(dn=I/\ez (D.st j)=I)/\i=j then K.ev j else valOf K D i)=valOf K (D.qu j s' X' l' k' z' h' wk f') i:=by
 show(if(dn=I/\ez (D.st j)=I)/\i=j then K.ev j else if i<D.r/\cu (D.st i)=I then K.ev i else 0)=(if i<D.r/\cu (upd D.st j s' i)=I then K.ev i else 0);by_cases a:i=j
 subst a;simp only[upd_same]
 grind
 rw[if_neg (λh=>a h.2)];simp only[upd_ne _ _ a]
def M0(A:dX K)(C:CW K w0 D w)(S:j<D.r){wk}(F:uz K j dn (D.st j) s' (D.X j) X' h' (valOf K D) w w')(hp:cu s'=(cu (D.st j)||(dn&&ez (D.st j))))(hl:l'<=D.l j)(h4:4<=l'->X'=D.X j)(hf1:D.st j=.pv->s'≠.pv->(∀x,X' x->∃i,i<K.C/\x=f' i)/\l'<=2)(hf2:¬(D.st j=.pv/\s'≠.pv) ->f'=D.f j)(hpl:D.st j=.pv->2<D.l j):CW K w0 (D.qu j s' X' l' k' z' h' wk f') w':=by
 have W:=C.at_;have hsz:=W.size;have H:∀x,D.X j x->K.B0+5<=x:=λx t=>(C.xr j x t).2.1;have keep:∀x,x<w.heap.size->x≠K.B0+1->x≠K.B0+3->x≠K.B0+4->¬D.X j x->w'.heap[x]?=w.heap[x]?:=λx B z h3 h4 h5=>F.others x B z h3 h4 λ_=>h5;have u:∀x,x<w.heap.size->(∀k,¬D.X k x) ->∀k,¬upd D.X j X' k x:=by
  intro x t hn k n;by_cases d:k=j
  subst d;rw[upd_same]at n;have:=(F.fresh x n<|hn k).1;omega;rw[upd_ne _ _ d]at n;exact hn k n
 have Q:=C.zs;refine⟨F.tape.trans C.tape,F.output.trans C.output,C.os.trans F.os,⟨by have:=F.size;omega,λb hb=>?_,?_,?_,?_,F.sh⟩,λk n=>?_,?_,C.hz,⟨Q.1,by have:=F.size;exact Zm Q.2 this⟩,λk n=>?_,λh=>?_,λh=>?_,λk x t=>?_,λk L x B z=>?_,λk n y=>?_,λx J G=>?_,λx J G=>?_⟩;rw[keep b (by omega) (by omega) (by omega) (by omega) λh=>by have:=H b h;omega];exact W.low b hb;rw[keep K.B0 (by omega) (by omega) (by omega) (by omega) λh=>by have:=H K.B0 h;omega];exact W.gb;obtain⟨cs,B,z,h3⟩:=F.er;exact⟨cs,B,z,λi hi=>by rw[h3 i hi,Bk S hp]⟩;rw[keep (K.B0+2) (by omega) (by omega) (by omega) (by omega) λh=>by have:=H (K.B0+2) h;omega];exact W.eb;obtain⟨b1,b2⟩:=C.box k n;obtain⟨q1,p,v,q4,q5⟩:=C.hz k n;obtain⟨n1,n2⟩:=C.Bj k n j;exact⟨by show w'.heap[D.ib k]?=_;rw[keep (D.ib k) (by omega) (by omega) (by omega) (by omega) n1];exact b1,by show w'.heap[D.cb k]?=_;rw[keep (D.cb k) (by omega) (by omega) (by omega) (by omega) n2];exact b2⟩;refine MZ C.Hd (λh=>?_) λh=>?_
 ·obtain⟨q1,p,v⟩:=C.hi h;exact keep D.i (by omega) (by omega) (by omega) (by omega)<|v j
 obtain⟨q1,p,_,v⟩:=C.hc h;exact keep D.c (by omega) (by omega) (by omega) (by omega)<|v j;obtain⟨q1,p,v,q4,q5⟩:=C.hz k n;have hb:=C.Bj k n
 exactλL=>⟨u _ (by show D.ib k<_;omega) (λm=>(hb m).1) L,u _ (by show D.cb k<_;omega) (λm=>(hb m).2) L⟩
 obtain⟨q1,p,v⟩:=C.hi h;exact⟨q1,κ p F.size,u _ p v⟩;obtain⟨q1,p,v,q4⟩:=C.hc h;exact⟨q1,κ p F.size,v,u _ p q4⟩;have t:upd D.X j X' k x:=t;by_cases d:k=j
 subst d;rw[upd_same]at t;by_cases P:D.X k x
 obtain⟨q1,p,v⟩:=C.xr k x P;exact⟨q1,p,κ v F.size⟩;obtain⟨q1,p⟩:=F.fresh x t P;exact⟨S,by omega,p⟩;rw[upd_ne _ _ d]at t;obtain⟨q1,p,v⟩:=C.xr k x t;exact⟨q1,p,κ v F.size⟩;have B:upd D.X j X' k x:=B;have z:upd D.X j X' L x:=z;have O:∀{a b:Nat},a=j->b≠j->upd D.X j X' a x->upd D.X j X' b x->a=b:=by
  intro a b ha hb p1 p2;subst ha;rw[upd_same]at p1;rw[upd_ne _ _ hb]at p2;by_cases P:D.X a x
  exact C.xd _ _ _ P p2;have:=(F.fresh x p1 P).1;have:=(C.xr _ _ p2).2.2;omega
 by_cases e1:k=j<;>by_cases e2:L=j
 rw[e1,e2];exact O e1 e2 B z;exact(O e2 e1 z B).symm;rw[upd_ne _ _ e1]at B;rw[upd_ne _ _ e2]at z;exact C.xd _ _ _ B z;have y:4<=upd D.l j l' k:=y;show upd D.X j X' k=_;by_cases d:k=j
 subst d;rw[upd_same]at y⊢;rw[h4 y];exact C.x4 k n (by omega);rw[upd_ne _ _ d]at y⊢;exact C.x4 k n y;show(∃k,k<D.r/\upd D.st j s' k=.pv/\upd D.X j X' k x)\/_;have o:D.st j=.pv->X' x->(∃k,k<D.r/\upd D.st j s' k=.pv/\upd D.X j X' k x)\/∃cs e f,w'.heap[x]?=U (.cells cs e f)/\K.TT e:=by
  intro g t;by_cases hs:s'=.pv
  exact .inl ⟨j,S,by rw[upd_same];exact hs,by rw[upd_same];exact t⟩;exact .inr<|F.rows g hs x t
 by_cases E:x<w.heap.size
 obtain⟨k,n,g,N⟩|⟨cs,e,f,hc,hT⟩:=C.rows x J E
 ·by_cases d:k=j
  ·subst d;exact o g<|F.grow x N
  exact .inl ⟨k,n,by rw[upd_ne _ _ d];exact g,by rw[upd_ne _ _ d];exact N⟩
 by_cases hm:D.st j=.pv/\D.X j x
 ·exact o hm.1<|F.grow x hm.2
 exact .inr ⟨cs,e,f,by rw[F.others x E (by omega) (by omega) (by omega) λB z=>hm ⟨B,z⟩];exact hc,hT⟩;have q:=F.full x (by omega) G;by_cases g:D.st j=.pv
 exact o g q;rw[F.keep g]at q;have:=(C.xr _ _ q).2.2;omega;show(∃k,k<D.r/\upd D.st j s' k=.pv/\upd D.X j X' k x)\/(∃k,k<D.r/\upd D.l j l' k<=2/\∃i,i<K.C/\x=upd D.f j f' k i)\/(∃k,k<D.r/\(x=D.ib k\/x=D.cb k))\/(nW D.s=I/\x=D.i)\/(pc D.s=I/\x=D.c);have o:D.st j=.pv->X' x->(∃k,k<D.r/\upd D.st j s' k=.pv/\upd D.X j X' k x)\/(∃k,k<D.r/\upd D.l j l' k<=2/\∃i,i<K.C/\x=upd D.f j f' k i)\/(∃k,k<D.r/\(x=D.ib k\/x=D.cb k))\/(nW D.s=I/\x=D.i)\/(pc D.s=I/\x=D.c):=by
  intro g t;by_cases hs:s'=.pv
  exact .inl ⟨j,S,by rw[upd_same];exact hs,by rw[upd_same];exact t⟩;obtain⟨q1,p⟩:=hf1 g hs;exact .inr<|.inl ⟨j,S,by rw[upd_same];exact p,by rw[upd_same];exact q1 x t⟩
 by_cases E:x<w.heap.size
 obtain⟨k,n,g,N⟩|⟨k,n,hl2,i,hi,T⟩|h:=C.who x J E
 ·by_cases d:k=j
  ·subst d;exact o g<|F.grow x N
  exact .inl ⟨k,n,by rw[upd_ne _ _ d];exact g,by rw[upd_ne _ _ d];exact N⟩
 refine .inr<|.inl ⟨k,n,?_,i,hi,?_⟩
 ·by_cases d:k=j
  ·subst d;rw[upd_same];omega
  rw[upd_ne _ _ d];exact hl2
 by_cases d:k=j
 ·subst d;rw[upd_same,hf2 (λh=>by have:=hpl h.1;omega)];exact T
 rw[upd_ne _ _ d];exact T;exact .inr<|.inr h;have q:=F.full x (by omega) G;by_cases g:D.st j=.pv
 exact o g q;rw[F.keep g]at q;have:=(C.xr _ _ q).2.2;omega
def M2(A:dX K)(C:CN K D)(d:j<D.r){wk}(P:PgF K D j dn s' h' l' k' z' g g')(hw:wk=dY g g'):CN K (D.qu j s' X' l' k' z' h' wk f'):=by
 refine⟨C.rn,C.inr,C.out,P.gi,λk c=>?_,P.wg,C.mf,λh=>?_,λh=>?_,λk c h=>?_⟩;show rG K.n (upd D.st j s' k);simp only[upd];split
 exact P.vM;exact C.vM k c;have:=C.gone h;have:=P.k;show h'.k=0;omega;have h:=h;cases hwk:wk with
 |true=>rw[hwk]at h;cases h
 |false=>rw[hwk]at h hw;have:=C.zs h;have:=(P.wake hw.symm).2;show h'.ws=0;omega
 have h:upd (λa=>if wk then 1 else D.zz a) j z' k=0:=h;show h'.ms=0;by_cases b:k=j
 subst b;rw[upd_same]at h;exact P.z h;rw[upd_ne _ _ b]at h;cases hwk:wk with
 |true=>rw[hwk]at h;cases h
 |false=>rw[hwk]at h hw;have:=C.zw k c h;have:=(P.wake hw.symm).1;omega
def ll(C:CN K D)(h:D.s=.mq .kI)(a:j<D.r):D.st j=.gn\/D.st j=.gx\/D.st j=.fin:=by
 have f:=C.gone (by rw[h];rfl);have b:=C.wg;have e:nG (D.st j)=0:=by have:=b.k;have:=gj (F:=nG) (st:=D.st) a;omega
 have hi:=b.idle (by rw[h];rfl);have d:=gj (F:=nL) (st:=D.st) a;have c:=gj (F:=nM) (st:=D.st) a;cases hs:D.st j<;>rw[hs]at e d c<;>first|(simp[nG]at e;done)|(simp[nL]at d;omega)|(simp[nM]at c;omega)|simp
def M3(A:dX K)(C:CI K w0 D gs w t)(J:j<D.r){wk}(F:uz K j dn (D.st j) s' (D.X j) X' h' (valOf K D) w w')(E:Va K j (D.ib j) (D.cb j) dn (D.st j) s' X' w' es)(P:PgF K D j dn s' h' l' k' z' g g')(C':CW K w0 (D.qu j s' X' l' k' z' h' wk f') w')(fn pos):
 CT K (D.qu j s' X' l' k' z' h' wk f') w'.heap.size (t++ο (K.p0+j) fn pos es):=by
 have hpos:=A.pos;have G:=C.ct;have q:∀k,k≠K.p0+j->Zk (t++ο (K.p0+j) fn pos es) k=Zk t k:=λk s=>Ze t (Ne.symm s) _ gu;have dj:=G.dw j J;have own:Zk (t++ο (K.p0+j) fn pos es) (K.p0+j)=deaf s':=by rw[Deaf_own,dj];exact E.dfb
 have L:∀op∈ο (K.p0+j) fn pos es,op.act.low w'.heap.size:=λop p=>by obtain⟨e,c,rfl⟩:=φ p;exact E.low e c
 obtain⟨z1,z2,z3,z4,z5⟩:=C.cw.hz j J;have hzs:=C.cw.zs;have N:=C'.Bj j J;have okw:∀op∈ο (K.p0+j) fn pos es,OkW K.Shun K.ic (K.Own (D.qu j s' X' l' k' z' h' wk f').X) K.p0 D.H j op:=by
  intro op p;obtain⟨e,c,rfl⟩:=φ p;refine⟨rfl,λx f d=>?_⟩;obtain h1|⟨h1,B⟩|⟨h1,B,h3⟩:=E.ok e c x f d
  exact .inl h1;refine .inr<|.inl ⟨h1,?_⟩;obtain B|B:=B
  exact .inl ⟨B,κ J C.cn.rn⟩;refine .inr ⟨d,?_⟩;show upd D.X j X' j _;rw[upd_same];exact B;refine .inr<|.inr ⟨h1,B,?_,λhs=>?_,λhs=>?_,λk s=>?_⟩
  ·obtain⟨h3,_⟩|h3|h3|h3|h3:=h3<;>omega
  obtain⟨a,ha,hb⟩:=hs;rw[ha]at h3;simp only[blk]at h3;obtain⟨h3,_⟩|h3|h3|h3|h3:=h3<;>omega
  have O:K.S (blk x.loc):=by
   cases hl:x.loc with
   |cell a=>rw[hl]at hs;exact hs
   |obj r=>rw[hl]at hs;exact hs
   |_=>rw[hl]at hs;exact hs.elim
  have:=A.SB _ O;obtain⟨_,h3⟩|h3|h3|h3|h3:=h3
  exact h3 O;omega;omega;omega;omega
  ·obtain e1|e1:=gw s
   ·rw[e1]at h3;simp only[blk]at h3;obtain⟨h3,_⟩|h3|h3|h3|h3:=h3<;>omega
   have hx5:=(C'.xr k _ e1).2.1;obtain⟨h3,_⟩|h3|h3|h3|h3:=h3
   omega;omega;omega;rw[h3]at e1;exact(N k).1 e1;rw[h3]at e1;exact(N k).2 e1
 refine⟨?_,λk s=>?_,λk s=>?_,λhs=>?_,λhs=>?_⟩;rw[q 0 (by omega)];exact G.d0;show _=deaf (upd D.st j s' k);by_cases b:k=j
 subst b;rw[upd_same];exact own;rw[q _ (by omega),upd_ne _ _ b];exact G.dw k s;have s:K.p0+D.r<=k:=s;rw[q _ (by omega)];exact G.dz k s;obtain⟨t1,t2,t3⟩:=G.ti hs;refine⟨?_,λk s v=>?_,t3.app λop p d=>?_⟩;have g1:TI K.Shun K.ic (K.Own (D.qu j s' X' l' k' z' h' wk f').X) K.p0 D.r D.Z D.H w.heap.size t:=by
  refine t1.grow (λk l o=>?_) λk l o=>?_;refine o.imp id λo=>⟨o.1,?_⟩;show upd D.X j X' k _;by_cases b:k=j
  subst b;rw[upd_same];exact F.grow _ o.2;rw[upd_ne _ _ b];exact o.2;obtain o|⟨d,o⟩:=o
  ·exact .inl<|.inl o
  have o:upd D.X j X' k (blk l):=o;by_cases b:k=j
  subst b;rw[upd_same]at o;by_cases f:D.X k (blk l)
  exact .inl<|.inr ⟨d,f⟩;exact .inr (F.fresh _ o f).1;rw[upd_ne _ _ b]at o;exact .inl<|.inr ⟨d,o⟩
 exact(g1.mono F.size).appW (fam A C') J okw L
 ·have v:dC (upd D.st j s' k)=I:=v;by_cases b:k=j
  subst b;rw[upd_same,P.rel]at v;cases h1:dC (D.st k)with
  |true=>obtain⟨i,hi⟩:=t2 k s h1;exact⟨i,hi.appOwn fn pos es λn e c=>by rw[dj];exact E.after h1 n e c⟩
  |false=>
   rw[h1]at v;simp only[Bool.false_or,Y7]at v;have hg:D.st k=.gr:=by have:=v.2;cases hs:D.st k<;>rw[hs]at this<;>first|rfl|cases this
   rw[(E.rel v.1 hg)];exact⟨_,RelBy.new (by rw[dj,hg];rfl) fn pos⟩
  rw[upd_ne _ _ b]at v;obtain⟨i,hi⟩:=t2 k s v;exact⟨i,hi.appOther gu<|by omega⟩
 obtain⟨e,c,rfl⟩:=φ p;refine E.norel e c ?_;obtain⟨loc,wr,sy⟩:=e;cases loc with
 |mark m=>simp only[Δ,MemAct.mark.injEq]at d;rw[d]
 |obj r=>cases wr<;>cases sy<;>cases d
 |_=>first|cases d|(simp[Δ]at d)
 ·obtain⟨t1,t2⟩:=G.pa hs;have hrel:dC (D.st j)=I:=by obtain h|h|h:=ll C.cn hs J<;>rw[h]<;>rfl
  have W:=E.after hrel;have u:∀e∈es,∀x,(Δ e).touch?=U x->x.loc.isMemory=I->K.ic x.loc/\x.kind=.atomic:=by
   intro e c x f d;obtain h1|⟨h1,_⟩|⟨h1,_⟩:=E.ok e c x f d
   exact h1
   all_goals
    exfalso;obtain⟨n,hn⟩:=YX.1 c;obtain h0|⟨⟨ad,wr,rfl⟩,_⟩:=W n e hn
    rw[h0]at f;cases f;simp only[Δ,Z9,ZY]at f;subst f;exact h1 rfl
  refine⟨?_,λi x f T=>?_⟩;refine Er (g:=K.p0+j) (t1.mono F.size) (by omega) (λi x f c d=>?_) (by rw[dj];exact W) (λe c x f d=>⟨.inr (u e c x f d).1,(u e c x f d).2⟩) E.low;obtain⟨e,c,y,hy,Q⟩:=c;exact t2 i x f<|Q▸(u e c y hy<|Q▸d).1;obtain⟨_,z⟩|⟨op,p,z,_⟩:=cc f
  ·exact t2 i x z T
  obtain⟨e,c,rfl⟩:=φ p;obtain⟨a,ha,_⟩:=T;rw[(u e c x z (by rw[ha];rfl)).2];simp
def M4(b:j<D.r){wk}(P:PgF K D j dn s' h' l' k' z' g g')(hw:wk=dY g g'):vN (mu K<|D.qu j s' X' l' k' z' h' wk f') (mu K D):=by
 have e:∀(f:Nat->Nat) (x:Nat),sumTo D.r (upd f j x)+f j=sumTo D.r f+x:=λf x=>C8 b;refine .inr ⟨rfl,?_⟩;show sumTo D.r (upd D.l j l')<_\/(sumTo D.r (upd D.l j l')=_/\(meas D.r (upd D.st j s') h'+rM h' D.s<_\/(meas D.r (upd D.st j s') h'+rM h' D.s=_/\(sumTo D.r (upd D.kk j k')+D.k+sumTo K.p0 D.q<_\/(sumTo D.r (upd D.kk j k')+D.k+sumTo K.p0 D.q=_/\sumTo D.r (upd (λa=>if wk then 1 else D.zz a) j z')+(if wk then 1 else D.z)<_)))));have c:=e D.l l';have d:=e D.kk k';show _<sumTo D.r D.l\/(_=sumTo D.r D.l/\(_<meas D.r D.st D.h+rM D.h D.s\/(_=meas D.r D.st D.h+rM D.h D.s/\(_<sumTo D.r D.kk+D.k+sumTo K.p0 D.q\/(_=sumTo D.r D.kk+D.k+sumTo K.p0 D.q/\_<sumTo D.r D.zz+D.z)))));obtain h1|⟨h1,h2,h3⟩|⟨h1,h2,h3,h4⟩:=P.low
 exact .inl (by omega);rw[adK h2];exact .inr ⟨by omega,.inl<|by omega⟩;subst h2 h3;rw[JH];refine .inr ⟨by omega,.inr ⟨rfl,?_⟩⟩;obtain h4|⟨h4,h5,h6⟩:=h4
 exact .inl (by omega);rw[<-hw]at h6;subst h6
 grind
def yM(A:dX K)(C:CI K w0 D gs w t)(m:j<D.r)(hg:gs[K.p0+j]?=U g)(hr:g.status=.running)(d):
 ∃D' g' w' es,stepG P0 V g (w.at d)=.go g' w' es/\CI K w0 D' ((gs.map<|woken P0 g g' w').setIfInBounds (K.p0+j) g') w' (t++ο (K.p0+j) g.frame.fn g.frame.place es)/\vN (mu K D') (mu K D):=by
 obtain⟨g1,O,v⟩:=C.wk j m;rw[hg]at O;cases O
 have hpos:=A.pos;have n:=C.cw.at d;have hzj:=C.cw.hz j m;have hzs:=C.cw.zs;have wW:=C.cn.gi.wW;have J:=C.cn.rn;have hnB:=A.nB;have S:=C.cn.wg;have e:∀F:St->Nat,cnt D.r F D.st-F (D.st j)+F (D.st j)=cnt D.r F D.st:=λF=>Yr<|gj m;have hk:D.h.k<1073741824:=by
  have p:=S.k;have q:cnt D.r nG D.st<=D.r*1:=mV λi hi=>by cases D.st i<;>simp[nG]
  have h3:xa D.s<=1:=by cases D.s with
   |ad t=>cases t<;>simp[xa]
   |_=>simp[xa]
  omega
 have W:D.h.ws<1000:=by
  cases hwa:wa D.s with
  |false=>have:=S.idle hwa;omega
  |true=>have:=S.wait hwa;omega
 obtain⟨dn,z,Q,T,N,L,h',g',w',es,hst,c,F,E,pg,h4⟩:=Eo A (κ m J) n.at_ (λx o=>(C.cw.xr j x o).2.1) (n.box j m) (by omega:D.ib j<w.heap.size) (by omega:D.cb j<w.heap.size) (λh=>C.cw.x4 j m h) (v.at d) hr
  (C.cn.gi.inv m) (C.cn.gi.loc j m) (C.cn.vM j m) hnB (Zm wW.1 J) wW.2 (by rw[e nG,e nL,e nM];exact S) hk W
 have hnw:g'.status≠.waiting:=by
  obtain h|h|h:=c.status
  rw[h.1];simp;rw[h.1];simp;rw[h.1];simp
 have P:=He C.cn m pg hnw;have hf:∃H:Nat->Nat,(D.st j=.pv->z≠.pv->∀x,Q x->∃i,i<K.C/\x=H i)/\(¬(D.st j=.pv/\z≠.pv) ->H=D.f j):=by
  by_cases h:D.st j=.pv/\z≠.pv
  obtain⟨H,hf'⟩:=F.enum h.1 h.2;exact⟨H,λ_ _=>hf',λhn=>absurd h hn⟩;exact⟨D.f j,λp q=>absurd ⟨p,q⟩ h,λ_=>rfl⟩
 obtain⟨H,hf1,hf2⟩:=hf;have hl2:D.st j=.pv->z≠.pv->T<=2:=by
  intro p q;obtain⟨_,h,_⟩|⟨_,o,_⟩|⟨_,_,_,_,h|h|⟨_,h⟩⟩:=pg
  exact absurd (h.trans p) q;rw[p]at o;exact o.elim;rw[p]at h;cases h.1;rw[p]at h;cases h.1;obtain h|h:=h
  ·exact absurd h q
  rw[c.lv3.2 h];exact .refl
 have u:=M0 (wk:=dY g g') (k':=N) (z':=L) A n m F P.GZ P.le h4 (λp q=>⟨hf1 p q,hl2 p q⟩) hf2 v.lv3.1;refine⟨D.qu j z Q T N L h' (dY g g') H,g',w',es,hst,⟨?_,?_,λi x h0 hi o=>?_,λi hi=>?_,u,M2 A C.cn m P rfl,M3 (w:=w.at d) A ⟨C.size,C.g0,C.old,λi hi=>?_,n,C.cn,C.ct⟩ m F E P u _ _⟩,M4 m P rfl⟩;simp only[Z4,Y5];exact C.size;obtain⟨g0,h0,hs0⟩:=C.g0;exact⟨_,by rw[fw (by omega),h0];rfl,hs0.woken⟩;rw[fw (by omega)]at o;obtain⟨y,hy,rfl⟩:=ω.1 o;have hq:=C.old i y h0 hi hy;rw[Yq hq,Ze t (by omega:K.p0+j≠i) _ gu];exact hq;have hi:=hi;by_cases B:i=j
 subst B;refine⟨g',pd (by rw[C.size];omega),?_⟩;show WSit K i (K.wp (D.ib i)<|D.cb i) (upd D.st i z i) (upd D.X i Q i) (upd D.l i T i) (upd D.kk i N i) (upd (λa=>if dY g g' then 1 else D.zz a) i L i) g' w';simp only[upd_same];exact c;obtain⟨x,o,G⟩:=C.wk i hi;refine⟨_,by rw[fw (by omega),o];rfl,?_⟩;show WSit K i (K.wp (D.ib i)<|D.cb i) (upd D.st j z i) (upd D.X j Q i) (upd D.l j T i) (upd D.kk j N i) (upd (λa=>if dY g g' then 1 else D.zz a) j L i) (Y6 P0 g g' w' x) w';simp only[upd_ne _ _ B];refine((G.at d).woken (a:=g) (a':=g') (w':=w')).others F.size (λb hb=>?_) λhp b hb=>?_;have hsz:=n.at_.size;exact F.others b (by omega) (by omega) (by omega) (by omega) λ_ h=>by have:=(C.cw.xr _ _ h).2.1;omega
 obtain⟨q1,q2,q3⟩:=C.cw.xr _ _ hb;exact F.others b q3 (by omega) (by omega) (by omega) λ_ h=>B<|C.cw.xd _ _ _ hb h;obtain⟨x,o,G⟩:=C.wk i hi;exact⟨x,o,G.at d⟩
end
end
section
def CD.tick(D:CD)(s':cZ)(i' c' k' z':Nat)(h':Sh)(wk:Bool):CD:={D with s:=s',i:=i',c:=c',k:=k',z:=z',h:=h',zz:=λa=>if wk then 1 else D.zz a}
section
variable{K:PC}{w0 w w':ξ}{D:CD}{gs:Array R}{t:Yv}{dn:Bool}{s':cZ}{i' c' k' z':Nat}{h':Sh}{g g':R}{es:Array ZH}{wk:Bool}
def Hf{s s' h h'}(a:QT s h s' h')(hi:nW s'=I):nW s=I\/s=.k9:=by
 cases s with
 |k9=>exact .inr rfl
 |vL=>exact .inl rfl
 |iJ=>exact .inl rfl
 |iK=>exact .inl rfl
 |ad t=>exact .inl rfl
 |mq t=>obtain⟨b,rfl,_⟩:=a;cases hi
 |OY=>obtain⟨rfl,_⟩:=a;cases hi
 |KQ=>obtain⟨rfl,_⟩:=a;cases hi
def Hg{s s' h h'}(a:QT s h s' h')(hi:pc s'=I):pc s=I\/s=.vL:=by
 cases s with
 |k9=>obtain⟨rfl,_⟩:=a;cases hi
 |vL=>exact .inr rfl
 |iJ=>exact .inl rfl
 |iK=>exact .inl rfl
 |ad t=>exact .inl rfl
 |mq t=>obtain⟨b,rfl,_⟩:=a;cases hi
 |OY=>obtain⟨rfl,_⟩:=a;cases hi
 |KQ=>obtain⟨rfl,_⟩:=a;cases hi
def Es{s s' h h'}(a:QT s h s' h')(hi:nW s=I):nW s'=I:=by
 cases s with
 |vL=>obtain⟨rfl,_⟩:=a;rfl
 |iJ=>obtain⟨rfl,_⟩:=a;rfl
 |iK=>obtain⟨rfl,_⟩:=a;rfl
 |ad t=>obtain⟨b,rfl,_⟩:=a;rfl
 |_=>cases hi
def Et{s s' h h'}(a:QT s h s' h')(hi:pc s=I):pc s'=I:=by
 cases s with
 |iJ=>obtain⟨rfl,_⟩:=a;rfl
 |iK=>obtain⟨rfl,_⟩:=a;rfl
 |ad t=>obtain⟨b,rfl,_⟩:=a;rfl
 |_=>cases hi
def C9(d:SPg dn D.s s' D.h h' D.i i' D.c c' D.k k' D.z z' g'):h'.mu=D.h.mu/\h'.ms=D.h.ms/\Au s'=Au D.s/\h'.ws<=D.h.ws/\(iE D.s->iE s')/\(s'=.mq .kI->D.s=.mq .kI\/(dn=I/\∃t,D.s=.mq t/\(t=.Bd\/t=.yq)))/\
 (dn=V->s'=D.s/\h'=D.h/\i'=D.i/\c'=D.c)/\(dn=I->QT D.s D.h s' h'/\z'=1):=by
 obtain⟨rfl,rfl,rfl,rfl,rfl,_⟩|⟨rfl,a,rfl⟩:=d
 simp;obtain⟨q1,l,n,e,m,f,q7⟩:=pb a;refine⟨q1,l,e,m,f,λh=>.inr ⟨rfl,?_⟩,(λh=>by cases h),λ_=>⟨a,rfl⟩⟩;subst h;cases hs:D.s with
 |mq t=>rw[hs]at a;obtain⟨g,b,a⟩:=a;exact⟨t,rfl,Hb a (cZ.mq.inj b).symm⟩
 |ad t=>rw[hs]at a;obtain⟨g,b,a⟩:=a;cases b
 |_=>rw[hs]at a;obtain⟨j,_⟩:=a;cases j
def M5(A:dX K)(C:CW K w0 D w)(F:SFx K D.r D.i D.c i' c' dn D.s s' h' w w')(O:SPg dn D.s s' D.h h' D.i i' D.c c' D.k k' D.z z' g'):CW K w0 (D.tick s' i' c' k' z' h' wk) w':=by
 have W:=C.at_;have N:=W.size;obtain⟨p1,p2,Q,T,S,p6,B,v⟩:=C9 O;have l:=C.zs;have keep:∀x,x<D.Z->x≠K.B0+3->x≠K.B0+4->w'.heap[x]?=w.heap[x]?:=λx t m h3=>F.others x (by omega) m h3 (λ_ h=>by have:=(λh=>(C.hi (by rw[h];rfl)).1) h;omega) (λ_ h=>by have:=(λh=>(C.hc (by rw[h];rfl)).1) h;omega);refine⟨F.tape.trans C.tape,F.output.trans C.output,C.os.trans F.os,⟨by have:=F.size;omega,λb hb=>?_,?_,?_,?_,F.sh⟩,λk d=>?_,F.box,C.hz,⟨l.1,Zm l.2 F.size⟩,C.Bj,λh=>?_,λh=>?_,λk x g=>?_,C.xd,C.x4,λx o u=>?_,λx o u=>?_⟩;rw[keep b (by omega) (by omega) (by omega)];exact W.low b hb;rw[keep K.B0 (by omega) (by omega) (by omega)];exact W.gb;obtain⟨cs,t,m,h3⟩:=W.er;exact⟨cs,by rw[keep (K.B0+1) (by omega) (by omega) (by omega)];exact t,m,h3⟩;rw[keep (K.B0+2) (by omega) (by omega) (by omega)];exact W.eb;obtain⟨L,P⟩:=C.box k d;obtain⟨q1,q,n,J,q5⟩:=C.hz k d;exact⟨by show w'.heap[D.ib k]?=_;rw[keep _ (by omega) (by omega) (by omega)];exact L,by show w'.heap[D.cb k]?=_;rw[keep _ (by omega) (by omega) (by omega)];exact P⟩;have h:=h;show D.Z<=i'/\i'<w'.heap.size/\∀k,¬D.X k i';obtain⟨rfl,p⟩|⟨hd,d,rfl,hs⟩:=F.bi
 have H:nW D.s=I:=by
  cases hd:dn with
  |false=>rw[(B hd).1]at h;exact h
  |true=>exact(Hf (v hd).1 h).resolve_right<|p hd
 obtain⟨q1,q,n⟩:=C.hi H;exact⟨q1,κ q F.size,n⟩
 ·exact⟨l.2,by omega,λk d=>by have:=(C.xr _ _ d).2.2;omega⟩
 have h:=h;show D.Z<=c'/\c'<w'.heap.size/\i'≠c'/\∀k,¬D.X k c';obtain⟨rfl,p⟩|⟨hd,d,rfl,hs⟩:=F.bc
 have E:pc D.s=I:=by
  cases hd:dn with
  |false=>rw[(B hd).1]at h;exact h
  |true=>exact(Hg (v hd).1 h).resolve_right<|p hd
 obtain⟨q1,q,n,J⟩:=C.hc E;refine⟨q1,κ q F.size,?_,J⟩;obtain⟨e,_⟩|⟨_,d,_⟩:=F.bi
 rw[e];exact n;rw[d]at E;cases E
 ·have H:nW D.s=I:=by rw[d];rfl
  obtain⟨q1,q,n⟩:=C.hi H;refine⟨l.2,by omega,?_,λk d=>by have:=(C.xr _ _ d).2.2;omega⟩;obtain⟨e,_⟩|⟨_,G,_⟩:=F.bi
  omega;rw[G]at d;cases d
 obtain⟨q1,q,n⟩:=C.xr k x g;exact⟨q1,q,κ n F.size⟩;by_cases j:x<w.heap.size
 ·by_cases t:dn=I/\D.s=.iJ/\x=D.i
  ·exact .inr<|F.adG x t.1<|.inl t.2
  by_cases m:dn=I/\D.s=.iK/\x=D.c
  ·exact .inr<|F.adG x m.1<|.inr m.2
  obtain h|⟨cs,e,f,hc,hT⟩:=C.rows x o j
  ·exact .inl h
  exact .inr ⟨cs,e,f,by rw[F.others x j (by omega) (by omega) (λa b g=>t ⟨a,b,g⟩) (λa b g=>m ⟨a,b,g⟩)];exact hc,hT⟩
 exact .inr<|F.rows x (by omega) u;show _\/_\/_\/(nW s'=I/\x=i')\/(pc s'=I/\x=c');have y:dn=V\/dn=I:=by cases dn<;>simp
 by_cases j:x<w.heap.size
 obtain h|h|h|⟨h,g⟩|⟨h,g⟩:=C.who x o j
 ·exact .inl h
 exact .inr<|.inl h;exact .inr<|.inr<|.inl h;refine .inr<|.inr<|.inr<|.inl ?_;obtain⟨e,_⟩|⟨_,d,_⟩:=F.bi
 refine⟨?_,by rw[e];exact g⟩;obtain hd|hd:=y
 rw[(B hd).1];exact h;exact Es (v hd).1 h;rw[d]at h;cases h;refine .inr<|.inr<|.inr<|.inr ?_;obtain⟨e,_⟩|⟨_,d,_⟩:=F.bc
 refine⟨?_,by rw[e];exact g⟩;obtain hd|hd:=y
 rw[(B hd).1];exact h;exact Et (v hd).1 h;rw[d]at h;cases h;obtain⟨hd,d⟩:=F.only (by omega);have g:=(v hd).1;obtain d|d:=d
 refine .inr<|.inr<|.inr<|.inl ?_;obtain⟨_,p⟩|⟨_,_,e1,e2⟩:=F.bi
 exact absurd d<|p hd;rw[d]at g;obtain⟨rfl,_⟩:=g;exact⟨rfl,by omega⟩;refine .inr<|.inr<|.inr<|.inr ?_;obtain⟨_,p⟩|⟨_,_,e1,e2⟩:=F.bc
 exact absurd d<|p hd;rw[d]at g;obtain⟨rfl,_⟩:=g;exact⟨rfl,by omega⟩
def Vh{h h'}(e:h'.mu=h.mu){s}(a:aaA h s):aaA h' s:=by
 cases s with
 |a1 x=>unfold aaA at a⊢;rw[e];exact a
 |_=>exact a
def M6{n st h h'}(e1:h'.mu=h.mu)(e2:h'.ms=h.ms):meas n st h'=meas n st h:=by unfold meas;rw[e1,e2]
def M7(C:CN K D)(f:SPg dn D.s s' D.h h' D.i i' D.c c' D.k k' D.z z' g')(hw:wk=dY g g'):CN K (D.tick s' i' c' k' z' h' wk):=by
 obtain⟨e,j,d,o,m,p,l,b⟩:=C9 f;have hd:dn=V\/dn=I:=by cases dn<;>simp
 refine⟨C.rn,λh=>C.inr (by rw[<-d];exact h),λh=>C.out (by rw[<-d];exact h),⟨?_,λi hi=>Vh e<|C.gi.loc i hi⟩,C.vM,?_,m C.mf,λh=>?_,λh=>?_,λk n h=>?_⟩;show ia h'.mu h'.ms _ _ _ _ _ _ _ _;rw[e,j];exact C.gi.Ee;show mW (wa s') (xa s') h' _ _ _;obtain hd|hd:=hd
 obtain⟨rfl,rfl,_⟩:=l hd;exact C.wg;exact(RZ (b hd).1 C.mf C.wg).1;have h:=h;show h'.k=0;obtain hd|hd:=hd
 obtain⟨rfl,rfl,_⟩:=l hd;exact C.gone h;obtain a|a:=(RZ (b hd).1 C.mf C.wg).2 h
 ·exact((pb (b hd).1).2.2.2.2.2.2 a<|C.gone a).2
 exact a;have h:z'=0:=h;show h'.ws=0;obtain⟨_,_,rfl,_,_,⟨_,hz⟩|⟨_,_,hz,_⟩⟩|⟨_,_,hz⟩:=f
 exact C.zs (by omega);exact hz;omega;have h:=h;show h'.ms=0;rw[j];obtain _|_:=wk
 exact C.zw k n h;cases h
def M8(A:dX K)(C:CI K w0 D gs w t)(F:SFx K D.r D.i D.c i' c' dn D.s s' h' w w')(E:SEv K D.i D.c D.s s' w' es)(pg:SPg dn D.s s' D.h h' D.i i' D.c c' D.k k' D.z z' g')(fn pos):
 CT K (D.tick s' i' c' k' z' h' wk) w'.heap.size (t++ο 0 fn pos es):=by
 have hpos:=A.pos;have N:=C.ct;obtain⟨p1,p2,p3,p4,p5,p6,p7,p8⟩:=C9 pg;have B:∀k,k≠0->Zk (t++ο 0 fn pos es) k=Zk t k:=λk q=>Ze t (Ne.symm q) _ gu;have own:Zk (t++ο 0 fn pos es) 0=mE s':=by rw[Deaf_own,N.d0];exact E.dfb
 have fm:=fam A C.cw;have L:∀op∈ο 0 fn pos es,op.act.low w'.heap.size:=λop d=>by obtain⟨e,v,rfl⟩:=φ d;exact E.low e v
 have hzs:=C.cw.zs;have H:∀x:Touch,x.loc.isMemory=I->blk x.loc<K.B0->¬K.S (blk x.loc) ->¬K.ic x.loc/\¬K.Shun x.loc:=by
  intro x y n o;refine⟨λhs=>?_,λhs=>?_⟩;obtain⟨a,ha,hb⟩:=hs;rw[ha]at n;simp only[blk]at n;omega;cases G:x.loc with
  |cell a=>rw[G]at hs o;exact o hs
  |obj r=>rw[G]at hs o;exact o hs
  |_=>rw[G]at hs;exact hs.elim
 have ok0:∀op∈ο 0 fn pos es,Ok0 K.Shun K.ic (K.Own D.X) D.Z op:=by
  intro op d;obtain⟨e,v,rfl⟩:=φ d;refine⟨rfl,λx u y=>?_⟩;have box:∀b,D.Z<=b->(∀k,¬D.X k b) ->blk x.loc=b->(¬K.ic x.loc/\¬K.Shun x.loc/\(∀k,¬K.Own D.X k x.loc)/\(x.write=I->D.Z<=blk x.loc)):=by
   intro b n o h3;refine⟨λhs=>?_,λhs=>?_,λk q=>?_,λ_=>by omega⟩;obtain⟨a,ha,hb⟩:=hs;rw[ha]at h3;simp only[blk]at h3;omega;have W:K.S (blk x.loc):=by
    cases G:x.loc with
    |cell a=>rw[G]at hs;exact hs
    |obj r=>rw[G]at hs;exact hs
    |_=>rw[G]at hs;exact hs.elim
   have:=A.SB _ W;omega
   ·obtain e1|e1:=gw q
    ·rw[e1]at h3;simp only[blk]at h3;omega
    rw[h3]at e1;exact o k e1
  obtain n|⟨n,o,h3⟩|⟨n,o⟩|⟨n,o⟩:=E.ok e v x u y
  exact .inl n;obtain⟨q1,P⟩:=H x y o h3;refine .inr ⟨q1,P,λk q=>?_,λhw=>by rw[n]at hw;cases hw⟩;obtain e1|e1:=gw q
  rw[e1]at o;simp only[blk]at o;omega;have:=(C.cw.xr k _ e1).2.1;omega;obtain⟨q1,P,q3⟩:=C.cw.hi (by rw[n];rfl);exact .inr<|box _ q1 q3 o;obtain⟨q1,P,q4,q3⟩:=C.cw.hc (by rw[n];rfl);exact .inr<|box _ q1 q3 o
 refine⟨own,λk q=>?_,λk q=>?_,λhs=>?_,λhs=>?_⟩;rw[B _ (by omega)];exact N.dw k q;have q:=q;rw[B _ (by omega)];exact N.dz k q;have hs:=hs;have J:D.s≠.mq .kI:=by
  intro h;cases hd:dn with
  |false=>exact hs<|(p7 hd).1.trans h
  |true=>have u:=(p8 hd).1;rw[h]at u;obtain⟨t',_,u⟩:=u;exact u
 obtain⟨t1,t2,T⟩:=N.ti J;refine⟨(t1.mono F.size).app0 fm ok0 L,λk q hr=>?_,T.app λop d y=>?_⟩;obtain⟨i,hi⟩:=t2 k q hr;exact⟨i,hi.appOther gu<|by omega⟩;obtain⟨e,v,rfl⟩:=φ d;refine E.norel e v ?_;obtain⟨loc,wr,sy⟩:=e;cases loc with
 |mark m=>simp only[Δ,MemAct.mark.injEq]at y;rw[y]
 |obj r=>cases wr<;>cases sy<;>cases y
 |_=>first|cases y|(simp[Δ]at y)
 have hs:s'=.mq .kI:=hs;obtain h0|⟨hd,t',ht,htt⟩:=p6 hs
 obtain⟨t1,t2⟩:=N.pa h0;have O:∀e∈es,∀x,(Δ e).touch?=U x->x.loc.isMemory=I->(K.Shun x.loc\/K.ic x.loc) ->x.kind≠.plain:=by
  intro e v x u y f;obtain n|⟨n,o,h3⟩|⟨n,o⟩|⟨n,o⟩:=E.ok e v x u y
  exact n.2;obtain⟨q1,P⟩:=H x y o h3;exact absurd f λh=>h.elim P q1;rw[h0]at n;cases n;rw[h0]at n;cases n
 have mem:∀l,(K.Shun l\/K.ic l) ->l.isMemory=I:=by
  intro l G;obtain G|⟨a,rfl,_⟩:=G
  cases l with
  |cell a=>rfl
  |obj r=>rfl
  |_=>exact G.elim
  rfl
 refine⟨(t1.mono F.size).app0 gu (λop d x u f=>?_) (by rw[own,N.d0,h0,hs]) L,λi x u f=>?_⟩;obtain⟨e,v,rfl⟩:=φ d;exact O e v x u (mem _ f) f;obtain⟨_,p⟩|⟨op,d,p,_⟩:=cc u
 ·exact t2 i x p f
 obtain⟨e,v,rfl⟩:=φ d;exact O e v x p (mem _<|.inr f)<|.inr f;have J:D.s≠.mq .kI:=by rw[ht];obtain rfl|rfl:=htt<;>simp
 obtain⟨t1,t2,T⟩:=N.ti J;have v:=E.acq hs J;subst v;have q:=C.cn.gone (by rw[ht];obtain rfl|rfl:=htt<;>rfl);have hrel:∀j,j<D.r->dC (D.st j)=I:=by
  intro j Q;have hG:=gj (F:=nG) (st:=D.st) Q;have hW:=C.cn.wg.k;have:nG (D.st j)=0:=by omega
  cases hst:D.st j<;>rw[hst]at this<;>first|rfl|cases this
 have e1:ο 0 fn pos #[mk (.acquire<|stA<|K.B0+4)]=#[{g:=0,fn,pos,act:=.mark<|.acquire<|stA<|K.B0+4}]:=by rw[Yj];simp[Go.ConcR.ofEvent_mk]
 rw[e1];have hsz:=C.cw.at_.size;refine⟨(t1.GZ fm (a:=stA<|K.B0+4) (λj Q=>t2 j Q<|hrel j Q) T (by rw[N.d0,ht];obtain rfl|rfl:=htt<;>rfl) ⟨rfl,rfl⟩ (by omega:K.B0+4<_)).mono F.size,λi x u f=>?_⟩;obtain⟨_,p⟩|⟨op,d,p,_⟩:=cc u
 exact(t1.quiet i x p f).1;simp only[ZX,Z2,ε,or_false]at d;subst d;cases p
def M9(b:SPg dn D.s s' D.h h' D.i i' D.c c' D.k k' D.z z' g')(hw:wk=dY g g'):vN (mu K<|D.tick s' i' c' k' z' h' wk) (mu K D):=by
 obtain⟨d,f,m,o,n,p,u,t⟩:=C9 b;refine .inr ⟨rfl,.inr ⟨rfl,?_⟩⟩;show meas D.r D.st h'+rM h' s'<meas D.r D.st D.h+rM D.h D.s\/(meas D.r D.st h'+rM h' s'=meas D.r D.st D.h+rM D.h D.s/\(sumTo D.r D.kk+k'+sumTo K.p0 D.q<sumTo D.r D.kk+D.k+sumTo K.p0 D.q\/(sumTo D.r D.kk+k'+sumTo K.p0 D.q=sumTo D.r D.kk+D.k+sumTo K.p0 D.q/\sumTo D.r (λa=>if wk then 1 else D.zz a)+z'<sumTo D.r D.zz+D.z)));rw[M6 d f];obtain⟨_,rfl,rfl,_,_,⟨j,e⟩|⟨j,e,h3,h4⟩⟩|⟨_,l,_⟩:=b
 omega;have:wk=V:=by rw[hw];unfold dY;rw[h4];simp
 simp_all
 ·have:=(pb l).2.2.1;exact .inl (by omega)
def vO(A:dX K)(C:CI K w0 D gs w t)(Q:gs[0]?=U g)(hr:g.status=.running)(d)(z:D.s=.ad .yt->0<D.k)(m:D.s=.mq .kI->0<D.k):
 ∃J g' w' es,stepG P0 I g (w.at d)=.go g' w' es/\CI K w0 J ((gs.map<|woken P0 g g' w').setIfInBounds 0 g') w' (t++ο 0 g.frame.fn g.frame.place es)/\vN (mu K J) (mu K D):=by
 obtain⟨g1,n,o⟩:=C.g0;rw[Q]at n;cases n
 have H:=A.pos;have c:=C.cw.at d;have hzs:=C.cw.zs;have L:=C.cn.rn;have hnB:=A.nB;have B:=C.cn.wg;have S:D.h.k<1073741823:=by
  have h1:=B.k;have h2:cnt D.r nG D.st<=D.r*1:=mV λi hi=>by cases D.st i<;>simp[nG]
  have h3:xa D.s<=1:=by cases D.s with
   |ad t=>cases t<;>simp[xa]
   |_=>simp[xa]
  omega
 obtain⟨dn,N,W,P,T,i',O,g',w',es,v,f,F,E,q⟩:=Bi A C.cn.inr c.at_ c.Hd (λh=>by
  obtain⟨q1,u,p⟩:=C.cw.hi h;exact⟨by omega,u⟩) (λh=>by
  obtain⟨q1,u,p,q4⟩:=C.cw.hc h;exact⟨by omega,u,p⟩) o hr z m S B C.cn.gone
 refine⟨D.tick N i' O W P T<|dY g g',g',w',es,v,⟨?_,⟨g',?_,f⟩,λi x h0 hi e=>?_,λi hi=>?_,M5 (wk:=dY g g') A c F q,M7 C.cn q rfl,M8 (w:=w.at d) A ⟨C.size,C.g0,C.old,λi hi=>?_,c,C.cn,C.ct⟩ F E q _ _⟩,M9 q rfl⟩;simp only[Z4,Y5];exact C.size;exact pd (by rw[C.size];omega);rw[fw (by omega)]at e;obtain⟨y,hy,rfl⟩:=ω.1 e;have G:=C.old i y h0 hi hy;rw[Yq G,Ze t (by omega:0≠i) _ gu];exact G;have hi:=hi;obtain⟨x,e,j⟩:=C.wk i hi;refine⟨_,by rw[fw (by omega),e];rfl,?_⟩;show WSit K i (K.wp (D.ib i)<|D.cb i) (D.st i) (D.X i) (D.l i) (D.kk i) (if dY g g' then 1 else D.zz i) _ w';refine((j.at d).woken (a:=g) (a':=g') (w':=w')).others F.size (λb hb=>?_) λhp b hb=>?_;have hsz:=c.at_.size;exact F.others b (by omega) (by omega) (by omega) (λ_ h=>by have:=(C.cw.hi (by rw[h];rfl)).1;omega) (λ_ h=>by have:=(C.cw.hc (by rw[h];rfl)).1;omega);obtain⟨q1,u,p⟩:=C.cw.xr _ _ hb;exact F.others b p (by omega) (by omega) (λ_ h e=>(C.cw.hi (by rw[h];rfl)).2.2 i<|e▸hb) λ_ h e=>(C.cw.hc (by rw[h];rfl)).2.2.2 i<|e▸hb;obtain⟨x,e,j⟩:=C.wk i hi;exact⟨x,e,j.at d⟩
end
end
section
theorem Da(F:St->Nat)(st:Nat->St)(s:St):∀{n r:Nat},n<=r->cnt n F (upd st r s)=cnt n F st
 |0,_,_=>rfl
 |n+1,r,h=>by have:=Da F st s (n:=n) (r:=r) (by omega);have e:∀st,cnt (n+1) F st=cnt n F st+F (st n):=λ_=>rfl;rw[e,e,this,upd_ne _ _<|by omega]
def Hh(F st s r):cnt (r+1) F (upd st r s)=cnt r F st+F s:=by have e:∀st,cnt (r+1) F st=cnt r F st+F (st r):=λ_=>rfl;rw[e,Da F st s .refl,upd_same]
def CD.fork(D:CD)(n k' k'' B:Nat):CD:={D with r:=D.r+1,s:=if D.r+1<n then .OY else .mq .q7,k:=k',z:=1,st:=upd D.st D.r .w7,l:=upd D.l D.r 6,kk:=upd D.kk D.r k'',zz:=upd D.zz D.r 1,ib:=upd D.ib D.r D.i,cb:=upd D.cb D.r D.c,H:=upd D.H D.r B,Z:=B}
section
variable{K:PC}{w0 w w':ξ}{D:CD}{gs:Array R}{t:Yv}{g:R}{k' k'':Nat}
def Bl(D:CD)(n k' a B):(D.fork n k' a B).s=.OY\/(D.fork n k' a B).s=.mq .q7:=by
 show(if D.r+1<n then cZ.OY else cZ.mq .q7)=.OY\/_;split
 simp;exact .inr (by show(if D.r+1<n then cZ.OY else cZ.mq .q7)=_;rename_i h;rw[if_neg h])
def Nb(A:dX K)(C:CW K w0 D w)(p:D.s=.ad .yt):CW K w0 (D.fork K.n k' k'' w) w:=by
 have W:=C.at_;have z:=C.zs;obtain⟨J,E,v⟩:=C.hi (by rw[p];rfl);obtain⟨c1,c2,c3,B⟩:=C.hc (by rw[p];rfl);have hb:uy K w D.r D.i D.c:=by have:=C.Hd;rw[p]at this;exact this
 have hs:=Bl D K.n k' k'' w;refine⟨C.tape,C.output,C.os,⟨W.size,W.low,W.gb,?_,W.eb,W.sh⟩,λj b=>?_,?_,λj b=>?_,⟨W.size,.refl⟩,λj b k=>?_,λh=>?_,λh=>?_,λk x y=>?_,C.xd,λj b h4=>?_,λx m e=>?_,λx m e=>?_⟩;obtain⟨cs,d,g,h3⟩:=W.er;refine⟨cs,d,g,λi hi=>?_⟩;rw[h3 i hi];unfold valOf;show U (Θ Γ (if i<D.r/\cu (D.st i)=I then K.ev i else 0))=U (Θ Γ (if i<D.r+1/\cu (upd D.st D.r .w7 i)=I then K.ev i else 0));by_cases o:i=D.r
 subst o;rw[upd_same,if_neg λh=>absurd h.1<|by omega,if_neg λh=>by cases h.2];rw[upd_ne _ _ o];by_cases h:i<D.r
 simp only[h,show i<D.r+1 from by omega,true_and];rw[if_neg (λq=>h q.1),if_neg λq=>h<|by omega];have b:j<D.r+1:=b;show uy K w j (upd D.ib D.r D.i j) (upd D.cb D.r D.c j);by_cases a:j=D.r
 subst a;rw[upd_same,upd_same];exact hb;rw[upd_ne _ _ a,upd_ne _ _ a];exact C.box j (by omega);obtain hs|hs:=hs<;>rw[hs]<;>trivial
 have b:j<D.r+1:=b;show K.B0+5<=upd D.ib D.r D.i j/\upd D.ib D.r D.i j<upd D.H D.r w j/\K.B0+5<=upd D.cb D.r D.c j/\upd D.cb D.r D.c j<upd D.H D.r w j/\upd D.H D.r w j<=w;by_cases a:j=D.r
 subst a;simp only[upd_same];omega;simp only[upd_ne _ _ a];obtain⟨q1,u,t,G,F⟩:=C.hz j (by omega);omega;have b:j<D.r+1:=b;show¬D.X k (upd D.ib D.r D.i j)/\¬D.X k (upd D.cb D.r D.c j);by_cases a:j=D.r
 subst a;rw[upd_same,upd_same];exact⟨v k,B k⟩;rw[upd_ne _ _ a,upd_ne _ _ a];exact C.Bj j (by omega) k;obtain hs|hs:=hs<;>rw[hs]at h<;>cases h
 obtain hs|hs:=hs<;>rw[hs]at h<;>cases h
 obtain⟨q1,u,t⟩:=C.xr k x y;exact⟨ZI q1,u,t⟩;have b:j<D.r+1:=b;show D.X j=_;by_cases a:j=D.r
 subst a
 funext x
 exact propext ⟨λh=>by have:=(C.xr _ _ h).1;omega,λh=>h.elim⟩;have h4:4<=upd D.l D.r 6 j:=h4;rw[upd_ne _ _ a]at h4;exact C.x4 j (by omega) h4;obtain⟨j,b,d,g⟩|h:=C.rows x m e
 ·exact .inl ⟨j,ZI b,by show upd D.st D.r .w7 j=_;rw[upd_ne _ _ (by omega)];exact d,g⟩
 exact .inr h;show(∃j,j<D.r+1/\upd D.st D.r .w7 j=.pv/\D.X j x)\/(∃j,j<D.r+1/\upd D.l D.r 6 j<=2/\∃i,i<K.C/\x=D.f j i)\/(∃j,j<D.r+1/\(x=upd D.ib D.r D.i j\/x=upd D.cb D.r D.c j))\/_;obtain⟨j,b,d,g⟩|⟨j,b,d,g⟩|⟨j,b,d⟩|⟨_,d⟩|⟨_,d⟩:=C.who x m e
 exact .inl ⟨j,ZI b,by rw[upd_ne _ _ (by omega)];exact d,g⟩;exact .inr<|.inl ⟨j,ZI b,by rw[upd_ne _ _ (by omega)];exact d,g⟩;exact .inr<|.inr<|.inl ⟨j,ZI b,by rw[upd_ne _ _ (by omega),upd_ne _ _<|by omega];exact d⟩;exact .inr<|.inr<|.inl ⟨D.r,Yi _,.inl (by rw[upd_same];exact d)⟩;exact .inr<|.inr<|.inl ⟨D.r,Yi _,.inr (by rw[upd_same];exact d)⟩
def Nc(A:dX K)(C:CN K D)(f:D.s=.ad .yt)(B):CN K (D.fork K.n k' k'' B):=by
 have m:=C.inr (by rw[f];rfl);have hs:=Bl D K.n k' k'' B;have hd:(D.fork K.n k' k'' B).s=if D.r+1<K.n then cZ.OY else cZ.mq .q7:=rfl
 have e:∀F:St->Nat,cnt (D.r+1) F (upd D.st D.r .w7)=cnt D.r F D.st+F .w7:=λF=>Hh F D.st .w7 D.r;refine⟨m,λh=>?_,λh=>?_,⟨?_,λi hi=>?_⟩,λj c=>?_,?_,?_,λh=>?_,λh=>?_,λj c h=>?_⟩;show D.r+1<K.n;rw[hd]at h;split at h
 assumption
 cases h
 show D.r+1=K.n;rw[hd]at h;split at h
 cases h
 omega;show ia D.h.mu D.h.ms (cnt (D.r+1) nO<|upd D.st D.r .w7) (cnt (D.r+1) nA<|upd D.st D.r .w7) (cnt (D.r+1) nT<|upd D.st D.r .w7) (cnt (D.r+1) nQ<|upd D.st D.r .w7) (cnt (D.r+1) nH<|upd D.st D.r .w7) (cnt (D.r+1) nU<|upd D.st D.r .w7) (cnt (D.r+1) nV<|upd D.st D.r .w7) (cnt (D.r+1) nC<|upd D.st D.r .w7);rw[e,e,e,e,e,e,e,e];exact C.gi.Ee;show aaA D.h (upd D.st D.r .w7 i);have hi:i<D.r+1:=hi;by_cases b:i=D.r
 subst b;rw[upd_same];trivial;rw[upd_ne _ _ b];exact C.gi.loc i (by omega);show rG K.n (upd D.st D.r .w7 j);have c:j<D.r+1:=c;by_cases a:j=D.r
 subst a;rw[upd_same];trivial;rw[upd_ne _ _ a];exact C.vM j (by omega);show mW (wa (D.fork K.n k' k'' B).s) (xa (D.fork K.n k' k'' B).s) D.h (cnt (D.r+1) nG<|upd D.st D.r .w7) (cnt (D.r+1) nL<|upd D.st D.r .w7) (cnt (D.r+1) nM<|upd D.st D.r .w7);rw[e,e,e];have d:=C.wg;rw[f]at d;obtain⟨o,g,h3,h4⟩:=d;simp only[wa,xa]at o h3 h4;have l:nG .w7=1:=rfl;have k:nL .w7=0:=rfl;have p:nM .w7=0:=rfl;rw[l,k,p];obtain hs|hs:=hs<;>rw[hs]
 exact⟨by simp only[xa];omega,g,λ_=>by have:=h3 trivial;omega,λh=>by cases h⟩;exact⟨by simp only[xa];omega,g,λ_=>by have:=h3 trivial;omega,λh=>by cases h⟩;obtain hs|hs:=hs<;>rw[hs]<;>trivial
 obtain hs|hs:=hs<;>rw[hs]at h<;>cases h
 cases h
 have h:upd D.zz D.r 1 j=0:=h;have c:j<D.r+1:=c;by_cases a:j=D.r
 subst a;rw[upd_same]at h;cases h;rw[upd_ne _ _ a]at h;exact C.zw j (by omega) h
def rP(t){x y a b}(i:x.act=a)(h:y.act=b)(g:∀m,a≠.mark m)(hb:∀m,b≠.mark m)(k):Zk (t++#[x,y]) k=Zk t k:=by
 have e:t++#[x,y]=(t++#[x])++#[y]:=by apply Yx;simp
 rw[e,Deaf_push,Deaf_push];have f:∀{z:Yl} {c:MemAct} (d:Nat),z.act=c->(∀m,c≠.mark m) ->deafStep k d z=d:=by
  unfold deafStep
  grind
 rw[f _ h hb,f _ i g]
def Nd(A:dX K)(C:CI K w0 D gs w t)(o:D.s=.ad .yt)(fn f pos b):
 CT K (D.fork K.n k' k'' w) w (t++#[{g:=0,fn,pos,act:=.go<|K.p0+D.r},{g:=K.p0+D.r,fn:=f,pos:=b,act:=.start}]):=by
 have p:=A.pos;have l:=C.ct;have hs:=Bl D K.n k' k'' w;have hd:∀k,Zk (t++#[({g:=0,fn,pos,act:=.go<|K.p0+D.r}:Yl),{g:=K.p0+D.r,fn:=f,pos:=b,act:=.start}]) k=Zk t k:=λk=>rP t rfl rfl (by simp) (by simp) k;have h0:Zk t 0=0:=by rw[l.d0,o];rfl
 refine⟨?_,λj d=>?_,λj d=>?_,λ_=>?_,λh=>?_⟩;rw[hd,h0];obtain hs|hs:=hs<;>rw[hs]<;>rfl
 rw[hd];show _=deaf (upd D.st D.r .w7 j);have d:j<D.r+1:=d;by_cases c:j=D.r
 subst c;rw[upd_same];exact l.dz _ .refl;rw[upd_ne _ _ c];exact l.dw j (by omega);rw[hd];have d:K.p0+(D.r+1)<=j:=d;exact l.dz j (by omega);obtain⟨t1,t2,q⟩:=l.ti (by rw[o];simp);refine⟨t1.fork (H':=upd D.H D.r w) (Z':=w.heap.size) (fam A C.cw) ⟨rfl,rfl⟩ ⟨rfl,rfl⟩ h0 (l.dz _ .refl) (λj d=>upd_ne _ _<|by omega) C.cw.zs.2,λj d m=>?_,q.app λop a=>?_⟩;have d:j<D.r+1:=d;have m:dC (upd D.st D.r .w7 j)=I:=m;by_cases c:j=D.r
 subst c;rw[upd_same]at m;cases m;rw[upd_ne _ _ c]at m;obtain⟨i,hi⟩:=t2 j (by omega) m;refine⟨i,?_⟩;have e:t++#[({g:=0,fn,pos,act:=.go<|K.p0+D.r}:Yl),{g:=K.p0+D.r,fn:=f,pos:=b,act:=.start}]=(t++#[{g:=0,fn,pos,act:=.go<|K.p0+D.r}])++#[{g:=K.p0+D.r,fn:=f,pos:=b,act:=.start}]:=by apply Yx;simp
 rw[e];refine(hi.appOther (g:=0) (λop a=>?_)<|by omega).appOther (g:=K.p0+D.r) (λop a=>?_) (by omega);simp at a;rw[a];simp at a;rw[a];simp only[ZX,Z2,ε,or_false]at a;obtain rfl|rfl:=a<;>simp
 obtain hs|hs:=hs<;>rw[hs]at h<;>cases h
def o9.here{r i c s k z}(h:o9 K r i c s k z g)(a:k=0)(b:g.status=.running):lj K r i c s g:=by
 cases h with
 |go h hs=>subst a;have:=h;subst this;exact hs
 |blk hs=>cases b
def Eu(A:dX K)(C:CI K w0 D gs w t)(T:gs[0]?=U g)(hr:g.status=.running)(d)(y:D.s=.ad .yt)(J:D.k=0):
 ∃Q g' e,stepG P0 I g (w.at d)=.spawn g' e (w.at d) #[]/\CI K w0 Q ((gs.setIfInBounds 0 g').push e) (w.at d) (t++#[{g:=0,fn:=g.frame.fn,pos:=g.frame.place,act:=.go gs.size},{g:=gs.size,fn:=e.frame.fn,pos:=g.frame.place,act:=.start}])/\vN (mu K Q) (mu K D):=by
 obtain⟨g1,z,o⟩:=C.g0;rw[T]at z;cases z
 have O:=A.pos;have S:=C.cn.inr (by rw[y];rfl);have hnB:=A.nB;rw[y]at o;have hs:=o.here J hr;have hh:=aaf K.b K.q D.r D.c D.i K.cs K.c0 _ hs;have a:=TR K.b K.q D.r _ K.cs K.c0 _ hs;have W:Ξ Γ ((D.r:Int)+1)=((D.r+1:Nat):Int):=by
  rw[Zt]
  push_cast
  omega
 rw[W]at a;have m:∃u,∃h,Path P0 I u (fin undef g) h/\lj K (D.r+1) D.i D.c (if D.r+1<K.n then .OY else .mq .q7) h:=by
  by_cases v:D.r+1<K.n
  rw[show decide (((D.r+1:Nat):Int)<(K.q.n:Int))=I from decide_eq_true (by show((D.r+1:Nat):Int)<(K.n:Int);omega)]at a;obtain⟨u,_,h,E,j⟩:=a.trans λh H=>GM K.b K.q ((D.r+1:Nat):Int) K.cs K.c0 h H;exact⟨u,h,E,by rw[if_pos v];exact j⟩;rw[show decide (((D.r+1:Nat):Int)<(K.q.n:Int))=V from decide_eq_false (by show¬((D.r+1:Nat):Int)<(K.n:Int);omega)]at a;obtain⟨u,_,h,E,j⟩:=a.trans λh H=>GN K.b K.q ((D.r+1:Nat):Int) K.cs K.c0 h H;exact⟨u,h,E,by rw[if_neg v];exact j⟩
 obtain⟨u,h,E,j⟩:=m;obtain⟨p,_,g3,L,G⟩:=LJ (K.wp D.i D.c) {frame:={(default:ZW)with fn:=P0.funcs.size,defers:=[vA (K.wp D.i D.c)],mode:=.panicking [goexitEntry]},callers:=[],status:=.running,dying:=θ} ⟨λ_ _=>undef,rfl⟩;refine⟨D.fork K.n u p w,_,_,Ba (P:=P0) (main:=I) (w:=w.at d) (f:=.func 211) (tx:=(K.wp D.i D.c).tx) hh,⟨?_,⟨_,?_,.go E j⟩,λi x h0 hi F=>?_,λi hi=>?_,Nb A (C.cw.at d) y,Nc A C.cn y _,?_⟩,?_⟩;simp only[ZD,Z4];show _=K.p0+(D.r+1);rw[C.size];omega;rw[μ (by simp only[Z4];rw[C.size];omega),<-ψ,Array.getElem?_setIfInBounds_self_of_lt (by rw[C.size];omega)];have hi:=hi;rw[μ (by simp only[Z4];rw[C.size];omega),<-ψ,Za<|by omega]at F;rw[rP t rfl rfl (by simp) (by simp)];exact C.old i x h0 hi F;have hi:i<D.r+1:=hi;by_cases B:i=D.r
 subst B;refine⟨_,by rw[<-C.size,<-Z4 (xs:=gs) (i:=0),ZK],?_⟩;show WSit K D.r (K.wp (upd D.ib D.r D.i D.r)<|upd D.cb D.r D.c D.r) (upd D.st D.r .w7 D.r) (D.X D.r) (upd D.l D.r 6 D.r) (upd D.kk D.r p D.r) (upd D.zz D.r 1 D.r) _ (w.at d);simp only[upd_same];exact .go (s:=.w7) L G (by simp) (by simp) (by simp);obtain⟨x,F,N⟩:=C.wk i (by omega);refine⟨x,?_,?_⟩;rw[μ (by simp only[Z4];rw[C.size];omega),<-ψ,Za<|by omega];exact F;show WSit K i (K.wp (upd D.ib D.r D.i i)<|upd D.cb D.r D.c i) (upd D.st D.r .w7 i) (D.X i) (upd D.l D.r 6 i) (upd D.kk D.r p i) (upd D.zz D.r 1 i) _ (w.at d);simp only[upd_ne _ _ B];exact N.at d;rw[C.size];exact Nd A C y _ _ _ _;left;show K.n-(D.r+1)<K.n-D.r;omega
def yN(A:dX K)(C:CI K w0 D gs w t){i}(h0:0<i)(hi:i<K.p0)(hg:gs[i]?=U g)(v:g.status=.running)(d):
 ∃X g' es,stepG P0 V g (w.at d)=.go g' (w.at d) es/\CI K w0 X ((gs.map<|woken P0 g g'<|w.at d).setIfInBounds i g') (w.at d) (t++ο i g.frame.fn g.frame.place es)/\vN (mu K X) (mu K D):=by
 have J:=C.old i g h0 hi hg;cases hqi:D.q i with
 |zero=>rw[hqi]at J;rw[J.1]at v;cases v
 |succ k=>
  rw[hqi]at J;obtain⟨hf,_⟩|⟨_,g',es,L,O,Q⟩:=J
  rw[hf]at v;cases v;have b:=C.cw.at d;have F:=C.ct;have c:∀k,k≠i->Zk (t++ο i g.frame.fn g.frame.place es) k=Zk t k:=λk hk=>Ze t (Ne.symm hk) _ gu;have E:∀op∈ο i g.frame.fn g.frame.place es,op.act.touch?=θ:=λop l=>by obtain⟨e,H,rfl⟩:=φ l;exact touch_mute<|L e H
  have B:∀op∈ο i g.frame.fn g.frame.place es,op.act.low w:=λop l=>by obtain⟨e,H,rfl⟩:=φ l;exact low_mute (L e H) _
  refine⟨{D with q:=upd D.q i k,z:=if dY g g' then 1 else D.z,zz:=λa=>if dY g g' then 1 else D.zz a},g',es,O _,⟨?_,?_,λj x S o p=>?_,λj o=>?_,?_,?_,?_⟩,?_⟩;simp only[Z4,Y5];exact C.size;obtain⟨x,p,P⟩:=C.g0;exact⟨_,by rw[fw (by omega),p];rfl,P.woken⟩;by_cases u:j=i
  ·subst u;rw[pd (by rw[C.size];have:j<K.p0:=o;omega)]at p;cases p
   rw[Deaf_own];show Zf P0 (upd D.q j k j) _ _;rw[upd_same];exact Q
  rw[fw (λh=>u h.symm)]at p;obtain⟨y,hy,rfl⟩:=ω.1 p;have G:=C.old j y S o hy;rw[Yq G,c j u];show Zf P0 (upd D.q i k j) _ _;rw[upd_ne _ _ u];exact G;obtain⟨x,p,W⟩:=C.wk j o;exact⟨_,by rw[fw (by omega),p];rfl,(W.at d).woken⟩;exact⟨b.tape,b.output,b.os,b.at_,b.box,b.Hd,b.hz,b.zs,b.Bj,b.hi,b.hc,b.xr,b.xd,b.x4,b.rows,b.who⟩;have N:=C.cn;refine⟨N.rn,N.inr,N.out,N.gi,N.vM,N.wg,N.mf,N.gone,λh=>?_,λj o h=>?_⟩;have h:=h;split at h
  cases h
  exact N.zs h;have h:=h;split at h
  cases h
  exact N.zw j o h
  ·refine⟨by rw[c 0 (by omega)];exact F.d0,λj o=>by rw[c _ (by omega)];exact F.dw j o,λj o=>by rw[c _ (by have:K.p0+D.r<=j:=o;omega)];exact F.dz j o,λhs=>?_,λhs=>?_⟩
   ·obtain⟨t1,t2,t3⟩:=F.ti hs;refine⟨t1.CZ (g:=i) gu E B,λj o v=>?_,t3.app λop l=>?_⟩;obtain⟨n,hn⟩:=t2 j o v;exact⟨n,hn.appOther gu<|by omega⟩
    ·obtain⟨e,H,rfl⟩:=φ l;have:=L e H;obtain⟨loc,wr,sy⟩:=e;cases loc with
     |mark m=>cases m<;>first|(simp[Δ];done)|cases this
     |_=>cases this
   obtain⟨t1,t2⟩:=F.pa hs;refine⟨t1.mute (by omega) L,λn x p T=>?_⟩;obtain⟨_,s⟩|⟨op,l,s,_⟩:=cc p
   exact t2 n x s T;rw[E op l]at s;cases s
  refine .inr ⟨rfl,.inr ⟨rfl,.inr ⟨rfl,.inl ?_⟩⟩⟩;show sumTo D.r D.kk+D.k+sumTo K.p0 (upd D.q i k)<sumTo D.r D.kk+D.k+sumTo K.p0 D.q;have:=C8 (f:=D.q) (x:=k) hi;omega
def Hi(A:dX K)(C:CI K w0 D gs w t):∃(i:Nat) (g:R),gs[i]?=U g/\g.status=.running:=by
 apply Z0;intro l;have u:∀(i:Nat) (g:R),gs[i]?=U g->g.status≠.running:=λi g m v=>l ⟨i,g,m,v⟩;obtain⟨g0,s,p⟩:=C.g0;obtain⟨h,_⟩|⟨_,hz,_,hs⟩:=p.status
 exact u _ _ s h;have z:=C.cn.zs hz;have wk:∀j,j<D.r->(∃x,D.st j=.s1 x/\D.h.ms=0)\/D.st j=.fin:=by
  intro j d;obtain⟨g,m,f⟩:=C.wk j d;obtain⟨h,_⟩|⟨_,hz,_,x,a⟩|⟨_,h,_⟩:=f.status
  exact absurd h<|u _ _ m;exact .inl ⟨x,a,C.cn.zw j d hz⟩;exact .inr h
 have zero:∀F:St->Nat,(∀x,F (.s1 x)=0) ->F .fin=0->cnt D.r F D.st=0:=by
  intro F G B;have:=mV (n:=D.r) (F:=F) (st:=D.st) (c:=0) λj d=>by
   obtain⟨x,a,_⟩|a:=wk j d<;>rw[a]
   rw[G];exact .refl;rw[B];exact .refl
  omega
 have o:=C.cn.wg;rw[hs,zero nL (λ_=>rfl) rfl,zero nM (λ_=>rfl) rfl]at o;have h4:=o.wait rfl;have N:=o.k;have L:0<D.h.k:=by omega
 have H:xa (.mq .rJ)=0:=rfl;have E:cnt D.r nG D.st=cnt D.r nQ D.st:=by
  have q:∀r,r<=D.r->cnt r nG D.st=cnt r nQ D.st:=by
   intro r
   induction r with
   |zero=>intro _;rfl
   |succ r J=>intro v;have e:∀F:St->Nat,cnt (r+1) F D.st=cnt r F D.st+F (D.st r):=λ_=>rfl;rw[e,e,J<|by omega];obtain⟨x,a,_⟩|a:=wk r (by omega)<;>rw[a]<;>rfl
  exact q D.r .refl
 have b:D.h.ms=0:=by
  apply Z0;intro b;apply (by omega);have:=mV (n:=D.r) (F:=nG) (st:=D.st) (c:=0) λj d=>by
   obtain⟨x,_,h⟩|a:=wk j d
   exact absurd h b;rw[a];exact .refl
  omega
 have y:=C.cn.gi.Ee;rw[b,zero nO (λ_=>rfl) rfl,zero nA (λ_=>rfl) rfl,zero nT (λ_=>rfl) rfl,zero nH (λ_=>rfl) rfl,zero nU (λ_=>rfl) rfl,zero nV (λ_=>rfl) rfl,zero nC (λ_=>rfl) rfl]at y;have:=Gw y;omega
def all_awake(C:CI K w0 D gs w t):∀g∈gs,awake g:=by
 intro g e;obtain⟨i,hi,rfl⟩:=Array.mem_iff_getElem.1 e;have a:=ψ hi;obtain rfl|c:=Yp i
 obtain⟨g0,d,f⟩:=C.g0;rw[a]at d;cases d
 obtain h|h:=f.status
 exact Y4<|.inl h.1;exact Y4<|.inr<|.inl h.1;by_cases j:i<K.p0
 ·exact Y4<|(C.old i _ c j a).status.elim .inl λx=>.inr<|.inr x
 have hs:=C.size;obtain⟨g,e,b⟩:=C.wk (i-K.p0) (by omega);rw[show K.p0+(i-K.p0)=i by omega,a]at e;cases e
 obtain h|h|h:=b.status
 exact Y4<|.inl h.1;exact Y4<|.inr<|.inl h.1;exact Y4<|.inr<|.inr h.1
def crowd_step(A:dX K)(C:CI K w0 D gs w t)(sl)(q:¬(D.s=.mq .kI/\D.k=0)):
 ∃m r w' l ops,stepT P0 (crowd gs w sl)=(.next<|crowd r w' l,ops)/\CI K w0 m r w' (t++ops)/\vN (mu K m) (mu K D):=by
 have E:=A.pos;obtain⟨i,g,d,l,hi,n,c⟩:=crowd_pick (P:=P0) (w:=w) (sl:=sl) (all_awake C)<|Hi A C;obtain rfl|x:=Yp i
 by_cases z:D.s=.ad .yt/\D.k=0
 ·obtain⟨m,B,y,f,o,p⟩:=Eu A C hi n d z.1 z.2;refine⟨m,_,_,_,_,c.trans<|runT_crowd_spawn (P:=P0) (sl:=l) (i:=0) hi f,?_,p⟩;have e:∀a b:Yl,((ο 0 g.frame.fn g.frame.place #[]).push a).push b=#[a,b]:=λa b=>by rw[Yj];simp
  rw[e];exact o
 obtain⟨m,B,w',F,f,o,p⟩:=vO A C hi n d (λh=>Yo λh0=>z ⟨h,h0⟩) λh=>Yo λh0=>q ⟨h,h0⟩;exact⟨m,_,_,_,_,c.trans<|Yw (P:=P0) (sl:=l) (i:=0) hi f,o,p⟩;have u:(i==0)=V:=by simp;omega
 by_cases v:i<K.p0
 obtain⟨m,B,F,f,o,p⟩:=yN A C x v hi n d;exact⟨m,_,_,_,_,c.trans<|Yw (P:=P0) (sl:=l) (i:=i) hi (by rw[u];exact f),o,p⟩;have hs:=C.size;have G:=(ZQ.1 hi).1;obtain⟨j,rfl⟩:∃j,i=K.p0+j:=⟨i-K.p0,by omega⟩;obtain⟨m,B,w',F,f,o,p⟩:=yM A C (by omega) hi n d;exact⟨m,_,_,_,_,c.trans<|Yw (P:=P0) (sl:=l) (i:=K.p0+j) hi (by rw[u];exact f),o,p⟩
def Ev(A:dX K):∀D gs w t sl,CI K w0 D gs w t->
 ∃N e a w' c f,runNT P0 N (crowd gs w sl) t=(.next<|crowd a w' c,f)/\CI K w0 e a w' f/\e.s=.mq .kI/\e.k=0:=by
 intro D;generalize v:mu K D=m
 induction m using MX.induction generalizing D with
 |_ m x=>
  intro gs w t sl C;subst v;by_cases b:D.s=.mq .kI/\D.k=0
  exact⟨0,D,gs,w,sl,t,rfl,C,b⟩;obtain⟨o,g,j,i,q,h,u,r⟩:=crowd_step A C sl b;obtain⟨N,e,a,w',c,f,d,l,p,n⟩:=x _ r o rfl g j _ i u;exact⟨N+1,e,a,w',c,f,by rw[runNT];simp only[h];exact d,l,p,n⟩
end
end
end Ph
namespace Ph
open Go Go.Conc
open Go.ConcM (muA msA MuAt ShAt Eff BookOK Bk2)
open Go.ConcR (stA smA WgAt mk)
section
def hw(w:ξ)(H:Array Y9):ξ:={w with heap:=H}
def bA(w:ξ)(D:ξ->ξ->Array ZH->Prop)(Stop:R->ξ->Prop)(g:R)(H:Array Y9):Prop:=∃n,∀d,Goes P0 I AtRel D Stop n g ((hw w H).at d)
section
variable{w:ξ}{D:ξ->ξ->Array ZH->Prop}{Stop:R->ξ->Prop}{g g':R}{H H':Array Y9}{S:R->Prop}
def bA.stop(h:∀d,Stop g ((hw w H).at d)):bA w D Stop g H:=⟨0,λd c a=>by obtain⟨b,rfl⟩:=a;exact h b⟩
def bA.step{es}(c:g.status=.running)(h:∀d,stepG P0 I g ((hw w H).at d)=.go g' ((hw w H').at d) es)(i:∀d,D ((hw w H).at d) ((hw w H').at d) es)(f:bA w D Stop g' H'):bA w D Stop g H:=by obtain⟨n,e⟩:=f;refine⟨n+1,λd=>Goes.step c λj b=>?_⟩;obtain⟨a,rfl⟩:=b;show(stepG P0 I g<|(hw w H).at a).goes _;rw[h a];exact⟨i a,e a⟩
def bA.path{k:Nat}(c:∀d,D ((hw w H).at d) ((hw w H).at d) #[])(b:bA w D Stop g' H):∀{k} {g},Path P0 I k g g'->bA w D Stop g H
 |0,g,h=>by have:=h;rw[<-this];exact b
 |k+1,g,h=>by obtain⟨e,i,a,f⟩:=h;exact bA.step e (λd=>a _) c<|bA.path (k:=k) c b f
def bA.to{k}(e:∀d,D ((hw w H).at d) ((hw w H).at d) #[])(h:bZ P0 I k S g)(b:∀g',S g'->bA w D Stop g' H):bA w D Stop g H:=by obtain⟨c,_,g',a,hs⟩:=h;exact bA.path (k:=c) e (b g' hs) a
end
def aH{d ds cs g}(h:aQ d ds cs g):g.status=.running:=by obtain⟨F,rfl⟩:=h;rfl
def mZ(kd:CallKind)(c0:ZW):ZW:=
 match kd with
 |.normal|.wrapped=>c0.finish<|.tuple #[]
 |.early=>c0
 |_=>match c0.mode with
  |.panicking ({recovered:=I,..}::older)=>
   match older.dropWhile (!·.goexit)with
   |[]=>{c0 with mode:=.returning}
   |rest=>{c0 with mode:=.panicking rest}
  |_=>c0
def Vi(b tmps T c0 cs w):stepG P0 I (G {fn:=166,tmps,todo:=T,defers:=[],mode:=.returning,kind:=jq b} (c0::cs)) w=.go (G (mZ (jq b) c0) cs) w #[]:=by cases b<;>kernel_rfl
def tk0:List Zd:=(ZN P0 166 #[] .normal).todo
def Hj(b v0 ca n m room cs c0 g)(h:aQ (fK b tk0 [(0,v0),(1,.slice ca n m),iv 2 room]) [] (c0::cs) g):bZ P0 I 300 (aQ (fK b tk3 [(0,v0),(1,.slice ca n m),iv 2 room]) [] (c0::cs)) g:=by cases b<;>exact aQ.QF (ah 166 3) 300 (λF=>by kernel_rfl) (λF=>by kernel_rfl) (λF=>by kernel_rfl) g h
def H5(h0:Array Y9)(B0 n:Nat)(v0:ι):Array Y9:=((((h0.push<|χ #[v0] 104).push<|.cells (bP n) 34).push<|χ #[.slice (B0+1:Nat) n n] 83).push<|χ #[Θ Yz 0,Θ .u32 0] 249).push<|χ #[Θ ZR 0,Θ .u32 0] 255
def Hk{w}{H:Array Y9}{d cs e f o v B}(b:H.size=B):((hw w<|H.push<|.cells cs e f).at d).setCell (B,o) v=(hw w<|H.push<|.cells (cs.setIfInBounds o v) e f).at d:=by
 have:(H.push (.cells cs e f)).modify B (λa=>match a with
  |.cells cs e f=>.cells (cs.setIfInBounds o v) e f
  |a=>a)=H.push (.cells (cs.setIfInBounds o v) e f):=by
  grind
 exact congrArg (λx=>({(hw w<|H.push<|.cells cs e f).at d with heap:=x}:ξ)) this
section
variable{w:ξ}{D:ξ->ξ->Array ZH->Prop}{Stop:R->ξ->Prop}
def yP(K)(t:K.n<1048576)(hs:K.h0.size=K.B0)(c:∀a b,D a b #[])(k:∀a b,D a b #[⟨.cell (K.B0+2:Nat),I,V⟩])(room)(i:¬((K.n:Int)>room))(f:∀g,lj K 0 0 0 (if 0<K.n then .OY else .mq .q7) g->bA w D Stop g (H5 K.h0 K.B0 K.n<|Ω<|U K.v0)):
 ∀g,aQ (fK K.b tk0 [pv 0 K.v0,(1,.slice K.ca K.n K.m),iv 2 room]) [] (K.c0::K.cs) g->bA w D Stop g K.h0:=by
 intro g l;have j:((K.h0.push<|χ #[Ω (U K.v0)] 104).push<|.cells (bP K.n) 34).size=K.B0+2:=by simp[hs]
 have r:∀o,(((K.h0.push<|χ #[Ω (U K.v0)] 104).push<|.cells (bP K.n) 34).push o).size=K.B0+3:=λo=>by simp[hs]
 have s:∀o p,((((K.h0.push<|χ #[Ω (U K.v0)] 104).push<|.cells (bP K.n) 34).push o).push p).size=K.B0+4:=λo p=>by simp[hs]
 refine bA.to (λd=>c _ _) (Hj K.b (Ω<|U K.v0) K.ca K.n K.m room K.cs K.c0 g l) λg h=>?_;refine bA.step (aH h) (λd=>?_) (λd=>c _ _)<|bA.to (H:=K.h0.push<|χ #[Ω (U K.v0)] 104) (λd=>c _ _) (acn K.b (Ω<|U K.v0) K.ca K.n K.m room K.B0 K.cs K.c0 g h) λg h=>?_;have:=rI (P:=P0) (main:=I) (w:=(hw w K.h0).at d)<|acI (h:=h);rw[show((hw w K.h0).at d).heap.size=K.B0 from hs]at this;exact this;rw[decide_eq_false i]at h;refine bA.to (λd=>c _ _) (akV K.b (Ω<|U K.v0) K.ca K.n K.m room K.B0 K.cs K.c0 g h) λg h=>?_;refine bA.step (aH h) (λd=>?_) (λd=>c _ _)<|bA.to (H:=(K.h0.push<|χ #[Ω (U K.v0)] 104).push<|.cells (bP K.n) 34) (λd=>c _ _) (TF K.b (Ω<|U K.v0) K.ca K.n K.m room K.B0 (K.B0+1:Nat) K.cs K.c0 g h) λg h=>?_;have:=Ef (main:=I) (w:=(hw w<|K.h0.push<|χ #[Ω (U K.v0)] 104).at d) t<|Up (h:=h);rw[show((hw w<|K.h0.push<|χ #[Ω (U K.v0)] 104).at d).heap.size=K.B0+1 from(by simp[hs]:(K.h0.push<|χ #[Ω (U K.v0)] 104).size=K.B0+1)]at this;exact this;refine bA.step (aH h) (λd=>?_) (λd=>c _ _)<|bA.to (H:=((K.h0.push<|χ #[Ω (U K.v0)] 104).push<|.cells (bP K.n) 34).push<|χ #[()] 83) (λd=>c _ _) (aco K.b (Ω<|U K.v0) K.ca K.n K.m room K.B0 (K.B0+2:Nat) (K.B0+1:Nat) K.cs K.c0 g h) λg h=>?_;have:=gq (P:=P0) (main:=I) (w:=(hw w<|(K.h0.push<|χ #[Ω (U K.v0)] 104).push<|.cells (bP K.n) 34).at d) (acJ (h:=h)) z83;rw[show((hw w<|(K.h0.push<|χ #[Ω (U K.v0)] 104).push<|.cells (bP K.n) 34).at d).heap.size=K.B0+2 from j]at this;exact this;refine bA.step (es:=#[⟨.cell (K.B0+2:Nat),I,V⟩]) (aH h) (λd=>?_) (λd=>k _ _)<|bA.to (H:=((K.h0.push<|χ #[Ω (U K.v0)] 104).push<|.cells (bP K.n) 34).push<|χ #[.slice (K.B0+1:Nat) K.n K.n] 83) (λd=>c _ _) (Mv K.b (Ω<|U K.v0) K.ca K.n K.m room K.B0 (K.B0+2:Nat) (K.B0+1:Nat) K.cs K.c0 g h) λg h=>?_;have e:((hw w<|((K.h0.push<|χ #[Ω (U K.v0)] 104).push<|.cells (bP K.n) 34).push<|χ #[()] 83).at d).heap[K.B0+2]?=U (χ #[()] 83):=by show(((K.h0.push<|χ #[Ω (U K.v0)] 104).push<|.cells (bP K.n) 34).push<|χ #[()] 83)[K.B0+2]?=_;rw[<-j,ZK]
 have:=iS (P:=P0) (main:=I) (w:=(hw w<|((K.h0.push<|χ #[Ω (U K.v0)] 104).push<|.cells (bP K.n) 34).push<|χ #[()] 83).at d) (MD (h:=h)) ak7 rfl rfl (v:=()) (by rw[aP,bM e];rfl) (by rw[aP];exact g8 e) (by rw[aQ.iX h];exact uw);rw[aP,Hk j]at this;exact this;refine bA.step (aH h) (λd=>?_) (λd=>c _ _)<|bA.to (H:=(((K.h0.push<|χ #[Ω (U K.v0)] 104).push<|.cells (bP K.n) 34).push<|χ #[.slice (K.B0+1:Nat) K.n K.n] 83).push<|χ #[Θ Yz 0,Θ .u32 0] 249) (λd=>c _ _) (acp K.b (Ω<|U K.v0) K.ca K.n K.m room K.B0 (K.B0+2:Nat) (K.B0+3:Nat) K.cs K.c0 g h) λg h=>?_;have:=gq (P:=P0) (main:=I) (w:=(hw w<|((K.h0.push<|χ #[Ω (U K.v0)] 104).push<|.cells (bP K.n) 34).push<|χ #[.slice (K.B0+1:Nat) K.n K.n] 83).at d) (acK (h:=h)) akX;rw[show((hw w<|((K.h0.push<|χ #[Ω (U K.v0)] 104).push<|.cells (bP K.n) 34).push<|χ #[.slice (K.B0+1:Nat) K.n K.n] 83).at d).heap.size=K.B0+3 from r _]at this;exact this;refine bA.step (aH h) (λd=>?_) (λd=>c _ _)<|bA.to (H:=H5 K.h0 K.B0 K.n<|Ω<|U K.v0) (λd=>c _ _) (acr K.b (Ω<|U K.v0) K.ca K.n K.m room K.B0 (K.B0+2:Nat) (K.B0+3:Nat) (K.B0+4:Nat) K.cs K.c0 g h) λg h=>?_;have:=gq (P:=P0) (main:=I) (w:=(hw w<|(((K.h0.push<|χ #[Ω (U K.v0)] 104).push<|.cells (bP K.n) 34).push<|χ #[.slice (K.B0+1:Nat) K.n K.n] 83).push<|χ #[Θ Yz 0,Θ .u32 0] 249).at d) (acL (h:=h)) akY;rw[show((hw w<|(((K.h0.push<|χ #[Ω (U K.v0)] 104).push<|.cells (bP K.n) 34).push<|χ #[.slice (K.B0+1:Nat) K.n K.n] 83).push<|χ #[Θ Yz 0,Θ .u32 0] 249).at d).heap.size=K.B0+4 from s _ _]at this;exact this;by_cases h0:0<K.n
 rw[show decide ((0:Int)<(K.n:Int))=I from decide_eq_true<|by omega]at h;refine bA.to (λd=>c _ _) (GM K.b K.q 0 K.cs K.c0 g h) λg h=>?_;exact f g (by rw[if_pos h0];exact h);rw[show decide ((0:Int)<(K.n:Int))=V from decide_eq_false<|by omega]at h;refine bA.to (λd=>c _ _) (GN K.b K.q 0 K.cs K.c0 g h) λg h=>?_;exact f g (by rw[if_neg h0];exact h)
theorem rR(K:PC)(hz:∀i,K.ev i=0)(r:K.n<1048576)(H:Array Y9)(c:∀a b,D a b #[])(l:∀a b i,i<K.n->D a b #[⟨.cell (K.B0+1,i),V,V⟩]){cs:Array ι}(o:H[K.B0+1]?=U (.cells cs 34))(m:∀i,i<K.n->cs[i]?=U (Θ Γ<|K.ev i)):
 ∀(k i:Nat),k+i=K.n->bA w D Stop (G (mZ (jq K.b) K.c0) K.cs) H->∀g,aQ (kg K.b K.q rH [bv 35 (decide<|(i:Int)<K.n),(32,υ (U K.E) K.n K.n),iv 33 K.n,iv 34 i]) [] (K.c0::K.cs) g->bA w D Stop g H
 |0,i,hi,hs,g,h=>by rw[show decide ((i:Int)<(K.n:Int))=V from decide_eq_false<|by omega]at h;refine bA.to (λd=>c _ _) (Uc K.b K.q K.E K.n i K.cs K.c0 g h) λg h=>?_;obtain⟨F,rfl⟩:=h;exact bA.step rfl (λd=>Vi K.b _ _ _ _ _) (λd=>c _ _) hs
 |k+1,i,hi,hs,g,h=>by
  have j:i<K.n:=by omega
  rw[show decide ((i:Int)<(K.n:Int))=I from decide_eq_true<|by omega]at h;refine bA.to (λd=>c _ _) (T9 K.b K.q K.E K.n i K.cs K.c0 g h) λg h=>?_;refine bA.step (H':=H) (aH h) (λd=>jr (P:=P0) (main:=I) (Uu (h:=h)) L8 aad j) (λd=>c _ _)<|bA.to (λd=>c _ _) (Ua K.b K.q K.E (K.E.add<|i*1) K.n i K.cs K.c0 g h) λg h=>?_;have p:K.E.add (i*1)=⟨K.B0+1,i,θ⟩:=by show((K.B0+1:Nat):Z1).add _=_;rw[aP,Nat.mul_one,YO]
  rw[p]at h;refine bA.step (H':=H) (es:=#[⟨.cell (K.B0+1,i),V,V⟩]) (aH h) (λd=>?_) (λd=>l _ _ i j)<|bA.to (λd=>c _ _) (Ub K.b K.q K.E (K.B0+1,i) K.n i (K.ev i) K.cs K.c0 g h) λg h=>?_;exact du (q:=V) (P:=P0) (main:=I) (w:=(hw w H).at d) (Uv (h:=h)) Tv (by rw[bM (cs:=cs) (e:=34) (f:=(0,0)) o];exact m i j) (by rw[aQ.iX h];exact uw);rw[show(K.ev i !=0)=V by rw[hz];rfl]at h;refine bA.to (λd=>c _ _) (acB K.b K.q K.E K.n i (K.ev i) K.cs K.c0 g h) λg h=>?_;rw[show Ξ Γ ((i:Int)+1)=((i+1:Nat):Int) by rw[Zt];push_cast;omega]at h
  exact rR K hz r H c l o m k (i+1) (by omega) hs g h
def Ew(K:PC)(hz:∀i,K.ev i=0)(p:K.n<1048576)(H)(c:∀a b,D a b #[])(k:∀a b i,i<K.n->D a b #[⟨.cell (K.B0+1,i),V,V⟩])(j:∀a b,D a b #[⟨.cell (K.B0+2:Nat),V,V⟩]){cs}(o:H[K.B0+1]?=U (.cells cs 34))(l:∀i,i<K.n->cs[i]?=U (Θ Γ<|K.ev i))(m:H[K.B0+2]?=U (χ #[υ (U K.E) K.n K.n] 83))(hs:bA w D Stop (G (mZ (jq K.b) K.c0) K.cs) H)(g)(h:aQ (kg K.b K.q A9 []) [] (K.c0::K.cs) g):bA w D Stop g H:=by refine bA.step (H':=H) (aH h) (λd=>?_) (λd=>j _ _)<|bA.to (λd=>c _ _) (T8 K.b K.q K.E K.n K.cs K.c0 g h) λg h=>?_;exact du (q:=V) (P:=P0) (main:=I) (w:=(hw w H).at d) (Ut (h:=h)) ab9 (by rw[bM (e:=83) (f:=(0,0)) m];rfl) (by rw[aQ.iX h];exact uw);exact rR K hz p H c k o l K.n 0 rfl hs g h
end
end
end Ph
namespace Ph
open Go Go.Conc
open Go.ConcN (sumTo upd sumTo_upd upd_ne upd_same RelBy)
open Go.ConcM (muA msA MuAt ShAt Eff BookOK Bk2)
open Go.ConcR (stA smA WgAt mk)
section
def Ex{w B}(h3:w.heap[B+3]?=U (χ #[Θ Yz 0,Θ .u32 0] 249))(h4:w.heap[B+4]?=U (χ #[Θ ZR 0,Θ .u32 0] 255)):ShAt 249 255 (B+3) (B+4) w (dU ⟨Wd.zero,0,0,0,0⟩):=by trivial
def Nf{w a W s}(h:ShAt 249 255 a W w s):(∃cs f,w.heap[a]?=U (.cells cs 249 f))/\∃cs f,w.heap[W]?=U (.cells cs 255 f):=⟨⟨_,_,h.1⟩,⟨_,_,h.2⟩⟩
theorem jR{d n:Nat}{g':R}(b:Zf P0 n d g'):∀{k:Nat} {g:R},Path P0 V k g g'->Zf P0 (k+n) d g
 |0,g,h=>by have:=h;rw[<-this,YO];exact b
 |k+1,g,h=>by obtain⟨e,c,a,f⟩:=h;have:=jR b f;rw[show k+1+n=(k+n)+1 by omega];exact .inr ⟨e,c,#[],by simp,a,this⟩
def yQ{p e g}(h:bh p e .gx g):Zf P0 1 0 g:=.inr ⟨(js h).1,_,#[],by simp,λw=>QN h,⟨rfl,rfl⟩⟩
def Hl{p e g}(h:bh p e .gn g):∃n,Zf P0 n 1 g:=by
 have b:∀{c:R},bZ P0 V 2000 (bh p e .gx) c->g.status=.running->(∀w,stepG P0 V g w=.go c w #[mk .enable]) ->∃n,Zf P0 n 1 g:=by intro c i j d;obtain⟨k,_,l,a,f⟩:=i;exact⟨(k+1)+1,.inr ⟨j,c,#[mk .enable],by simp[mk,Event.mute],d,jR (yQ f) a⟩⟩
 obtain hs|hs:=h
 obtain⟨F,rfl⟩:=hs;exact b ((Gz p _ ⟨F,rfl⟩).le<|by omega) rfl λw=>wO .enable (λg h=>by cases h) tw rfl rfl;obtain⟨F,rfl⟩:=hs;exact b ((CJ p _ ⟨F,rfl⟩).le<|by omega) rfl λw=>wO .enable (λg h=>by cases h) tw rfl rfl
def vP{K j p s X l k z g w}(h:WSit K j p s X l k z g w)(hs:s=.gn\/s=.gx\/s=.fin):∃n,Zf P0 n (deaf s) g:=by
 cases h with
 |go h a r m o=>
  obtain rfl|rfl|rfl:=hs
  obtain⟨n,i⟩:=Hl (p:=p) (e:=K.ev j) a;exact⟨_,jR i h⟩;exact⟨_,jR (yQ (p:=p) (e:=K.ev j) a) h⟩
  grind
 |w8 h a=>obtain h|h|h:=hs<;>cases h
 |blk a=>obtain h|h|h:=hs<;>cases h
 |ap b h d c=>obtain h|h|h:=hs<;>cases h
 |pv b q O f h t d c=>obtain h|h|h:=hs<;>cases h
 |fin h=>exact⟨0,h,rfl⟩
section
variable{K:PC}{w0 w:ξ}{D:CD}{gs:Array R}{t:Yv}
def Bm(A:dX K)(C:CI K w0 D gs w t)(hs:D.s=.mq .kI):∃q,Ya P0 t gs q:=by
 have hw:∀j,j<D.r->∃n,∀g,gs[K.p0+j]?=U g->Zf P0 n (Zk t<|K.p0+j) g:=by
  intro j a;obtain⟨g,c,b⟩:=C.wk j a;obtain⟨n,k⟩:=vP b<|ll C.cn hs a;refine⟨n,λo d=>?_⟩;rw[c]at d;cases d
  rw[C.ct.dw j a];exact k
 have m:∀j,∃n,j<D.r->∀g,gs[K.p0+j]?=U g->Zf P0 n (Zk t<|K.p0+j) g:=by
  intro j;by_cases a:j<D.r
  obtain⟨n,k⟩:=hw j a;exact⟨n,λ_=>k⟩;exact⟨0,λh=>absurd h a⟩
 obtain⟨f,l⟩:=Zy m;refine⟨λi=>if i<K.p0 then D.q i else f (i-K.p0),λi g h0 c=>?_,λj a=>?_⟩;have e:=(ZQ.1 c).1;rw[C.size]at e;by_cases hi:i<K.p0
 simp only[hi,if_true];exact C.old i g h0 hi c;simp only[hi,if_false];have:=l (i-K.p0) (by omega) g (by rw[show K.p0+(i-K.p0)=i by omega];exact c);rwa[show K.p0+(i-K.p0)=i by omega]at this;rw[C.size]at a;exact C.ct.dz j a
def cd0(n B0:Nat)(q:Nat->Nat):CD:={r:=0,s:=if 0<n then .OY else .mq .q7,i:=0,c:=0,k:=0,z:=1,st:=λ_=>.w7,X:=λ_ _=>False,l:=λ_=>0,kk:=λ_=>0,zz:=λ_=>1,ib:=λ_=>0,cb:=λ_=>0,H:=λ_=>0,Z:=B0+5,h:=⟨Wd.zero,0,0,0,0⟩,q,f:=λ_ _=>0}
def adM(n B0 q):(cd0 n B0 q).s=.OY\/(cd0 n B0 q).s=.mq .q7:=by
 show(if 0<n then cZ.OY else cZ.mq .q7)=.OY\/_;split
 simp;exact .inr (by show(if 0<n then cZ.OY else cZ.mq .q7)=_;rename_i h;rw[if_neg h])
def adN(h0 B0 n v0)(hs:h0.size=B0):(H5 h0 B0 n v0).size=B0+5/\(∀b,b<B0->(H5 h0 B0 n v0)[b]?=h0[b]?)/\(H5 h0 B0 n v0)[B0]?=U (χ #[v0] 104)/\(H5 h0 B0 n v0)[B0+1]?=U (.cells (bP n) 34)/\(H5 h0 B0 n v0)[B0+2]?=U (χ #[υ (U ⟨B0+1,0,θ⟩) n n] 83)/\
 (H5 h0 B0 n v0)[B0+3]?=U (χ #[Θ Yz 0,Θ .u32 0] 249)/\(H5 h0 B0 n v0)[B0+4]?=U (χ #[Θ ZR 0,Θ .u32 0] 255):=by
 unfold H5
 grind
def Hm(A:dX K)(c:gs.size=K.p0){g}(C:gs[0]?=U g)(f:lj K 0 0 0 (if 0<K.n then .OY else .mq .q7) g){q}(z:Ya P0 t gs q)(r:Yk K.Shun (K.B0+3) t)(hw:w.heap=H5 K.h0 K.B0 K.n (Ω<|U K.v0))(D:w.tape=w0.tape)(B:w.output=w0.output)(h3:w.os=w0.os):
 CI K w0 (cd0 K.n K.B0 q) gs w t:=by
 have hs:=adM K.n K.B0 q;have hd:(cd0 K.n K.B0 q).s=if 0<K.n then .OY else .mq .q7:=rfl
 obtain⟨u,e1,e2,e3,e4,v,y⟩:=adN K.h0 K.B0 K.n (Ω<|U K.v0) A.size;rw[<-hw]at u e1 e2 e3 e4 v y;have c0:∀F:St->Nat,cnt 0 F (λ_=>.w7)=0:=λ_=>rfl;refine⟨by rw[c];rfl,⟨g,C,.go (g':=g) rfl f⟩,λj g h0 b o=>z.old j g h0 o,λj b=>absurd b<|ZV _,?_,?_,?_⟩;refine⟨D,B,by rw[h3];exact .refl _,⟨by omega,e1,e2,⟨bP K.n,e3,by simp[bP],λi hi=>?_⟩,e4,?_⟩,λj b=>absurd b<|ZV _,?_,λj b=>absurd b<|ZV _,⟨ZE _,by rw[u];exact ZE _⟩,λj b=>absurd b<|ZV _,λh=>?_,λh=>?_,λk x p=>p.elim,λk H x p=>p.elim,λj b=>absurd b<|ZV _,λx m d=>by omega,λx m d=>by omega⟩
 ·unfold valOf bP;rw[Array.getElem?_replicate,if_pos hi,if_neg λh=>absurd h.1<|ZV _]
 exact Ex v y;obtain hs|hs:=hs<;>rw[hs]<;>trivial
 obtain hs|hs:=hs<;>rw[hs]at h<;>cases h
 obtain hs|hs:=hs<;>rw[hs]at h<;>cases h
 refine⟨Zr _,λh=>?_,λh=>?_,⟨?_,λi hi=>absurd hi<|ZV _⟩,λj b=>absurd b<|ZV _,?_,?_,λh=>rfl,λh=>rfl,λj b=>absurd b<|ZV _⟩
 ·rw[hd]at h;split at h
  assumption
  cases h
 rw[hd]at h;split at h
 cases h
 show 0=K.n;omega;show ia Wd.zero 0 0 0 0 0 0 0 0 0;simp[ia,Wd.zero];show mW (wa (cd0 K.n K.B0 q).s) (xa (cd0 K.n K.B0 q).s) ⟨Wd.zero,0,0,0,0⟩ 0 0 0;obtain hs|hs:=hs<;>rw[hs]<;>exact⟨rfl,Zr _,λ_=>⟨rfl,rfl,rfl,rfl⟩,λh=>by cases h⟩
 obtain hs|hs:=hs<;>rw[hs]<;>trivial
 refine⟨?_,λj b=>absurd b<|ZV _,λj b=>z.above j (by rw[c];exact b),λ_=>⟨(TI.start r (λl G=>?_) A.pos).mono<|by omega,λj b=>absurd b<|ZV _,λi hi=>?_⟩,λh=>?_⟩
 ·rw[r.hears];obtain hs|hs:=hs<;>rw[hs]<;>rfl
 obtain⟨a,rfl,J⟩:=G;exact⟨by show K.B0+3<=a.block;omega,rfl⟩;obtain⟨op,E,e⟩:=ω.1 hi;have:=r.seen op<|ZU E;rw[e]at this;have:K.B0+4<K.B0+3:=this;omega;obtain hs|hs:=hs<;>rw[hs]at h<;>cases h
end
theorem Hn:∀(m a b:Nat) (g:Nat->Nat),(∀x,a<=x->x<b->∃i,i<m/\x=g i) ->b<=a+m
 |0,a,b,g,h=>by simp_all
 |m+1,a,b,g,h=>by
  apply Z0;intro e;obtain⟨i,hi,hb⟩:=h (b-1) (by omega) (by omega);have:=Hn m a (b-1) (λk=>if k=i then g m else g k) λx c d=>by grind
  omega
structure After(K:PC)(w w':ξ):Prop where
 tape:w'.tape=w.tape
 output:w'.output=w.output
 os:Zu w.os w'.os
 size:K.B0+5<=w'.heap.size
 low:∀b,b<K.B0->w'.heap[b]?=K.h0[b]?
 rows:∀b,K.B0<=b->b<w'.heap.size->∃cs e f,w'.heap[b]?=U (.cells cs e f)/\K.TT e
 wW:w'.heap.size<=K.B0+5+K.n*(K.C+2)
def Dc(Sh B):∀e∈(#[]:Array ZH),EvL Sh B e:=by simp
def Ey{K}(hz:∀i,K.ev i=0)(A:dX K){gs w sl t q room}(F:¬((K.n:Int)>room))(hsz:gs.size=K.p0)(hw:w.heap=K.h0){g0}(hg0:aQ (fK K.b tk0 [pv 0 K.v0,(1,.slice K.ca K.n K.m),iv 2 room]) [] (K.c0::K.cs) g0)(hg:gs[0]?=U g0)(hL:Ya P0 t gs q)(hP:Yk K.Shun w.heap.size t):
 ∃N H w' sl' t' q',runNT P0 N (crowd gs w sl) t=(.next<|crowd H w' sl',t')/\H[0]?=U (G (mZ (jq K.b) K.c0) K.cs)/\Ya P0 t' H q'/\Yk (λl=>K.Shun l\/K.ic l) w'.heap.size t'/\After K w w':=by
 have hb:=yP (w:=w) (D:=λ_ _ es=>∀e∈es,EvL K.Shun (K.B0+3) e) (Stop:=λg w'=>lj K 0 0 0 (if 0<K.n then .OY else .mq .q7) g/\∃d,w'=(Ph.hw w (H5 K.h0 K.B0 K.n (Ω (U K.v0)))).at d) K A.nB A.size (λ_ _=>Dc _ _) (λ_ _ e he=>by
  rw[Ψ.1 he];refine⟨λx y hs=>?_,by simp,by simp,by show K.B0+2<K.B0+3;omega⟩;cases y
  have:=A.SB _ hs;dsimp only at this;omega) room F (λg h=>bA.stop λd=>⟨h,d,rfl⟩) g0 hg0
 obtain⟨n,X⟩:=hb;have ew:(Ph.hw w K.h0).at w.drawn=w:=by rw[<-hw];rfl
 have X:=X w.drawn;rw[ew]at X;obtain⟨N1,gs1,g1,w1,sl1,t1,q1,hr1,hs1,hg1,⟨S,d1,v⟩,hL1,hP1⟩:=walk_beside (P:=P0) (Shun:=K.Shun) (B:=K.B0+3) (λ_ _ _ h=>h) _ n gs _ w sl t q .refl hg hL (hP.mono (by rw[hw,A.size];omega)) X;obtain⟨N2,O,gs2,u,sl2,t2,hr2,p,c,W⟩:=Ev A _ gs1 w1 t1 sl1<|Hm (w0:=w) (w:=w1) A (hs1.trans hsz) hg1 S hL1 hP1 (by rw[v];rfl) (by rw[v];rfl) (by rw[v];rfl) (by rw[v];rfl);obtain⟨q2,hL2⟩:=Bm A p c;obtain⟨g2,hg2,k⟩:=p.g0;rw[c,W]at k;have hrn:=p.cn.out (by rw[c];rfl);have J:=p.cw.at_;obtain⟨cs2,Q,he2,he3⟩:=J.er;have hev:∀i,i<K.n->cs2[i]?=U (Θ Γ<|K.ev i):=by
  intro i hi;rw[he3 i hi];unfold valOf;have:cu (O.st i)=I:=by obtain h|h|h:=ll p.cn c (by omega:i<O.r)<;>rw[h]<;>rfl
  rw[if_pos ⟨by omega,this⟩]
 have T:=J.size;have E:g2.status=.running:=by
  obtain h|⟨_,_,_,h⟩:=k.status
  exact h.1;cases h
 ·have rd:∀o b,(b=K.B0+1\/b=K.B0+2) ->∀e∈(#[⟨.cell ⟨b,o,θ⟩,V,V⟩]:Array ZH),EvL (λl=>K.Shun l\/K.ic l) u.heap.size e:=by
   intro o b hbb e he;rw[Ψ.1 he];refine⟨λx y hs=>?_,by simp,by simp,by show b<_;omega⟩;cases y
   exfalso;obtain hs|⟨a,ha,hs⟩:=hs
   have:=A.SB _ hs;dsimp only at this;omega;simp only[Loc.cell.injEq]at ha;rw[<-ha]at hs;dsimp only at hs;omega
  obtain⟨n3,hn3⟩:=Ew (w:=u) (D:=λ_ _ es=>∀e∈es,EvL (λl=>K.Shun l\/K.ic l) u.heap.size e) (Stop:=λg w'=>g=G (mZ (jq K.b) K.c0) K.cs/\∃d,w'=u.at d) K hz A.nB u.heap (λ_ _=>Dc _ _) (λ_ _ i hi=>rd _ _<|.inl rfl) (λ_ _=>rd _ _<|.inr rfl) Q hev J.eb (bA.stop λd=>⟨rfl,d,rfl⟩) _<|k.here rfl E;obtain⟨N3,gs3,g3,w3,sl3,t3,q3,hr3,hs3,hg3,⟨rfl,d3,rfl⟩,hL3,hP3⟩:=walk_beside (P:=P0) (λ_ _ _ h=>h) _ n3 gs2 _ u sl2 t2 q2 .refl hg2 hL2 ((p.ct.pa c).1)<|hn3 u.drawn;refine⟨N1+(N2+N3),gs3,u.at d3,sl3,t3,q3,?_,hg3,hL3,hP3,⟨p.cw.tape,p.cw.output,p.cw.os,T,J.low,λb hb1 hb2=>?_,?_⟩⟩;rw[runNT_add,hr1];dsimp only;rw[runNT_add,hr2];exact hr3;show∃cs e f,u.heap[b]?=_/\_;by_cases hb5:K.B0+5<=b
  obtain⟨j,z,s,_⟩|h:=p.cw.rows b hb5 hb2
  ·obtain h|h|h:=ll p.cn c z<;>rw[h]at s<;>cases s
  exact h;obtain⟨m1,m2⟩:=Nf J.sh;obtain rfl|rfl|rfl|rfl|rfl:=(by omega:b=K.B0\/b=K.B0+1\/b=K.B0+2\/b=K.B0+3\/b=K.B0+4)
  exact⟨_,_,_,J.gb,A.TT.1⟩;exact⟨_,_,_,Q,A.TT.2.1⟩;exact⟨_,_,_,J.eb,A.TT.2.2.1⟩;obtain⟨cs,f,h⟩:=m1;exact⟨cs,249,f,h,A.TT.2.2.2.1⟩;obtain⟨cs,f,h⟩:=m2;exact⟨cs,255,f,h,A.TT.2.2.2.2.1⟩;show u.heap.size<=_;have:=Hn (K.n*(K.C+2)) (K.B0+5) u.heap.size (λm=>if m %(K.C+2)=0 then O.ib (m/(K.C+2))else if m %(K.C+2)=1 then O.cb (m/(K.C+2))else O.f (m/(K.C+2)) (m %(K.C+2) -2)) λx h1 h2=>by
   have L:∀j i,j<O.r->i<K.C+2->j*(K.C+2)+i<K.n*(K.C+2)/\(j*(K.C+2)+i)%(K.C+2)=i/\(j*(K.C+2)+i)/(K.C+2)=j:=by intro j i z hi;refine⟨?_,?_,?_⟩;have:(j+1)*(K.C+2)<=K.n*(K.C+2):=Nat.mul_le_mul_right _ (by omega);rw[Nat.succ_mul]at this;omega;rw[YT,Nat.mul_add_mod,Nat.mod_eq_of_lt hi];rw[YT,Nat.mul_add_div<|by omega,Nat.div_eq_of_lt hi,Y8]
   obtain⟨j,z,s,_⟩|⟨j,z,_,i,hi,y⟩|⟨j,z,y|y⟩|⟨h,_⟩|⟨h,_⟩:=p.cw.who x h1 h2
   obtain h|h|h:=ll p.cn c z<;>rw[h]at s<;>cases s
   obtain⟨e1,e2,e3⟩:=L j (i+2) z (by omega);refine⟨_,e1,?_⟩;rw[e2,e3,if_neg<|by omega,if_neg<|by omega];exact y;obtain⟨e1,e2,e3⟩:=L j 0 z (by omega);refine⟨_,e1,?_⟩;rw[e2,e3,if_pos rfl];exact y;obtain⟨e1,e2,e3⟩:=L j 1 z (by omega);refine⟨_,e1,?_⟩;rw[e2,e3,if_neg<|by omega,if_pos rfl];exact y;rw[c]at h;cases h;rw[c]at h;cases h
  omega
end
end Ph
namespace Ph
open Go Go.Conc
section
def Vj:(P0.funcs[213]?).map (λf=>f.results)=U #[.cell 4 34]:=by kernel_rfl
def alr(v0 b a f):(JF 48<|cO [pv 0 v0,(3,pz b),(4,pz a)] f).getD 4 undef=pz a:=by kernel_rfl
def Ng{v0 b a W0 rest g w}(h:aQ (As v0 b a txz) [] (W0::rest) g)(j:w.heap[a]?=U (χ #[Θ Γ 0] 34)):stepG P0 V g w=.go (G (W0.finish<|Θ Γ 0) rest) w #[⟨.cell a,V,V⟩]:=by
 obtain⟨F,rfl⟩:=h;obtain⟨fn,e,c⟩:=ω.1 Vj;have d:stepG P0 V (SC (As v0 b a txz) [] (W0::rest) F) w=unwind P0 V ((As v0 b a txz).fr<|JF 48<|cO [pv 0 v0,(3,pz b),(4,pz a)]<|F 0) (W0::rest) θ w:=rfl;have i:(results fn<|JF 48<|cO [pv 0 v0,(3,pz b),(4,pz a)]<|F 0).runT P0 w #[]=(.ok (Θ Γ 0) w,#[⟨.cell a,V,V⟩]):=by
  unfold results;rw[c,Zs];have hc:w a=U (Θ Γ 0):=by rw[bM j];rfl
  have h4:=alr v0 b a<|F 0;generalize JF 48 (cO [pv 0 v0,(3,pz b),(4,pz a)]<|F 0)=f at h4⊢;have h5:f[4]?.getD undef=.pointer a:=by rw[<-Array.getD_eq_getD_getElem?];exact h4
  simp[h5,Array.mapM_eq_mapM_toList,List.mapM_cons,h4,pz,asAddr,X9,Tv.run,Tv.events,hc,ZP,Zv,events_load]
 rw[d];unfold unwind;dsimp only[As,bG.fr];rw[e];dsimp only;rw[i];dsimp only[doReturn];rw[rF (q:=V) _ _ (λg h=>by cases h) li];rfl
section
variable{K:PK}{v0:Z1}{xc xe:Nat}{W0:ZW}{rest:List ZW}{g:R}{X:List Nat}{O:List (Nat×Y9)}{N:Nat}
def Ez:Y9:=χ #[Θ Γ 0] 34
def yR(W0:ZW)(rest:List ZW):R:=G (W0.finish<|Θ Γ 0) rest
def PX.ne{a x y o b}(f:g.status=.running)(i:(x,o)∈O)(d:(y,b)∈O)(c:o≠b)(h:x≠y->PX K a (N+1) X O g):PX K a (N+1) X O g:=by
 by_cases e:x=y
 refine⟨f,λw hw=>?_⟩;have k:=(hw.known _ i).2;have j:=(hw.known _ d).2
 grind
 grind
def Vk(b:X.length<=K.C)(a:(xe,Ez)∈O)(h:aQ (As v0 xc xe txz) [] (W0::rest) g):PX K (yR W0 rest) 1 X O g:=by refine⟨aH h,λw hw=>.inl ⟨b,w,_,Ng h (hw.known _ a).2,mY λe c=>?_,hw⟩⟩;rw[Ψ.1 c];exact⟨.inl (hw.known _ a).1,rfl⟩
def adO(d:X.length<=K.C)(a:(xe,Ez)∈O)(h:aQ (fR xe GX [iv 2 0]) [As v0 xc xe KP] (W0::rest) g):PX K (yR W0 rest) 302 X O g:=PX.adE (O':=[(xe,Ez)]) (aH h) a (λp b=>.inl<|Yt.1 b) (U9 v0 xc xe _ g h) aad rfl rfl (by rw[h.iX];exact adB) (U' v0 xc xe _ g h) λe c=>Vk d (by simp) c
def adP(c:X.length<=K.C)(a:(xe,Ez)∈O)(h:aQ (fR xe tr1 []) [As v0 xc xe KP] (W0::rest) g):PX K (yR W0 rest) 603 X O g:=PX.look (aH h) (λw hw=>GY v0 xc xe _ g h w) (by simp) (adq v0 xc xe _ g h) λd b=>adO c a b
def alt(d:X.length<=K.C)(a:(xe,Ez)∈O)(h:aQ (fX v0 xc xe txe []) [] (W0::rest) g):PX K (yR W0 rest) 904 X O g:=PX.adE (O':=[(xe,Ez)]) (aH h) a (λp b=>.inl<|Yt.1 b) (adm v0 xc xe _ g h) aad rfl rfl (by rw[h.iX];exact li) (adp v0 xc xe _ g h) λe c=>adP d (by simp) c
def Nh(ca:Option Z1)(n m:Nat)(i:Int):List (Nat×ι):=[bv 41 (decide<|i<n),(38,.slice ca n m),iv 39 n,iv 40 i]
def EA{i:Nat}(h:i<1000):Ξ Γ ((i:Int)+1)=((i+1:Nat):Int):=by rw[Zt];omega
section
variable{ca:Option Z1}{n m:Nat}{i:Nat}{cs:List ZW}{gE:R}
def Bn(hi:i<1000)(c:∀g,aQ (fX v0 xc xe Ar<|Nh ca n m ((i+1:Nat):Int)) [] cs g->PX K gE N X O g){ds k b}(hb:b=V)(h:aQ (CV CX b k) ds cs g)(a:aQ (CV CX V k) ds cs g->bZ P0 V 300 (aQ (fX v0 xc xe Ar [bv 41 (decide<|Ξ Γ ((i:Int)+1)<n),(38,.slice ca n m),iv 39 n,iv 40<|Ξ Γ<|(i:Int)+1]) [] cs) g):PX K gE (N+300) X O g:=by subst hb;have:=a h;rw[EA hi]at this;exact PX.to this c
variable{nN nO:Nat}{xv xw:Nat}{b0:Nat}{o0:Nat}
structure Ni(K:PK)(b0 o0 nN nO:Nat):Prop where
 lt:b0<K.B0
 Y:K.Y b0
 ex:∃cs e f oa om pa pm,K.h0[b0]?=U (.cells cs e f)/\cs[o0]?=U (.slice oa nN om)/\cs[o0+1]?=U (.slice pa nO pm)
def adQ(hi:i<1000){b:Int}(hb:-99<=b/\b<=99)(a:(xw,χ #[Θ Γ 0,b] 50)∈O)
 (c:∀g,aQ (fX v0 xc xe Ar<|Nh ca n m ((i+1:Nat):Int)) [] cs g->PX K gE N X O g) (h:aQ (hZ v0 GU [(9,q1 xw),(3,pz xw)]) [fX v0 xc xe ja [(38,.slice ca n m),iv 39 n,iv 40 i]] cs g):PX K gE (N+2000) X O g:=by
 refine PX.mono ?_<|PX.o8 (aH h) a (U1 v0 xc xe ca n m i xw cs g h) GB rfl (by rw[h.iX];exact yH) (UI v0 xc xe ca n m i xw b cs g h) λg h=>PX.o8 (N:=_) (o:=1) (aH h) a (U2 v0 xc xe ca n m i xw _ cs g h) GB rfl (by rw[h.iX];exact yH) (UJ v0 xc xe ca n m i xw _ b cs g h) λg h=>Bn hi c ?_ h<|ac7 v0 xc xe ca n m i cs g;omega
 grind
def Vl(hi:i<1000)(a:(xw,χ #[Θ Γ 2,Θ Γ 0] 50)∈O)
 (b:∀g,aQ (fX v0 xc xe Ar<|Nh ca n m ((i+1:Nat):Int)) [] cs g->PX K gE N X O g) (h:aQ (hZ v0 GW [(19,q1 xw),(3,pz xw)]) [fX v0 xc xe ja [(38,.slice ca n m),iv 39 n,iv 40 i]] cs g):PX K gE (N+2000) X O g:=by
 refine PX.mono ?_<|PX.o8 (aH h) a (U3 v0 xc xe ca n m i xw cs g h) GB rfl (by rw[h.iX];exact yH) (UK v0 xc xe ca n m i xw 0 cs g h) λg h=>Bn hi b ?_ h<|ac8 v0 xc xe ca n m i cs g;omega;rfl
def Dd{xx}{k:Int}{q b:Nat}(hi:i<1000)(hb:b<q)(a:(xx,χ #[k,b] 50)∈O)(c:∀g,aQ (fX v0 xc xe Ar<|Nh ca n m ((i+1:Nat):Int)) [] cs g->PX K gE N X O g)(h:aQ (mX v0 Be [(20,q1 xx),iv 4 q,(3,pz xx)]) [hZ v0 fi [],fX v0 xc xe ja [(38,.slice ca n m),iv 39 n,iv 40 i]] cs g):PX K gE (N+2000) X O g:=by
 refine PX.mono ?_<|PX.o8 (aH h) a (U7 v0 xc xe ca n m i xx q cs g h) GB rfl (by rw[h.iX];exact yI) (UO v0 xc xe ca n m i xx q b cs g h) λg h=>PX.o8 (N:=_) (o:=1) (aH h) a (U8 v0 xc xe ca n m i xx q cs g h) GB rfl (by rw[h.iX];exact yI) (UP v0 xc xe ca n m i xx q b cs g h) λg h=>Bn hi c ?_ h<|ade v0 xc xe ca n m i cs g;omega
 grind
def Ho{k:Int}{b}(p:K.TT 50)(hi:i<1000)(f:v0=⟨b0,o0,θ⟩)(d:Ni K b0 o0 nN nO)(s:(k=3/\b<nN)\/(k=4/\b<nO))(q:(xw,χ #[k,b] 50)∈O)(u:∀x g,aQ (fX v0 xc xe Ar<|Nh ca n m ((i+1:Nat):Int)) [] cs g->PX K gE N (x::X) ((x,χ #[k,b] 50)::O) g)(h:aQ (hZ v0 El [pv 26 v0,(3,pz xw)]) [fX v0 xc xe ja [(38,.slice ca n m),iv 39 n,iv 40 i]] cs g):PX K gE (N+4000) X O g:=by
 obtain⟨A,e1,D,B,C,pa,w,t,y,h3⟩:=d.ex;have eb:(v0.add 0).add 0=⟨b0,o0,θ⟩:=by rw[f,aP,aP];rfl
 refine PX.mono ?_<|PX.adC (N:=_) (n:=300) (aH h) q (U4 v0 xc xe ca n m i xw cs g h) Vd Ha (by rw[h.iX];exact yH) (UM v0 xc xe ca n m i xw _ _ cs g h) λg h=>PX.box (N:=N+3000) (n:=300) (aH h) p (adk v0 xc xe ca n m i _ cs g h) (λc=>ac9 v0 xc xe ca n m i _ c cs g h) λc g z h=>?_;omega;have j:=adl v0 xc xe ca n m i c cs g h;rw[(by rw[f,aP,aP]:(v0.add 0).add 1=⟨b0,o0+1,θ⟩)]at j;refine PX.mono ?_<|PX.adD (N:=_) (n:=300) (aH h) d.lt d.Y t j adA h3 (by rw[h.iX];exact yI) (ada v0 xc xe ca n m i c pa nO w cs g h) λr l=>PX.o8 (N:=N+2301) (n:=300) (o:=0) (aH l) η (U5 v0 xc xe ca n m i c nO cs r l) GB rfl (by rw[l.iX];exact yI) (S:=λg=>(k=3/\aQ (mX v0 MO [pv 17 ((v0.add 0).add 0),(3,pz c)]) [hZ v0 fi [],fX v0 xc xe ja [(38,.slice ca n m),iv 39 n,iv 40 i]] cs g)\/(k=4/\aQ (mX v0 Be [(20,q1 c),iv 4 nO,(3,pz c)]) [hZ v0 fi [],fX v0 xc xe ja [(38,.slice ca n m),iv 39 n,iv 40 i]] cs g)) ?_ λv a=>?_;omega;obtain⟨e,_⟩|⟨e,_⟩:=s<;>rw[e]
 ·exact(adb v0 xc xe ca n m i c nO cs r l).mono .refl λg h=>.inl ⟨rfl,h⟩
 exact(adc v0 xc xe ca n m i c nO cs r l).mono .refl λg h=>.inr ⟨rfl,h⟩;obtain⟨e,a⟩|⟨e,a⟩:=a
 have hb:b<nN:=by grind
 have j:=U6 v0 xc xe ca n m i c cs v a;rw[eb]at j;exact PX.mono (by omega)<|PX.adD (N:=N+2000) (n:=300) (aH a) d.lt d.Y t j adA y (by rw[a.iX];exact yI) (UN v0 xc xe ca n m i c B nN C cs v a) λg h=>Dd hi hb η (u c) h
 ·have hb:b<nO:=by
   obtain⟨h,_⟩|⟨_,h⟩:=s
   rw[e]at h;cases h;exact h
  exact PX.mono (by omega)<|Dd hi hb η (u c) a
def Nj{k a}(e:K.TT 50)(hi:i<1000)(q:v0=⟨b0,o0,θ⟩)(y:Ni K b0 o0 nN nO)(B:Fu nN nO k a)(s:(xe,Ez)∈O)(u:(xv,χ #[k,a] 50)∈O)(v:∀X' O',X'.length<=X.length+2->(xe,Ez)∈O'->∀g,aQ (fX v0 xc xe Ar<|Nh ca n m ((i+1:Nat):Int)) [] cs g->PX K gE N X' O' g)(h:aQ (fX v0 xc xe GT [pv 44 v0,(8,pz xv),(38,.slice ca n m),iv 39 n,iv 40 i]) [] cs g):PX K gE (N+6000) X O g:=by
 refine PX.mono ?_<|PX.adC (N:=_) (n:=300) (aH h) u (U0 v0 xc xe ca n m i xv cs g h) Vd Ha (by rw[h.iX];exact li) (UH v0 xc xe ca n m i xv _ _ cs g h) λz t=>PX.box (N:=N+5000) (n:=300) (aH t) e (adi v0 xc xe ca n m i _ cs z t) (λc=>ac6 v0 xc xe ca n m i _ c cs z t) λc f A d=>?_;omega;have r:(c,χ #[k,a] 50)∈(c,χ (ZL #[k,a]).cells 50)::O:=η;have j:(xe,Ez)∈(c,χ (ZL #[k,a]).cells 50)::O:=Z8 _ s;have own:∀{S:R->Prop},bZ P0 V 300 S (fin k f) ->(∀l,S l->PX K gE (N+4000) (c::X) ((c,χ (ZL #[k,a]).cells 50)::O) l) ->PX K gE (N+5000) (c::X) ((c,χ (ZL #[k,a]).cells 50)::O) f:=λC D=>PX.mono (by omega) (PX.o8 (n:=300) (o:=0) (aH d) r (adj v0 xc xe ca n m i c cs f d) GB rfl (by rw[d.iX];exact yH) C D)
 have p:=v (c::X) ((c,χ (ZL #[k,a]).cells 50)::O) (by simp) j;obtain⟨rfl,q1,w⟩|⟨rfl,rfl⟩|⟨rfl,q1,w⟩|⟨rfl,q1,w⟩:=B
 exact own (alf v0 xc xe ca n m i c cs f d) λl h3=>PX.mono (by omega)<|adQ hi ⟨q1,w⟩ r p h3;exact own (alg v0 xc xe ca n m i c cs f d) λl h3=>PX.mono (by omega)<|Vl hi r p h3;obtain⟨b,rfl⟩:=YU q1;exact own (alh v0 xc xe ca n m i c cs f d) λl h3=>Ho e hi q y (.inl ⟨rfl,by omega⟩) r (λx g h=>v _ _ (by simp) (Z8 _ j) g h) h3;obtain⟨b,rfl⟩:=YU q1;exact own (ali v0 xc xe ca n m i c cs f d) λl h3=>Ho e hi q y (.inr ⟨rfl,by omega⟩) r (λx g h=>v _ _ (by simp) (Z8 _ j) g h) h3
end
theorem Hp{nN nO b0 o0 n m:Nat}{ca:Option Z1}{vk vn:Nat->Int}(b:K.TT 50)(T:n<1000)(k:v0=⟨b0,o0,θ⟩)(z:Ni K b0 o0 nN nO)
 (G:∀i,i<n->Fu nN nO (vk i) (vn i)/\∃a,ca=U a/\a.spot=θ/\a.block<K.B0/\K.Y a.block/\∃cs e f,K.h0[a.block]?=U (.cells cs e f)/\cs[a.off+i*2]?=U (Θ Γ<|vk i)/\cs[a.off+i*2+1]?=U (Θ Γ<|vn i)):
 ∀(r i:Nat) (X:List Nat) (O:List (Nat×Y9)) (g:R),r+i=n->X.length+3*r<=K.C->(xe,Ez)∈O->aQ (fX v0 xc xe Ar<|Nh ca n m i) [] (W0::rest) g->PX K (yR W0 rest) (1300+r*12000) X O g
 |0,i,X,O,g,hi,hC,hxe,h=>by unfold Nh at h;rw[show decide ((i:Int)<(n:Int))=V from decide_eq_false<|by omega]at h;exact PX.mono (by omega)<|PX.to (ale v0 xc xe ca n m i _ g h) λg h=>alt (by omega) hxe h
 |r+1,i,X,O,g,hi,hC,hxe,h=>by
  have l:i<n:=by omega
  obtain⟨ok,a,rfl,o,d,A,S,ev,fv,q1,H,y⟩:=G i l;obtain⟨ab,W,Q⟩:=a;dsimp only at o d A q1 H y;subst o;unfold Nh at h;rw[show decide ((i:Int)<(n:Int))=I from decide_eq_true<|by omega]at h;refine PX.mono ?_<|PX.to (ald v0 xc xe _ n m i _ g h) λE u=>PX.look (N:=1300+r*12000+10000) (n:=300) (es:=#[]) (aH u) (λw hw=>jr (UX v0 xc xe _ n m i _ E u) alj Ha l) (by simp) (UE v0 xc xe _ n m i _ _ E u) λv j=>?_;omega;rw[(aP _ _ _)]at j;refine PX.mono ?_<|PX.alm (N:=1300+r*12000+9000) (n:=300) (aH j) d A q1 (UY v0 xc xe _ n m i _ _ v j) Vd Ha H y (by rw[j.iX];exact li) (UF v0 xc xe _ n m i _ _ _ v j) λJ h3=>PX.mono (by omega)<|PX.var (N:=1300+r*12000+8000) (n:=300) (aH h3) b (adh v0 xc xe _ n m i _ _ J h3) z50 (λc=>ac5 v0 xc xe _ n m i _ c _ J h3) λc D P h4=>?_;omega;have F:(c,χ #[Θ Γ 0,Θ Γ 0] 50)∈(c,χ (ZL #[Θ Γ 0,Θ Γ 0]).cells 50)::O:=η;refine PX.mono (N:=1300+r*12000+7000+1) (by omega)<|PX.ne (N:=1300+r*12000+7000) (aH h4) F (Z8 _ hxe) (by simp[Ez]) λs=>?_;refine PX.mono ?_<|PX.aln (N:=1300+r*12000+6000) (n:=300) (O':=[(c,χ #[(vk i),(vn i)] 50),(xe,Ez)]) (aH h4) F (λp B=>?_) (UZ v0 xc xe _ n m i _ c _ D h4) Ha rfl rfl (by rw[h4.iX];exact li) (UG v0 xc xe _ n m i _ c _ D h4) λg5 h5=>Nj b (by omega) k z ok (by simp) (η) (λL x t q g h=>Hp b T k z G r (i+1) L x g (by omega) (by simp at t;omega) q h) h5;omega;simp only[Z2,ε,or_false]at B;obtain rfl|rfl:=B
  exact .inl rfl;exact .inr ⟨Z8 _ hxe,λe=>s e.symm⟩
def Bo{nN nO b0 o0 n m ca kd}{vk vn:Nat->Int}(j:K.TT 50/\K.TT 34/\K.TT 76)(Q:14<=K.C)(t:v0=⟨b0,o0,θ⟩)(F:Ni K b0 o0 nN nO)(w:OkK kd n)(J:∀i,i<n->Fu nN nO (vk i) (vn i)/\∃a,ca=U a/\a.spot=θ/\a.block<K.B0/\K.Y a.block/\∃cs e f,K.h0[a.block]?=U (.cells cs e f)/\cs[a.off+i*2]?=U (Θ Γ<|vk i)/\cs[a.off+i*2+1]?=U (Θ Γ<|vn i)):
 PX K (yR W0 rest) 60000 [] [] {frame:=ZN P0 213 #[Ω (U v0),.agg #[kd,.slice ca n m]] .normal,callers:=W0::rest,status:=.running,dying:=θ}:=by
 have z:n<=4:=by obtain h|h|h:=w<;>omega
 refine PX.mono ?_<|PX.to (N:=58000) (MR v0 _ _ (W0::rest)) λx s=>PX.mono ?_<|PX.box (N:=57000) (n:=300) (aH s) j.2.2 (adf v0 _ _ x s) (λb=>acS v0 _ b _ x s) λb v P r=>PX.mono ?_<|PX.var (N:=56000) (n:=300) (aH r) j.2.1 (adg v0 b _ v r) z34 (λc=>acT v0 b c _ v r) λc l D h3=>?_;omega;omega;omega;have d:(b,χ #[kd,.slice ca n m] 76)∈[(c,χ (Θ Γ 0).cells 34),(b,χ (ZL #[kd,.slice ca n m]).cells 76)]:=Z8 _ η;have q:(c,Ez)∈[(c,χ (Θ Γ 0).cells 34),(b,χ (ZL #[kd,.slice ca n m]).cells 76)]:=η;generalize S:[(c,χ (Θ Γ 0).cells 34),(b,χ (ZL #[kd,.slice ca n m]).cells 76)]=O at d q⊢;have p:∀(lo hi:Int),lo<=n->(n:Int)<=hi->∀g,aQ (fX v0 b c yx [(25,q1 b),iv 5 lo,iv 6 hi]) [] (W0::rest) g->PX K (yR W0 rest) 54000 [c,b] O g:=by intro lo hi s r g h;refine PX.mono ?_<|PX.o8 (N:=53000) (n:=300) (o:=1) (aH h) d (UU v0 b c lo hi _ g h) Ve rfl (by rw[h.iX];exact li) (UB v0 b c lo hi ca n m _ g h) λg h=>?_;omega;rw[show decide ((n:Int)<lo)=V from decide_eq_false<|by omega]at h;refine PX.mono ?_<|PX.to (N:=52000) (ac3 v0 b c hi _ g h) λg h=>PX.mono ?_<|PX.o8 (N:=51000) (n:=300) (o:=1) (aH h) d (UV v0 b c hi _ g h) Ve rfl (by rw[h.iX];exact li) (UC v0 b c hi ca n m _ g h) λg h=>?_;omega;omega;rw[show decide ((n:Int)>hi)=V from decide_eq_false<|by omega]at h;refine PX.mono ?_<|PX.to (N:=50400) (ac4 v0 b c _ g h) λg h=>PX.mono ?_<|PX.o8 (N:=1300+n*12000) (n:=300) (o:=1) (aH h) d (UW v0 b c _ g h) Ve rfl (by rw[h.iX];exact li) (UD v0 b c ca n m _ g h) λg h=>?_;omega;omega;exact Hp j.1 (by omega) t F J n 0 [c,b] O g (by omega) (by simp only[Zq,List.length_nil];omega) q h
 have three:∀{u S2 S3:R->Prop},bZ P0 V 300 u (fin kd l) ->(∀g,u g->aQ (fX v0 b c tB [(14,pz b),bv 13 V]) [] (W0::rest) g) ->(∀g,aQ (fX v0 b c tB [(14,pz b),bv 13 V]) [] (W0::rest) g->bZ P0 V 300 (aQ (fX v0 b c tC [(20,pz b)]) [] (W0::rest)) (fin kd g)) ->
  (∃lo hi:Int,lo<=n/\(n:Int)<=hi/\∀g,aQ (fX v0 b c tC [(20,pz b)]) [] (W0::rest) g->bZ P0 V 300 (aQ (fX v0 b c yx [(25,q1 b),iv 5 lo,iv 6 hi]) [] (W0::rest)) (fin kd g)) ->PX K (yR W0 rest) 56000 [c,b] O l:=by
  intro u S2 S3 G s1 E ⟨lo,hi,q1,L,B⟩;refine PX.mono ?_<|PX.o8 (N:=55400) (n:=300) (o:=0) (aH h3) d (UQ v0 b c _ l h3) GB rfl (by rw[h3.iX];exact li) G λk h4=>PX.mono ?_<|PX.o8 (N:=55000) (n:=300) (o:=0) (aH<|s1 k h4) d (UR v0 b c _ k<|s1 k h4) GB rfl (by rw[(s1 k h4).iX];exact li) (E k<|s1 k h4) λg5 h5=>PX.mono ?_<|PX.o8 (N:=54000) (n:=300) (o:=0) (aH h5) d (UT v0 b c _ g5 h5) GB rfl (by rw[h5.iX];exact li) (B g5 h5) λA H=>p lo hi q1 L A H;omega;omega;omega
 obtain⟨rfl,y⟩|⟨rfl,y⟩|⟨rfl,y⟩:=w
 exact three (S2:=λ_=>True) (S3:=λ_=>True) (acU v0 b c _ l h3) (λ_ h=>h) (λg h=>acV v0 b c _ g h) ⟨0,4,by omega,by omega,λg h=>acW v0 b c _ g h⟩;exact three (S2:=λ_=>True) (S3:=λ_=>True) (acX v0 b c _ l h3) (λ_ h=>h) (λg h=>acY v0 b c _ g h) ⟨1,1,by omega,by omega,λg h=>acZ v0 b c _ g h⟩;exact three (S2:=λ_=>True) (S3:=λ_=>True) (ac0 v0 b c _ l h3) (λ_ h=>h) (λg h=>ac1 v0 b c _ g h) ⟨2,2,by omega,by omega,λg h=>ac2 v0 b c _ g h⟩
end
end
end Ph
namespace Vc
open Go Go.Conc Ph
section
variable(b:Bool)(v0:Z1)(la:Option Z1)(n m:Nat)(q:Int)(nN nO:Nat)(j:Int)(ca:Option Z1)(cn cm:Nat)(i k:Int)(pe:Z1)(room:Int)
noncomputable abbrev Vg:=Cg PV 400
noncomputable abbrev Vf:=Cf PV 400
def fV(b:Bool)(T:List Zd)(l:List (Nat×ι)):bG:={fn:=166,n:=43,T,l,kind:=jq b}
def dL(d:bG)(stop:R->Bool):R:=bN PV I stop 400<|SC d [] [default] λ_ _=>undef
def rS(d:bG)(v:ι)(stop:R->Bool):R:=bN PV I stop 400<|fin v<|SC d [] [default] λ_ _=>undef
def KR:List Zd:=[.code Hs]
def w4:=aK<|dL (fV V KR [pv 0 a0,(1,υ (U a0) 1 1),iv 2 5])<|aC 166 4
def w41:=aK<|dL (fV V KR [pv 0 a0,(1,υ θ 0 0),iv 2 5])<|aC 166 41
abbrev R0:List (Nat×ι):=[(1,υ (U a0) 1 1)]
def w5:=aK<|dL (fV V w4 (bv 4 V::iv 3 1::pv 0 a0::R0))<|aC 166 5
def w9:=aK<|dL (fV V w5 (bv 5 V::iv 3 1::pv 0 a0::R0))<|ah 166 9
def w12:=aK<|rS (fV V w9 (iv 3 1::pv 7 a0::pv 0 a0::R0)) (υ (U a0) 1 1)<|ah 166 12
def Vn:=aK<|rS (fV V w12 (iv 3 1::iv 10 1::R0)) (υ (U a0) 1 1)<|aC 166 18
abbrev Qd:List (Nat×ι):=[iv 17 0,iv 13 1,iv 3 1,iv 10 1,(1,υ (U a0) 1 1)]
def w19:=aK<|dL (fV V Vn (bv 18 I::Qd))<|ah 166 19
def QU:=aK<|rS (fV V w19 Qd) (Ω<|U a0)<|ah 166 20
def Vo:=aK<|rS (fV V QU Qd) (.agg #[Θ Γ 0,υ (U a0) 1 1])<|aC 166 25
def Vp:=aK<|rS (fV V QU Qd) (.agg #[Θ Γ 0,υ θ 0 0])<|aC 166 41
abbrev tt:List (Nat×ι):=[(22,υ (U a0) 1 1),iv 24 1,iv 17 0,iv 13 1,iv 3 1,iv 10 1,(1,υ (U a0) 1 1)]
def Nl:=aK<|dL (fV V Vo (bv 25 I::iv 21 0::tt))<|aC 166 26
def Ht:=aK<|dL (fV V Vo (bv 25 V::iv 21 1::tt))<|aC 166 27
def Vq:=aK<|dL (fV V Ht (bv 27 I::iv 21 1::tt))<|aC 166 26
def Nm:=aK<|dL (fV V Ht (bv 27 V::iv 21 2::tt))<|aC 166 23
def Vr:=aK<|dL (fV V Nm (bv 23 I::iv 21 2::tt))<|aC 166 26
def Fv:=aK<|dL (fV V Nl (bv 26 V::tt))<|aC 166 29
def w31:=aK<|dL (fV V Fv (bv 29 I::iv 30 0::tt))<|ah 166 31
def Vs:=aK<|rS (fV V w31 (iv 30 0::tt)) (Ω<|U a0)<|ah 166 32
def w35:=aK<|rS (fV V Vs (iv 30 0::tt)) (.agg #[Θ Γ 0,Θ Γ 0])<|aC 166 35
def Nn:=aK<|dL (fV V w35 (bv 35 I::iv 33 0::iv 34 0::iv 30 0::tt))<|aC 166 36
def Vt:=aK<|dL (fV V Nn (bv 36 V::iv 33 0::iv 34 0::iv 30 0::tt))<|aC 166 37
def Hu:=aK<|dL (fV V w35 (bv 35 V::iv 33 2::iv 34 0::iv 30 0::tt))<|aC 166 38
def Vu:=aK<|dL (fV V Hu (bv 38 I::iv 33 2::iv 34 0::iv 30 0::tt))<|aC 166 36
def Hv:=aK<|dL (fV V Hu (bv 38 V::iv 33 3::iv 34 0::iv 30 0::tt))<|aC 166 39
def No:=aK<|dL (fV V Hv (bv 39 I::iv 33 3::iv 34 0::iv 30 0::tt))<|aC 166 36
def Vv:=aK<|dL (fV V No (bv 36 V::iv 33 3::iv 34 0::iv 30 0::tt))<|aC 166 37
def Np:=aK<|dL (fV V Hv (bv 39 V::iv 33 4::iv 34 0::iv 30 0::tt))<|aC 166 14
def Nq:=aK<|dL (fV V Np (bv 14 I::iv 33 4::iv 34 0::iv 30 0::tt))<|aC 166 36
def Vw:=aK<|dL (fV V Nq (bv 36 V::iv 33 4::iv 34 0::iv 30 0::tt))<|aC 166 37
def wp:=aK<|dL (fV V Vn (bv 18 V::Qd))<|aC 166 15
def uT:Nat->List Zd
 |0=>aK<|dL (fV V wp [bv 15 I,iv 17 0]) never
 |k+1=>aK<|dL (fV V (.inRegion aE [0,1]::(uT k).tail) [iv 17 0]) never
def xT(k:Nat):=aK<|dL (fV V (.inRegion aE [1,0]::(uT k).tail) [iv 17 0])<|ah 166 41
def ty(k:Nat):ZS:=[104,34,83,249,255,3,76,50].getD k 0
def nxT(k:Nat):List Zd:=if k=7 then wp else uT (k+1)
def nxL(k:Nat)(q:Int):List (Nat×ι):=if k=7 then [bv 15 (decide<|Ξ Γ (q+1)<2199023255552),iv 17<|Ξ Γ<|q+1]else [iv 17 q]
def Vx:=aK<|dL (fV V wp [bv 15 V,iv 17 0])<|lQ 166
abbrev cL(ca:Option Z1)(cn:Nat)(cm:Nat)(j:Int)(nO:Nat)(nN:Nat)(n:Nat)(la:Option Z1)(m:Nat):List (Nat×ι):=[(22,.slice ca cn cm),iv 24 cn,iv 17 j,iv 13 nO,iv 10 nN,iv 3 n,(1,.slice la n m)]
abbrev pf(j:Int)(nO:Nat)(nN:Nat)(n:Nat)(la:Option Z1)(m:Nat):List (Nat×ι):=[iv 17 j,iv 13 nO,iv 10 nN,iv 3 n,(1,.slice la n m)]
def s_0(a n m room):Vg (fV b KR [pv 0 v0,(1,υ (U a) n m),iv 2 room]) [] (fV b w4 [bv 4 (decide<|(n:Int)>room),iv 3 n,pv 0 v0,(1,υ (U a) n m)]) []:=by cases b<;>exactλ_ _=>bJ (aC 166 4) λ_=>by kernel_rfl
def alw:Vg (fV b KR [pv 0 v0,(1,υ θ n m),iv 2 room]) [] (fV b w41 [bv 41 ((n:Int) !=0),iv 3 n,pv 0 v0,(1,υ θ n m),iv 2 room]) []:=by cases b<;>exactλ_ _=>bJ (aC 166 41) λ_=>by kernel_rfl
def alx:Vg (fV b w41 [bv 41 V,iv 3 n,pv 0 v0,(1,υ θ n m),iv 2 room]) [] (fV b w4 [bv 4 (decide<|(n:Int)>room),iv 3 n,pv 0 v0,(1,υ θ n m)]) []:=by cases b<;>exactλ_ _=>bJ (aC 166 4) λ_=>by kernel_rfl
def s_4:Vg (fV b w4 [bv 4 V,iv 3 n,pv 0 v0,(1,.slice la n m)]) [] (fV b w5 [bv 5 (decide<|(n:Int)>1000000),iv 3 n,pv 0 v0,(1,.slice la n m)]) []:=by cases b<;>exactλ_ _=>bJ (aC 166 5) λ_=>by kernel_rfl
def s_5:Vg (fV b w5 [bv 5 V,iv 3 n,pv 0 v0,(1,.slice la n m)]) [] (fV b w9 [pv 8 ((v0.add 0).add 0),pv 7<|v0.add 0,iv 3 n,(1,.slice la n m)]) []:=by cases b<;>exactλ_ _=>bJ (ah 166 9) λ_=>by kernel_rfl
def s_9(a nN c):Vf (.slice a nN c) (fV b w9 [pv 8 ((v0.add 0).add 0),pv 7<|v0.add 0,iv 3 n,(1,.slice la n m)]) [] (fV b w12 [pv 11 ((v0.add 0).add 1),iv 10 nN,iv 3 n,(1,.slice la n m)]) []:=by cases b<;>cases a<;>exactλ_ _=>aR (ah 166 12) λ_=>by kernel_rfl
def aly(pa nO a):Vf (.slice pa nO a) (fV b w12 [pv 11 ((v0.add 0).add 1),iv 10 nN,iv 3 n,(1,.slice la n m)]) [] (fV b Vn [bv 18 (decide<|(0:Int)<n),iv 17 0,iv 13 nO,iv 10 nN,iv 3 n,(1,.slice la n m)]) []:=by cases b<;>cases pa<;>exactλ_ _=>aR (aC 166 18) λ_=>by kernel_rfl
def adU:Vg (fV b Vn (bv 18 I::pf j nO nN n la m)) [] (fV b w19<|pf j nO nN n la m) []:=by cases b<;>exactλ_ _=>bJ (ah 166 19) λ_=>by kernel_rfl
def alz:Vf (Ω<|U pe) (fV b w19<|pf j nO nN n la m) [] (fV b QU (pv 19 pe::pf j nO nN n la m)) []:=by cases b<;>exactλ_ _=>aR (ah 166 20) λ_=>by kernel_rfl
def alA(ca cn a c k):Vf (.agg #[Θ Γ k,υ (U ca) cn a]) (fV b QU (pv 19 c::pf j nO nN n la m)) [] (fV b Vo (bv 25 (k==0)::iv 21 k::(22,υ (U ca) cn a)::iv 24 cn::pf j nO nN n la m)) []:=by cases b<;>exactλ_ _=>aR (aC 166 25) λ_=>by kernel_rfl
def adV(k):Vf (.agg #[Θ Γ k,υ θ cn cm]) (fV b QU (pv 19 pe::pf j nO nN n la m)) [] (fV b Vp (bv 41 ((cn:Int) !=0)::iv 21 k::(22,υ θ cn cm)::iv 24 cn::pf j nO nN n la m)) []:=by cases b<;>exactλ_ _=>aR (aC 166 41) λ_=>by kernel_rfl
def adW:Vg (fV b Vp (bv 41 V::iv 21 k::(22,υ θ cn cm)::iv 24 cn::pf j nO nN n la m)) [] (fV b Vo (bv 25 (k==0)::iv 21 k::(22,υ θ cn cm)::iv 24 cn::pf j nO nN n la m)) []:=by cases b<;>exactλ_ _=>bJ (aC 166 25) λ_=>by kernel_rfl
def adX:Vg (fV b Vo (bv 25 I::iv 21 k::cL ca cn cm j nO nN n la m)) [] (fV b Nl (bv 26 (decide<|(cn:Int)>4)::cL ca cn cm j nO nN n la m)) []:=by cases b<;>exactλ_ _=>bJ (aC 166 26) λ_=>by kernel_rfl
def adY:Vg (fV b Vo (bv 25 V::iv 21 k::cL ca cn cm j nO nN n la m)) [] (fV b Ht (bv 27 (k==1)::iv 21 k::cL ca cn cm j nO nN n la m)) []:=by cases b<;>exactλ_ _=>bJ (aC 166 27) λ_=>by kernel_rfl
def Vy:Vg (fV b Ht (bv 27 I::iv 21 k::cL ca cn cm j nO nN n la m)) [] (fV b Vq (bv 26 ((cn:Int) !=1)::cL ca cn cm j nO nN n la m)) []:=by cases b<;>exactλ_ _=>bJ (aC 166 26) λ_=>by kernel_rfl
def Vz:Vg (fV b Ht (bv 27 V::iv 21 k::cL ca cn cm j nO nN n la m)) [] (fV b Nm (bv 23 (k==2)::iv 21 k::cL ca cn cm j nO nN n la m)) []:=by cases b<;>exactλ_ _=>bJ (aC 166 23) λ_=>by kernel_rfl
def VA:Vg (fV b Nm (bv 23 I::iv 21 k::cL ca cn cm j nO nN n la m)) [] (fV b Vr (bv 26 ((cn:Int) !=2)::cL ca cn cm j nO nN n la m)) []:=by cases b<;>exactλ_ _=>bJ (aC 166 26) λ_=>by kernel_rfl
def adZ:Vg (fV b Nl (bv 26 V::cL ca cn cm j nO nN n la m)) [] (fV b Fv (bv 29 (decide<|(0:Int)<cn)::iv 30 0::cL ca cn cm j nO nN n la m)) []:=by cases b<;>exactλ_ _=>bJ (aC 166 29) λ_=>by kernel_rfl
def ad0:Vg (fV b Vq (bv 26 V::cL ca cn cm j nO nN n la m)) [] (fV b Fv (bv 29 (decide<|(0:Int)<cn)::iv 30 0::cL ca cn cm j nO nN n la m)) []:=by cases b<;>exactλ_ _=>bJ (aC 166 29) λ_=>by kernel_rfl
def ad1:Vg (fV b Vr (bv 26 V::cL ca cn cm j nO nN n la m)) [] (fV b Fv (bv 29 (decide<|(0:Int)<cn)::iv 30 0::cL ca cn cm j nO nN n la m)) []:=by cases b<;>exactλ_ _=>bJ (aC 166 29) λ_=>by kernel_rfl
def ad2:Vg (fV b Fv (bv 29 I::iv 30 i::cL ca cn cm j nO nN n la m)) [] (fV b w31 (iv 30 i::cL ca cn cm j nO nN n la m)) []:=by cases b<;>exactλ_ _=>bJ (ah 166 31) λ_=>by kernel_rfl
def alD:Vf (Ω<|U pe) (fV b w31 (iv 30 i::cL ca cn cm j nO nN n la m)) [] (fV b Vs (pv 31 pe::iv 30 i::cL ca cn cm j nO nN n la m)) []:=by cases b<;>exactλ_ _=>aR (ah 166 32) λ_=>by kernel_rfl
def ai1(N a):Vf (.agg #[Θ Γ k,Θ Γ N]) (fV b Vs (pv 31 a::iv 30 i::cL ca cn cm j nO nN n la m)) [] (fV b w35 (bv 35 (k==0)::iv 33 k::iv 34 N::iv 30 i::cL ca cn cm j nO nN n la m)) []:=by cases b<;>exactλ_ _=>aR (aC 166 35) λ_=>by kernel_rfl
def ad3(N):Vg (fV b w35 (bv 35 I::iv 33 k::iv 34 N::iv 30 i::cL ca cn cm j nO nN n la m)) [] (fV b Nn (bv 36 (decide<|N< -99)::iv 33 k::iv 34 N::iv 30 i::cL ca cn cm j nO nN n la m)) []:=by cases b<;>exactλ_ _=>bJ (aC 166 36) λ_=>by kernel_rfl
def ad4(N):Vg (fV b Nn (bv 36 V::iv 33 k::iv 34 N::iv 30 i::cL ca cn cm j nO nN n la m)) [] (fV b Vt (bv 37 (decide<|N>99)::iv 30 i::cL ca cn cm j nO nN n la m)) []:=by cases b<;>exactλ_ _=>bJ (aC 166 37) λ_=>by kernel_rfl
def ad5:Vg (fV b Vt (bv 37 V::iv 30 i::cL ca cn cm j nO nN n la m)) [] (fV b Fv (bv 29 (decide<|Ξ Γ (i+1)<cn)::iv 30 (Ξ Γ<|i+1)::cL ca cn cm j nO nN n la m)) []:=by cases b<;>exactλ_ _=>bJ (aC 166 29) λ_=>by kernel_rfl
def ad6(N):Vg (fV b w35 (bv 35 V::iv 33 k::iv 34 N::iv 30 i::cL ca cn cm j nO nN n la m)) [] (fV b Hu (bv 38 (k==2)::iv 33 k::iv 34 N::iv 30 i::cL ca cn cm j nO nN n la m)) []:=by cases b<;>exactλ_ _=>bJ (aC 166 38) λ_=>by kernel_rfl
def VB(N):Vg (fV b Hu (bv 38 I::iv 33 k::iv 34 N::iv 30 i::cL ca cn cm j nO nN n la m)) [] (fV b Vu (bv 36 (N !=0)::iv 30 i::cL ca cn cm j nO nN n la m)) []:=by cases b<;>exactλ_ _=>bJ (aC 166 36) λ_=>by kernel_rfl
def ad7:Vg (fV b Vu (bv 36 V::iv 30 i::cL ca cn cm j nO nN n la m)) [] (fV b Fv (bv 29 (decide<|Ξ Γ (i+1)<cn)::iv 30 (Ξ Γ<|i+1)::cL ca cn cm j nO nN n la m)) []:=by cases b<;>exactλ_ _=>bJ (aC 166 29) λ_=>by kernel_rfl
def VC(N):Vg (fV b Hu (bv 38 V::iv 33 k::iv 34 N::iv 30 i::cL ca cn cm j nO nN n la m)) [] (fV b Hv (bv 39 (k==3)::iv 33 k::iv 34 N::iv 30 i::cL ca cn cm j nO nN n la m)) []:=by cases b<;>exactλ_ _=>bJ (aC 166 39) λ_=>by kernel_rfl
def VD(N):Vg (fV b Hv (bv 39 I::iv 33 k::iv 34 N::iv 30 i::cL ca cn cm j nO nN n la m)) [] (fV b No (bv 36 (decide<|N<0)::iv 33 k::iv 34 N::iv 30 i::cL ca cn cm j nO nN n la m)) []:=by cases b<;>exactλ_ _=>bJ (aC 166 36) λ_=>by kernel_rfl
def ad8(N):Vg (fV b No (bv 36 V::iv 33 k::iv 34 N::iv 30 i::cL ca cn cm j nO nN n la m)) [] (fV b Vv (bv 37 (decide<|N>=nN)::iv 30 i::cL ca cn cm j nO nN n la m)) []:=by cases b<;>exactλ_ _=>bJ (aC 166 37) λ_=>by kernel_rfl
def ad9:Vg (fV b Vv (bv 37 V::iv 30 i::cL ca cn cm j nO nN n la m)) [] (fV b Fv (bv 29 (decide<|Ξ Γ (i+1)<cn)::iv 30 (Ξ Γ<|i+1)::cL ca cn cm j nO nN n la m)) []:=by cases b<;>exactλ_ _=>bJ (aC 166 29) λ_=>by kernel_rfl
def VE(N):Vg (fV b Np (bv 14 I::iv 33 k::iv 34 N::iv 30 i::cL ca cn cm j nO nN n la m)) [] (fV b Nq (bv 36 (decide<|N<0)::iv 33 k::iv 34 N::iv 30 i::cL ca cn cm j nO nN n la m)) []:=by cases b<;>exactλ_ _=>bJ (aC 166 36) λ_=>by kernel_rfl
def aea(N):Vg (fV b Nq (bv 36 V::iv 33 k::iv 34 N::iv 30 i::cL ca cn cm j nO nN n la m)) [] (fV b Vw (bv 37 (decide<|N>=nO)::iv 30 i::cL ca cn cm j nO nN n la m)) []:=by cases b<;>exactλ_ _=>bJ (aC 166 37) λ_=>by kernel_rfl
def aeb:Vg (fV b Vw (bv 37 V::iv 30 i::cL ca cn cm j nO nN n la m)) [] (fV b Fv (bv 29 (decide<|Ξ Γ (i+1)<cn)::iv 30 (Ξ Γ<|i+1)::cL ca cn cm j nO nN n la m)) []:=by cases b<;>exactλ_ _=>bJ (aC 166 29) λ_=>by kernel_rfl
def VF(N):Vg (fV b Hv (bv 39 V::iv 33 k::iv 34 N::iv 30 i::cL ca cn cm j nO nN n la m)) [] (fV b Np (bv 14 (k==4)::iv 33 k::iv 34 N::iv 30 i::cL ca cn cm j nO nN n la m)) []:=by cases b<;>exactλ_ _=>bJ (aC 166 14) λ_=>by kernel_rfl
def aec:Vg (fV b Fv (bv 29 V::iv 30 i::cL ca cn cm j nO nN n la m)) [] (fV b Vn [bv 18 (decide<|Ξ Γ (j+1)<n),iv 17<|Ξ Γ<|j+1,iv 13 nO,iv 10 nN,iv 3 n,(1,.slice la n m)]) []:=by cases b<;>exactλ_ _=>bJ (aC 166 18) λ_=>by kernel_rfl
def aed:Vg (fV b Vn (bv 18 V::pf j nO nN n la m)) [] (fV b wp [bv 15 (decide<|(0:Int)<2199023255552),iv 17 0]) []:=by cases b<;>exactλ_ _=>bJ (aC 166 15) λ_=>by kernel_rfl
def Nr:Vg (fV b wp [bv 15 I,iv 17 q]) [] (fV b (uT 0) [iv 17 q]) []:=by cases b<;>exactλ_ _=>bJ never λ_=>by kernel_rfl
def p_f:Vg (fV b wp [bv 15 V,iv 17 q]) [] {fn:=166,n:=43,T:=Vx,l:=[],mode:=.returning,kind:=jq b} []:=by cases b<;>exactλ_ _=>bJ (lQ 166) λ_=>by kernel_rfl
def e8{k}(h:k<8):k=0\/k=1\/k=2\/k=3\/k=4\/k=5\/k=6\/k=7:=by omega
def pD(cs c0 g k)(c:k<8)(h:aQ (fV b (uT k) [iv 17 q]) [] (c0::cs) g):∃a:Nat->R,(∀w,stepG PV I g w=.go (a<|w.tape w.drawn<|.order 166<|100+k) {w with drawn:=w.drawn+1} #[])/\∀t,aQ (fV b (.inRegion aE (Zo I aE t)::(uT k).tail) [iv 17 q]) [] (c0::cs) (a t):=by obtain⟨F,rfl⟩:=h;exact⟨λt=>SC (fV b (.inRegion aE (Zo I aE t)::(uT k).tail) [iv 17 q]) [] (c0::cs) F,λw=>by obtain rfl|rfl|rfl|rfl|rfl|rfl|rfl|rfl:=e8 c<;>cases b<;>kernel_rfl,λt=>⟨F,rfl⟩⟩
def pO1(k)(a:k<8):Vg (fV b (.inRegion aE [1,0]::(uT k).tail) [iv 17 q]) [] (fV b (xT k) [iv 17 q]) []:=by obtain rfl|rfl|rfl|rfl|rfl|rfl|rfl|rfl:=e8 a<;>cases b<;>exactλ_ _=>bJ (ah 166 41) λ_=>by kernel_rfl
def pO0(k)(a:k<8):Vg (fV b (.inRegion aE [0,1]::(uT k).tail) [iv 17 q]) [] (fV b (nxT k)<|nxL k q) []:=by obtain rfl|rfl|rfl|rfl|rfl|rfl|rfl|rfl:=e8 a<;>cases b<;>exactλ_ _=>bJ (aC 166 15) λ_=>by kernel_rfl
def pBX(x k)(a:k<8):Vf x (fV b (xT k) [iv 17 q]) [] (fV b (nxT k)<|nxL k q) []:=by obtain rfl|rfl|rfl|rfl|rfl|rfl|rfl|rfl:=e8 a<;>cases b<;>exactλ_ _=>aR (aC 166 15) λ_=>by kernel_rfl
def pHV(k)(a:k<8):CL (fV b (xT k) [iv 17 q]) [] (PL (ty k)<|.agg #[]):=by obtain rfl|rfl|rfl|rfl|rfl|rfl|rfl|rfl:=e8 a<;>cases b<;>exactλ_ _=>aQ.head λ_=>by kernel_rfl
def ama:CL (fV b w9 [pv 8 ((v0.add 0).add 0),pv 7<|v0.add 0,iv 3 n,(1,.slice la n m)]) [] (bI 22<|Ω<|U<|(v0.add 0).add 0):=by cases b<;>exactλ_ _=>aQ.head λ_=>by kernel_rfl
def aem:CL (fV b w12 [pv 11 ((v0.add 0).add 1),iv 10 nN,iv 3 n,(1,.slice la n m)]) [] (bI 22<|Ω<|U<|(v0.add 0).add 1):=by cases b<;>exactλ_ _=>aQ.head λ_=>by kernel_rfl
def aen:CL (fV b w19<|pf j nO nN n la m) [] (G2 22 (.slice la n m)<|Θ Γ j):=by cases b<;>exactλ_ _=>aQ.head λ_=>by kernel_rfl
def aeo:CL (fV b QU (pv 19 pe::pf j nO nN n la m)) [] (bI 76<|Ω<|U pe):=by cases b<;>exactλ_ _=>aQ.head λ_=>by kernel_rfl
def aep:CL (fV b w31 (iv 30 i::cL ca cn cm j nO nN n la m)) [] (G2 23 (.slice ca cn cm)<|Θ Γ i):=by cases b<;>exactλ_ _=>aQ.head λ_=>by kernel_rfl
def aeq:CL (fV b Vs (pv 31 pe::iv 30 i::cL ca cn cm j nO nN n la m)) [] (bI 50<|Ω<|U pe):=by cases b<;>exactλ_ _=>aQ.head λ_=>by kernel_rfl
end
section
def JL:GStep->Bool
 |.ended (.done _) _ _=>V
 |.ended _ _ _=>I
 |_=>V
def Hw(g:R)(w:ξ):Bool:=match g.status with
 |.running=>JL<|stepG PV I g w
 |_=>V
def gy(g:R):Prop:=∀w,Hw (bN PV I never 400 g) w=I
section
variable(b:Bool)(cs:List ZW)(c0:ZW)(g:R)
def Ns(c a d)(h:aQ (fV b KR [(0,c),(1,a),(2,d)]) [] (c0::cs) g):(∃la n m,a=.slice la n m)\/gy g:=by obtain⟨F,rfl⟩:=h;cases a<;>first|exact .inl ⟨_,_,_,rfl⟩|(right;intro w;cases b<;>kernel_rfl)
def Nt(d c la n m)(h:aQ (fV b KR [(0,d),(1,.slice la n m),(2,c)]) [] (c0::cs) g):(∃room,c=Θ Γ room)\/gy g:=by
 obtain⟨F,rfl⟩:=h;cases c with
 |int k room=>cases k<;>first|exact .inl ⟨_,rfl⟩|(right;intro w;cases b<;>cases la<;>kernel_rfl)
 |pointer a=>right;intro w;cases a<;>cases b<;>cases la<;>kernel_rfl
 |_=>right;intro w;cases b<;>cases la<;>kernel_rfl
def Nu(c la n m room)(h:aQ (fV b KR [(0,c),(1,.slice la n m),iv 2 room]) [] (c0::cs) g):(∃v0,c=Ω (U v0))\/gy g:=by
 obtain⟨F,rfl⟩:=h;cases c with
 |pointer a=>
  obtain _|a:=a
  right;intro w;cases b<;>cases la<;>kernel_rfl;exact .inl ⟨_,rfl⟩
 |_=>right;intro w;cases b<;>cases la<;>kernel_rfl
def amb(v0:Z1)(la)(n m:Nat)(x)(h:aQ (fV b w9 [pv 8 ((v0.add 0).add 0),pv 7<|v0.add 0,iv 3 n,(1,.slice la n m)]) [] (c0::cs) g):(∃a nN c,x=.slice a nN c)\/gy (fin x g):=by obtain⟨F,rfl⟩:=h;cases x<;>first|exact .inl ⟨_,_,_,rfl⟩|(right;intro w;cases b<;>kernel_rfl)
def aer(v0:Z1)(la)(n m nN:Nat)(x)(h:aQ (fV b w12 [pv 11 ((v0.add 0).add 1),iv 10 nN,iv 3 n,(1,.slice la n m)]) [] (c0::cs) g):(∃a nN c,x=.slice a nN c)\/gy (fin x g):=by obtain⟨F,rfl⟩:=h;cases x<;>first|exact .inl ⟨_,_,_,rfl⟩|(right;intro w;cases b<;>kernel_rfl)
def afX(la)(n m nN nO:Nat)(j d x y)(h:aQ (fV b QU [pv 19 d,iv 17 j,iv 13 nO,iv 10 nN,iv 3 n,(1,.slice la n m)]) [] (c0::cs) g):(∃k,x=Θ Γ k)\/gy (fin (.agg #[x,y]) g):=by
 obtain⟨F,rfl⟩:=h;cases x with
 |int k c=>cases k<;>first|exact .inl ⟨_,rfl⟩|(right;intro w;cases b<;>kernel_rfl)
 |pointer a=>right;intro w;cases a<;>cases b<;>kernel_rfl
 |_=>right;intro w;cases b<;>kernel_rfl
def VH(la)(n m nN nO:Nat)(j c k y)(h:aQ (fV b QU [pv 19 c,iv 17 j,iv 13 nO,iv 10 nN,iv 3 n,(1,.slice la n m)]) [] (c0::cs) g):(∃ca cn a,y=.slice ca cn a)\/gy (fin (.agg #[Θ Γ k,y]) g):=by obtain⟨F,rfl⟩:=h;cases y<;>first|exact .inl ⟨_,_,_,rfl⟩|(right;intro w;cases b<;>kernel_rfl)
def VI(la)(n m nN nO:Nat)(j ca cn d i e x y)(h:aQ (fV b Vs [pv 31 e,iv 30 i,(22,.slice ca cn d),iv 24 cn,iv 17 j,iv 13 nO,iv 10 nN,iv 3 n,(1,.slice la n m)]) [] (c0::cs) g):(∃k,x=Θ Γ k)\/gy (fin (.agg #[x,y]) g):=by
 obtain⟨F,rfl⟩:=h;cases x with
 |int k c=>cases k<;>first|exact .inl ⟨_,rfl⟩|(right;intro w;cases b<;>kernel_rfl)
 |pointer a=>right;intro w;cases a<;>cases b<;>kernel_rfl
 |_=>right;intro w;cases b<;>kernel_rfl
def VJ(la)(n m nN nO:Nat)(j ca cn d i e k y)(h:aQ (fV b Vs [pv 31 e,iv 30 i,(22,.slice ca cn d),iv 24 cn,iv 17 j,iv 13 nO,iv 10 nN,iv 3 n,(1,.slice la n m)]) [] (c0::cs) g):(∃N,y=Θ Γ N)\/gy (fin (.agg #[Θ Γ k,y]) g):=by
 obtain⟨F,rfl⟩:=h;cases y with
 |int k c=>cases k<;>first|exact .inl ⟨_,rfl⟩|(right;intro w;cases b<;>kernel_rfl)
 |pointer a=>right;intro w;cases a<;>cases b<;>kernel_rfl
 |_=>right;intro w;cases b<;>kernel_rfl
def Ct:List (List Zd×Nat×Bool):=[(w4,4,I),(w5,5,I),(w41,41,I),(Vp,41,I),(Nl,26,I),(Vq,26,I),(Vr,26,I),(Nm,23,V),(Nn,36,I),(Vt,37,I),(Vu,36,I),(No,36,I),(Vv,37,I),(Nq,36,I),(Vw,37,I),(Np,14,V)]
def dies{p}(a:p∈Ct){l}(h:aQ (fV b p.1 (bv p.2.1 p.2.2::l)) [] (c0::cs) g):gy g:=by
 obtain⟨F,rfl⟩:=h
 exactλw=>List.map_inj_left.1 (show Ct.map (λp=>Hw (bN PV I never 400<|SC (fV b p.1 (bv p.2.1 p.2.2::l)) [] (c0::cs) F) w)=Ct.map λ_=>I by cases b<;>kernel_rfl) p a
end
end
end Vc
namespace Vc
open Go Go.Conc Ph
open gO (cj bu be xt Ctx)
section
def Hx(L:bu):Y9->Prop
 |.cells ..=>True
 |.view a _=>a.spot.isSome=I
 |.loop l=>(l.fn≠166/\∃fn b,PV.funcs[l.fn]?=U fn/\fn.body=U b)/\be L I l.assign=I/\be L I l.body=I/\∀j,l.pending=U j->be L I j=I
 |.deferred d=>d=θ\/d=U []
 |.map ..|.mapIter ..|.stringIter ..|.number ..=>True
 |_=>False
def Safe(L:bu)(w:ξ):Prop:=∀(b:Nat) o,w.heap[b]?=U o->Hx L o
def aeu(e:Halt):Prop:=(∃s,e=.stuck s)\/∃x,e=.unsupported x/\∀g,x≠.initOrder g
def rT{L w}(hs:Safe L w)(P a at_):∃e,w.farLoad P a at_=.error e/\aeu e:=by
 unfold World.farLoad;split
 rename_i x t b;have e:w.viewLoad P x t a at_=.error "memory seen as another type: a place without cells":=by unfold World.viewLoad;rw[gO.seen_spot _ _ _ _ _ _ (hs _ _ b)];rfl
 rw[e];exact⟨_,rfl,.inr ⟨_,rfl,by simp⟩⟩;unfold World.noCell;split
 rename_i h;exact(hs _ _ h).elim
 grind
 exact⟨_,rfl,.inl ⟨_,rfl⟩⟩
section
variable{P:Zn}{main:Bool}{g:R}{s:Sem Next}{w w':ξ}{es:Array ZH}
def jS{e}(h:au g=U s)(j:s.runT P w #[]=(.halt e w',es))(l:aeu e):g.status=.running/\JL (stepG P main g w)=I:=by
 unfold au at h;by_cases b:d9 g=I
 ·rw[if_pos b]at h;obtain⟨fr,cs,st,k,off⟩:=g;obtain⟨fn,d,todo,defers,mode,kind,m⟩:=fr;obtain⟨o,a,rfl⟩:=ω.1 h;obtain⟨rfl,rfl,rfl,rfl,f⟩:st=.running/\k=θ/\off=θ/\m=θ/\(kind==.early)=V:=by unfold Ph.d9 at b;dsimp only at b;split at b<;>first|(cases b;done)|exact⟨rfl,rfl,rfl,rfl,rfl⟩
  unfold rC at a;dsimp only at a;cases mode with
  |run=>
   obtain _|⟨i,rest⟩:=todo
   cases a
   cases i with
   |inRegion c todo=>
    obtain _|⟨i,is⟩:=todo
    cases a
    dsimp only at a;by_cases hw:(((c[i]?).map (Ym · (yielded c d))).getD V)=I
    rw[if_pos hw]at a;refine⟨rfl,?_⟩;unfold stepG;dsimp only;unfold stepG.exec;dsimp only;simp only[if_pos hw];unfold stepG.oper;simp only[Yb,a];unfold stepG.apply;obtain⟨s,rfl⟩|⟨x,rfl,n⟩:=l
    simp only[if_true,j,f,ZA,if_false];rfl;simp only[if_true,j,f,ZA,if_false];cases x<;>first|rfl|exact absurd rfl<|n _
    rw[if_neg hw]at a;cases a
   |_=>cases a
  |_=>cases a
 rw[if_neg b]at h;cases h
def yV{L t ad}(hs:Safe L w)(h:au g=U (bI t<|Ω<|U ad))(a:pS P t V):(∃v,w.cell? ad=U v)\/JL (stepG P main g w)=I:=by
 cases hc:w.cell? ad with
 |some v=>exact .inl ⟨v,rfl⟩
 |none=>right;obtain⟨e,c,b⟩:=rT hs P ad<|Y2==.atomic;refine(jS (w':=w) (es:=(bI t<|Ω<|U ad).events P w #[]) h ?_ b).2;unfold bI YW Zi X9;simp[a.run,hc,c]
def yW{L t ad}(hs:Safe L w)(h:au g=U (bI t<|Ω<|U ad))(d:pS P t I)(hz:dt P t 2):(∃v b,w.cell? (ad.add 0)=U v/\w.cell? (ad.add 1)=U b)\/JL (stepG P main g w)=I:=by
 cases hc:w.cell? (ad.add 0)with
 |none=>right;obtain⟨e,a,c⟩:=rT hs P (ad.add 0)<|Y2==.atomic;refine(jS (w':=w) (es:=(bI t<|Ω<|U ad).events P w #[]) h ?_ c).2;rw[Zs];unfold bI YW Zi X9;simp[d.run,hz.run,hc,a,ZP,loadCells,loadCellsFrom,load,Sem.run]
 |some v=>
  cases hc':w.cell? (ad.add 1)with
  |some b=>exact .inl ⟨v,b,rfl,rfl⟩
  |none=>right;obtain⟨e,a,c⟩:=rT hs P (ad.add 1)<|Y2==.atomic;refine(jS (w':=w) (es:=(bI t<|Ω<|U ad).events P w #[]) h ?_ c).2;rw[Zs];unfold bI YW Zi X9;simp[d.run,hz.run,hc,hc',a,ZP,loadCells,loadCellsFrom,load,Sem.run]
end
def np(g:R)(w:ξ):Prop:=∃n v w',runN PV n (solo g w)=.ended (.done v) w'
section
variable{g g':R}{w w':ξ}{S:R->Prop}
def np.step{es}(h:np g w)(c:g.status=.running)(hs:stepG PV I g w=.go g' w' es):np g' w':=by
 obtain⟨n,v,b,a⟩:=h;cases n with
 |zero=>simp only[runN]at a;cases a
 |succ n=>simp only[runN,Y0 c hs]at a;exact⟨n,v,b,a⟩
def np.bad(h:np g w)(hb:Hw g w=I):False:=by
 obtain⟨n,v,e,a⟩:=h;unfold Hw at hb;split at hb
 rename_i b;cases n with
 |zero=>simp only[runN]at a;cases a
 |succ n=>
  cases hst:stepG PV I g w with
  |ended o c d=>
   simp only[runN,cj b hst]at a;injection a with h1 h2
   subst h1;rw[hst]at hb;cases hb
  |_=>rw[hst]at hb;cases hb
 grind
def np.path:∀{k} {g},np g w->Path PV I k g g'->np g' w
 |0,g,h,hp=>by have:=hp;rw[this];exact h
 |k+1,g,h,hp=>by obtain⟨b,d,a,c⟩:=hp;exact np.path (h.step b<|a w) c
def np.to{n}(h:np g w)(b:bZ PV I n S g):∃g',S g'/\np g' w:=by obtain⟨k,_,g',a,hs⟩:=b;exact⟨g',hs,np.path h a⟩
def np.dies(h:np g w)(hd:gy g):False:=by obtain⟨b,rfl,a⟩:=h.to<|bZ.run never 400 rfl;exact a.bad<|hd w
def vQ(a:g.status=.running)(h:JL (stepG PV I g w)=I):Hw g w=I:=by
 unfold Hw
 grind
end
def De:pS PV 22 V:=λw a=>by kernel_rfl
def QV:pS PV 76 I:=λw a=>by kernel_rfl
def Hy:dt PV 76 2:=λw a=>by kernel_rfl
def QW:pS PV 50 I:=λw a=>by kernel_rfl
def Hz:dt PV 50 2:=λw a=>by kernel_rfl
def aev:PV.underlying 22=U (.slice 76):=by kernel_rfl
def aew:PV.underlying 23=U (.slice 50):=by kernel_rfl
def nrV:bR PV 166 V:=by rfl
def QX(w:ξ)(nN nO:Nat)(ad:Z1):Prop:=∃k N,Fu nN nO k N/\w.cell? (ad.add 0)=U (Θ Γ k)/\w.cell? (ad.add 1)=U (Θ Γ N)
def CAt(w:ξ)(nN nO:Nat)(ad:Z1):Prop:=∃kd ca cn cm,OkK kd cn/\w.cell? (ad.add 0)=U (Θ Γ kd)/\w.cell? (ad.add 1)=U (.slice ca cn cm)/\∀i,i<cn->∃a,ca=U a/\QX w nN nO (a.add<|i*2)
structure amc(w:ξ)(x0 x1 x2:ι):Prop where
 ex:∃v0 la n m room nN nO oa om pa pm,x0=Ω (U v0)/\x1=.slice la n m/\x2=Θ Γ room/\(n:Int)<=room/\n<=1000000/\w.cell? ((v0.add 0).add 0)=U (.slice oa nN om)/\w.cell? ((v0.add 0).add 1)=U (.slice pa nO pm)/\∀j,j<n->∃a,la=U a/\CAt w nN nO (a.add (j*2))
section
variable{L:bu}{w:ξ}{b:Bool}{cs:List ZW}{c0:ZW}{g:R}
variable{la:Option Z1}{n m nN nO:Nat}
def Df(b:Bool)(la:Option Z1)(n m nN nO:Nat)(j:Nat)(ca:Option Z1)(cn cm:Nat)(i:Nat)(cs:List ZW)(c0:ZW)(g:R):Prop:=aQ (fV b Fv [bv 29 (decide<|(i:Int)<cn),iv 30 i,(22,.slice ca cn cm),iv 24 cn,iv 17 j,iv 13 nO,iv 10 nN,iv 3 n,(1,.slice la n m)]) [] (c0::cs) g
def AtJ(b:Bool)(la:Option Z1)(n m nN nO:Nat)(j:Nat)(cs:List ZW)(c0:ZW)(g:R):Prop:=aQ (fV b Vn [bv 18 (decide<|(j:Int)<n),iv 17 j,iv 13 nO,iv 10 nN,iv 3 n,(1,.slice la n m)]) [] (c0::cs) g
def Dg{i:Nat}(h:i<4000000000000):Ξ Γ ((i:Int)+1)=((i+1:Nat):Int):=by rw[Zt];omega
end
end
end Vc
namespace Vc
open Go Go.Conc Ph
open gO (cj bu be xt Ctx gW bL)
section
section
variable{u0:ξ}{g g' g1 g2:R}{h h1 h2:Array Y9}
def VW(u0:ξ)(g:R)(h:Array Y9)(g':R)(h':Array Y9):Prop:=∃M δ σ,gW PV u0 M δ σ g h g' h'
def VW.refl:VW u0 g h g h:=⟨0,0,λ_ _=>0,gO.gW.refl _ _ _ _ _⟩
def VW.trans(a:VW u0 g h g1 h1)(b:VW u0 g1 h1 g2 h2):VW u0 g h g2 h2:=by obtain⟨c,f,j,a⟩:=a;obtain⟨i,e,d,b⟩:=b;exact⟨_,_,_,a.trans b⟩
def VW.step(b:g.status=.running)(hs:∀a D,∃es,stepG PV I g (bL u0 h a D)=.go g' (bL u0 h1 a D) es):VW u0 g h g' h1:=by refine⟨1,0,λ_ _=>0,λa D _=>?_⟩;obtain⟨es,e⟩:=hs a D;simp only[runN,Y0 b e];rfl
def VW.draw{q x}(c:g.status=.running)(hs:∀a D,a D q=x->∃es,stepG PV I g (bL u0 h a D)=.go g' (bL u0 h1 a<|D+1) es):VW u0 g h g' h1:=by refine⟨1,1,λ_ _=>x,λa D b=>?_⟩;obtain⟨es,e⟩:=hs a D<|b 0 q Nat.one_pos;simp only[runN,Y0 c e]
def VW.path:∀{k} {g},Path PV I k g g'->VW u0 g h g' h
 |0,g,hp=>by have:=hp;rw[this];exact .refl
 |k+1,g,hp=>by obtain⟨b,d,a,c⟩:=hp;exact(VW.step b λe D=>⟨_,a _⟩).trans<|VW.path c
def VW.to{n S}(b:bZ PV I n S g):∃g',VW u0 g h g' h/\S g':=by obtain⟨k,_,g',a,hs⟩:=b;exact⟨g',VW.path a,hs⟩
end
section
variable{L:bu}{u0:ξ}{h:Array Y9}{T0:Nat->YN->Nat}{D0:Nat}{b:Bool}{cs:List ZW}{c0:ZW}{g:R}
def AR(u0:ξ)(h:Array Y9)(T0:Nat->YN->Nat)(D0:Nat)(S:R->Prop)(g:R):Prop:=∃g',VW u0 g h g' h/\np g' (bL u0 h T0 D0)/\S g'
variable{S:R->Prop}
def AR.here(a:np g (bL u0 h T0 D0))(hs:S g):AR u0 h T0 D0 S g:=⟨g,.refl,a,hs⟩
def AR.bind{S'}(f:AR u0 h T0 D0 S g)(k:∀g',np g' (bL u0 h T0 D0) ->S g'->AR u0 h T0 D0 S' g'):AR u0 h T0 D0 S' g:=by obtain⟨d,q1,j,i⟩:=f;obtain⟨b,c,e,a⟩:=k d j i;exact⟨b,q1.trans c,e,a⟩
def AR.to{n S'}(c:np g (bL u0 h T0 D0))(b:bZ PV I n S g)(d:∀g',np g' (bL u0 h T0 D0) ->S g'->AR u0 h T0 D0 S' g'):AR u0 h T0 D0 S' g:=by obtain⟨k,_,g',a,hs⟩:=b;exact AR.bind ⟨g',VW.path a,np.path c a,hs⟩ d
def AR.step{n S S' b}(i:np g (bL u0 h T0 D0))(c:g.status=.running)(hs:∀d D,∃es,stepG PV I g (bL u0 h d D)=.go b (bL u0 h d D) es)(f:bZ PV I n S b)(j:∀g',np g' (bL u0 h T0 D0) ->S g'->AR u0 h T0 D0 S' g'):AR u0 h T0 D0 S' g:=by obtain⟨es,e⟩:=hs T0 D0;exact AR.bind ⟨b,VW.step c hs,i.step c e,rfl⟩ λg' a e=>by subst e;exact AR.to a f j
variable{la:Option Z1}{n m nN nO:Nat}
def AR.cont{g1}(w:VW u0 g h g1 h)(b:AR u0 h T0 D0 S g1):AR u0 h T0 D0 S g:=by obtain⟨a,q1,d,c⟩:=b;exact⟨a,w.trans q1,d,c⟩
def NJ(hs:Safe L (bL u0 h T0 D0)){j ca cn c i}(Q:ca=θ->cn=0)(hi:i<cn)(X:i<4000000000000)(ha:np g (bL u0 h T0 D0))(S:Df b la n m nN nO j ca cn c i cs c0 g):
 (∃a,ca=U a/\QX (bL u0 h T0 D0) nN nO (a.add<|i*2))/\AR u0 h T0 D0 (Df b la n m nN nO j ca cn c (i+1) cs c0) g:=by
 obtain⟨a,rfl⟩:∃a,ca=U a:=by
  obtain _|a:=ca
  have:=Q rfl;omega;exact⟨a,rfl⟩
 unfold Df at S;rw[show decide ((i:Int)<(cn:Int))=I from decide_eq_true<|by omega]at S;obtain⟨g1,w1,a1,h1⟩:=AR.to (S':=λg=>aQ (fV b w31 [iv 30 i,(22,υ (U a) cn c),iv 24 cn,iv 17 j,iv 13 nO,iv 10 nN,iv 3 n,(1,.slice la n m)]) [] (c0::cs) g) ha (ad2 b la n m nN nO j (U a) cn c i cs c0 g S) λg a h=>AR.here a h;obtain⟨z,w2,a2,r⟩:=AR.step (S':=λg=>aQ (fV b Vs [pv 31 (a.add<|i*2),iv 30 i,(22,υ (U a) cn c),iv 24 cn,iv 17 j,iv 13 nO,iv 10 nN,iv 3 n,(1,.slice la n m)]) [] (c0::cs) g) a1 (aH h1) (λH D=>⟨_,jr (aep b la n m nN nO j (U a) cn c i cs c0 g1 h1) aew Hz hi⟩) (alD b la n m nN nO j (U a) cn c i (a.add<|i*2) cs c0 g1 h1) λg a h=>AR.here a h;have hh:=aeq b la n m nN nO j (U a) cn c i (a.add<|i*2) cs c0 z r;obtain⟨x,y,e1,e2⟩:=(yW (P:=PV) (main:=I) hs hh QW Hz).resolve_right λhb=>a2.bad<|vQ (aH r) hb;have E:∀H D,∃es,stepG PV I z (bL u0 h H D)=.go (fin (.agg #[x,y]) z) (bL u0 h H D) es:=λH D=>⟨_,jp (w:=bL u0 h H D) hh QW Hz e1 e2 (by rw[r.iX];exact nrV)⟩;obtain⟨es,O⟩:=E T0 D0;have a3:=a2.step (aH r) O;obtain⟨k,rfl⟩:=(VI b cs c0 z la n m nN nO j (U a) cn c i _ x y r).resolve_right λhd=>a3.dies hd;obtain⟨N,rfl⟩:=(VJ b cs c0 z la n m nN nO j (U a) cn c i _ k y r).resolve_right λhd=>a3.dies hd;have next:∀g,aQ (fV b Fv [bv 29 (decide<|Ξ Γ ((i:Int)+1)<cn),iv 30<|Ξ Γ<|(i:Int)+1,(22,υ (U a) cn c),iv 24 cn,iv 17 j,iv 13 nO,iv 10 nN,iv 3 n,(1,.slice la n m)]) [] (c0::cs) g->Df b la n m nN nO j (U a) cn c (i+1) cs c0 g:=λg h=>by rw[Dg X]at h;exact h
 obtain⟨g4,w4',a4,h4⟩:=AR.to (S':=λg=>aQ (fV b w35 [bv 35 (k==0),iv 33 k,iv 34 N,iv 30 i,(22,υ (U a) cn c),iv 24 cn,iv 17 j,iv 13 nO,iv 10 nN,iv 3 n,(1,.slice la n m)]) [] (c0::cs) g) a3 (ai1 b la n m nN nO j (U a) cn c i k N _ cs c0 z r) λg a h=>AR.here a h
 suffices e:Fu nN nO k N/\AR u0 h T0 D0 (Df b la n m nN nO j (U a) cn c (i+1) cs c0) g4 from(λok hr=>⟨⟨a,rfl,k,N,ok,e1,e2⟩,AR.cont ((w1.trans w2).trans<|VW.step (aH r) E) hr⟩) e.1<|AR.cont w4' e.2
 by_cases W:k=0
 ·rw[show(k==0)=I from by simp[W]]at h4;obtain⟨g5,v,F,h5⟩:=AR.to a4 (ad3 b la n m nN nO j (U a) cn c i k N cs c0 g4 h4) λg a h=>AR.here a h;by_cases c1:N< -99
  rw[decide_eq_true c1]at h5;exact(F.dies<|dies b cs c0 g5 (p:=(Nn,36,I)) (by simp[Ct]) h5).elim;rw[decide_eq_false c1]at h5;obtain⟨l,f,s,d⟩:=AR.to F (ad4 b la n m nN nO j (U a) cn c i k N cs c0 g5 h5) λg a h=>AR.here a h;by_cases c2:N>99
  rw[decide_eq_true c2]at d;exact(s.dies<|dies b cs c0 l (p:=(Vt,37,I)) (by simp[Ct]) d).elim;rw[decide_eq_false c2]at d;exact⟨.inl ⟨W,by omega,by omega⟩,AR.cont v<|AR.cont f<|AR.to s (ad5 b la n m nN nO j (U a) cn c i cs c0 l d) λg a h=>AR.here a<|next g h⟩
 rw[show(k==0)=V from by simp[W]]at h4;obtain⟨g5,v,F,h5⟩:=AR.to a4 (ad6 b la n m nN nO j (U a) cn c i k N cs c0 g4 h4) λg a h=>AR.here a h
 suffices e:Fu nN nO k N/\AR u0 h T0 D0 (Df b la n m nN nO j (U a) cn c (i+1) cs c0) g5 from⟨e.1,AR.cont v e.2⟩
 by_cases k2:k=2
 ·rw[show(k==2)=I from by simp[k2]]at h5;obtain⟨l,f,s,d⟩:=AR.to F (VB b la n m nN nO j (U a) cn c i k N cs c0 g5 h5) λg a h=>AR.here a h;by_cases c1:N=0
  ·rw[show(N !=0)=V from by simp[c1]]at d;exact⟨.inr<|.inl ⟨k2,c1⟩,AR.cont f<|AR.to s (ad7 b la n m nN nO j (U a) cn c i cs c0 l d) λg a h=>AR.here a<|next g h⟩
  rw[show(N !=0)=I from by simp[c1]]at d;exact(s.dies<|dies b cs c0 l (p:=(Vu,36,I)) (by simp[Ct]) d).elim
 rw[show(k==2)=V from by simp[k2]]at h5;obtain⟨l,f,s,d⟩:=AR.to F (VC b la n m nN nO j (U a) cn c i k N cs c0 g5 h5) λg a h=>AR.here a h
 suffices e:Fu nN nO k N/\AR u0 h T0 D0 (Df b la n m nN nO j (U a) cn c (i+1) cs c0) l from⟨e.1,AR.cont f e.2⟩
 by_cases T:k=3
 ·rw[show(k==3)=I from by simp[T]]at d;obtain⟨A,t,C,o⟩:=AR.to s (VD b la n m nN nO j (U a) cn c i k N cs c0 l d) λg a h=>AR.here a h;by_cases c1:N<0
  rw[decide_eq_true c1]at o;exact(C.dies<|dies b cs c0 A (p:=(No,36,I)) (by simp[Ct]) o).elim;rw[decide_eq_false c1]at o;obtain⟨G,u,B,q⟩:=AR.to C (ad8 b la n m nN nO j (U a) cn c i k N cs c0 A o) λg a h=>AR.here a h;by_cases c2:N>=nN
  rw[decide_eq_true c2]at q;exact(B.dies<|dies b cs c0 G (p:=(Vv,37,I)) (by simp[Ct]) q).elim;rw[decide_eq_false c2]at q;exact⟨.inr<|.inr<|.inl ⟨T,by omega,by omega⟩,AR.cont t<|AR.cont u<|AR.to B (ad9 b la n m nN nO j (U a) cn c i cs c0 G q) λg a h=>AR.here a<|next g h⟩
 rw[show(k==3)=V from by simp[T]]at d;obtain⟨A,t,C,o⟩:=AR.to s (VF b la n m nN nO j (U a) cn c i k N cs c0 l d) λg a h=>AR.here a h
 suffices e:Fu nN nO k N/\AR u0 h T0 D0 (Df b la n m nN nO j (U a) cn c (i+1) cs c0) A from⟨e.1,AR.cont t e.2⟩
 by_cases k4:k=4
 ·rw[show(k==4)=I from by simp[k4]]at o;obtain⟨G,u,B,q⟩:=AR.to C (VE b la n m nN nO j (U a) cn c i k N cs c0 A o) λg a h=>AR.here a h;by_cases c1:N<0
  rw[decide_eq_true c1]at q;exact(B.dies<|dies b cs c0 G (p:=(Nq,36,I)) (by simp[Ct]) q).elim;rw[decide_eq_false c1]at q;obtain⟨g9,K,a9,J⟩:=AR.to B (aea b la n m nN nO j (U a) cn c i k N cs c0 G q) λg a h=>AR.here a h;by_cases c2:N>=nO
  rw[decide_eq_true c2]at J;exact(a9.dies<|dies b cs c0 g9 (p:=(Vw,37,I)) (by simp[Ct]) J).elim;rw[decide_eq_false c2]at J;exact⟨.inr<|.inr<|.inr ⟨k4,by omega,by omega⟩,AR.cont u<|AR.cont K<|AR.to a9 (aeb b la n m nN nO j (U a) cn c i cs c0 g9 J) λg a h=>AR.here a<|next g h⟩
 rw[show(k==4)=V from by simp[k4]]at o;exact(C.dies<|dies b cs c0 A (p:=(Np,14,V)) (by simp[Ct]) o).elim
theorem y8(hs:Safe L (bL u0 h T0 D0)){j:Nat}{ca:Option Z1}{cn f:Nat}(c:ca=θ->cn=0)(e:cn<4000000000000):∀(r i:Nat) (g:R),r+i=cn->np g (bL u0 h T0 D0) ->Df b la n m nN nO j ca cn f i cs c0 g->
 (∀d,i<=d->d<cn->∃a,ca=U a/\QX (bL u0 h T0 D0) nN nO (a.add<|d*2))/\AR u0 h T0 D0 (Df b la n m nN nO j ca cn f cn cs c0) g
 |0,i,g,hi,ha,hg=>⟨λd k s=>by omega,AR.here ha<|by grind⟩
 |r+1,i,g,hi,ha,hg=>by
  obtain⟨q1,p,l,a1,k⟩:=NJ hs c (by omega) (by omega) ha hg;obtain⟨u,o⟩:=y8 hs c e r (i+1) p (by omega) a1 k;refine⟨λd q t=>?_,AR.cont l o⟩
  grind
end
end
section
section
variable{L:bu}{u0:ξ}{h:Array Y9}{T0:Nat->YN->Nat}{D0:Nat}{b:Bool}{cs:List ZW}{c0:ZW}{g:R}{la:Option Z1}{n m nN nO:Nat}
def aah(hs:Safe L (bL u0 h T0 D0)){j}(T:la=θ->n=0)(hj:j<n)(hn:n<=1000000)(ha:np g (bL u0 h T0 D0))(O:AtJ b la n m nN nO j cs c0 g):
 (∃a,la=U a/\CAt (bL u0 h T0 D0) nN nO (a.add<|j*2))/\AR u0 h T0 D0 (AtJ b la n m nN nO (j+1) cs c0) g:=by
 obtain⟨a,rfl⟩:∃a,la=U a:=by
  obtain _|a:=la
  have:=T rfl;omega;exact⟨a,rfl⟩
 unfold AtJ at O;rw[show decide ((j:Int)<(n:Int))=I from decide_eq_true<|by omega]at O;obtain⟨g1,w1,a1,S⟩:=AR.to ha (adU b (U a) n m nN nO j cs c0 g O) λg a h=>AR.here a h;obtain⟨o,w2,a2,l⟩:=AR.step a1 (aH S) (λE D=>⟨_,jr (aen b (U a) n m nN nO j cs c0 g1 S) aev Hy hj⟩) (alz b (U a) n m nN nO j (a.add<|j*2) cs c0 g1 S) λg a h=>AR.here a h;have hh:=aeo b (U a) n m nN nO j (a.add<|j*2) cs c0 o l;obtain⟨x,y,e1,e2⟩:=(yW (P:=PV) (main:=I) hs hh QV Hy).resolve_right λhb=>a2.bad<|vQ (aH l) hb;have B:∀E D,∃es,stepG PV I o (bL u0 h E D)=.go (fin (.agg #[x,y]) o) (bL u0 h E D) es:=λE D=>⟨_,jp (w:=bL u0 h E D) hh QV Hy e1 e2 (by rw[l.iX];exact nrV)⟩;obtain⟨es,J⟩:=B T0 D0;have G:=a2.step (aH l) J;obtain⟨k,rfl⟩:=(afX b cs c0 o (U a) n m nN nO j _ x y l).resolve_right λhd=>G.dies hd;obtain⟨ca,cn,c,rfl⟩:=(VH b cs c0 o (U a) n m nN nO j _ k y l).resolve_right λhd=>G.dies hd;have hk:(ca=θ->cn=0)/\AR u0 h T0 D0 (λg=>aQ (fV b Vo [bv 25 (k==0),iv 21 k,(22,.slice ca cn c),iv 24 cn,iv 17 j,iv 13 nO,iv 10 nN,iv 3 n,(1,υ (U a) n m)]) [] (c0::cs) g) (fin (.agg #[Θ Γ k,.slice ca cn c]) o):=by
  obtain _|ca:=ca
  obtain⟨v,u,C,h4⟩:=AR.to G (adV b (U a) n m nN nO j cn c _ k cs c0 o l) λg a h=>AR.here a h;by_cases z:cn=0
  rw[show((cn:Int) !=0)=V from by simp[z]]at h4;exact⟨λ_=>z,AR.cont u<|AR.to C (adW b (U a) n m nN nO j cn c k cs c0 v h4) λg a h=>AR.here a h⟩;rw[show((cn:Int) !=0)=I from by simp;omega]at h4;exact(C.dies<|dies b cs c0 v (p:=(Vp,41,I)) (by simp[Ct]) h4).elim;exact⟨(λh=>by cases h),AR.to G (alA b (U a) n m nN nO j ca cn c _ k cs c0 o l) λg a h=>AR.here a h⟩
 obtain⟨K,v,u,C,h4⟩:=hk;have r:OkK k cn/\AR u0 h T0 D0 (Df b (U a) n m nN nO j ca cn c 0 cs c0) v:=by
  by_cases Q:k=0
  rw[show(k==0)=I from by simp[Q]]at h4;obtain⟨g5,e,s,h5⟩:=AR.to C (adX b (U a) n m nN nO j ca cn c k cs c0 v h4) λg a h=>AR.here a h;by_cases c1:(cn:Int)>4
  rw[decide_eq_true c1]at h5;exact(s.dies<|dies b cs c0 g5 (p:=(Nl,26,I)) (by simp[Ct]) h5).elim;rw[decide_eq_false c1]at h5;exact⟨.inl ⟨Q,by omega⟩,AR.cont e<|AR.to s (adZ b (U a) n m nN nO j ca cn c cs c0 g5 h5) λg a h=>AR.here a h⟩;rw[show(k==0)=V from by simp[Q]]at h4;obtain⟨g5,e,s,h5⟩:=AR.to C (adY b (U a) n m nN nO j ca cn c k cs c0 v h4) λg a h=>AR.here a h;by_cases H:k=1
  rw[show(k==1)=I from by simp[H]]at h5;obtain⟨q,f,t,d⟩:=AR.to s (Vy b (U a) n m nN nO j ca cn c k cs c0 g5 h5) λg a h=>AR.here a h;by_cases c1:cn=1
  rw[show((cn:Int) !=1)=V from by simp[c1]]at d;exact⟨.inr<|.inl ⟨H,c1⟩,AR.cont (e.trans f)<|AR.to t (ad0 b (U a) n m nN nO j ca cn c cs c0 q d) λg a h=>AR.here a h⟩;rw[show((cn:Int) !=1)=I from by simp;omega]at d;exact(t.dies<|dies b cs c0 q (p:=(Vq,26,I)) (by simp[Ct]) d).elim;rw[show(k==1)=V from by simp[H]]at h5;obtain⟨q,f,t,d⟩:=AR.to s (Vz b (U a) n m nN nO j ca cn c k cs c0 g5 h5) λg a h=>AR.here a h;by_cases W:k=2
  rw[show(k==2)=I from by simp[W]]at d;obtain⟨g7,N,X,F⟩:=AR.to t (VA b (U a) n m nN nO j ca cn c k cs c0 q d) λg a h=>AR.here a h;by_cases c1:cn=2
  rw[show((cn:Int) !=2)=V from by simp[c1]]at F;exact⟨.inr<|.inr ⟨W,c1⟩,AR.cont ((e.trans f).trans N)<|AR.to X (ad1 b (U a) n m nN nO j ca cn c cs c0 g7 F) λg a h=>AR.here a h⟩;rw[show((cn:Int) !=2)=I from by simp;omega]at F;exact(X.dies<|dies b cs c0 g7 (p:=(Vr,26,I)) (by simp[Ct]) F).elim;rw[show(k==2)=V from by simp[W]]at d;exact(t.dies<|dies b cs c0 q (p:=(Nm,23,V)) (by simp[Ct]) d).elim
 obtain⟨A,g5,e,s,h5⟩:=r;have hcn:cn<=4:=by obtain h|h|h:=A<;>omega
 obtain⟨eT,q,f,t,d⟩:=y8 (L:=L) hs K (by omega) cn 0 g5 (by omega) s h5;refine⟨⟨a,rfl,k,ca,cn,c,A,e1,e2,λi hi=>eT i (Zr _) hi⟩,AR.cont (((((w1.trans w2).trans<|VW.step (aH l) B).trans u).trans e).trans f) ?_⟩;unfold Df at d;rw[show decide ((cn:Int)<(cn:Int))=V from decide_eq_false<|by omega]at d;refine AR.to t (aec b (U a) n m nN nO j ca cn c cn cs c0 q d) λg a' h=>AR.here a' ?_;rw[Dg (by omega)]at h;exact h
theorem uA(hs:Safe L (bL u0 h T0 D0))(d:la=θ->n=0)(f:n<=1000000):∀(r j:Nat) (g:R),r+j=n->np g (bL u0 h T0 D0) ->AtJ b la n m nN nO j cs c0 g->
 (∀c,j<=c->c<n->∃a,la=U a/\CAt (bL u0 h T0 D0) nN nO (a.add<|c*2))/\AR u0 h T0 D0 (AtJ b la n m nN nO n cs c0) g
 |0,j,g,hj,ha,hg=>⟨λc e p=>by omega,AR.here ha<|by grind⟩
 |r+1,j,g,hj,ha,hg=>by
  obtain⟨q1,k,i,a1,e⟩:=aah hs d (by omega) f ha hg;obtain⟨s,l⟩:=uA hs d f r (j+1) k (by omega) a1 e;refine⟨λc o q=>?_,AR.cont i l⟩
  grind
def QY(b:Bool)(q:Nat)(cs:List ZW)(c0:ZW)(g:R):Prop:=aQ (fV b wp [bv 15 (decide<|(q:Int)<2199023255552),iv 17 q]) [] (c0::cs) g
def NK(hs:Safe L (bL u0 h T0 D0)){o N E}(y:np g (bL u0 h T0 D0))(s:aQ (fV b KR [(0,o),(1,N),(2,E)]) [] (c0::cs) g):amc (bL u0 h T0 D0) o N E/\AR u0 h T0 D0 (QY b 0 cs c0) g:=by
 obtain⟨la,n,m,rfl⟩:=(Ns b cs c0 g o N E s).resolve_right λhd=>y.dies hd;obtain⟨c,rfl⟩:=(Nt b cs c0 g o E la n m s).resolve_right λhd=>y.dies hd;obtain⟨v0,rfl⟩:=(Nu b cs c0 g o la n m c s).resolve_right λhd=>y.dies hd;have h0:(la=θ->n=0)/\AR u0 h T0 D0 (λg=>aQ (fV b w4 [bv 4 (decide<|(n:Int)>c),iv 3 n,pv 0 v0,(1,.slice la n m)]) [] (c0::cs) g) g:=by
  obtain _|a:=la
  obtain⟨e,i,l,h4⟩:=AR.to y (alw b v0 n m c cs c0 g s) λg a h=>AR.here a h;by_cases r:n=0
  rw[show((n:Int) !=0)=V from by simp[r]]at h4;exact⟨λ_=>r,AR.cont i<|AR.to l (alx b v0 n m c cs c0 e h4) λg a h=>AR.here a h⟩;rw[show((n:Int) !=0)=I from by simp;omega]at h4;exact(l.dies<|dies b cs c0 e (p:=(w41,41,I)) (by simp[Ct]) h4).elim;exact⟨(λh=>by cases h),AR.to y (s_0 b v0 a n m c cs c0 g s) λg a h=>AR.here a h⟩
 obtain⟨H,T,w1,a1,B⟩:=h0;by_cases c1:(n:Int)>c
 rw[decide_eq_true c1]at B;exact(a1.dies<|dies b cs c0 T (p:=(w4,4,I)) (by simp[Ct]) B).elim;rw[decide_eq_false c1]at B;obtain⟨S,w2,a2,A⟩:=AR.to a1 (s_4 b v0 la n m cs c0 T B) λg a h=>AR.here a h;by_cases c2:(n:Int)>1000000
 rw[decide_eq_true c2]at A;exact(a2.dies<|dies b cs c0 S (p:=(w5,5,I)) (by simp[Ct]) A).elim;rw[decide_eq_false c2]at A;obtain⟨z,w3,G,h3⟩:=AR.to a2 (s_5 b v0 la n m cs c0 S A) λg a h=>AR.here a h;have W:=ama b v0 la n m cs c0 z h3;obtain⟨x,e1⟩:=(yV (P:=PV) (main:=I) hs W De).resolve_right λhb=>G.bad<|vQ (aH h3) hb;have t:∀d D,∃C,stepG PV I z (bL u0 h d D)=.go (fin x z) (bL u0 h d D) C:=λd D=>⟨_,du (q:=V) (w:=bL u0 h d D) W De e1 (by rw[h3.iX];exact nrV)⟩;obtain⟨C,F⟩:=t T0 D0;obtain⟨X,k,om,rfl⟩:=(amb b cs c0 z v0 la n m x h3).resolve_right λhd=>(G.step (aH h3) F).dies hd;obtain⟨e,i,l,h4⟩:=AR.step G (aH h3) t (s_9 b v0 la n m X k om cs c0 z h3) λg a h=>AR.here a h;have u:=aem b v0 la n m k cs c0 e h4;obtain⟨x,e2⟩:=(yV (P:=PV) (main:=I) hs u De).resolve_right λhb=>l.bad<|vQ (aH h4) hb;have f:∀d D,∃C,stepG PV I e (bL u0 h d D)=.go (fin x e) (bL u0 h d D) C:=λd D=>⟨_,du (q:=V) (w:=bL u0 h d D) u De e2 (by rw[h4.iX];exact nrV)⟩;obtain⟨es2,v⟩:=f T0 D0;obtain⟨pa,nO,Q,rfl⟩:=(aer b cs c0 e v0 la n m k x h4).resolve_right λhd=>(l.step (aH h4) v).dies hd;obtain⟨g5,K,a5,h5⟩:=AR.step l (aH h4) f (aly b v0 la n m k pa nO Q cs c0 e h4) λg a h=>AR.here a h;obtain⟨cells,g6,O,a6,J⟩:=uA (L:=L) hs H (by omega) n 0 g5 (by omega) a5 h5;refine⟨⟨v0,la,n,m,c,k,nO,X,om,pa,Q,rfl,rfl,rfl,by omega,by omega,e1,e2,λj hj=>cells j (Zr _) hj⟩,AR.cont (((((w1.trans w2).trans w3).trans i).trans K).trans O) ?_⟩;unfold AtJ at J;rw[show decide ((n:Int)<(n:Int))=V from decide_eq_false<|by omega]at J;exact AR.to a6 (aed b la n m k nO n cs c0 g6 J) λg a h=>AR.here a h
end
end
section
def za:Zo I aE 0=[0,1]:=by kernel_rfl
def zb:Zo I aE 1=[1,0]:=by kernel_rfl
def row(t:ZS):Y9:=χ #[] t
section
variable{u0:ξ}{h:Array Y9}{b:Bool}{cs:List ZW}{c0:ZW}{g:R}
def iU{t g}(b:g.status=.running)(a:au g=U (PL t<|.agg #[])):VW u0 g h (fin (pz h.size) g) (h.push<|row t):=VW.step b λc D=>⟨_,rI a⟩
def pu(c:Bool)(t:ZS)(h:Array Y9):Array Y9:=bif c then h.push (row t)else h
def un(k)(a:k<8)(q c)(m:aQ (fV b (uT k) [iv 17 q]) [] (c0::cs) g):∃g',VW u0 g h g' (pu c (ty k) h)/\aQ (fV b (nxT k)<|nxL k q) [] (c0::cs) g':=by
 obtain⟨n,p,l⟩:=pD b q cs c0 g k a m;have i:∀x,VW u0 g h (n x) h:=λx=>VW.draw (x:=x) (aH m) λd D e=>⟨#[],by have:=p<|bL u0 h d D;rw[show(bL u0 h d D).tape (bL u0 h d D).drawn (.order 166<|100+k)=x from e]at this;exact this⟩
 cases c
 have h3:=l 0;rw[za]at h3;obtain⟨g',f,h⟩:=VW.to (u0:=u0) (h:=h)<|pO0 b q k a cs c0 _ h3;exact⟨g',(i 0).trans f,h⟩;have h3:=l 1;rw[zb]at h3;obtain⟨j,f,h4⟩:=VW.to (u0:=u0) (h:=h)<|pO1 b q k a cs c0 _ h3;have o:=iU (u0:=u0) (h:=h) (aH h4)<|pHV b q k a cs c0 j h4;obtain⟨g',w4,h⟩:=VW.to (u0:=u0) (h:=h.push<|row<|ty k)<|pBX b q _ k a cs c0 j h4;exact⟨g',(((i 1).trans f).trans o).trans w4,h⟩
def pus(z:Nat->Bool)(h:Array Y9):Nat->Array Y9
 |0=>h
 |k+1=>pu (z k) (ty k)<|pus z h k
theorem ag4(z:Nat->Bool)(q:Nat)(i:aQ (fV b wp [bv 15 I,iv 17 q]) [] (c0::cs) g):∀k,k<8->∃g',VW u0 g h g' (pus z h<|k+1)/\aQ (fV b (nxT k)<|nxL k q) [] (c0::cs) g'
 |0,hk=>by obtain⟨g0,f,h0⟩:=VW.to (h:=h)<|Nr b q cs c0 g i;obtain⟨c,a,d⟩:=un 0 hk q (z 0) h0;exact⟨c,f.trans a,d⟩
 |k+1,hk=>by
  obtain⟨g0,f,h0⟩:=ag4 z q i k (by omega);have e:k≠7:=by omega
  rw[nxT,nxL,if_neg e,if_neg e]at h0;obtain⟨c,a,d⟩:=un (k+1) hk q (z<|k+1) h0;exact⟨c,f.trans a,d⟩
def rnd(q:Nat)(a:q<4000000000000)(e:aQ (fV b wp [bv 15 I,iv 17 q]) [] (c0::cs) g):(∃g',VW u0 g h g' h/\QY b (q+1) cs c0 g')/\∀t∈[104,34,83,249,255,3,76,50],∃g',VW u0 g h g' (h.push<|row t)/\QY b (q+1) cs c0 g':=by have H:=λz=>ag4 (u0:=u0) (h:=h) z q e 7 (by omega);simp only[nxT,nxL,if_true,Dg a]at H;refine⟨H λ_=>V,λt d=>?_⟩;obtain⟨j,c,rfl⟩:=List.getElem_of_mem d;have:=H λk=>k==j;obtain rfl|rfl|rfl|rfl|rfl|rfl|rfl|rfl:=e8 c<;>exact this
def dV(h:Array Y9)(l:List ZS):Array Y9:=l.foldl (λh t=>h.push<|row t) h
def amd:∀r q l h g,r+q=2199023255552->l.length<=r->(∀t∈l,t∈[104,34,83,249,255,3,76,50]) ->QY b q cs c0 g->∃g',VW u0 g h g' (dV h l)/\aQ {fn:=166,n:=43,T:=Vx,l:=[],mode:=.returning,kind:=jq b} [] (c0::cs) g':=by
 intro r
 induction r with
 |zero=>intro q l h g p o j a;have:l=[]:=List.length_eq_zero_iff.1 (by omega);subst this;unfold QY at a;rw[show decide ((q:Int)<2199023255552)=V from decide_eq_false<|by omega]at a;exact VW.to<|p_f b q cs c0 g a
 |succ r m=>
  intro q l h g p o j a;unfold QY at a;rw[show decide ((q:Int)<2199023255552)=I from decide_eq_true<|by omega]at a;obtain⟨r0,r1⟩:=rnd (u0:=u0) (h:=h) q (by omega) a;obtain _|⟨t,l⟩:=l
  obtain⟨e,d,i⟩:=r0;obtain⟨c,k,f⟩:=m (q+1) [] h e (by omega) (Zr _) (by simp) i;exact⟨c,d.trans k,f⟩;obtain⟨e,d,i⟩:=r1 t<|j t η;obtain⟨c,k,f⟩:=m (q+1) l (h.push<|row t) e (by omega) (by simp at o;omega) (λx s=>j x<|Z8 _ s) i;exact⟨c,d.trans k,f⟩
def ame(b tmps T c0 cs w):stepG PV I (G {fn:=166,tmps,todo:=T,defers:=[],mode:=.returning,kind:=jq b} (c0::cs)) w=.go (G (mZ (jq b) c0) cs) w #[]:=by cases b<;>kernel_rfl
end
end
end Vc
namespace Vc
open Go Go.Conc Ph
open gO (cj bu be xt Ctx gW bL qE Live pL Node OkG aJ HR Rel mL mT Move)
open Go.ConcM (OsLater)
section
variable(b:Bool){L:bu}{a:Z1}{w:ξ}(args:Array ι)
noncomputable def cV (L:bu):Ctx where
 ok:=Hx L
 S:=λ_=>False
 T:=P0.toTables
 F:=PV.funcs
 G:=P0.funcs
 K0:=⟨λ_ _ _=>trivial,λ_ _ h=>h⟩
 map:=λ_ _=>trivial
 mapIter:=λ_ _ _ _=>trivial
 stringIter:=λ_ _=>trivial
 number:=λ_ _=>trivial
 tX:=λk=>be L I k=I
 okF:=λf=>f≠166/\∃fn b,PV.funcs[f]?=U fn/\fn.body=U b
 loop:=λ_=>Iff.rfl
 deferred:=λ_=>Iff.rfl
def Bq(L):(cV L).T.globals.size=1:=by rfl
def jT(args:Array ι):Array ι:=args++Yn (43-args.size) undef
def aai(kd):ZN PV 166 args kd={fn:=166,tmps:=jT args,todo:=KR,defers:=[],mode:=.run,kind:=kd}:=by kernel_rfl
def VL(kd):ZN P0 166 args kd={fn:=166,tmps:=jT args,todo:=tk0,defers:=[],mode:=.run,kind:=kd}:=by kernel_rfl
def vR{args}(h:args.size<=43):(jT args).size=43:=by simp[jT];omega
def zc{args}(h:43<args.size):jT args=args:=by
 unfold jT
 grind
def zd{T tmps}(hs:tmps.size=43)(c0 cs):aQ {fn:=166,n:=43,T:=T,l:=[(0,tmps.getD 0 undef),(1,tmps.getD 1 undef),(2,tmps.getD 2 undef)],kind:=jq b} [] (c0::cs) (G {fn:=166,tmps,todo:=T,defers:=[],mode:=.run,kind:=jq b} (c0::cs)):=by refine aQ.of rfl ?_ rfl;show [tmps.size]=[43];rw[hs]
def aaj(h:43<args.size)(c0 cs):gy (G {fn:=166,tmps:=args,todo:=KR,defers:=[],mode:=.run,kind:=jq b} (c0::cs)):=by
 obtain⟨l⟩:=args;obtain _|⟨x0,l⟩:=l
 simp at h;obtain _|⟨x1,l⟩:=l
 simp at h;obtain _|⟨x2,l⟩:=l
 simp at h;obtain _|⟨x3,l⟩:=l
 simp at h;obtain _|⟨x4,l⟩:=l
 simp at h;obtain _|⟨x5,l⟩:=l
 simp at h;obtain _|⟨x6,l⟩:=l
 simp at h;obtain _|⟨x7,l⟩:=l
 simp at h;obtain _|⟨x8,l⟩:=l
 simp at h;obtain _|⟨x9,l⟩:=l
 simp at h;obtain _|⟨x10,l⟩:=l
 simp at h;obtain _|⟨x11,l⟩:=l
 simp at h;obtain _|⟨x12,l⟩:=l
 simp at h;obtain _|⟨x13,l⟩:=l
 simp at h;obtain _|⟨x14,l⟩:=l
 simp at h;obtain _|⟨x15,l⟩:=l
 simp at h;obtain _|⟨x16,l⟩:=l
 simp at h;obtain _|⟨x17,l⟩:=l
 simp at h;obtain _|⟨x18,l⟩:=l
 simp at h;obtain _|⟨x19,l⟩:=l
 simp at h;obtain _|⟨x20,l⟩:=l
 simp at h;obtain _|⟨x21,l⟩:=l
 simp at h;obtain _|⟨x22,l⟩:=l
 simp at h;obtain _|⟨x23,l⟩:=l
 simp at h;obtain _|⟨x24,l⟩:=l
 simp at h;obtain _|⟨x25,l⟩:=l
 simp at h;obtain _|⟨x26,l⟩:=l
 simp at h;obtain _|⟨x27,l⟩:=l
 simp at h;obtain _|⟨x28,l⟩:=l
 simp at h;obtain _|⟨x29,l⟩:=l
 simp at h;obtain _|⟨x30,l⟩:=l
 simp at h;obtain _|⟨x31,l⟩:=l
 simp at h;obtain _|⟨x32,l⟩:=l
 simp at h;obtain _|⟨x33,l⟩:=l
 simp at h;obtain _|⟨x34,l⟩:=l
 simp at h;obtain _|⟨x35,l⟩:=l
 simp at h;obtain _|⟨x36,l⟩:=l
 simp at h;obtain _|⟨x37,l⟩:=l
 simp at h;obtain _|⟨x38,l⟩:=l
 simp at h;obtain _|⟨x39,l⟩:=l
 simp at h;obtain _|⟨x40,l⟩:=l
 simp at h;obtain _|⟨x41,l⟩:=l
 simp at h;obtain _|⟨x42,l⟩:=l
 simp at h;obtain _|⟨x43,l⟩:=l
 simp at h;intro w;cases b<;>kernel_rfl
def cell_of{u0 h S}(d:HR (cV L) u0 S h w){b:Nat->YN->Nat}{D0 v}(hc:(bL u0 h b D0) a=U v):
 ∃cs e f,w.heap[a.block]?=U (.cells cs e f)/\a.spot=θ/\cs[a.off]?=U v/\¬S a.block/\a.block<w:=by
 have g:=d 0;obtain⟨i,c,h3⟩:=gO.Rel.cell g hc;obtain⟨cs,e,f,q1,k,j⟩:=gO.qR i;refine⟨cs,e,f,q1,by simpa using k,j,c,?_⟩
 grind
def pW{Sh b B t}(h:Yk Sh B t)(hs:∀l,Sh l->b l):Yk b B t:=⟨h.clean,λi a c d=>(h.known i a c d).imp id λq=>⟨hs _ q.1,q.2⟩,h.over,h.hears,h.seen⟩
theorem pX:∀(l:List ZS) (h:Array Y9),(dV h l).size=h.size+l.length
 |[],h=>rfl
 |t::l,h=>by have:=pX l<|h.push<|row t;simp only[dV,Zj,Zq,ZD]at this⊢;omega
theorem jU:∀(l:List ZS) (h:Array Y9) (b:Nat),b<h.size->(dV h l)[b]?=h[b]?
 |[],h,b,hb=>rfl
 |t::l,h,b,hb=>by have:=jU l (h.push<|row t) b (by grind);simp only[dV,Zj]at this⊢;rw[this,μ hb,ψ hb]
theorem uB:∀(l:List ZS) (h:Array Y9) (i:Nat) (t:ZS),l[i]?=U t->(dV h l)[h.size+i]?=U (row t)
 |[],h,i,t,hi=>by simp at hi
 |t'::l,h,i,t,hi=>by
  cases i with
  |zero=>simp at hi;subst hi;have:=jU l (h.push<|row t') h.size (by simp);simp only[dV,Zj,Y8]at this⊢;rw[this,ZK]
  |succ i=>
   have:=uB l (h.push<|row t') i t (by simpa using hi);simp only[dV,Zj,ZD]at this⊢
   grind
def Qe{a b}(h:OsLater a b):b.env=a.env:=by obtain⟨d,rfl⟩:=h;rfl
def NL{c sp c0}(h:aJ c L sp c0)(b):aJ c L sp (mZ (jq b) c0):=by
 obtain _|_:=b
 exact h.finish _;show aJ c L sp (match c0.mode with
  |.panicking ({recovered:=I,..}::older)=>
   match older.dropWhile (!·.goexit)with
   |[]=>{c0 with mode:=.returning}
   |rest=>{c0 with mode:=.panicking rest}
  |_=>c0)
 split
 split
 ·exact h.mode _
 exact h.mode _;exact h
def TTl:List ZS:=[104,34,83,249,255,3,76,50]
def Br{nN nO n}(hc:∀j,j<n->CAt w nN nO (a.add<|j*2)):∃(kd:Nat->Int) (ca:Nat->Option Z1) (cn cm:Nat->Nat),∀j,j<n->OkK (kd j) (cn j)/\w ((a.add<|j*2).add 0)=U (Θ Γ<|kd j)/\w ((a.add<|j*2).add 1)=U (.slice (ca j) (cn j)<|cm j)/\
 ∀i,i<cn j->∃a',ca j=U a'/\QX w nN nO (a'.add<|i*2):=by
 have h:∀j,∃q:Int×Option Z1×Nat×Nat,j<n->OkK q.1 q.2.2.1/\w ((a.add<|j*2).add 0)=U (Θ Γ q.1)/\w ((a.add<|j*2).add 1)=U (.slice q.2.1 q.2.2.1 q.2.2.2)/\∀i,i<q.2.2.1->∃a',q.2.1=U a'/\QX w nN nO (a'.add<|i*2):=by
  intro j;by_cases b:j<n
  obtain⟨kd,ca,cn,cm,c,d,h3,h4⟩:=hc j b;exact⟨⟨kd,ca,cn,cm⟩,λ_=>⟨c,d,h3,h4⟩⟩;exact⟨⟨0,θ,0,0⟩,λh=>absurd h b⟩
 obtain⟨f,e⟩:=Zy h;exact⟨λj=>(f j).1,λj=>(f j).2.1,λj=>(f j).2.2.1,λj=>(f j).2.2.2,e⟩
def EE{nN nO n}(hc:∀i,i<n->QX w nN nO (a.add<|i*2)):∃(vk vn:Nat->Int),∀i,i<n->Fu nN nO (vk i) (vn i)/\w ((a.add<|i*2).add 0)=U (Θ Γ<|vk i)/\w ((a.add<|i*2).add 1)=U (Θ Γ<|vn i):=by
 have h:∀i,∃q:Int×Int,i<n->Fu nN nO q.1 q.2/\w ((a.add<|i*2).add 0)=U (Θ Γ q.1)/\w ((a.add<|i*2).add 1)=U (Θ Γ q.2):=by
  intro i;by_cases hi:i<n
  obtain⟨k,N,b,c,h3⟩:=hc i hi;exact⟨⟨k,N⟩,λ_=>⟨b,c,h3⟩⟩;exact⟨⟨0,0⟩,λh=>absurd h hi⟩
 obtain⟨f,d⟩:=Zy h;exact⟨λi=>(f i).1,λi=>(f i).2,d⟩
def Kj(a:Z1)(n k):((a.add n).add k).block=a.block/\((a.add n).add k).off=a.off+n+k:=by unfold Addr.add;by_cases c:n=0<;>by_cases b:k=0<;>simp[c,b]
def vS{u0 h S}(k:HR (cV L) u0 S h w){g:Nat->YN->Nat}{D0 i v j}(p:(bL u0 h g D0) ((a.add<|i*2).add 0)=U v)(n:(bL u0 h g D0) ((a.add<|i*2).add 1)=U j):
 a.block<w/\¬S a.block/\(i=0->a.spot=θ)/\∃cs e f,w.heap[a.block]?=U (.cells cs e f)/\cs[a.off+i*2]?=U v/\cs[a.off+i*2+1]?=U j:=by
 obtain⟨cs,e,f,q1,q,l,d,m⟩:=cell_of k p;obtain⟨o,x,u,b,t,c,s,r⟩:=cell_of k n;obtain⟨e1,e2⟩:=Kj a (i*2) 0;obtain⟨e3,e4⟩:=Kj a (i*2) 1;rw[e1]at q1 d m;rw[e2]at l;rw[e3]at b;rw[e4]at c;rw[q1]at b;cases b
 exact⟨m,d,λh0=>by subst h0;exact q,cs,e,f,q1,l,c⟩
end
def rU:∀l h (b:Nat) o,(dV h l)[b]?=U o->h[b]?=U o\/∃t,o=row t
 |[],h,b,o,hb=>.inl hb
 |t::l,h,b,o,hb=>by
  obtain a|a:=rU l (h.push<|row t) b o hb
  grind
  grind
def add_zero'(a:Z1):(a.add 0).add 0=a:=by rfl
def H7{L u0 Post}:qE (cV L) L 166 u0 Post:=by
 intro s kd cs h gs w sl t q S hk hcs O hlive hg0 hL hP W hos;obtain⟨hkd,hne⟩:=hk;obtain⟨b,rfl⟩:∃b,kd=jq b:=by
  obtain rfl|rfl:=hkd
  exact⟨V,rfl⟩;exact⟨I,rfl⟩
 obtain⟨c0,d,rfl⟩:=Zz hne;obtain⟨T0,D0,_,he⟩:=hlive λ_ _=>0;have ha:np (G (ZN PV 166 s<|jq b) (c0::d)) (bL u0 h T0 D0):=by obtain⟨n,v,y,X,_⟩:=he;exact⟨n,v,y,X⟩
 rw[aai]at ha;by_cases hbig:43<s.size
 rw[zc hbig]at ha;exact(ha.dies<|aaj b s hbig c0 d).elim;have ag5:=vR (args:=s) (by omega);obtain⟨hpre,g2,hw2,ha2,hp2⟩:=NK (L:=L) O ha<|zd b ag5 c0 d;obtain⟨v0,la,n,m,J,nN,nO,oa,om,pa,pm,e0,e1,e2,hroom,hn,hv1,hv2,B⟩:=hpre.ex;have hsz0:w.heap.size=h.size:=(W 0).size;obtain⟨amf,amg⟩:=Kj v0 0 1;obtain⟨q1,f1,f1',a1,a2,a3,a4,a5⟩:=cell_of W hv1;obtain⟨q2,f2,f2',d1,d2,d3,d4,d5⟩:=cell_of W hv2;rw[(add_zero' v0)]at a1 a2 a3 a4 a5;rw[amf]at d1 d4 d5;rw[amg,Y8]at d3;rw[a1]at d1;cases d1
 have hpos:1<=w.heap.size:=by omega
 obtain⟨a,hla,hca⟩:∃a,(∀j,j<n->la=U a)/\∀j,j<n->CAt (bL u0 h T0 D0) nN nO (a.add<|j*2):=by
  by_cases hz:0<n
  obtain⟨a,E,_⟩:=B 0 hz;refine⟨a,λ_ _=>E,λj z=>?_⟩;obtain⟨a',Q,hc⟩:=B j z;rw[E]at Q;cases Q
  exact hc;exact⟨v0,λj z=>absurd z<|by omega,λj z=>absurd z<|by omega⟩
 obtain⟨kd,ca,cn,cm,H⟩:=Br hca
 let K:PC:={ca:=la,n,m,b,c0,cs:=d,p0:=gs.size,B0:=w.heap.size,h0:=w.heap,v0,v1:=λj=>Θ Γ<|kd j,v2:=λj=>.slice (ca j) (cn j)<|cm j,ev:=λ_=>0,S,TT:=λe=>e∈TTl,C:=14}
 have hSB:∀b,S b->b<w.heap.size:=by
  intro b hb;obtain⟨c,e,_,f,g⟩|g:=(W 0).mask b hb
  exact(ZQ.1 g).1;rw[hsz0];exact(ZQ.1 g).1
 have hA:dX K:=by
  refine⟨λj z cs1 hc1=>?_,λj z=>⟨rfl,rfl⟩,?_,?_,rfl,λj z=>?_,hSB,?_⟩;obtain⟨W0,rest,rfl⟩:=Zz hc1;obtain⟨ok,X,h2,h3⟩:=H j z;obtain⟨a',amh,hva⟩:∃a',(∀i,i<cn j->ca j=U a')/\∀i,i<cn j->QX (bL u0 h T0 D0) nN nO (a'.add<|i*2):=by
   by_cases hz:0<cn j
   obtain⟨a',E,_⟩:=h3 0 hz;refine⟨a',λ_ _=>E,λi hi=>?_⟩;obtain⟨a'',Q,hc⟩:=h3 i hi;rw[E]at Q;cases Q
   exact hc;exact⟨v0,λj z=>absurd z<|by omega,λj z=>absurd z<|by omega⟩
  obtain⟨vk,vn,hvs⟩:=EE hva;refine⟨60000,Bo (K:=K.pk) (v0:=v0) (W0:=W0) (rest:=rest) (nN:=nN) (nO:=nO) (b0:=v0.block) (o0:=v0.off) (n:=cn j) (m:=cm j) (ca:=ca j) (kd:=kd j) (vk:=vk) (vn:=vn) ⟨?_,?_,?_⟩ .refl ?_ ⟨a5,a4,⟨_,_,_,_,_,_,_,a1,a3,d3⟩⟩ ok λi hi=>?_⟩;show 50∈TTl
  decide
  show 34∈TTl
  decide
  show 76∈TTl
  decide
  obtain⟨vb,vo,vs⟩:=v0;cases a2
  rfl;obtain⟨ov,p1,p2⟩:=hvs i hi;obtain⟨o1,o2,o3⟩:=hvs 0 (by omega);obtain⟨r1,r2,r3,r4⟩:=vS W p1 p2;obtain⟨s1,s2,s3,s4⟩:=vS W o2 o3;exact⟨ov,a',amh i hi,s3 rfl,r1,r2,r4⟩;show n<1048576;omega;exact(ZQ.1 hg0).1;obtain⟨ok,X,h2,h3⟩:=H j z;obtain⟨_,o2,o3,_⟩:=H 0 (show 0<n by have:j<n:=z;omega);obtain⟨r1,r2,r3,r4⟩:=vS W X h2;obtain⟨s1,s2,s3,s4⟩:=vS W o2 o3;exact⟨a,hla j z,r1,r2,s3 rfl,r4⟩;refine⟨?_,?_,?_,?_,?_,?_,?_⟩<;>(show _∈TTl;decide)
 have hat:=zd (T:=tk0) b ag5 c0 d;rw[e0,e1,e2]at hat
 obtain⟨N,gs',y,sl',t',q',hrun,hg',hL',hP',u⟩:=Ey (K:=K) (room:=J) (sl:=sl) (λ_=>rfl) hA (by omega:¬((n:Int)>J)) rfl rfl (g0:=G {fn:=166,tmps:=jT s,todo:=tk0,defers:=[],mode:=.run,kind:=jq b} (c0::d)) hat (by rw[<-VL];exact hg0) hL hP
 let ty:Nat->ZS:=λb=>match y.heap[b]? with
  |some (.cells _ e _)=>e
  |_=>104
 let l:List ZS:=(List.range<|y.heap.size-w.heap.size).map λi=>ty<|w.heap.size+i
 have hge:w.heap.size+5<=y.heap.size:=u.size;have hty:∀b,w.heap.size<=b->b<y.heap.size->∃cs f,y.heap[b]?=U (.cells cs (ty b) f)/\ty b∈TTl:=by
  intro b X h2;obtain⟨cs,e,f,g,hm⟩:=u.rows b X h2;have:ty b=e:=by simp only[ty,g]
  exact⟨cs,f,by rw[this];exact g,by rw[this];exact hm⟩
 have hll:l.length=y.heap.size-w.heap.size:=by simp[l]
 have hfew:y.heap.size<=w.heap.size+5+n*(14+2):=u.wW;obtain⟨g3,hw3,F,rfl⟩:=amd (u0:=u0) (b:=b) (c0:=c0) (cs:=d) 2199023255552 0 l h g2 rfl (by omega) (λt ht=>by obtain⟨i,hi,rfl⟩:=List.mem_map.1 ht;have hi:=List.mem_range.1 hi;obtain⟨_,_,_,hm⟩:=hty (w.heap.size+i) (by omega) (by omega);exact hm) hp2
 have hlast:gW PV u0 1 0 (λ_ _=>0) _ (dV h l) (G (mZ (jq b) c0) d) (dV h l):=λτ D _=>by have:=ame b (JF 43<|cO []<|F 0) Vx c0 d<|bL u0 (dV h l) τ D;simp only[runN];rw[Y0 rfl this];rfl
 have A:pL (cV L) (dV h l):=by
  intro b o hb;obtain g|⟨t,rfl⟩:=rU _ _ _ _ hb
  exact O b o g;trivial
 have hok:OkG (cV L) L 166 (G (mZ (jq b) c0) d):=⟨NL (hcs c0 η) b,λx g=>hcs x<|Z8 _ g,rfl⟩;have hsize:y.heap.size=(dV h l).size:=by rw[pX,hll];omega
 have ag6:=hos.trans u.os;refine⟨G (mZ (jq b) c0) d,dV h l,N,gs',y,sl',t',q',λx=>S x\/(w.heap.size<=x/\x<y.heap.size),⟨⟨A,rfl,.inl hok⟩,?_⟩,hok,hrun,hg',hL',pW hP' ?_,λk=>⟨λ_ _ _=>rfl,hsize,λx g=>?_,λx g=>?_,λx g=>?_,Qe ag6,A⟩,ag6,⟨λb h=>.inl h,λb h=>h.imp id λh=>h.1,by omega,u.tape,u.output,λb hb _=>u.low b hb⟩⟩;obtain⟨M1,δ1,σ1,k1⟩:=hw2.trans hw3;rw[show(cV L).P=PV from rfl,aai];exact⟨_,_,_,Nat.succ_pos _,k1.trans hlast⟩;intro lc E;obtain E|⟨ad,rfl,E⟩:=E
 cases lc with
 |cell ad=>exact .inl E
 |obj r=>exact .inl E
 |_=>exact E
 refine .inr ?_;have:ad.block=w.heap.size+3\/ad.block=w.heap.size+4:=E;omega;have hx1:¬S x:=λhs=>g<|.inl hs;by_cases hlt:x<w.heap.size
 have e1:=u.low x hlt;have e2:w.heap[x]?=h[x]?:=(W 0).same x hx1;show y.heap[x]?=(dV h l)[x]?;rw[e1,e2,jU _ _ _<|by omega];have hx2:y.heap.size<=x:=by apply Z0;intro hn';exact g<|.inr ⟨by omega,by omega⟩
 show y.heap[x]?=(dV h l)[x]?;rw[Zp hx2,Zp<|by omega];have old:S x->mL x (bL u0 (dV h l) y.tape y.drawn) y:=by
  intro hs;have hlt:=hSB x hs;have e2:(dV h l)[x]?=h[x]?:=jU _ _ _ (by omega);obtain⟨c,e,⟨f,p1⟩,f',p2⟩|p:=(W 0).mask x hs
  exact .inl ⟨c,e,⟨f,e2.trans p1⟩,f',(u.low x hlt).trans p2⟩;exact .inr<|e2.trans p
 obtain g|⟨X,h2⟩:=g
 exact old g;obtain⟨cs,f,p1,p2⟩:=hty x X h2;have hi:l[x-w.heap.size]?=U (ty x):=by simp only[l,List.getElem?_map];rw[List.getElem?_range (by omega)];simp only[Option.map_some];rw[show w.heap.size+(x-w.heap.size)=x by omega]
 have:=uB l h (x-w.heap.size) (ty x) hi;rw[show h.size+(x-w.heap.size)=x by omega]at this;exact .inl ⟨cs,ty x,⟨_,this⟩,f,p1⟩
 ·rw[Bq];obtain g|⟨X,h2⟩:=g
  have:=(W 0).high x g;rw[Bq]at this;exact this;omega
end Vc
namespace Vc
open Go Go.Conc Ph gO
noncomputable def PT:Zn:=⟨P0.toTables,#[]⟩
def rV(t:ZS):Bool:=match PT.info? t with
 |some i=>match i.desc with
  |.named n _=>n != "sync.copyChecker"
  |_=>I
 |none=>I
def qN(t:ZS):Bool:=match PT.underlying t with
 |some .bool|some .string=>I
 |some (.int _)=>rV t
 |_=>V
def Dh(t:ZS):Bool:=qN t||match PT.underlying t with
 |some (.struct fs)=>fs.all λf=>qN f.type
 |_=>V
def aeG(t:ZS):Bool:=match PT.underlying t with
 |some (.int _)=>I
 |_=>V
def aeH(t:ZS):Bool:=match PT.underlying t with
 |some (.map k _)=>Dh k
 |_=>V
def LV:bu:={flat:=[2,3,4,21,34,50,93,227,245,290],ints:=[3,21,93,183,245],maps:=[110,164,205]}
def H8:LV.flat.all Dh=I:=by kernel_rfl
def aak:LV.ints.all aeG=I:=by kernel_rfl
def Ia:LV.maps.all aeH=I:=by kernel_rfl
def Bt(f:Yf):PV.funcs[f]?=(P0.funcs[f]?).map (yU f):=afD f
def jV:xH na:=⟨by kernel_rfl,rfl,by kernel_rfl,by kernel_rfl,by kernel_rfl⟩
def VM(i:Nat)(f:Func):Bool:=match f.body with
 |some b=>i==166||yT.contains i||be LV V b
 |none=>I
def aeI(f:Func):Bool:=!(f.name== "runtime.NumGoroutine")
def allI(p:Nat->Func->Bool):Nat->List Func->Bool
 |_,[]=>I
 |i,f::l=>p i f&&allI p (i+1) l
def rW{p}:∀{l} {i},allI p i l=I->∀{j} {f},l[j]?=U f->p (i+j) f=I
 |[],i,h,j,f,hj=>by simp at hj
 |g::l,i,h,0,f,hj=>by simp at hj;subst hj;simp only[allI,Y7]at h;exact h.1
 |g::l,i,h,j+1,f,hj=>by simp only[allI,Y7]at h;have:=rW h.2 (j:=j) (f:=f) (by grind);rwa[show i+1+j=i+(j+1) by omega]at this
def EF:allI VM 0 P0.funcs.toList=I:=by kernel_rfl
def Ib:allI (λ_ f=>aeI f) 0 P0.funcs.toList=I:=by kernel_rfl
structure kC(f:Yf)(e:Array ι->Sem ι):Prop where
 ex:∃fn,P0.funcs[f]?=U fn/\Extern.findNext fn=θ/\Extern.find fn=U e
def ami:kC 192 (λargs=>YM<|args.getD 0<|.tuple #[]):=⟨F0 192,by kernel_rfl,by kernel_rfl,by kernel_rfl⟩
def amj:kC 193 (YL (ZO "reflectlite.Value.Type" 0) λt _ _ _=>YH t):=⟨F0 193,by kernel_rfl,by kernel_rfl,by kernel_rfl⟩
def amk:kC 194 (Zx (ZO "reflectlite.Value.IsNil" 0) YK):=⟨F0 194,by kernel_rfl,by kernel_rfl,by kernel_rfl⟩
def aml:kC 228 YG:=⟨F0 228,by kernel_rfl,by kernel_rfl,by kernel_rfl⟩
def amm:kC 229 (Zx (ZO "reflectlite.Value.Elem" 0) YJ):=⟨F0 229,by kernel_rfl,by kernel_rfl,by kernel_rfl⟩
def amn:kC 230 YI:=⟨F0 230,by kernel_rfl,by kernel_rfl,by kernel_rfl⟩
def amo:kC 335 (Zw "AssignableTo" YF):=⟨F0 335,by kernel_rfl,by kernel_rfl,by kernel_rfl⟩
def amp:kC 337 (YE YD):=⟨F0 337,by kernel_rfl,by kernel_rfl,by kernel_rfl⟩
def amq:kC 338 (Zw "Implements" YB):=⟨F0 338,by kernel_rfl,by kernel_rfl,by kernel_rfl⟩
def amr:kC 302 (YA λt=>do pure (Θ .u8<|<-Extern.Rtype.kind t)):=⟨F0 302,by kernel_rfl,by kernel_rfl,by kernel_rfl⟩
def Di(f:Func):Bool:=match f.body with
 |some b=>(readies b).isEmpty
 |none=>I
def EG:PV.funcs.toList.all Di=I:=by kernel_rfl
def Ic:P0.toTables.follows .staticDataAhead=I:=by kernel_rfl
def VN:List Nat:=[288,290,292,294,296,298,303,305,311,312,315,341,344]
def aeJ(i:TypeInfo):Bool:=i.methods.all λm=>if m.name== "Error"||m.name== "String"then(match m.func with
 |some (f,_)=>VN.contains f
 |none=>I)else I
def NM:P0.types.toList.all aeJ=I:=by kernel_rfl
def Id:∀f∈VN,PV.funcs[f]?=U na:=by intro f a;simp only[VN,Z2,ε,or_false]at a;obtain rfl|rfl|rfl|rfl|rfl|rfl|rfl|rfl|rfl|rfl|rfl|rfl|rfl:=a<;>kernel_rfl
def NN:∀fn,P0.funcs[166]?=U fn->fn.body.isNone=V:=by trivial
def Ie:(Vm.name== "runtime.NumGoroutine")=V:=by kernel_rfl
def EH:P0.inits=#[2]:=by kernel_rfl
end Vc
