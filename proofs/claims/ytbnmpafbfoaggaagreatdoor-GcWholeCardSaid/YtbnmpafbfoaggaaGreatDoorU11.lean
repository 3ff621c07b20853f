/- GcWhole: for heaps made of any numbers, the plain heap behind a full collection is the normal one of the plain heap before, behind a major one the normal one of its collection, unless there is no room, in the given program, on every schedule and whatever the tape; no conditions. -/
import Derived.Test.YtbnmpafbfoaggaaGreatDoorU10
import Derived.Test.YtbnmpafbfoaggaaGreatDoorU0
import Derived.Test.YtbnmpafbfoaggaaGreatDoorChecked
import Derived.Test.YtbnmpafbfoaggaaGreatDoorTie
import Derived.Test.YtbnmpafbfoaggaaGreatDoorCards
import Derived.Conc.HoldsTime
import Derived.ChangeSame
import Derived.ChangeVars
import Derived.JoinedOf
import Derived.RowKit
import Derived.RowKitTokens
import Derived.LaidLaws
import Derived.LaidHandle
import Derived.SevenTiedAt
import Derived.Test.YtbnmpafbfoaggaaGreatDoorU1
import Derived.ChangeSlices
import Derived.OpenShut
import Derived.Test.YtbnmpafbfoaggaaGreatDoorU6
set_option linter.defProp false
set_option linter.unusedVariables false
set_option linter.unusedSimpArgs false
set_option maxRecDepth 100000
set_option maxHeartbeats 16000000
noncomputable section
open Option renaming some->U,bind_eq_some_iff->Ω,none->Y,map_some->μ,map_eq_some_iff->ZW
open Bool renaming true->V,false->I,false_eq_true->ζ,and_eq_true->Zs,or_eq_true->Zq
open Go.Proofs.Tryz renaming prog->Z,checked->Zl
open Go renaming Goroutine->Ψ,TypeId->ω,World->φ,Frame->η,Value->Z3,Addr->ZY,FuncId->ZX,Question->ZS,laidMetH->ZK,Obj->R,Program->Zv,ReturnsInLeavingWide->Zp
open Go.Frame renaming enter->Ξ
open Go.OpenSpec renaming ofChange->Θ
open Go.Extern.ReflectliteValue renaming valueError->Δ,method->υ,unpack->ZR,methodAny->ZQ,isNil->ZP,elem->ZO,set->ZN
open Array renaming getElem?_eq_some_iff->Γ,getElem?_eq_none->ξ,getElem?_eq_getElem->Z1,mem_iff_getElem->ZU,mem_toList_iff->ZL,getElem?_map->ZB,all_eq_true->Zy,size_push->Zt
open Option.some renaming inj->ψ,injEq->ZV
open List renaming all_eq_true->χ,foldl_cons->κ,exists_cons_of_ne_nil->Z0,mem_range->ZZ,contains_iff_mem->ZM,mem_cons_of_mem->ZJ,mem_cons_self->ZA,range->Zz,mem_singleton->Zx,not_mem_nil->Zr,mem_cons->Zo,mem_map->Zm
open Go.Extern.ReflectliteType renaming relation->ο,toType->ZI,typeOf->ZH,assignableTo->ZG,method->ZF,elem->ZE,implements_->ZD,abiMethod->ZC
open Nat renaming zero_le->ι,eq_zero_or_pos->Zu
open Go.Sem renaming run->θ
open Classical renaming byContradiction->ε,axiomOfChoice->Z9
open Go.Value renaming pointer->Z8,int->ZT,slice->Zw,okWide->Zn
open Go.Mode renaming plain->Z7
open Go.Conc renaming step_solo_go->Z4
open Iff renaming rfl->Z2
namespace Go.Proofs.YtbnmpafbfoaggaaGreatDoor
open Go.Proofs.Tryz hiding prog
open Go.Proofs.aD
namespace Vc
open Go Go.Conc Ph
open gO (cj bu be uf Ctx)
section
def Hx(L:bu):R->Prop
 |.cells ..=>True
 |.view a _=>a.spot.isSome=V
 |.loop l=>(l.fn≠166/\∃fn b,PV.funcs[l.fn]?=U fn/\fn.body=U b)/\be L V l.assign=V/\be L V l.body=V/\∀j,l.pending=U j->be L V j=V
 |.deferred d=>d=Y\/d=U []
 |.map ..|.mapIter ..|.stringIter ..|.number ..=>True
 |_=>False
def Safe(L:bu)(w:φ):Prop:=∀(b:Nat) o,w.heap[b]?=U o->Hx L o
def aeu(e:Halt):Prop:=(∃s,e=.stuck s)\/∃x,e=.unsupported x/\∀g,x≠.initOrder g
def rT{L w}(hs:Safe L w)(P a at_):∃e,w.farLoad P a at_=.error e/\aeu e:=by
 unfold World.farLoad;split
 rename_i x t b;have e:w.viewLoad P x t a at_=.error "memory seen as another type: a place without cells":=by unfold World.viewLoad;rw[gO.seen_spot _ _ _ _ _ _ (hs _ _ b)];rfl
 rw[e];exact⟨_,rfl,.inr ⟨_,rfl,by simp⟩⟩;unfold World.noCell;split
 rename_i h;exact(hs _ _ h).elim
 grind
 exact⟨_,rfl,.inl ⟨_,rfl⟩⟩
section
variable{P:Zv}{main:Bool}{g:Ψ}{s:Sem Next}{w w':φ}{es:Array Event}
def jS{e}(h:dl g=U s)(j:s.runT P w #[]=(.halt e w',es))(l:aeu e):g.status=.running/\J4 (stepG P main g w)=V:=by
 unfold dl at h;by_cases b:d9 g=V
 ·rw[if_pos b]at h;obtain⟨fr,cs,st,k,off⟩:=g;obtain⟨fn,d,todo,defers,mode,kind,m⟩:=fr;obtain⟨o,a,rfl⟩:=ZW.1 h;obtain⟨rfl,rfl,rfl,rfl,f⟩:st=.running/\k=Y/\off=Y/\m=Y/\(kind==.early)=I:=by unfold Ph.d9 at b;dsimp only at b;split at b<;>first|(cases b;done)|exact⟨rfl,rfl,rfl,rfl,rfl⟩
  unfold rC at a;dsimp only at a;cases mode with
  |run=>
   obtain _|⟨i,rest⟩:=todo
   cases a
   cases i with
   |inRegion c todo=>
    obtain _|⟨i,is⟩:=todo
    cases a
    dsimp only at a;by_cases hw:(((c[i]?).map (Region.wanted · (yielded c d))).getD I)=V
    rw[if_pos hw]at a;refine⟨rfl,?_⟩;unfold stepG;dsimp only;unfold stepG.exec;dsimp only;simp only[if_pos hw];unfold stepG.oper;simp only[Frame.oper?,a];unfold stepG.apply;obtain⟨s,rfl⟩|⟨x,rfl,n⟩:=l
    simp only[if_true,j,f,ζ,if_false];rfl;simp only[if_true,j,f,ζ,if_false];cases x<;>first|rfl|exact absurd rfl<|n _
    rw[if_neg hw]at a;cases a
   |_=>cases a
  |_=>cases a
 rw[if_neg b]at h;cases h
def yV{L t ad}(hs:Safe L w)(h:dl g=U (bI t<|Z8<|U ad))(a:mp P t I):(∃v,w.cell? ad=U v)\/J4 (stepG P main g w)=V:=by
 cases hc:w.cell? ad with
 |some v=>exact .inl ⟨v,rfl⟩
 |none=>right;obtain⟨e,c,b⟩:=rT hs P ad<|Z7==.atomic;refine(jS (w':=w) (es:=(bI t<|Z8<|U ad).events P w #[]) h ?_ b).2;unfold bI Instr.loadAt Instr.sureAddr loadVar;simp[a.run,hc,c]
def yW{L t ad}(hs:Safe L w)(h:dl g=U (bI t<|Z8<|U ad))(d:mp P t V)(hz:dt P t 2):(∃v b,w.cell? (ad.add 0)=U v/\w.cell? (ad.add 1)=U b)\/J4 (stepG P main g w)=V:=by
 cases hc:w.cell? (ad.add 0)with
 |none=>right;obtain⟨e,a,c⟩:=rT hs P (ad.add 0)<|Z7==.atomic;refine(jS (w':=w) (es:=(bI t<|Z8<|U ad).events P w #[]) h ?_ c).2;rw[Sem.runT_eq];unfold bI Instr.loadAt Instr.sureAddr loadVar;simp[d.run,hz.run,hc,a,Result.andThen,loadCells,loadCellsFrom,load,θ]
 |some v=>
  cases hc':w.cell? (ad.add 1)with
  |some b=>exact .inl ⟨v,b,rfl,rfl⟩
  |none=>right;obtain⟨e,a,c⟩:=rT hs P (ad.add 1)<|Z7==.atomic;refine(jS (w':=w) (es:=(bI t<|Z8<|U ad).events P w #[]) h ?_ c).2;rw[Sem.runT_eq];unfold bI Instr.loadAt Instr.sureAddr loadVar;simp[d.run,hz.run,hc,hc',a,Result.andThen,loadCells,loadCellsFrom,load,θ]
end
def ma(g:Ψ)(w:φ):Prop:=∃n v w',runN PV n (solo g w)=.ended (.done v) w'
section
variable{g g':Ψ}{w w':φ}{S:Ψ->Prop}
def ma.step{es}(h:ma g w)(c:g.status=.running)(hs:stepG PV V g w=.go g' w' es):ma g' w':=by
 obtain⟨n,v,b,a⟩:=h;cases n with
 |zero=>simp only[runN]at a;cases a
 |succ n=>simp only[runN,Z4 c hs]at a;exact⟨n,v,b,a⟩
def ma.bad(h:ma g w)(hb:Hw g w=V):False:=by
 obtain⟨n,v,e,a⟩:=h;unfold Hw at hb;split at hb
 rename_i b;cases n with
 |zero=>simp only[runN]at a;cases a
 |succ n=>
  cases hst:stepG PV V g w with
  |ended o c d=>
   simp only[runN,cj b hst]at a;injection a with h1 h2
   subst h1;rw[hst]at hb;cases hb
  |_=>rw[hst]at hb;cases hb
 grind
def ma.path:∀{k} {g},ma g w->Path PV V k g g'->ma g' w
 |0,g,h,hp=>by have:=hp;rw[this];exact h
 |k+1,g,h,hp=>by obtain⟨b,d,a,c⟩:=hp;exact ma.path (h.step b<|a w) c
def ma.to{n}(h:ma g w)(b:bZ PV V n S g):∃g',S g'/\ma g' w:=by obtain⟨k,_,g',a,hs⟩:=b;exact⟨g',hs,ma.path h a⟩
def ma.dies(h:ma g w)(hd:gy g):False:=by obtain⟨b,rfl,a⟩:=h.to<|bZ.run never 400 rfl;exact a.bad<|hd w
def vQ(a:g.status=.running)(h:J4 (stepG PV V g w)=V):Hw g w=V:=by
 unfold Hw
 grind
end
def De:mp PV 22 I:=λw a=>by kernel_rfl
def QV:mp PV 76 V:=λw a=>by kernel_rfl
def Hy:dt PV 76 2:=λw a=>by kernel_rfl
def QW:mp PV 50 V:=λw a=>by kernel_rfl
def Hz:dt PV 50 2:=λw a=>by kernel_rfl
def aev:PV.underlying 22=U (.slice 76):=by kernel_rfl
def aew:PV.underlying 23=U (.slice 50):=by kernel_rfl
def nrV:bR PV 166 I:=by rfl
def QX(w:φ)(nN nO:Nat)(ad:ZY):Prop:=∃k N,Fu nN nO k N/\w.cell? (ad.add 0)=U (ZT .i64 k)/\w.cell? (ad.add 1)=U (ZT .i64 N)
def Rr(w:φ)(nN nO:Nat)(ad:ZY):Prop:=∃kd ca cn cm,Ai kd cn/\w.cell? (ad.add 0)=U (ZT .i64 kd)/\w.cell? (ad.add 1)=U (.slice ca cn cm)/\∀i,i<cn->∃a,ca=U a/\QX w nN nO (a.add<|i*2)
structure amc(w:φ)(x0 x1 x2:Z3):Prop where
 ex:∃v0 la n m room nN nO oa om pa pm,x0=Z8 (U v0)/\x1=.slice la n m/\x2=ZT .i64 room/\(n:Int)<=room/\n<=1000000/\w.cell? ((v0.add 0).add 0)=U (.slice oa nN om)/\w.cell? ((v0.add 0).add 1)=U (.slice pa nO pm)/\∀j,j<n->∃a,la=U a/\Rr w nN nO (a.add (j*2))
section
variable{L:bu}{w:φ}{b:Bool}{cs:List η}{c0:η}{g:Ψ}
variable{la:Option ZY}{n m nN nO:Nat}
def Df(b:Bool)(la:Option ZY)(n m nN nO:Nat)(j:Nat)(ca:Option ZY)(cn cm:Nat)(i:Nat)(cs:List η)(c0:η)(g:Ψ):Prop:=aQ (fV b Fv [bv 29 (decide<|(i:Int)<cn),iv 30 i,(22,.slice ca cn cm),iv 24 cn,iv 17 j,iv 13 nO,iv 10 nN,iv 3 n,(1,.slice la n m)]) [] (c0::cs) g
def Jq(b:Bool)(la:Option ZY)(n m nN nO:Nat)(j:Nat)(cs:List η)(c0:η)(g:Ψ):Prop:=aQ (fV b Vn [bv 18 (decide<|(j:Int)<n),iv 17 j,iv 13 nO,iv 10 nN,iv 3 n,(1,.slice la n m)]) [] (c0::cs) g
def Dg{i:Nat}(h:i<4000000000000):IntKind.wrap .i64 ((i:Int)+1)=((i+1:Nat):Int):=by rw[IntKind.wrap_i64];omega
end
end
end Vc
namespace Vc
open Go Go.Conc Ph
open gO (cj bu be uf Ctx gW bL)
section
section
variable{u0:φ}{g g' g1 g2:Ψ}{h h1 h2:Array R}
def VW(u0:φ)(g:Ψ)(h:Array R)(g':Ψ)(h':Array R):Prop:=∃M δ σ,gW PV u0 M δ σ g h g' h'
def VW.refl:VW u0 g h g h:=⟨0,0,λ_ _=>0,gO.gW.refl _ _ _ _ _⟩
def VW.trans(a:VW u0 g h g1 h1)(b:VW u0 g1 h1 g2 h2):VW u0 g h g2 h2:=by obtain⟨c,f,j,a⟩:=a;obtain⟨i,e,d,b⟩:=b;exact⟨_,_,_,a.trans b⟩
def VW.step(b:g.status=.running)(hs:∀a D,∃es,stepG PV V g (bL u0 h a D)=.go g' (bL u0 h1 a D) es):VW u0 g h g' h1:=by refine⟨1,0,λ_ _=>0,λa D _=>?_⟩;obtain⟨es,e⟩:=hs a D;simp only[runN,Z4 b e];rfl
def VW.draw{q x}(c:g.status=.running)(hs:∀a D,a D q=x->∃es,stepG PV V g (bL u0 h a D)=.go g' (bL u0 h1 a<|D+1) es):VW u0 g h g' h1:=by refine⟨1,1,λ_ _=>x,λa D b=>?_⟩;obtain⟨es,e⟩:=hs a D<|b 0 q Nat.one_pos;simp only[runN,Z4 c e]
def VW.path:∀{k} {g},Path PV V k g g'->VW u0 g h g' h
 |0,g,hp=>by have:=hp;rw[this];exact .refl
 |k+1,g,hp=>by obtain⟨b,d,a,c⟩:=hp;exact(VW.step b λe D=>⟨_,a _⟩).trans<|VW.path c
def VW.to{n S}(b:bZ PV V n S g):∃g',VW u0 g h g' h/\S g':=by obtain⟨k,_,g',a,hs⟩:=b;exact⟨g',VW.path a,hs⟩
end
section
variable{L:bu}{u0:φ}{h:Array R}{T0:Nat->ZS->Nat}{D0:Nat}{b:Bool}{cs:List η}{c0:η}{g:Ψ}
def AR(u0:φ)(h:Array R)(T0:Nat->ZS->Nat)(D0:Nat)(S:Ψ->Prop)(g:Ψ):Prop:=∃g',VW u0 g h g' h/\ma g' (bL u0 h T0 D0)/\S g'
variable{S:Ψ->Prop}
def AR.here(a:ma g (bL u0 h T0 D0))(hs:S g):AR u0 h T0 D0 S g:=⟨g,.refl,a,hs⟩
def AR.bind{S'}(f:AR u0 h T0 D0 S g)(k:∀g',ma g' (bL u0 h T0 D0) ->S g'->AR u0 h T0 D0 S' g'):AR u0 h T0 D0 S' g:=by obtain⟨d,q1,j,i⟩:=f;obtain⟨b,c,e,a⟩:=k d j i;exact⟨b,q1.trans c,e,a⟩
def AR.to{n S'}(c:ma g (bL u0 h T0 D0))(b:bZ PV V n S g)(d:∀g',ma g' (bL u0 h T0 D0) ->S g'->AR u0 h T0 D0 S' g'):AR u0 h T0 D0 S' g:=by obtain⟨k,_,g',a,hs⟩:=b;exact AR.bind ⟨g',VW.path a,ma.path c a,hs⟩ d
def AR.step{n S S' b}(i:ma g (bL u0 h T0 D0))(c:g.status=.running)(hs:∀d D,∃es,stepG PV V g (bL u0 h d D)=.go b (bL u0 h d D) es)(f:bZ PV V n S b)(j:∀g',ma g' (bL u0 h T0 D0) ->S g'->AR u0 h T0 D0 S' g'):AR u0 h T0 D0 S' g:=by obtain⟨es,e⟩:=hs T0 D0;exact AR.bind ⟨b,VW.step c hs,i.step c e,rfl⟩ λg' a e=>by subst e;exact AR.to a f j
variable{la:Option ZY}{n m nN nO:Nat}
def AR.cont{g1}(w:VW u0 g h g1 h)(b:AR u0 h T0 D0 S g1):AR u0 h T0 D0 S g:=by obtain⟨a,q1,d,c⟩:=b;exact⟨a,w.trans q1,d,c⟩
def NJ(hs:Safe L (bL u0 h T0 D0)){j ca cn c i}(Q:ca=Y->cn=0)(hi:i<cn)(X:i<4000000000000)(ha:ma g (bL u0 h T0 D0))(S:Df b la n m nN nO j ca cn c i cs c0 g):
 (∃a,ca=U a/\QX (bL u0 h T0 D0) nN nO (a.add<|i*2))/\AR u0 h T0 D0 (Df b la n m nN nO j ca cn c (i+1) cs c0) g:=by
 obtain⟨a,rfl⟩:∃a,ca=U a:=by
  obtain _|a:=ca
  have:=Q rfl;omega;exact⟨a,rfl⟩
 unfold Df at S;rw[show decide ((i:Int)<(cn:Int))=V from decide_eq_true<|by omega]at S;obtain⟨g1,w1,a1,h1⟩:=AR.to (S':=λg=>aQ (fV b w31 [iv 30 i,(22,Zw (U a) cn c),iv 24 cn,iv 17 j,iv 13 nO,iv 10 nN,iv 3 n,(1,.slice la n m)]) [] (c0::cs) g) ha (ad2 b la n m nN nO j (U a) cn c i cs c0 g S) λg a h=>AR.here a h;obtain⟨z,w2,a2,r⟩:=AR.step (S':=λg=>aQ (fV b Vs [pv 31 (a.add<|i*2),iv 30 i,(22,Zw (U a) cn c),iv 24 cn,iv 17 j,iv 13 nO,iv 10 nN,iv 3 n,(1,.slice la n m)]) [] (c0::cs) g) a1 (aH h1) (λH D=>⟨_,jr (aep b la n m nN nO j (U a) cn c i cs c0 g1 h1) aew Hz hi⟩) (alD b la n m nN nO j (U a) cn c i (a.add<|i*2) cs c0 g1 h1) λg a h=>AR.here a h;have hh:=aeq b la n m nN nO j (U a) cn c i (a.add<|i*2) cs c0 z r;obtain⟨x,y,e1,e2⟩:=(yW (P:=PV) (main:=V) hs hh QW Hz).resolve_right λhb=>a2.bad<|vQ (aH r) hb;have E:∀H D,∃es,stepG PV V z (bL u0 h H D)=.go (fin (.agg #[x,y]) z) (bL u0 h H D) es:=λH D=>⟨_,jp (w:=bL u0 h H D) hh QW Hz e1 e2 (by rw[r.cg];exact nrV)⟩;obtain⟨es,O⟩:=E T0 D0;have a3:=a2.step (aH r) O;obtain⟨k,rfl⟩:=(VI b cs c0 z la n m nN nO j (U a) cn c i _ x y r).resolve_right λhd=>a3.dies hd;obtain⟨N,rfl⟩:=(VJ b cs c0 z la n m nN nO j (U a) cn c i _ k y r).resolve_right λhd=>a3.dies hd;have next:∀g,aQ (fV b Fv [bv 29 (decide<|IntKind.wrap .i64 ((i:Int)+1)<cn),iv 30<|IntKind.wrap .i64<|(i:Int)+1,(22,Zw (U a) cn c),iv 24 cn,iv 17 j,iv 13 nO,iv 10 nN,iv 3 n,(1,.slice la n m)]) [] (c0::cs) g->Df b la n m nN nO j (U a) cn c (i+1) cs c0 g:=λg h=>by rw[Dg X]at h;exact h
 obtain⟨g4,w4',a4,h4⟩:=AR.to (S':=λg=>aQ (fV b Fb [bv 35 (k==0),iv 33 k,iv 34 N,iv 30 i,(22,Zw (U a) cn c),iv 24 cn,iv 17 j,iv 13 nO,iv 10 nN,iv 3 n,(1,.slice la n m)]) [] (c0::cs) g) a3 (ahT b la n m nN nO j (U a) cn c i k N _ cs c0 z r) λg a h=>AR.here a h
 suffices e:Fu nN nO k N/\AR u0 h T0 D0 (Df b la n m nN nO j (U a) cn c (i+1) cs c0) g4 from(λok hr=>⟨⟨a,rfl,k,N,ok,e1,e2⟩,AR.cont ((w1.trans w2).trans<|VW.step (aH r) E) hr⟩) e.1<|AR.cont w4' e.2
 by_cases W:k=0
 ·rw[show(k==0)=V from by simp[W]]at h4;obtain⟨g5,v,F,h5⟩:=AR.to a4 (ad3 b la n m nN nO j (U a) cn c i k N cs c0 g4 h4) λg a h=>AR.here a h;by_cases c1:N< -99
  rw[decide_eq_true c1]at h5;exact(F.dies<|dies b cs c0 g5 (p:=(Nn,36,V)) (by simp[BQ]) h5).elim;rw[decide_eq_false c1]at h5;obtain⟨l,f,s,d⟩:=AR.to F (ad4 b la n m nN nO j (U a) cn c i k N cs c0 g5 h5) λg a h=>AR.here a h;by_cases c2:N>99
  rw[decide_eq_true c2]at d;exact(s.dies<|dies b cs c0 l (p:=(Vt,37,V)) (by simp[BQ]) d).elim;rw[decide_eq_false c2]at d;exact⟨.inl ⟨W,by omega,by omega⟩,AR.cont v<|AR.cont f<|AR.to s (ad5 b la n m nN nO j (U a) cn c i cs c0 l d) λg a h=>AR.here a<|next g h⟩
 rw[show(k==0)=I from by simp[W]]at h4;obtain⟨g5,v,F,h5⟩:=AR.to a4 (ad6 b la n m nN nO j (U a) cn c i k N cs c0 g4 h4) λg a h=>AR.here a h
 suffices e:Fu nN nO k N/\AR u0 h T0 D0 (Df b la n m nN nO j (U a) cn c (i+1) cs c0) g5 from⟨e.1,AR.cont v e.2⟩
 by_cases k2:k=2
 ·rw[show(k==2)=V from by simp[k2]]at h5;obtain⟨l,f,s,d⟩:=AR.to F (VB b la n m nN nO j (U a) cn c i k N cs c0 g5 h5) λg a h=>AR.here a h;by_cases c1:N=0
  ·rw[show(N !=0)=I from by simp[c1]]at d;exact⟨.inr<|.inl ⟨k2,c1⟩,AR.cont f<|AR.to s (ad7 b la n m nN nO j (U a) cn c i cs c0 l d) λg a h=>AR.here a<|next g h⟩
  rw[show(N !=0)=V from by simp[c1]]at d;exact(s.dies<|dies b cs c0 l (p:=(Vu,36,V)) (by simp[BQ]) d).elim
 rw[show(k==2)=I from by simp[k2]]at h5;obtain⟨l,f,s,d⟩:=AR.to F (VC b la n m nN nO j (U a) cn c i k N cs c0 g5 h5) λg a h=>AR.here a h
 suffices e:Fu nN nO k N/\AR u0 h T0 D0 (Df b la n m nN nO j (U a) cn c (i+1) cs c0) l from⟨e.1,AR.cont f e.2⟩
 by_cases T:k=3
 ·rw[show(k==3)=V from by simp[T]]at d;obtain⟨A,t,C,o⟩:=AR.to s (VD b la n m nN nO j (U a) cn c i k N cs c0 l d) λg a h=>AR.here a h;by_cases c1:N<0
  rw[decide_eq_true c1]at o;exact(C.dies<|dies b cs c0 A (p:=(No,36,V)) (by simp[BQ]) o).elim;rw[decide_eq_false c1]at o;obtain⟨G,u,B,q⟩:=AR.to C (ad8 b la n m nN nO j (U a) cn c i k N cs c0 A o) λg a h=>AR.here a h;by_cases c2:N>=nN
  rw[decide_eq_true c2]at q;exact(B.dies<|dies b cs c0 G (p:=(Vv,37,V)) (by simp[BQ]) q).elim;rw[decide_eq_false c2]at q;exact⟨.inr<|.inr<|.inl ⟨T,by omega,by omega⟩,AR.cont t<|AR.cont u<|AR.to B (ad9 b la n m nN nO j (U a) cn c i cs c0 G q) λg a h=>AR.here a<|next g h⟩
 rw[show(k==3)=I from by simp[T]]at d;obtain⟨A,t,C,o⟩:=AR.to s (VF b la n m nN nO j (U a) cn c i k N cs c0 l d) λg a h=>AR.here a h
 suffices e:Fu nN nO k N/\AR u0 h T0 D0 (Df b la n m nN nO j (U a) cn c (i+1) cs c0) A from⟨e.1,AR.cont t e.2⟩
 by_cases k4:k=4
 ·rw[show(k==4)=V from by simp[k4]]at o;obtain⟨G,u,B,q⟩:=AR.to C (VE b la n m nN nO j (U a) cn c i k N cs c0 A o) λg a h=>AR.here a h;by_cases c1:N<0
  rw[decide_eq_true c1]at q;exact(B.dies<|dies b cs c0 G (p:=(Nq,36,V)) (by simp[BQ]) q).elim;rw[decide_eq_false c1]at q;obtain⟨g9,K,a9,J⟩:=AR.to B (aea b la n m nN nO j (U a) cn c i k N cs c0 G q) λg a h=>AR.here a h;by_cases c2:N>=nO
  rw[decide_eq_true c2]at J;exact(a9.dies<|dies b cs c0 g9 (p:=(Vw,37,V)) (by simp[BQ]) J).elim;rw[decide_eq_false c2]at J;exact⟨.inr<|.inr<|.inr ⟨k4,by omega,by omega⟩,AR.cont u<|AR.cont K<|AR.to a9 (aeb b la n m nN nO j (U a) cn c i cs c0 g9 J) λg a h=>AR.here a<|next g h⟩
 rw[show(k==4)=I from by simp[k4]]at o;exact(C.dies<|dies b cs c0 A (p:=(Np,14,I)) (by simp[BQ]) o).elim
theorem Qb(hs:Safe L (bL u0 h T0 D0)){j:Nat}{ca:Option ZY}{cn f:Nat}(c:ca=Y->cn=0)(e:cn<4000000000000):∀(r i:Nat) (g:Ψ),r+i=cn->ma g (bL u0 h T0 D0) ->Df b la n m nN nO j ca cn f i cs c0 g->
 (∀d,i<=d->d<cn->∃a,ca=U a/\QX (bL u0 h T0 D0) nN nO (a.add<|d*2))/\AR u0 h T0 D0 (Df b la n m nN nO j ca cn f cn cs c0) g
 |0,i,g,hi,ha,hg=>⟨λd k s=>by omega,AR.here ha<|by grind⟩
 |r+1,i,g,hi,ha,hg=>by
  obtain⟨q1,p,l,a1,k⟩:=NJ hs c (by omega) (by omega) ha hg;obtain⟨u,o⟩:=Qb hs c e r (i+1) p (by omega) a1 k;refine⟨λd q t=>?_,AR.cont l o⟩
  grind
end
end
section
section
variable{L:bu}{u0:φ}{h:Array R}{T0:Nat->ZS->Nat}{D0:Nat}{b:Bool}{cs:List η}{c0:η}{g:Ψ}{la:Option ZY}{n m nN nO:Nat}
def Xj(hs:Safe L (bL u0 h T0 D0)){j}(T:la=Y->n=0)(hj:j<n)(hn:n<=1000000)(ha:ma g (bL u0 h T0 D0))(O:Jq b la n m nN nO j cs c0 g):
 (∃a,la=U a/\Rr (bL u0 h T0 D0) nN nO (a.add<|j*2))/\AR u0 h T0 D0 (Jq b la n m nN nO (j+1) cs c0) g:=by
 obtain⟨a,rfl⟩:∃a,la=U a:=by
  obtain _|a:=la
  have:=T rfl;omega;exact⟨a,rfl⟩
 unfold Jq at O;rw[show decide ((j:Int)<(n:Int))=V from decide_eq_true<|by omega]at O;obtain⟨g1,w1,a1,S⟩:=AR.to ha (adU b (U a) n m nN nO j cs c0 g O) λg a h=>AR.here a h;obtain⟨o,w2,a2,l⟩:=AR.step a1 (aH S) (λE D=>⟨_,jr (aen b (U a) n m nN nO j cs c0 g1 S) aev Hy hj⟩) (alz b (U a) n m nN nO j (a.add<|j*2) cs c0 g1 S) λg a h=>AR.here a h;have hh:=aeo b (U a) n m nN nO j (a.add<|j*2) cs c0 o l;obtain⟨x,y,e1,e2⟩:=(yW (P:=PV) (main:=V) hs hh QV Hy).resolve_right λhb=>a2.bad<|vQ (aH l) hb;have B:∀E D,∃es,stepG PV V o (bL u0 h E D)=.go (fin (.agg #[x,y]) o) (bL u0 h E D) es:=λE D=>⟨_,jp (w:=bL u0 h E D) hh QV Hy e1 e2 (by rw[l.cg];exact nrV)⟩;obtain⟨es,J⟩:=B T0 D0;have G:=a2.step (aH l) J;obtain⟨k,rfl⟩:=(ado b cs c0 o (U a) n m nN nO j _ x y l).resolve_right λhd=>G.dies hd;obtain⟨ca,cn,c,rfl⟩:=(VH b cs c0 o (U a) n m nN nO j _ k y l).resolve_right λhd=>G.dies hd;have hk:(ca=Y->cn=0)/\AR u0 h T0 D0 (λg=>aQ (fV b Vo [bv 25 (k==0),iv 21 k,(22,.slice ca cn c),iv 24 cn,iv 17 j,iv 13 nO,iv 10 nN,iv 3 n,(1,Zw (U a) n m)]) [] (c0::cs) g) (fin (.agg #[ZT .i64 k,.slice ca cn c]) o):=by
  obtain _|ca:=ca
  obtain⟨v,u,C,h4⟩:=AR.to G (adV b (U a) n m nN nO j cn c _ k cs c0 o l) λg a h=>AR.here a h;by_cases z:cn=0
  rw[show((cn:Int) !=0)=I from by simp[z]]at h4;exact⟨λ_=>z,AR.cont u<|AR.to C (adW b (U a) n m nN nO j cn c k cs c0 v h4) λg a h=>AR.here a h⟩;rw[show((cn:Int) !=0)=V from by simp;omega]at h4;exact(C.dies<|dies b cs c0 v (p:=(Vp,41,V)) (by simp[BQ]) h4).elim;exact⟨(λh=>by cases h),AR.to G (alA b (U a) n m nN nO j ca cn c _ k cs c0 o l) λg a h=>AR.here a h⟩
 obtain⟨K,v,u,C,h4⟩:=hk;have r:Ai k cn/\AR u0 h T0 D0 (Df b (U a) n m nN nO j ca cn c 0 cs c0) v:=by
  by_cases Q:k=0
  rw[show(k==0)=V from by simp[Q]]at h4;obtain⟨g5,e,s,h5⟩:=AR.to C (adX b (U a) n m nN nO j ca cn c k cs c0 v h4) λg a h=>AR.here a h;by_cases c1:(cn:Int)>4
  rw[decide_eq_true c1]at h5;exact(s.dies<|dies b cs c0 g5 (p:=(Nl,26,V)) (by simp[BQ]) h5).elim;rw[decide_eq_false c1]at h5;exact⟨.inl ⟨Q,by omega⟩,AR.cont e<|AR.to s (adZ b (U a) n m nN nO j ca cn c cs c0 g5 h5) λg a h=>AR.here a h⟩;rw[show(k==0)=I from by simp[Q]]at h4;obtain⟨g5,e,s,h5⟩:=AR.to C (adY b (U a) n m nN nO j ca cn c k cs c0 v h4) λg a h=>AR.here a h;by_cases H:k=1
  rw[show(k==1)=V from by simp[H]]at h5;obtain⟨q,f,t,d⟩:=AR.to s (Vy b (U a) n m nN nO j ca cn c k cs c0 g5 h5) λg a h=>AR.here a h;by_cases c1:cn=1
  rw[show((cn:Int) !=1)=I from by simp[c1]]at d;exact⟨.inr<|.inl ⟨H,c1⟩,AR.cont (e.trans f)<|AR.to t (ad0 b (U a) n m nN nO j ca cn c cs c0 q d) λg a h=>AR.here a h⟩;rw[show((cn:Int) !=1)=V from by simp;omega]at d;exact(t.dies<|dies b cs c0 q (p:=(Vq,26,V)) (by simp[BQ]) d).elim;rw[show(k==1)=I from by simp[H]]at h5;obtain⟨q,f,t,d⟩:=AR.to s (Vz b (U a) n m nN nO j ca cn c k cs c0 g5 h5) λg a h=>AR.here a h;by_cases W:k=2
  rw[show(k==2)=V from by simp[W]]at d;obtain⟨g7,N,X,F⟩:=AR.to t (VA b (U a) n m nN nO j ca cn c k cs c0 q d) λg a h=>AR.here a h;by_cases c1:cn=2
  rw[show((cn:Int) !=2)=I from by simp[c1]]at F;exact⟨.inr<|.inr ⟨W,c1⟩,AR.cont ((e.trans f).trans N)<|AR.to X (ad1 b (U a) n m nN nO j ca cn c cs c0 g7 F) λg a h=>AR.here a h⟩;rw[show((cn:Int) !=2)=V from by simp;omega]at F;exact(X.dies<|dies b cs c0 g7 (p:=(Vr,26,V)) (by simp[BQ]) F).elim;rw[show(k==2)=I from by simp[W]]at d;exact(t.dies<|dies b cs c0 q (p:=(Nm,23,I)) (by simp[BQ]) d).elim
 obtain⟨A,g5,e,s,h5⟩:=r;have hcn:cn<=4:=by obtain h|h|h:=A<;>omega
 obtain⟨eT,q,f,t,d⟩:=Qb (L:=L) hs K (by omega) cn 0 g5 (by omega) s h5;refine⟨⟨a,rfl,k,ca,cn,c,A,e1,e2,λi hi=>eT i (ι _) hi⟩,AR.cont (((((w1.trans w2).trans<|VW.step (aH l) B).trans u).trans e).trans f) ?_⟩;unfold Df at d;rw[show decide ((cn:Int)<(cn:Int))=I from decide_eq_false<|by omega]at d;refine AR.to t (aec b (U a) n m nN nO j ca cn c cn cs c0 q d) λg a' h=>AR.here a' ?_;rw[Dg (by omega)]at h;exact h
theorem uA(hs:Safe L (bL u0 h T0 D0))(d:la=Y->n=0)(f:n<=1000000):∀(r j:Nat) (g:Ψ),r+j=n->ma g (bL u0 h T0 D0) ->Jq b la n m nN nO j cs c0 g->
 (∀c,j<=c->c<n->∃a,la=U a/\Rr (bL u0 h T0 D0) nN nO (a.add<|c*2))/\AR u0 h T0 D0 (Jq b la n m nN nO n cs c0) g
 |0,j,g,hj,ha,hg=>⟨λc e p=>by omega,AR.here ha<|by grind⟩
 |r+1,j,g,hj,ha,hg=>by
  obtain⟨q1,k,i,a1,e⟩:=Xj hs d (by omega) f ha hg;obtain⟨s,l⟩:=uA hs d f r (j+1) k (by omega) a1 e;refine⟨λc o q=>?_,AR.cont i l⟩
  grind
def QY(b:Bool)(q:Nat)(cs:List η)(c0:η)(g:Ψ):Prop:=aQ (fV b wp [bv 15 (decide<|(q:Int)<2199023255552),iv 17 q]) [] (c0::cs) g
def NK(hs:Safe L (bL u0 h T0 D0)){l K C}(v:ma g (bL u0 h T0 D0))(r:aQ (fV b KR [(0,l),(1,K),(2,C)]) [] (c0::cs) g):amc (bL u0 h T0 D0) l K C/\AR u0 h T0 D0 (QY b 0 cs c0) g:=by
 obtain⟨la,n,m,rfl⟩:=(Ns b cs c0 g l K C r).resolve_right λhd=>v.dies hd;obtain⟨room,rfl⟩:=(Nt b cs c0 g l C la n m r).resolve_right λhd=>v.dies hd;obtain⟨v0,rfl⟩:=(Nu b cs c0 g l la n m room r).resolve_right λhd=>v.dies hd;have h0:(la=Y->n=0)/\AR u0 h T0 D0 (λg=>aQ (fV b w4 [bv 4 (decide<|(n:Int)>room),iv 3 n,pv 0 v0,(1,.slice la n m)]) [] (c0::cs) g) g:=by
  obtain _|a:=la
  obtain⟨d,f,k,h4⟩:=AR.to v (alw b v0 n m room cs c0 g r) λg a h=>AR.here a h;by_cases o:n=0
  rw[show((n:Int) !=0)=I from by simp[o]]at h4;exact⟨λ_=>o,AR.cont f<|AR.to k (alx b v0 n m room cs c0 d h4) λg a h=>AR.here a h⟩;rw[show((n:Int) !=0)=V from by simp;omega]at h4;exact(k.dies<|dies b cs c0 d (p:=(w41,41,V)) (by simp[BQ]) h4).elim;exact⟨(λh=>by cases h),AR.to v (s_0 b v0 a n m room cs c0 g r) λg a h=>AR.here a h⟩
 obtain⟨G,S,w1,a1,A⟩:=h0;by_cases c1:(n:Int)>room
 rw[decide_eq_true c1]at A;exact(a1.dies<|dies b cs c0 S (p:=(w4,4,V)) (by simp[BQ]) A).elim;rw[decide_eq_false c1]at A;obtain⟨Q,w2,X,z⟩:=AR.to a1 (s_4 b v0 la n m cs c0 S A) λg a h=>AR.here a h;by_cases c2:(n:Int)>1000000
 rw[decide_eq_true c2]at z;exact(X.dies<|dies b cs c0 Q (p:=(w5,5,V)) (by simp[BQ]) z).elim;rw[decide_eq_false c2]at z;obtain⟨y,w3,F,h3⟩:=AR.to X (s_5 b v0 la n m cs c0 Q z) λg a h=>AR.here a h;have T:=ama b v0 la n m cs c0 y h3;obtain⟨x,e1⟩:=(yV (P:=PV) (main:=V) hs T De).resolve_right λhb=>F.bad<|vQ (aH h3) hb;have s:∀c D,∃B,stepG PV V y (bL u0 h c D)=.go (fin x y) (bL u0 h c D) B:=λc D=>⟨_,du (q:=I) (w:=bL u0 h c D) T De e1 (by rw[h3.cg];exact nrV)⟩;obtain⟨B,E⟩:=s T0 D0;obtain⟨W,i,om,rfl⟩:=(amb b cs c0 y v0 la n m x h3).resolve_right λhd=>(F.step (aH h3) E).dies hd;obtain⟨d,f,k,h4⟩:=AR.step F (aH h3) s (s_9 b v0 la n m W i om cs c0 y h3) λg a h=>AR.here a h;have t:=aem b v0 la n m i cs c0 d h4;obtain⟨x,e2⟩:=(yV (P:=PV) (main:=V) hs t De).resolve_right λhb=>k.bad<|vQ (aH h4) hb;have e:∀c D,∃B,stepG PV V d (bL u0 h c D)=.go (fin x d) (bL u0 h c D) B:=λc D=>⟨_,du (q:=I) (w:=bL u0 h c D) t De e2 (by rw[h4.cg];exact nrV)⟩;obtain⟨es2,u⟩:=e T0 D0;obtain⟨pa,nO,O,rfl⟩:=(aer b cs c0 d v0 la n m i x h4).resolve_right λhd=>(k.step (aH h4) u).dies hd;obtain⟨g5,J,a5,h5⟩:=AR.step k (aH h4) e (aly b v0 la n m i pa nO O cs c0 d h4) λg a h=>AR.here a h;obtain⟨cells,g6,N,a6,H⟩:=uA (L:=L) hs G (by omega) n 0 g5 (by omega) a5 h5;refine⟨⟨v0,la,n,m,room,i,nO,W,om,pa,O,rfl,rfl,rfl,by omega,by omega,e1,e2,λj hj=>cells j (ι _) hj⟩,AR.cont (((((w1.trans w2).trans w3).trans f).trans J).trans N) ?_⟩;unfold Jq at H;rw[show decide ((n:Int)<(n:Int))=I from decide_eq_false<|by omega]at H;exact AR.to a6 (aed b la n m i nO n cs c0 g6 H) λg a h=>AR.here a h
end
end
section
def za:Region.schedule V aE 0=[0,1]:=by kernel_rfl
def zb:Region.schedule V aE 1=[1,0]:=by kernel_rfl
def row(t:ω):R:=.cells #[] t
section
variable{u0:φ}{h:Array R}{b:Bool}{cs:List η}{c0:η}{g:Ψ}
def iU{t g}(b:g.status=.running)(a:dl g=U (mb t<|.agg #[])):VW u0 g h (fin (pz h.size) g) (h.push<|row t):=VW.step b λc D=>⟨_,rI a⟩
def pu(c:Bool)(t:ω)(h:Array R):Array R:=bif c then h.push (row t)else h
def un(k)(a:k<8)(q c)(m:aQ (fV b (uT k) [iv 17 q]) [] (c0::cs) g):∃g',VW u0 g h g' (pu c (ty k) h)/\aQ (fV b (Fc k)<|Jp k q) [] (c0::cs) g':=by
 obtain⟨n,p,l⟩:=pD b q cs c0 g k a m;have i:∀x,VW u0 g h (n x) h:=λx=>VW.draw (x:=x) (aH m) λd D e=>⟨#[],by have:=p<|bL u0 h d D;rw[show(bL u0 h d D).tape (bL u0 h d D).drawn (.order 166<|100+k)=x from e]at this;exact this⟩
 cases c
 have h3:=l 0;rw[za]at h3;obtain⟨g',f,h⟩:=VW.to (u0:=u0) (h:=h)<|pO0 b q k a cs c0 _ h3;exact⟨g',(i 0).trans f,h⟩;have h3:=l 1;rw[zb]at h3;obtain⟨j,f,h4⟩:=VW.to (u0:=u0) (h:=h)<|pO1 b q k a cs c0 _ h3;have o:=iU (u0:=u0) (h:=h) (aH h4)<|pHV b q k a cs c0 j h4;obtain⟨g',w4,h⟩:=VW.to (u0:=u0) (h:=h.push<|row<|ty k)<|pBX b q _ k a cs c0 j h4;exact⟨g',(((i 1).trans f).trans o).trans w4,h⟩
def pus(z:Nat->Bool)(h:Array R):Nat->Array R
 |0=>h
 |k+1=>pu (z k) (ty k)<|pus z h k
theorem agd(z:Nat->Bool)(q:Nat)(i:aQ (fV b wp [bv 15 V,iv 17 q]) [] (c0::cs) g):∀k,k<8->∃g',VW u0 g h g' (pus z h<|k+1)/\aQ (fV b (Fc k)<|Jp k q) [] (c0::cs) g'
 |0,hk=>by obtain⟨g0,f,h0⟩:=VW.to (h:=h)<|Nr b q cs c0 g i;obtain⟨c,a,d⟩:=un 0 hk q (z 0) h0;exact⟨c,f.trans a,d⟩
 |k+1,hk=>by
  obtain⟨g0,f,h0⟩:=agd z q i k (by omega);have e:k≠7:=by omega
  rw[Fc,Jp,if_neg e,if_neg e]at h0;obtain⟨c,a,d⟩:=un (k+1) hk q (z<|k+1) h0;exact⟨c,f.trans a,d⟩
def rnd(q:Nat)(a:q<4000000000000)(e:aQ (fV b wp [bv 15 V,iv 17 q]) [] (c0::cs) g):(∃g',VW u0 g h g' h/\QY b (q+1) cs c0 g')/\∀t∈[104,34,83,249,255,3,76,50],∃g',VW u0 g h g' (h.push<|row t)/\QY b (q+1) cs c0 g':=by have H:=λz=>agd (u0:=u0) (h:=h) z q e 7 (by omega);simp only[Fc,Jp,if_true,Dg a]at H;refine⟨H λ_=>I,λt d=>?_⟩;obtain⟨j,c,rfl⟩:=List.getElem_of_mem d;have:=H λk=>k==j;obtain rfl|rfl|rfl|rfl|rfl|rfl|rfl|rfl:=e8 c<;>exact this
def dV(h:Array R)(l:List ω):Array R:=l.foldl (λh t=>h.push<|row t) h
def amd:∀r q l h g,r+q=2199023255552->l.length<=r->(∀t∈l,t∈[104,34,83,249,255,3,76,50]) ->QY b q cs c0 g->∃g',VW u0 g h g' (dV h l)/\aQ {fn:=166,n:=43,T:=Vx,l:=[],mode:=.returning,kind:=jq b} [] (c0::cs) g':=by
 intro r
 induction r with
 |zero=>intro q l h g p o j a;have:l=[]:=List.length_eq_zero_iff.1 (by omega);subst this;unfold QY at a;rw[show decide ((q:Int)<2199023255552)=I from decide_eq_false<|by omega]at a;exact VW.to<|p_f b q cs c0 g a
 |succ r m=>
  intro q l h g p o j a;unfold QY at a;rw[show decide ((q:Int)<2199023255552)=V from decide_eq_true<|by omega]at a;obtain⟨r0,r1⟩:=rnd (u0:=u0) (h:=h) q (by omega) a;obtain _|⟨t,l⟩:=l
  obtain⟨e,d,i⟩:=r0;obtain⟨c,k,f⟩:=m (q+1) [] h e (by omega) (ι _) (by simp) i;exact⟨c,d.trans k,f⟩;obtain⟨e,d,i⟩:=r1 t<|j t ZA;obtain⟨c,k,f⟩:=m (q+1) l (h.push<|row t) e (by omega) (by simp at o;omega) (λx s=>j x<|ZJ _ s) i;exact⟨c,d.trans k,f⟩
def ame(b tmps T c0 cs w):stepG PV V (G {fn:=166,tmps,todo:=T,defers:=[],mode:=.returning,kind:=jq b} (c0::cs)) w=.go (G (mZ (jq b) c0) cs) w #[]:=by cases b<;>kernel_rfl
end
end
end Vc
namespace Vc
open Go Go.Conc Ph
open gO (cj bu be uf Ctx gW bL qE Live pL Node OkG aJ HR Rel mL mT Move)
open Go.ConcM (OsLater)
section
variable(b:Bool){L:bu}{a:ZY}{w:φ}(args:Array Z3)
noncomputable def cV (L:bu):Ctx where
 ok:=Hx L
 S:=λ_=>False
 T:=P0.toTables
 F:=PV.funcs
 G:=P0.funcs
 K0:=⟨λ_ _ _=>trivial,λ_ _ h=>h⟩
 map:=λ_ _=>trivial
 mapIter:=λ_ _ _ _=>trivial
 stringIter:=λ_ _=>trivial
 number:=λ_ _=>trivial
 tX:=λk=>be L V k=V
 okF:=λf=>f≠166/\∃fn b,PV.funcs[f]?=U fn/\fn.body=U b
 loop:=λ_=>Z2
 deferred:=λ_=>Z2
def Bq(L):(cV L).T.globals.size=1:=by rfl
def jT(args:Array Z3):Array Z3:=args++Array.replicate (43-args.size) undef
def Xk(kd):Ξ PV 166 args kd={fn:=166,tmps:=jT args,todo:=KR,defers:=[],mode:=.run,kind:=kd}:=by kernel_rfl
def VL(kd):Ξ P0 166 args kd={fn:=166,tmps:=jT args,todo:=DG,defers:=[],mode:=.run,kind:=kd}:=by kernel_rfl
def vR{args}(h:args.size<=43):(jT args).size=43:=by simp[jT];omega
def zc{args}(h:43<args.size):jT args=args:=by
 unfold jT
 grind
def zd{T tmps}(hs:tmps.size=43)(c0 cs):aQ {fn:=166,n:=43,T:=T,l:=[(0,tmps.getD 0 undef),(1,tmps.getD 1 undef),(2,tmps.getD 2 undef)],kind:=jq b} [] (c0::cs) (G {fn:=166,tmps,todo:=T,defers:=[],mode:=.run,kind:=jq b} (c0::cs)):=by refine aQ.of rfl ?_ rfl;show [tmps.size]=[43];rw[hs]
def Xm(h:43<args.size)(c0 cs):gy (G {fn:=166,tmps:=args,todo:=KR,defers:=[],mode:=.run,kind:=jq b} (c0::cs)):=by
 obtain⟨l⟩:=args;obtain _|⟨x0,l⟩:=l
 simp at h;obtain _|⟨x1,l⟩:=l
 simp at h;obtain _|⟨x2,l⟩:=l
 simp at h;obtain _|⟨x3,l⟩:=l
 simp at h;obtain _|⟨x4,l⟩:=l
 simp at h;obtain _|⟨x5,l⟩:=l
 simp at h;obtain _|⟨x6,l⟩:=l
 simp at h;obtain _|⟨x7,l⟩:=l
 simp at h;obtain _|⟨x8,l⟩:=l
 simp at h;obtain _|⟨x9,l⟩:=l
 simp at h;obtain _|⟨x10,l⟩:=l
 simp at h;obtain _|⟨x11,l⟩:=l
 simp at h;obtain _|⟨x12,l⟩:=l
 simp at h;obtain _|⟨x13,l⟩:=l
 simp at h;obtain _|⟨x14,l⟩:=l
 simp at h;obtain _|⟨x15,l⟩:=l
 simp at h;obtain _|⟨x16,l⟩:=l
 simp at h;obtain _|⟨x17,l⟩:=l
 simp at h;obtain _|⟨x18,l⟩:=l
 simp at h;obtain _|⟨x19,l⟩:=l
 simp at h;obtain _|⟨x20,l⟩:=l
 simp at h;obtain _|⟨x21,l⟩:=l
 simp at h;obtain _|⟨x22,l⟩:=l
 simp at h;obtain _|⟨x23,l⟩:=l
 simp at h;obtain _|⟨x24,l⟩:=l
 simp at h;obtain _|⟨x25,l⟩:=l
 simp at h;obtain _|⟨x26,l⟩:=l
 simp at h;obtain _|⟨x27,l⟩:=l
 simp at h;obtain _|⟨x28,l⟩:=l
 simp at h;obtain _|⟨x29,l⟩:=l
 simp at h;obtain _|⟨x30,l⟩:=l
 simp at h;obtain _|⟨x31,l⟩:=l
 simp at h;obtain _|⟨x32,l⟩:=l
 simp at h;obtain _|⟨x33,l⟩:=l
 simp at h;obtain _|⟨x34,l⟩:=l
 simp at h;obtain _|⟨x35,l⟩:=l
 simp at h;obtain _|⟨x36,l⟩:=l
 simp at h;obtain _|⟨x37,l⟩:=l
 simp at h;obtain _|⟨x38,l⟩:=l
 simp at h;obtain _|⟨x39,l⟩:=l
 simp at h;obtain _|⟨x40,l⟩:=l
 simp at h;obtain _|⟨x41,l⟩:=l
 simp at h;obtain _|⟨x42,l⟩:=l
 simp at h;obtain _|⟨x43,l⟩:=l
 simp at h;intro w;cases b<;>kernel_rfl
def cell_of{u0 h S}(d:HR (cV L) u0 S h w){b:Nat->ZS->Nat}{D0 v}(hc:(bL u0 h b D0) a=U v):
 ∃cs e f,w.heap[a.block]?=U (.cells cs e f)/\a.spot=Y/\cs[a.off]?=U v/\¬S a.block/\a.block<w:=by
 have g:=d 0;obtain⟨i,c,h3⟩:=gO.Rel.cell g hc;obtain⟨cs,e,f,q1,k,j⟩:=gO.qR i;refine⟨cs,e,f,q1,by simpa using k,j,c,?_⟩
 grind
def pW{Sh b B t}(h:Past Sh B t)(hs:∀l,Sh l->b l):Past b B t:=⟨h.clean,λi a c d=>(h.known i a c d).imp id λq=>⟨hs _ q.1,q.2⟩,h.over,h.hears,h.seen⟩
theorem xl:∀(k i:Nat),cU (λ_=>0) k i=Y
 |0,_=>rfl
 |k+1,i=>by rw[cU];exact xl k<|i+1
theorem pX:∀(l:List ω) (h:Array R),(dV h l).size=h.size+l.length
 |[],h=>rfl
 |t::l,h=>by have:=pX l<|h.push<|row t;simp only[dV,κ,List.length_cons,Zt]at this⊢;omega
theorem jU:∀(l:List ω) (h:Array R) (b:Nat),b<h.size->(dV h l)[b]?=h[b]?
 |[],h,b,hb=>rfl
 |t::l,h,b,hb=>by have:=jU l (h.push<|row t) b (by grind);simp only[dV,κ]at this⊢;rw[this,Array.getElem?_push_lt hb,Z1 hb]
theorem uB:∀(l:List ω) (h:Array R) (i:Nat) (t:ω),l[i]?=U t->(dV h l)[h.size+i]?=U (row t)
 |[],h,i,t,hi=>by simp at hi
 |t'::l,h,i,t,hi=>by
  cases i with
  |zero=>simp at hi;subst hi;have:=jU l (h.push<|row t') h.size (by simp);simp only[dV,κ,Nat.add_zero]at this⊢;rw[this,Array.getElem?_push_size]
  |succ i=>
   have:=uB l (h.push<|row t') i t (by simpa using hi);simp only[dV,κ,Zt]at this⊢
   grind
def Qc{a b}(h:OsLater a b):b.env=a.env:=by obtain⟨d,rfl⟩:=h;rfl
def NL{c sp c0}(h:aJ c L sp c0)(b):aJ c L sp (mZ (jq b) c0):=by
 obtain _|_:=b
 exact h.finish _;show aJ c L sp (match c0.mode with
  |.panicking ({recovered:=V,..}::older)=>
   match older.dropWhile (!·.goexit)with
   |[]=>{c0 with mode:=.returning}
   |rest=>{c0 with mode:=.panicking rest}
  |_=>c0)
 split
 split
 ·exact h.mode _
 exact h.mode _;exact h
def Jr:List ω:=[104,34,83,249,255,3,76,50]
def Br{nN nO n}(hc:∀j,j<n->Rr w nN nO (a.add<|j*2)):∃(kd:Nat->Int) (ca:Nat->Option ZY) (cn cm:Nat->Nat),∀j,j<n->Ai (kd j) (cn j)/\w ((a.add<|j*2).add 0)=U (ZT .i64<|kd j)/\w ((a.add<|j*2).add 1)=U (.slice (ca j) (cn j)<|cm j)/\
 ∀i,i<cn j->∃a',ca j=U a'/\QX w nN nO (a'.add<|i*2):=by
 have h:∀j,∃q:Int×Option ZY×Nat×Nat,j<n->Ai q.1 q.2.2.1/\w ((a.add<|j*2).add 0)=U (ZT .i64 q.1)/\w ((a.add<|j*2).add 1)=U (.slice q.2.1 q.2.2.1 q.2.2.2)/\∀i,i<q.2.2.1->∃a',q.2.1=U a'/\QX w nN nO (a'.add<|i*2):=by
  intro j;by_cases b:j<n
  obtain⟨kd,ca,cn,cm,c,d,h3,h4⟩:=hc j b;exact⟨⟨kd,ca,cn,cm⟩,λ_=>⟨c,d,h3,h4⟩⟩;exact⟨⟨0,Y,0,0⟩,λh=>absurd h b⟩
 obtain⟨f,e⟩:=Z9 h;exact⟨λj=>(f j).1,λj=>(f j).2.1,λj=>(f j).2.2.1,λj=>(f j).2.2.2,e⟩
def EE{nN nO n}(hc:∀i,i<n->QX w nN nO (a.add<|i*2)):∃(vk vn:Nat->Int),∀i,i<n->Fu nN nO (vk i) (vn i)/\w ((a.add<|i*2).add 0)=U (ZT .i64<|vk i)/\w ((a.add<|i*2).add 1)=U (ZT .i64<|vn i):=by
 have h:∀i,∃q:Int×Int,i<n->Fu nN nO q.1 q.2/\w ((a.add<|i*2).add 0)=U (ZT .i64 q.1)/\w ((a.add<|i*2).add 1)=U (ZT .i64 q.2):=by
  intro i;by_cases hi:i<n
  obtain⟨k,N,b,c,h3⟩:=hc i hi;exact⟨⟨k,N⟩,λ_=>⟨b,c,h3⟩⟩;exact⟨⟨0,0⟩,λh=>absurd h hi⟩
 obtain⟨f,d⟩:=Z9 h;exact⟨λi=>(f i).1,λi=>(f i).2,d⟩
def Km(a:ZY)(n k):((a.add n).add k).block=a.block/\((a.add n).add k).off=a.off+n+k:=by unfold Addr.add;by_cases c:n=0<;>by_cases b:k=0<;>simp[c,b]
def vS{u0 h S}(k:HR (cV L) u0 S h w){g:Nat->ZS->Nat}{D0 i v j}(p:(bL u0 h g D0) ((a.add<|i*2).add 0)=U v)(n:(bL u0 h g D0) ((a.add<|i*2).add 1)=U j):
 a.block<w/\¬S a.block/\(i=0->a.spot=Y)/\∃cs e f,w.heap[a.block]?=U (.cells cs e f)/\cs[a.off+i*2]?=U v/\cs[a.off+i*2+1]?=U j:=by
 obtain⟨cs,e,f,q1,q,l,d,m⟩:=cell_of k p;obtain⟨o,x,u,b,t,c,s,r⟩:=cell_of k n;obtain⟨e1,e2⟩:=Km a (i*2) 0;obtain⟨e3,e4⟩:=Km a (i*2) 1;rw[e1]at q1 d m;rw[e2]at l;rw[e3]at b;rw[e4]at c;rw[q1]at b;cases b
 exact⟨m,d,λh0=>by subst h0;exact q,cs,e,f,q1,l,c⟩
end
def rU:∀l h (b:Nat) o,(dV h l)[b]?=U o->h[b]?=U o\/∃t,o=row t
 |[],h,b,o,hb=>.inl hb
 |t::l,h,b,o,hb=>by
  obtain a|a:=rU l (h.push<|row t) b o hb
  grind
  grind
def add_zero'(a:ZY):(a.add 0).add 0=a:=by rfl
def H7{L u0 Post}:qE (cV L) L 166 u0 Post:=by
 intro s kd cs h gs w sl t q S hk hcs J hlive hg0 hL hP Q hos;obtain⟨hkd,hne⟩:=hk;obtain⟨b,rfl⟩:∃b,kd=jq b:=by
  obtain rfl|rfl:=hkd
  exact⟨I,rfl⟩;exact⟨V,rfl⟩
 obtain⟨c0,d,rfl⟩:=Z0 hne;obtain⟨T0,D0,_,he⟩:=hlive λ_ _=>0;have ha:ma (G (Ξ PV 166 s<|jq b) (c0::d)) (bL u0 h T0 D0):=by obtain⟨n,v,y,W,_⟩:=he;exact⟨n,v,y,W⟩
 rw[Xk]at ha;by_cases hbig:43<s.size
 rw[zc hbig]at ha;exact(ha.dies<|Xm b s hbig c0 d).elim;have X:=vR (args:=s) (by omega);obtain⟨hpre,g2,hw2,ha2,hp2⟩:=NK (L:=L) J ha<|zd b X c0 d;obtain⟨v0,la,n,m,room,nN,nO,oa,om,pa,pm,e0,e1,e2,hroom,hn,hv1,hv2,B⟩:=hpre.ex;have hsz0:w.heap.size=h.size:=(Q 0).size;obtain⟨amf,amg⟩:=Km v0 0 1;obtain⟨q1,f1,f1',a1,a2,a3,a4,a5⟩:=cell_of Q hv1;obtain⟨q2,f2,f2',d1,d2,d3,d4,d5⟩:=cell_of Q hv2;rw[(add_zero' v0)]at a1 a2 a3 a4 a5;rw[amf]at d1 d4 d5;rw[amg,Nat.add_zero]at d3;rw[a1]at d1;cases d1
 have hpos:1<=w.heap.size:=by omega
 obtain⟨a,hla,hca⟩:∃a,(∀j,j<n->la=U a)/\∀j,j<n->Rr (bL u0 h T0 D0) nN nO (a.add<|j*2):=by
  by_cases hz:0<n
  obtain⟨a,E,_⟩:=B 0 hz;refine⟨a,λ_ _=>E,λj z=>?_⟩;obtain⟨a',O,hc⟩:=B j z;rw[E]at O;cases O
  exact hc;exact⟨v0,λj z=>absurd z<|by omega,λj z=>absurd z<|by omega⟩
 obtain⟨kd,ca,cn,cm,H⟩:=Br hca
 let K:PC:={ca:=la,n,m,b,c0,cs:=d,p0:=gs.size,B0:=w.heap.size,h0:=w.heap,v0,v1:=λj=>ZT .i64<|kd j,v2:=λj=>.slice (ca j) (cn j)<|cm j,ev:=λ_=>0,S,TT:=λe=>e∈Jr,C:=14}
 have hSB:∀b,S b->b<w.heap.size:=by
  intro b hb;obtain⟨c,e,_,f,g⟩|g:=(Q 0).mask b hb
  exact(Γ.1 g).1;rw[hsz0];exact(Γ.1 g).1
 have hA:dX K:=by
  refine⟨λj z cs1 hc1=>?_,λj z=>⟨rfl,rfl⟩,?_,?_,rfl,λj z=>?_,hSB,?_⟩;obtain⟨W0,rest,rfl⟩:=Z0 hc1;obtain⟨ok,W,h2,h3⟩:=H j z;obtain⟨a',amh,hva⟩:∃a',(∀i,i<cn j->ca j=U a')/\∀i,i<cn j->QX (bL u0 h T0 D0) nN nO (a'.add<|i*2):=by
   by_cases hz:0<cn j
   obtain⟨a',E,_⟩:=h3 0 hz;refine⟨a',λ_ _=>E,λi hi=>?_⟩;obtain⟨a'',O,hc⟩:=h3 i hi;rw[E]at O;cases O
   exact hc;exact⟨v0,λj z=>absurd z<|by omega,λj z=>absurd z<|by omega⟩
  obtain⟨vk,vn,hvs⟩:=EE hva;refine⟨60000,Bo (K:=K.pk) (v0:=v0) (W0:=W0) (rest:=rest) (nN:=nN) (nO:=nO) (b0:=v0.block) (o0:=v0.off) (n:=cn j) (m:=cm j) (ca:=ca j) (kd:=kd j) (vk:=vk) (vn:=vn) ⟨?_,?_,?_⟩ .refl ?_ ⟨a5,a4,⟨_,_,_,_,_,_,_,a1,a3,d3⟩⟩ ok λi hi=>?_⟩;show 50∈Jr
  decide
  show 34∈Jr
  decide
  show 76∈Jr
  decide
  obtain⟨vb,vo,vs⟩:=v0;cases a2
  rfl;obtain⟨ov,p1,p2⟩:=hvs i hi;obtain⟨o1,o2,o3⟩:=hvs 0 (by omega);obtain⟨r1,r2,r3,r4⟩:=vS Q p1 p2;obtain⟨s1,s2,s3,s4⟩:=vS Q o2 o3;exact⟨ov,a',amh i hi,s3 rfl,r1,r2,r4⟩;show n<1048576;omega;exact(Γ.1 hg0).1;obtain⟨ok,W,h2,h3⟩:=H j z;obtain⟨_,o2,o3,_⟩:=H 0 (show 0<n by have:j<n:=z;omega);obtain⟨r1,r2,r3,r4⟩:=vS Q W h2;obtain⟨s1,s2,s3,s4⟩:=vS Q o2 o3;exact⟨a,hla j z,r1,r2,s3 rfl,r4⟩;refine⟨?_,?_,?_,?_,?_,?_,?_⟩<;>(show _∈Jr;decide)
 have hat:=zd (T:=DG) b X c0 d;rw[e0,e1,e2]at hat
 obtain⟨N,gs',y,sl',t',q',hrun,hg',hL',hP',u⟩:=Ey (K:=K) (room:=room) (sl:=sl) hA (by omega:¬((n:Int)>room)) rfl rfl (g0:=G {fn:=166,tmps:=jT s,todo:=DG,defers:=[],mode:=.run,kind:=jq b} (c0::d)) hat (by rw[<-VL];exact hg0) hL hP;rw[show cU K.ev K.n 0=Y from xl _ _]at hg'
 let ty:Nat->ω:=λb=>match y.heap[b]? with
  |some (.cells _ e _)=>e
  |_=>104
 let l:List ω:=(Zz<|y.heap.size-w.heap.size).map λi=>ty<|w.heap.size+i
 have hge:w.heap.size+5<=y.heap.size:=u.size;have hty:∀b,w.heap.size<=b->b<y.heap.size->∃cs f,y.heap[b]?=U (.cells cs (ty b) f)/\ty b∈Jr:=by
  intro b W h2;obtain⟨cs,e,f,g,hm⟩:=u.rows b W h2;have:ty b=e:=by simp only[ty,g]
  exact⟨cs,f,by rw[this];exact g,by rw[this];exact hm⟩
 have hll:l.length=y.heap.size-w.heap.size:=by simp[l]
 have hfew:y.heap.size<=w.heap.size+5+n*(14+2):=u.wW;obtain⟨g3,hw3,F,rfl⟩:=amd (u0:=u0) (b:=b) (c0:=c0) (cs:=d) 2199023255552 0 l h g2 rfl (by omega) (λt ht=>by obtain⟨i,hi,rfl⟩:=Zm.1 ht;have hi:=ZZ.1 hi;obtain⟨_,_,_,hm⟩:=hty (w.heap.size+i) (by omega) (by omega);exact hm) hp2
 have hlast:gW PV u0 1 0 (λ_ _=>0) _ (dV h l) (G (mZ (jq b) c0) d) (dV h l):=λτ D _=>by have:=ame b (Jv 43<|cO []<|F 0) Vx c0 d<|bL u0 (dV h l) τ D;simp only[runN];rw[Z4 rfl this];rfl
 have A:pL (cV L) (dV h l):=by
  intro b o hb;obtain g|⟨t,rfl⟩:=rU _ _ _ _ hb
  exact J b o g;trivial
 have hok:OkG (cV L) L 166 (G (mZ (jq b) c0) d):=⟨NL (hcs c0 ZA) b,λx g=>hcs x<|ZJ _ g,rfl⟩;have hsize:y.heap.size=(dV h l).size:=by rw[pX,hll];omega
 have age:=hos.trans u.os;refine⟨G (mZ (jq b) c0) d,dV h l,N,gs',y,sl',t',q',λx=>S x\/(w.heap.size<=x/\x<y.heap.size),⟨⟨A,rfl,.inl hok⟩,?_⟩,hok,hrun,hg',hL',pW hP' ?_,λk=>⟨λ_ _ _=>rfl,hsize,λx g=>?_,λx g=>?_,λx g=>?_,Qc age,A⟩,age,⟨λb h=>.inl h,λb h=>h.imp id λh=>h.1,by omega,u.tape,u.output,λb hb _=>u.low b hb⟩⟩;obtain⟨M1,δ1,σ1,k1⟩:=hw2.trans hw3;rw[show(cV L).P=PV from rfl,Xk];exact⟨_,_,_,Nat.succ_pos _,k1.trans hlast⟩;intro lc E;obtain E|⟨ad,rfl,E⟩:=E
 cases lc with
 |cell ad=>exact .inl E
 |obj r=>exact .inl E
 |_=>exact E
 refine .inr ?_;have:ad.block=w.heap.size+3\/ad.block=w.heap.size+4:=E;omega;have hx1:¬S x:=λhs=>g<|.inl hs;by_cases hlt:x<w.heap.size
 have e1:=u.low x hlt;have e2:w.heap[x]?=h[x]?:=(Q 0).same x hx1;show y.heap[x]?=(dV h l)[x]?;rw[e1,e2,jU _ _ _<|by omega];have hx2:y.heap.size<=x:=by apply ε;intro hn';exact g<|.inr ⟨by omega,by omega⟩
 show y.heap[x]?=(dV h l)[x]?;rw[ξ hx2,ξ<|by omega];have old:S x->mL x (bL u0 (dV h l) y.tape y.drawn) y:=by
  intro hs;have hlt:=hSB x hs;have e2:(dV h l)[x]?=h[x]?:=jU _ _ _ (by omega);obtain⟨c,e,⟨f,p1⟩,f',p2⟩|p:=(Q 0).mask x hs
  exact .inl ⟨c,e,⟨f,e2.trans p1⟩,f',(u.low x hlt).trans p2⟩;exact .inr<|e2.trans p
 obtain g|⟨W,h2⟩:=g
 exact old g;obtain⟨cs,f,p1,p2⟩:=hty x W h2;have hi:l[x-w.heap.size]?=U (ty x):=by simp only[l,List.getElem?_map];rw[List.getElem?_range (by omega)];simp only[μ];rw[show w.heap.size+(x-w.heap.size)=x by omega]
 have:=uB l h (x-w.heap.size) (ty x) hi;rw[show h.size+(x-w.heap.size)=x by omega]at this;exact .inl ⟨cs,ty x,⟨_,this⟩,f,p1⟩
 ·rw[Bq];obtain g|⟨W,h2⟩:=g
  have:=(Q 0).high x g;rw[Bq]at this;exact this;omega
end Vc
namespace Vc
open Go Go.Conc Ph gO
noncomputable def PT:Zv:=⟨P0.toTables,#[]⟩
noncomputable def rV(t:ω):Bool:=match PT.info? t with
 |some i=>match i.desc with
  |.named n _=>n != "sync.copyChecker"
  |_=>V
 |none=>V
noncomputable def qN(t:ω):Bool:=match PT.underlying t with
 |some .bool|some .string=>V
 |some (.int _)=>rV t
 |_=>I
noncomputable def Dh(t:ω):Bool:=qN t||match PT.underlying t with
 |some (.struct fs)=>fs.all λf=>qN f.type
 |_=>I
noncomputable def aeG(t:ω):Bool:=match PT.underlying t with
 |some (.int _)=>V
 |_=>I
noncomputable def aeH(t:ω):Bool:=match PT.underlying t with
 |some (.map k _)=>Dh k
 |_=>I
def LV:bu:={flat:=[2,3,4,21,34,50,93,227,245,290],ints:=[3,21,93,183,245],maps:=[110,164,205]}
def H8:LV.flat.all Dh=V:=by kernel_rfl
def H9:LV.ints.all aeG=V:=by kernel_rfl
def Ia:LV.maps.all aeH=V:=by kernel_rfl
def Bt(f:ZX):PV.funcs[f]?=(P0.funcs[f]?).map (yU f):=aaV f
def jV:xH na:=⟨by kernel_rfl,rfl,by kernel_rfl,by kernel_rfl,by kernel_rfl⟩
def VM(i:Nat)(f:Func):Bool:=match f.body with
 |some b=>i==166||yT.contains i||be LV I b
 |none=>V
def aeI(f:Func):Bool:=!(f.name== "runtime.NumGoroutine")
def allI(p:Nat->Func->Bool):Nat->List Func->Bool
 |_,[]=>V
 |i,f::l=>p i f&&allI p (i+1) l
def rW{p}:∀{l} {i},allI p i l=V->∀{j} {f},l[j]?=U f->p (i+j) f=V
 |[],i,h,j,f,hj=>by simp at hj
 |g::l,i,h,0,f,hj=>by simp at hj;subst hj;simp only[allI,Zs]at h;exact h.1
 |g::l,i,h,j+1,f,hj=>by simp only[allI,Zs]at h;have:=rW h.2 (j:=j) (f:=f) (by grind);rwa[show i+1+j=i+(j+1) by omega]at this
def EF:allI VM 0 P0.funcs.toList=V:=by kernel_rfl
def Ib:allI (λ_ f=>aeI f) 0 P0.funcs.toList=V:=by kernel_rfl
structure J5(f:ZX)(e:Array Z3->Sem Z3):Prop where
 ex:∃fn,P0.funcs[f]?=U fn/\Extern.findNext fn=Y/\Extern.find fn=U e
def ami:J5 192 (λargs=>ZR<|args.getD 0<|.tuple #[]):=⟨F0 192,by kernel_rfl,by kernel_rfl,by kernel_rfl⟩
def amj:J5 193 (ZQ (Δ "reflectlite.Value.Type" 0) λt _ _ _=>ZI t):=⟨F0 193,by kernel_rfl,by kernel_rfl,by kernel_rfl⟩
def amk:J5 194 (υ (Δ "reflectlite.Value.IsNil" 0) ZP):=⟨F0 194,by kernel_rfl,by kernel_rfl,by kernel_rfl⟩
def aml:J5 228 ZH:=⟨F0 228,by kernel_rfl,by kernel_rfl,by kernel_rfl⟩
def amm:J5 229 (υ (Δ "reflectlite.Value.Elem" 0) ZO):=⟨F0 229,by kernel_rfl,by kernel_rfl,by kernel_rfl⟩
def amn:J5 230 ZN:=⟨F0 230,by kernel_rfl,by kernel_rfl,by kernel_rfl⟩
def amo:J5 335 (ο "AssignableTo" ZG):=⟨F0 335,by kernel_rfl,by kernel_rfl,by kernel_rfl⟩
def amp:J5 337 (ZF ZE):=⟨F0 337,by kernel_rfl,by kernel_rfl,by kernel_rfl⟩
def amq:J5 338 (ο "Implements" ZD):=⟨F0 338,by kernel_rfl,by kernel_rfl,by kernel_rfl⟩
def amr:J5 302 (ZC λt=>do pure (ZT .u8<|<-Extern.Rtype.kind t)):=⟨F0 302,by kernel_rfl,by kernel_rfl,by kernel_rfl⟩
def Di(f:Func):Bool:=match f.body with
 |some b=>(readies b).isEmpty
 |none=>V
def EG:PV.funcs.toList.all Di=V:=by kernel_rfl
def Ic:P0.toTables.follows .staticDataAhead=V:=by kernel_rfl
def VN:List Nat:=[288,290,292,294,296,298,303,305,311,312,315,341,344]
def aeJ(i:TypeInfo):Bool:=i.methods.all λm=>if m.name== "Error"||m.name== "String"then(match m.func with
 |some (f,_)=>VN.contains f
 |none=>V)else V
def NM:P0.types.toList.all aeJ=V:=by kernel_rfl
def Id:∀f∈VN,PV.funcs[f]?=U na:=by intro f a;simp only[VN,Zo,Zr,or_false]at a;obtain rfl|rfl|rfl|rfl|rfl|rfl|rfl|rfl|rfl|rfl|rfl|rfl|rfl:=a<;>kernel_rfl
def NN:∀fn,P0.funcs[166]?=U fn->fn.body.isNone=I:=by trivial
def Ie:(Vm.name== "runtime.NumGoroutine")=I:=by kernel_rfl
def EH:P0.inits=#[2]:=by kernel_rfl
section
variable{fn:Func}{t:ω}{f:ZX}{c:Ctx}{i:TypeInfo}
def Bu(h:rV t=V):ft P0.toTables t:=by
 intro F i u hi b;have a:PT.info? t=U i:=hi;unfold rV at h
 grind
def uC(h:qN t=V):Scalar P0.toTables t:=by
 unfold qN at h;split at h
 rename_i a;exact .inl a;rename_i a;exact .inr<|.inl a;rename_i k a;exact .inr<|.inr ⟨⟨k,a⟩,Bu h⟩;cases h
def Dj(h:Dh t=V):Flat P0.toTables t:=by
 unfold Dh at h;rw[Zq]at h;obtain h|h:=h
 exact .inl<|uC h;split at h
 ·rename_i c a;refine .inr ⟨c,a,λf b=>?_⟩;obtain⟨i,hi,rfl⟩:=ZU.1 b;exact uC<|Zy.1 h i hi
 cases h
def sound:LV.Sound P0.toTables:=by
 refine⟨λt a=>Dj<|χ.1 H8 t a,λt a=>?_,λt a k e c=>?_⟩;have h:=χ.1 H9 t a;unfold aeG at h;split at h
 rename_i k d;exact⟨k,d⟩;cases h
 have h:=χ.1 Ia t a;have b:PT.underlying t=U (.map k e):=c;unfold aeH at h;rw[b]at h;exact Dj h
def NO(h:P0.funcs[f]?=U fn):VM f fn=V:=by have:=rW EF (j:=f) (f:=fn) (by grind);rwa[Nat.zero_add]at this
def lS(h:P0.funcs[f]?=U fn):(fn.name== "runtime.NumGoroutine")=I:=by have:=rW Ib (j:=f) (f:=fn) (by grind);simpa[aeI]using this
def J5.mf{e}(h:J5 f e)(a:P0.funcs[f]?=U fn)(hb:fn.body.isNone=V)(i:∀args,TT c<|e args):vt c fn:=by
 obtain⟨d,b,g,h3⟩:=h;rw[a]at b;cases b
 exact⟨lS a,hb,g,e,h3,i⟩
def uD(g:ED.contains f=V)(d:P0.funcs[f]?=U fn)(hb:fn.body.isNone=V):vt c fn:=by
 have e:=ZM.1 g;simp only[ED,Zo,Zr,or_false]at e;obtain rfl|rfl|rfl|rfl|rfl|rfl|rfl|rfl|rfl|rfl:=e
 exact ami.mf d hb λb=>ua _;exact amj.mf d hb λb=>Nv _ _ (d8 _ _) (λt a n k=>oN _) _;exact amk.mf d hb λb=>pG _ _ (d8 _ _) (λt a n k=>AV _ _ _ _) _;exact aml.mf d hb λb=>DX _;exact amm.mf d hb λb=>pG _ _ (d8 _ _) (λt a n k=>DZ _ _ _ _) _;exact amn.mf d hb λb=>FT _;exact amr.mf d hb λb=>PL _ (λt=>ae (qB _) λ_=>bX _) _;exact amo.mf d hb λb=>pE _ _ (λt u=>qo _ _) _;exact amp.mf d hb λb=>xG _ (λt=>DY _) _;exact amq.mf d hb λb=>pE _ _ (λt u=>rj _ _) _
def pi{g}(a:P0.funcs[f]?=U g):(f=166/\yU f g=Vm)\/(f≠166/\g.body.isNone=I/\yT.contains f=I/\yU f g=g)\/(f≠166/\yU f g=na)\/(f≠166/\g.body.isNone=V/\ED.contains f=V/\yU f g=g):=by
 unfold yU;by_cases h:f=166
 grind
 have c:(f==166)=I:=by simpa using h
 cases hb:g.body with
 |some b=>grind
 |none=>grind
def EI(f:ZX):gV c PV.funcs[f]? P0.funcs[f]?:=by
 rw[Bt];cases hg:P0.funcs[f]? with
 |none=>exact .none
 |some g=>
  obtain⟨rfl,e⟩|⟨_,hb,_,e⟩|⟨_,e⟩|⟨_,hb,a,e⟩:=pi hg<;>simp only[μ,e]
  exact .oO _ _ rfl (NN g hg) Ie<|lS hg;exact .oO _ _ hb hb (lS hg)<|lS hg;exact .dead _ _ jV;exact .row _<|uD a hg hb
def EJ(f:ZX):gV c PV.funcs[f]? PV.funcs[f]?:=by
 rw[Bt];cases hg:P0.funcs[f]? with
 |none=>exact .none
 |some g=>
  obtain⟨rfl,e⟩|⟨_,hb,_,e⟩|⟨_,e⟩|⟨_,hb,a,e⟩:=pi hg<;>simp only[μ,e]
  exact .oO _ _ rfl rfl Ie Ie;exact .oO _ _ hb hb (lS hg)<|lS hg;exact .dead _ _ jV;exact .row _<|uD a hg hb
def vT{b}(h:PV.funcs[f]?=U fn)(hb:fn.body=U b):(f=166/\fn=Vm)\/(f≠166/\P0.funcs[f]?=U fn/\yT.contains f=I/\be LV I b=V):=by
 rw[Bt]at h;cases hg:P0.funcs[f]? with
 |none=>rw[hg]at h;cases h
 |some g=>
  rw[hg]at h;simp only[μ,ZV]at h;obtain⟨rfl,e⟩|⟨d,a,hd,e⟩|⟨_,e⟩|⟨_,a,i,e⟩:=pi hg<;>rw[e]at h<;>subst h
  exact .inl ⟨rfl,rfl⟩;have c:=NO hg;unfold VM at c;rw[hb]at c;simp only[hd,Bool.or_false,Zq,beq_iff_eq]at c;exact .inr ⟨d,rfl,hd,c.resolve_left d⟩;cases hb
  rw[hb]at a;cases a
def rX{b}(h:PV.funcs[f]?=U fn)(hb:fn.body=U b):P0.inits.idxOf? f=Y:=by
 rw[EH];have:f≠2:=by
  rintro rfl;obtain⟨h,_⟩|⟨_,_,h,_⟩:=vT h hb
  cases h
  trivial
 grind
def Dk(g):PV.stepOf g=Y:=by
 unfold Program.stepOf;rw[Array.findIdx?_eq_none_iff];intro f a;have:=χ.1 EG f<|ZL.2 a;unfold Di at this
 grind
def aeK(S):ge ((cV LV).with S) LV 166:=by
 refine⟨λf=>EI f,λf fn b d h hb=>?_,λf fn b h hb=>rX h hb,Dk,Ic,λ_=>Z2,λ_=>Z2,sound⟩;obtain⟨h,_⟩|⟨_,a,_,c⟩:=vT h hb
 grind
 trivial
def uE:ge (cV LV).eH LV 166:=by
 refine⟨λf=>EJ f,λf fn b c h hb=>?_,λf fn b h hb=>rX h hb,Dk,Ic,λ_=>Z2,λ_=>Z2,sound⟩;obtain⟨h,_⟩|⟨_,d,_,a⟩:=vT h hb
 exact absurd h c;exact⟨h,a⟩
def dN{b c x}{f:b->Sem c}{P w w' r}(h:(x>>=f).run P w=.ok r w'):∃a w1,x.run P w=.ok a w1/\(f a).run P w1=.ok r w':=by
 rw[Sem.run_bind]at h;cases hx:x.run P w with
 |ok a w1=>rw[hx]at h;exact⟨a,w1,rfl,h⟩
 |halt e w1=>simp_all
def Made.lp{a b}(h:Made.reckonStruct a b=U i):i.methods=#[]:=by
 unfold Made.reckonStruct at h;simp only[Option.bind_eq_bind,Ω,Option.pure_def,ZV]at h
 grind
def Made.rY{a d}(h:Made.reckon a d=U i):i.methods=#[]:=by
 unfold Made.reckon at h;split at h
 obtain⟨j,_,h⟩:=Ω.1 h;split at h
 cases h
 split at h
 ·cases h
 obtain⟨s,_,h⟩:=Ω.1 h;cases h;rfl
 obtain⟨s,_,h⟩:=Ω.1 h;cases h;rfl
 obtain⟨j,_,h⟩:=Ω.1 h;obtain⟨s,_,h⟩:=Ω.1 h;cases h;rfl
 obtain⟨j,_,h⟩:=Ω.1 h;obtain⟨s,_,h⟩:=Ω.1 h;obtain⟨b,_,h⟩:=Ω.1 h;obtain⟨c,_,h⟩:=Ω.1 h;cases h;rfl
 obtain⟨j,_,h⟩:=Ω.1 h;obtain⟨s,_,h⟩:=Ω.1 h;cases h;rfl
 obtain⟨s,_,h⟩:=Ω.1 h;cases h;rfl
 obtain⟨j,_,h⟩:=Ω.1 h;obtain⟨s,_,h⟩:=Ω.1 h;cases h;rfl
 exact Made.lp h;cases h
def vU{T:Tables}(h:T.info? t=U i):T.types[t]?=U i\/i.methods=#[]:=by
 unfold Tables.info? at h;split at h
 grind
 unfold Made.depth at h;unfold Made.infoAt at h;split at h
 grind
 obtain⟨d,_,h⟩:=Ω.1 h;exact .inr<|Made.rY h
def QZ(P:Zv)(name:String)(f:ZX):Prop:=∃(t:ω) (i:TypeInfo) (m:Method) (b:Bool),P.types[t]?=U i/\m∈i.methods/\m.name=name/\m.func=U (f,b)
theorem n8{P:Zv}{name:String}:∀(n:Nat) (t:ω) (v:Z3) (w:φ) (r:ZX×Z3) (w':φ),(method n t v name).run P w=.ok r w'->QZ P name r.1
 |0,t,v,w,r,w',h=>by simp[method,unsupported,θ]at h
 |n+1,t,v,w,r,w',h=>by
  unfold method at h;obtain⟨i,l,c,h⟩:=dN h;have hi:P.info? t=U i:=by
   simp only[typeInfo,Sem.run_bind,run_program,Result.andThen]at c;split at c
   rename_i j g;cases c
   exact g;simp[stuck,θ]at c
  split at h
  rename_i m d;obtain⟨⟨o,x⟩,p,_,h⟩:=dN h;dsimp only at h;split at h
  obtain⟨y,k,_,h⟩:=dN h;split at h
  exact n8 n _ _ _ _ _ h;simp[runtimePanic,θ]at h;simp[stuck,θ]at h;rename_i f b e;obtain⟨y,k,_,h⟩:=dN h;cases h
  have a:=Array.mem_of_find?_eq_some d;obtain h0|h0:=vU hi
  exact⟨t,i,m,b,h0,a,by simpa using (Array.find?_some d),e⟩;rw[h0]at a;simp at a;simp[stuck,θ]at h
def Bv{name}(g:name= "Error"\/name= "String")(h:QZ PV name f):PV.funcs[f]?=U na:=by
 obtain⟨t,i,m,b,d,c,h3,h4⟩:=h;have:=χ.1 NM i<|ZL.2<|Array.mem_of_getElem? d;unfold aeJ at this;obtain⟨k,a,rfl⟩:=ZU.1 c;have:=Zy.1 this k a;have e:(i.methods[k].name== "Error"||i.methods[k].name== "String")=V:=by grind
 rw[e]at this;simp only[if_true,h4]at this;exact Id f<|ZM.1 this
def mute:FV PV:=by
 intro v t a name c w f b j h;have g:name= "Error"\/name= "String":=by
  unfold panicText at c
  grind
 unfold invoke callMethod at h;simp only[List.getElem?_toArray,List.getElem?_cons_zero]at h;obtain⟨p,i,l,h⟩:=dN h;obtain⟨⟨m,o⟩,n,e,h⟩:=dN h;have hd:=Bv g<|n8 _ _ _ _ _ _ e;dsimp only at h hd;unfold callFunc at h;obtain⟨q,k,h3,h⟩:=dN h;have d:q=PV:=by
  rw[run_program]at h3;cases h3
  rfl
 rw[d,hd]at h;dsimp only at h;rw[jV.name,jV.body,jV.next,jV.row,jV.init]at h;simp only[ζ,if_false,if_true]at h;obtain⟨_,w4,_,h⟩:=dN h;simp[unsupported,θ]at h
end
end Vc
namespace Vc
open Go Go.Conc Ph gO
open Go.ConcM (OsLater)
section
open Classical in
noncomputable def shut (H:Array R):Array R:=H.map λo=>if Hx LV o then o else bE
variable{H:Array R}{b:Nat}
def pj(H):(shut H).size=H.size:=by simp[shut]
def NP{o}(h:(shut H)[b]?=U o):Hx LV o:=by
 unfold shut at h;rw[ZB]at h;obtain⟨a,_,rfl⟩:=ZW.1 h;split
 omega;rfl
def vV{o}(h:H[b]?=U o)(a:Hx LV o):(shut H)[b]?=U o:=by
 unfold shut
 grind
def Bw{cs e f}(h:H[b]?=U (.cells cs e f)):(shut H)[b]?=U (.cells cs e f):=vV h trivial
def Ig{f fn b}(y:f≠166)(u:PV.funcs[f]?=U fn)(t:fn.body=U b)(args){W Post l}(n:∀o,W.heap[0]?=U o->Hx LV o)(p:∀A,gO.Ends PV Post<|solo (G (Ξ PV f args .normal) [])<|bL W (shut W.heap) A 0)(q:∀v h w S,Post v h->HR (cV LV) W S h w->OsLater W.os w.os->Kept (Hx LV) W S w->l v w):
 lX P0 l (solo (G (Ξ P0 f args .normal) []) W) #[]:=by
 have hF:=aeK λ_=>False;have e:Ξ P0 f args .normal=Ξ PV f args .normal:=rq hF y u t args .normal;have r:OkG (cV LV) LV 166 (G (Ξ PV f args .normal) []):=⟨(xK (c:=(cV LV).with λ_=>False) hF y u t args<|.inl rfl).oT,λx B=>by simp[G]at B,rfl⟩;have a:pL (cV LV) (shut W.heap):=λb o h=>NP h;have d:gO.Node (cV LV) LV 166 (G (Ξ PV f args .normal) []) (shut W.heap):=⟨a,rfl,.inl r⟩;have C:HR (cV LV) W (λb=>∃o,W.heap[b]?=U o/\¬Hx LV o) (shut W.heap) W:=λk=>⟨λ_ _ _=>rfl,(pj _).symm,λb hb=>by
  show W.heap[b]?=(shut W.heap)[b]?;cases m:W.heap[b]? with
  |none=>exact(ξ (by rw[pj];exact Array.getElem?_eq_none_iff.1 m)).symm
  |some o=>refine(vV m ?_).symm;apply ε;intro d;exact hb ⟨o,m,d⟩,λb ⟨o,m,d⟩=>by
  refine .inr ?_;show(shut W.heap)[b]?=_;unfold shut;rw[ZB,m];simp[d],λb ⟨o,m,d⟩=>by
  rw[Bq];obtain rfl|hb:=Zu b
  exact absurd (n o m) d;exact hb,rfl,a⟩
 rw[e];refine FZ aeK uE H7 q (xO uE mute d p) a rfl _ (.inl ⟨rfl,r⟩) (Go.ConcN.sumTo 1 λ_=>0) #[G (Ξ PV f args .normal) []] W Y #[] (λ_=>0) _ .refl rfl ⟨λi g h0 z=>?_,λj E=>?_⟩ (pW (past_nil.mono (ι _)) λ_ h=>h.elim) C (.refl _) ⟨rfl,rfl,.refl,λb o hb d=>⟨⟨o,hb,d⟩,hb⟩,λb o hb m ⟨D,s,d⟩=>by
  rw[hb]at s;cases s
  exact d m⟩
 ·have:i<1:=(Γ.1 z).1;omega
 simp[Deaf,Trace.deaf]
def ends_of_calls{f fn b}(i:PV.funcs[f]?=U fn)(d:fn.body=U b){args w Post}(h:Calls PV f args w λe w'=>∃v,e=.returned v/\Post v w'.heap):
 gO.Ends PV Post (solo (G (Ξ PV f args .normal) []) w):=by
 obtain⟨e,w',fr,⟨v,rfl,c⟩,hc,a,g⟩:=h [];have hi:PV.inits.idxOf? fr.fn=Y:=by rw[a];exact rX i d
 obtain⟨n,j⟩:=(hc);refine⟨n+1,v,w',?_,c⟩;have:=gO.runN_add n 1 j;refine this.trans ?_;simp only[runN,(step_leave_done g hi)]
end
end Vc
namespace Vc
open Go Go.Conc Go.ChangeShapes Go.WideShapes Go.ChangeAt Go.RowKit Ph gO
open Go.ConcM (OsLater)
def own:ownKnob Tryz.prog.godebug=Y:=by kernel_rfl
def et:Tryz.prog.globalNamed "errors.errorType"=U 0:=by kernel_rfl
def rt:(Tryz.prog.cutTypes.find? (·.1== "internal/reflectlite.rtype")).map (·.2)=U 273:=by kernel_rfl
def VO:((Zz 363).filter λt=>Tryz.prog.rowNamed t [101,114,114,111,114])=[174]:=by kernel_rfl
def aeN:Tryz.prog.types.size=363:=by kernel_rfl
def EL:Z3:=.iface 273<|.agg #[.pointer (1,174)]
def uF:List (String×DataW Unit):=[("errors.errorType",Rows.laid_errors_errorType)]
def rZ{W}(h:ZK Z uF W):W.cell? ⟨0,0,Y⟩=U EL:=by obtain⟨name,u,ty,e1,e2,e3,e4,b⟩:=h.2 _<|Zx.2 rfl;have c:=(ψ e1).symm;subst c;obtain rfl:=ψ<|rt.symm.trans e2;have a:ty∈(Zz 363).filter λt=>Tryz.prog.rowNamed t [101,114,114,111,114]:=List.mem_filter.2 ⟨ZZ.2 (by rw[<-aeN];exact e3),e4⟩;rw[VO]at a;obtain rfl:=Zx.1 a;rw[(by kernel_rfl:typeHandle Z 174=.pointer (1,174))]at b;have:=World.var?_cell et b 0;simpa[EL]using this
noncomputable def uG(os:Os):φ:=
 let w0:=World.holding Z os ⟨#[],#[],[]⟩
 {w0 with heap:=w0.heap.modify 0 λ
   |.cells _ t frozen=>.cells #[EL] t frozen
   |o=>o}
def tF(os args):ZK Z uF ((uG os).forCall (λ_ _=>0) ⟨#[],args,[]⟩).memory:=laidMetH_of_parts (laidMet_nil _ _) (by kernel_rfl)
def vW{H d a os f fn s F g fresh c}(h:os.Started)(x:Tryz.prog.funcs[f]?=U fn) (k:∃(w:φ) (tape:Tape) (i:Input),w.os=os/\(w.forCall tape i).Shaped Z/\i.vars=[]/\Input.okWide Z (w.forCall tape i) .any w f i/\
 ((s.pre d Z fn g I (w.forCall tape i).memory i.args/\ZK Z uF (w.forCall tape i).memory)/\sizedMet d Z fn (Θ s) I (w.forCall tape i).memory i.args)/\a.holds Z (lone (Ξ Z f i.args .normal) [] (w.forCall tape i))) (l:∀W base args (ds gs:List (DataW H)) before,
 (∀(j:Nat) t v,fn.params[j]?=U t->args[j]?=U v->Zn Z W .any base t v) ->
 DataW.Whole d Z fn.params.toList s.vars I W args.toList ds gs before->
 g.all (PathCond.test Z ⟨fn.params.toList,ds,s.plain.varTypes Z,gs⟩)=V->
 (DataW.weightsEach Z (fn.params.toList++s.plain.varTypes Z)<|ds++gs).all (·<=reachBytes)=V->
 W.cell? ⟨0,0,Y⟩=U EL->
 lX Z (λv A=>s.post d Z fn I fresh c I W args v {A with os:=W.os}/\OsLater W.os A.os) (solo (G (Ξ Z f args .normal) []) W) #[]):
 Zp a Zl os f .any (λw args=>(s.pre d Z fn g I w args/\ZK Z uF w)/\sizedMet d Z fn (Θ s) I w args) ((Θ s).postWith d Z fn F (outsideKept [.timePasses]) I fresh c):=by
 refine returnsInLeavingWide_of_good own h k ?_;intro w tape i _ _ _ u q r;obtain⟨_,_,_,J,p,_,_,_,_,n⟩:=u;have e:=ψ<|p.symm.trans x;subst e;obtain⟨⟨⟨ds,gs,before,hw,hc⟩,E⟩,hz⟩:=q;obtain⟨b,m,o,y,C,D,B,h3,h4⟩:=l (w.forCall tape i) w i.args ds gs before n (DataW.Whole.of_heap (w':=w.forCall tape i) (by rfl) hw) hc (hz.weights hw)<|rZ (W:=w.forCall tape i)<|E.of_heap<|by rfl
 obtain⟨v,e,z,r1,r2,r3,r4⟩:=h4;exact⟨b,m,o,y,C,D,B,h3,v,e,postWith_blind<|postWith_of_post z.1 z.2,r1,r2,r3,r4⟩
def PO(n:Nat)(H0:Array R)(v:Z3)(h:Array R):Prop:=v=.bool V/\n<=h.size/\∀b,b<n->h[b]?=H0[b]?
def EM{W w:φ}{h S v}(f:PO W (shut W.heap) v h)(e:HR (cV LV) W S h w)(c:Kept (Hx LV) W S w):Below W W {w with os:=W.os}:=by
 obtain⟨rfl,i,g⟩:=f;refine⟨rfl,c.tape,c.output,?_,λb hb=>?_⟩;have:w.heap.size=h.size:=(e 0).size
 grind
 show w.heap[b]?=W.heap[b]?;obtain⟨o,a⟩:∃o,W.heap[b]?=U o:=⟨_,Z1 hb⟩;by_cases d:Hx LV o
 have e1:w.heap[b]?=h[b]?:=(e 0).same b<|c.fair b o a d;rw[e1,g b hb,vV a d,a];rw[(c.R9 b o a d).2,a]
def Ny:Tryz.prog.underlying 24=U (.slice 3):=by kernel_rfl
def aaW:Tryz.prog.underlying 3=U (.int .i64):=by kernel_rfl
def Xn:Tryz.prog.cellsOf 3=1:=by kernel_rfl
def RY{W b o x}(a:Tape)(h:W.cell? ⟨b,o,Y⟩=U x):(bL W (shut W.heap) a 0).cell? ⟨b,o,Y⟩=U x:=by
 obtain⟨c,d,e,g0,_,_⟩:=gO.qR h;simp only[World.cell?,bL,(Bw g0)]at h⊢
 grind
def RZ{H g W r b0 v}{d:DataW H}{ps}(x:Zn Z W r b0 24 v)(h:DataW.Trod g Z W 0 (λ_=>V) V 24 v d ps):
 ∃(a:Option ZY) (mc:Nat) (l:List Int),v=.slice a l.length mc/\(∀k,Kn.n9 (bL W (shut W.heap) k 0) (.slice a l.length mc) l)/\∀o,Below W.heap.size W o->∀sp,(∀p∈ps,sp p.block=V) ->DataW.Trod g Z o 0 sp V 24 v d ps:=by
 obtain⟨a,len,f,rfl⟩:=okWide_slice Ny x;obtain⟨t,w⟩:=h;obtain⟨e,s⟩|⟨a,len,f,zs,e,_,u,q,hz,s,hc,hw⟩:=open_ints Ny aaW Xn w
 injection e with e _
 injection e with e1 e2 e3
 subst e1 e2 e3;cases s
 exact⟨Y,0,[],rfl,λk=>⟨Y,0,rfl,.refl,by omega,λh=>absurd h<|by simp⟩,λo _ sp _=>shut_slice_nil Ny⟩;injection e with e _
 injection e with e1 e2 e3
 subst e1 e2 e3;cases s
 simp only[if_true]at hz;have c:(zs.take len).length=len:=by simp;omega
 refine⟨U a,f,zs.take len,by rw[c],λk=>⟨U a,f,rfl,by rw[c];exact u,by unfold maxLen at q;exact q,λh0=>?_⟩,λo hb sp hs=>⟨2,?_⟩⟩;obtain⟨b,off,rfl,j⟩:=ints_at hc (by omega);refine⟨b,off,rfl,by show b<(shut W.heap).size;rw[pj];exact Kn.az<|j 0<|by omega,λi n hi=>?_⟩;rw[List.getElem?_take]at hi;split at hi
 have m:=j i (List.getElem?_eq_some_iff.1 hi).1;rw[List.getD,hi]at m;exact RY k m;cases hi
 refine shut_ints 0 Ny aaW Xn (ι _) u q ?_ (λi hi=>?_) hw
 ·obtain h0|h0:=Zu zs.length
  ·split<;>omega
  have m:sp a.block=V:=hs (.cell a.block<|a.off+0)<|Zm.2 ⟨0,ZZ.2 h0,rfl⟩;rw[if_pos m];exact hz
 rw[hb.cell (block_lt_of_cell<|hc i hi)];exact hc i hi
noncomputable abbrev gP:Zv:=Tryz.pinned.checked.prog
noncomputable abbrev gF:Func:=Tryz.f11
abbrev gC:OpenClaim:=Rows.gcWholeRow
abbrev gS:ChangeSpec:=Rows.gcWholeSpec
def Kj(f:ZX):Prop:=∀u a mc l,u.cell? ⟨0,0,Y⟩=U EL->Kn.n9 u (.slice a l.length mc) l->Calls PV f #[.slice a l.length mc] u λe w'=>∃v,e=.returned v/\PO u.heap.size u.heap v w'.heap
def Rw:gF.params.toList=[24]:=by kernel_rfl
def Xo:gF.resultTypes.toList=[4]:=by kernel_rfl
def Qe(i:Kj 11)(os)(c:os.Started)(H)(g:ω×Z3->H)(F):
 Zp gC.assume Zl os 11 .any (λw args=>(gS.pre g Z gF [] I w args/\ZK Z uF w)/\sizedMet g Z gF (Θ gS) I w args)
  ((Θ gS).postWith g Z gF F (outsideKept [.timePasses]) I V I):=by
 refine vW c (by kernel_rfl) ?_ ?_;exact⟨uG os,λ_ _=>0,⟨#[],#[Zw Y 0 0],[]⟩,rfl,World.shaped_of_B (by kernel_rfl) (by kernel_rfl),rfl,(Input.okWide_of_okWideB (by kernel_rfl)).2,
  ⟨⟨ChangeSpec.pre_of_preB (fuel:=8)<|by kernel_rfl,tF os _⟩,sizedMet_of_sizedB (fuel:=8)<|by kernel_rfl⟩,by
  simp only[Assume.holds];refine⟨λh=>?_,λ_=>?_,λh=>?_,λd h=>?_,λd h=>?_,λh=>?_⟩;cases (rfl:gC.assume.fair=I).symm.trans h
  exactλ_ _ _=>rfl
  cases (rfl:gC.assume.modest=I).symm.trans h
  cases (rfl:gC.assume.brisk=Y).symm.trans h
  cases (rfl:gC.assume.punctual=Y).symm.trans h
  cases (rfl:gC.assume.roomy=I).symm.trans h⟩
 intro W base args ds gs r k z _ _ D;have m:=z;obtain⟨p,q,A,K,rfl,_,_⟩:=z;rw[Rw]at A;obtain⟨v,d,rfl,rfl,hd⟩:=trodAll_one A;obtain⟨rfl,rfl⟩:=trodVars_none K;obtain⟨a,mc,l,rfl,t,j⟩:=RZ (k 0 24 v (by kernel_rfl) rfl) hd;obtain⟨b,hb⟩:∃b,gF.body=U b:=by
  cases u:gF.body with
  |some b=>exact⟨b,rfl⟩
  |none=>exact absurd u (by intro h;have:gF.body.isSome=V:=by kernel_rfl
                            rw[h]at this;cases this)
 have n:PV.funcs[11]?=U gF:=by kernel_rfl
 obtain⟨G,L,N,g0,_,_⟩:=gO.qR D;refine Ig (f:=11) (by decide) n hb #[.slice a l.length mc] (Post:=PO W.heap.size<|shut W.heap) (λo C=>?_) (λs=>?_) λv h w S B J y E=>?_;rw[g0]at C;cases C
 trivial;have:=i (bL W (shut W.heap) s 0) a mc l (RY s D)<|t s;rw[show(bL W (shut W.heap) s 0).heap.size=W.heap.size from pj _]at this;exact ends_of_calls n hb this;have e:=EM B J E;obtain⟨rfl,_,_⟩:=B;refine⟨⟨_,_,_,[],p,[],m,?_,?_,rfl,e.frame _,λh=>by cases h⟩,y⟩;rw[Xo];exact trodAll_mk1<|shut_bool (by kernel_rfl) _;rw[Rw];exact trodAll_mk1 (j _ e _ λx u=>by simpa using m.lt x (by simpa using u))
def kx0:(gC.wf<|Θ gS)=V:=by kernel_rfl
def kx1:(laidOutB gP)=V:=by kernel_rfl
def kx2:(mapsRowed gP)=V:=by kernel_rfl
def kx3:(gF.params.all (gP.readableRec ·))=V:=by kernel_rfl
def kx4:(namedTie gP gC.named gS.vars)=V:=by kernel_rfl
def kx5:((gC.stops==[]))=V:=by kernel_rfl
def kx6:((gP.stops==[]))=V:=by kernel_rfl
def kx7:((gC.knobs==[]))=V:=by kernel_rfl
def kx8:((gP.stopKnobs==[]))=V:=by kernel_rfl
def kx9:((gC.inPlace==gP.inPlace 11))=V:=by kernel_rfl
def amu:((gC.unfollowed==gP.unfollowed 11))=V:=by kernel_rfl
def amv:((gC.recurses==gP.recurses 11))=V:=by kernel_rfl
def amw:((gC.named==gP.varsNamed 11))=V:=by kernel_rfl
def amx:((gC.maps==(gF.params.toList++gS.plain.varTypes gP).any (gP.mapsRec ·)))=V:=by kernel_rfl
def amy:((gC.ifaces==(gF.params.toList++gS.plain.varTypes gP).any (gP.ifacesRec ·)))=V:=by kernel_rfl
def amz:((gC.mapsOut==gP.mapsAmong gF.resultTypes.toList))=V:=by kernel_rfl
def amA:((gC.loops==(gF.params.toList++gS.plain.varTypes gP).any (gP.loopsFrom ·)))=V:=by kernel_rfl
def amB:((gC.wideKeys==(gF.params.toList++gS.plain.varTypes gP++gF.resultTypes.toList).any (gP.wideKeysFrom ·)))=V:=by kernel_rfl
def amC:(gS.vars.all (gP.varReadable ·))=V:=by kernel_rfl
def amD:(gF.resultTypes.all λt=>gP.readableRec t&&decide (t<gP.types.size))=V:=by kernel_rfl
def amE:((gC.ifacesOut==gF.resultTypes.toList.any (gP.ifacesRec ·)))=V:=by kernel_rfl
def amF:((gC.loopsOut==gF.resultTypes.toList.any (gP.loopsFrom ·)))=V:=by kernel_rfl
def amG:((gC.plainKeys==gP.plainKeys))=V:=by kernel_rfl
def amH:(gC.shortTexts.isNone)=V:=by kernel_rfl
def amI:(gP.stopsHeard)=V:=by kernel_rfl
def amJ:(gP.mayEnter)=V:=by kernel_rfl
def amK:((gC.lifted==gP.liftsFinal))=V:=by kernel_rfl
def amL:((gP.make==U gC.make))=V:=by kernel_rfl
def amM:((gC.kinds==(if gC.domain.isEmpty then []else gF.params.toList.map λt=>match gP.underlying t with|some (.int k)=>U k|_=>Y)))=V:=by kernel_rfl
def amN:((gC.pinned==gC.pinnedBy))=V:=by kernel_rfl
def amO:((gC.veiled==(gF.params.toList++gS.plain.varTypes gP++gF.resultTypes.toList).any (gP.veiledRec ·)))=V:=by kernel_rfl
def amP:(gC.veiledFits gP gF.params.toList<|gF.params.toList++gS.plain.varTypes gP++gF.resultTypes.toList)=V:=by kernel_rfl
def fj{a b}(h:a=V)(k:b=V):(a&&b)=V:=by rw[h,k];rfl
def aap:joinedFacts gP 11 gF gS gC=V:=by unfold joinedFacts;exact fj (fj (fj (fj (fj (fj (fj (fj (fj (fj (fj (fj (fj (fj (fj (fj (fj (fj (fj (fj (fj (fj (fj (fj (fj (fj (fj (fj (fj (fj (fj (kx0) kx1) kx2) kx3) kx4) kx5) kx6) kx7) kx8) kx9) amu) amv) amw) amx) amy) amz) amA) amB) amC) amD) amE) amF) amG) amH) amI) amJ) amK) amL) amM) amN) amO) amP
def fnN:gP.funcNamed gC.func=U 11:=by kernel_rfl
def agf:gF.isInstance gP gC.origin gC.targs:=of_decide_eq_true (by kernel_rfl)
def agh:gF.isWrapper gP gC.wrapper gC.mainSum:=by unfold Func.isWrapper;first|(rw[if_pos (by decide+kernel)];kernel_rfl)|(rw[if_neg (by decide+kernel)];exact⟨rfl,rfl⟩)
def Xp:gP.funcs[11]?=U gF:=by kernel_rfl
def hi4:gC.initsInPlace=[]/\gC.initsUnfollowed=I/\gC.initsRecurse=I/\gC.initsNamed=[]/\gC.initsPassed=[]:=by trivial
def Qy(b:Kj 11):Rows.GcWholeSaid:=
 OpenClaim.holds_of_wide_leaving_time (s:=gS) (c:=gC) 11 gF rfl rfl rfl rfl rfl rfl rfl hi4 rfl rfl rfl rfl rfl fnN Xp aap agf agh
  (λos a H d _ F=>Qe b os a H d F)
def NQ:gC.start=.entering:=rfl
def VR:gP.mainIs=U (Rows.gcWholeCard.stood.harness.1,Rows.gcWholeCard.stood.harness.2.toList):=by kernel_rfl
def NR:Claim7.isSixth {stood:={row:=gC,standIns:=[],harness:=Rows.gcWholeCard.stood.harness,looks:=V},kinds:=[]}=I:=by kernel_rfl
def NS:V=gP.looks []:=by kernel_rfl
def VS:gC.wfByText (Θ gS)=V:=by kernel_rfl
def VU:V=gC.goesBy gP:=by kernel_rfl
def aaq:gP.wantsStandIn 24=I:=by kernel_rfl
def afS(a:Kj 11):Rows.GcWholeCardSaid:=by
 have e:=Claim7.new_of_sixth (Qy a) Rows.gcWholeCard.stood.harness V NQ ⟨rfl,rfl⟩ VR NR (by
  intro f fn d b;have e1:=ψ<|d.symm.trans fnN;subst e1;have e2:=ψ<|b.symm.trans Xp;subst e2;exact⟨NS,λj t c=>by
   obtain _|j:=j
   cases c
   exact aaq;simp at c⟩)
 exact⟨Claim7.tied_new_at .later [.handle] V e VS,λD g=>(by cases g),gcWhole_row_tie,(λh=>by cases h),VU⟩
end Vc
section
open Go
def af5:Vc.Kj 11:=λu a mc l e h=>(Kn.agj u a mc l e h).mono λ_ _ h=>⟨_,h.1,rfl,h.2.size,h.2.block⟩
theorem gcWhole_card:Rows.GcWholeCardSaid:=Vc.afS af5
end
