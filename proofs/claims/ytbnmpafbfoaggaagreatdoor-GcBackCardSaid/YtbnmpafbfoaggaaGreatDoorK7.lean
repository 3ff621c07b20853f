/- GcBack: for heaps of layer 22 made of any numbers, and for what a collection leaves of them, the plain heap of the heap of two spaces made of it is the same heap, and as many old cells are made as are not free, in the given program, on every schedule and whatever the tape; no conditions. -/
import Derived.Test.YtbnmpafbfoaggaaGreatDoorK6
import Derived.Test.YtbnmpafbfoaggaaGreatDoorK0
import Derived.Test.YtbnmpafbfoaggaaGreatDoorChecked
import Derived.Test.YtbnmpafbfoaggaaGreatDoorTie
import Derived.Test.YtbnmpafbfoaggaaGreatDoorCards
import Derived.Conc.HoldsTime
import Derived.ChangeSame
import Derived.ChangeVars
import Derived.JoinedOf
import Derived.RowKit
import Derived.RowKitTokens
import Derived.LaidLaws
import Derived.LaidHandle
import Derived.SevenTiedAt
import Derived.Test.YtbnmpafbfoaggaaGreatDoorK1
import Derived.ChangeSlices
import Derived.OpenShut
set_option linter.defProp false
set_option linter.unusedVariables false
set_option linter.unusedSimpArgs false
set_option maxRecDepth 100000
set_option maxHeartbeats 16000000
noncomputable section
open Option renaming bind_eq_some_iff->M,some->V,map_some->Δ,none->Z
open Go.Proofs.Tryz renaming prog->I,checked->ο
open Bool renaming true->U,false->Y,or_eq_true->φ
open Go.OpenSpec renaming ofChange->Ω
open Go.Frame renaming enter->Ψ
open Option.some renaming inj->Ξ,injEq->ω
open List renaming all_eq_true->Θ,contains_iff_mem->ψ,mem_singleton->χ,mem_range->υ
open Go.Sem renaming run->Γ
namespace Go.Proofs.YtbnmpafbfoaggaaGreatDoor
open Go.Proofs.Tryz hiding prog
open Go.Proofs.aD
namespace Vc
open Go Go.Conc Ph gO
section
variable{fn:Func}{t:TypeId}{f:FuncId}{c:Ctx}{i:TypeInfo}
def Bu(h:rV t=U):ft P0.toTables t:=by
 intro F i u hi b;have a:PT.info? t=V i:=hi;unfold rV at h
 grind
def uC(h:qN t=U):Scalar P0.toTables t:=by
 unfold qN at h;split at h
 rename_i a;exact .inl a;rename_i a;exact .inr<|.inl a;rename_i k a;exact .inr<|.inr ⟨⟨k,a⟩,Bu h⟩;cases h
def Dj(h:Dh t=U):Flat P0.toTables t:=by
 unfold Dh at h;rw[φ]at h;obtain h|h:=h
 exact .inl<|uC h;split at h
 ·rename_i c a;refine .inr ⟨c,a,λf b=>?_⟩;obtain⟨i,hi,rfl⟩:=Array.mem_iff_getElem.1 b;exact uC<|Array.all_eq_true.1 h i hi
 cases h
def sound:LV.Sound P0.toTables:=by
 refine⟨λt a=>Dj<|Θ.1 H8 t a,λt a=>?_,λt a k e c=>?_⟩;have h:=Θ.1 aak t a;unfold aeG at h;split at h
 rename_i k d;exact⟨k,d⟩;cases h
 have h:=Θ.1 Ia t a;have b:PT.underlying t=V (.map k e):=c;unfold aeH at h;rw[b]at h;exact Dj h
def NO(h:P0.funcs[f]?=V fn):VM f fn=U:=by have:=rW EF (j:=f) (f:=fn) (by grind);rwa[Nat.zero_add]at this
def lS(h:P0.funcs[f]?=V fn):(fn.name== "runtime.NumGoroutine")=Y:=by have:=rW Ib (j:=f) (f:=fn) (by grind);simpa[aeI]using this
def kC.mf{e}(h:kC f e)(a:P0.funcs[f]?=V fn)(hb:fn.body.isNone=U)(i:∀args,TT c<|e args):vt c fn:=by
 obtain⟨d,b,g,h3⟩:=h;rw[a]at b;cases b
 exact⟨lS a,hb,g,e,h3,i⟩
def uD(g:ED.contains f=U)(d:P0.funcs[f]?=V fn)(hb:fn.body.isNone=U):vt c fn:=by
 have e:=ψ.1 g;simp only[ED,List.mem_cons,List.not_mem_nil,or_false]at e;obtain rfl|rfl|rfl|rfl|rfl|rfl|rfl|rfl|rfl|rfl:=e
 exact ami.mf d hb λb=>ua _;exact amj.mf d hb λb=>NB _ _ (d8 _ _) (λt a n k=>oN _) _;exact amk.mf d hb λb=>pG _ _ (d8 _ _) (λt a n k=>AV _ _ _ _) _;exact aml.mf d hb λb=>DX _;exact amm.mf d hb λb=>pG _ _ (d8 _ _) (λt a n k=>DZ _ _ _ _) _;exact amn.mf d hb λb=>FT _;exact amr.mf d hb λb=>PF _ (λt=>ae (qB _) λ_=>bX _) _;exact amo.mf d hb λb=>pE _ _ (λt u=>qo _ _) _;exact amp.mf d hb λb=>xG _ (λt=>DY _) _;exact amq.mf d hb λb=>pE _ _ (λt u=>rj _ _) _
def pi{g}(a:P0.funcs[f]?=V g):(f=166/\yU f g=Vm)\/(f≠166/\g.body.isNone=Y/\yT.contains f=Y/\yU f g=g)\/(f≠166/\yU f g=na)\/(f≠166/\g.body.isNone=U/\ED.contains f=U/\yU f g=g):=by
 unfold yU;by_cases h:f=166
 grind
 have c:(f==166)=Y:=by simpa using h
 cases hb:g.body with
 |some b=>grind
 |none=>grind
def EI(f:FuncId):gV c PV.funcs[f]? P0.funcs[f]?:=by
 rw[Bt];cases hg:P0.funcs[f]? with
 |none=>exact .none
 |some g=>
  obtain⟨rfl,e⟩|⟨_,hb,_,e⟩|⟨_,e⟩|⟨_,hb,a,e⟩:=pi hg<;>simp only[Δ,e]
  exact .oO _ _ rfl (NN g hg) Ie<|lS hg;exact .oO _ _ hb hb (lS hg)<|lS hg;exact .dead _ _ jV;exact .row _<|uD a hg hb
def EJ(f:FuncId):gV c PV.funcs[f]? PV.funcs[f]?:=by
 rw[Bt];cases hg:P0.funcs[f]? with
 |none=>exact .none
 |some g=>
  obtain⟨rfl,e⟩|⟨_,hb,_,e⟩|⟨_,e⟩|⟨_,hb,a,e⟩:=pi hg<;>simp only[Δ,e]
  exact .oO _ _ rfl rfl Ie Ie;exact .oO _ _ hb hb (lS hg)<|lS hg;exact .dead _ _ jV;exact .row _<|uD a hg hb
def vT{b}(h:PV.funcs[f]?=V fn)(hb:fn.body=V b):(f=166/\fn=Vm)\/(f≠166/\P0.funcs[f]?=V fn/\yT.contains f=Y/\be LV Y b=U):=by
 rw[Bt]at h;cases hg:P0.funcs[f]? with
 |none=>rw[hg]at h;cases h
 |some g=>
  rw[hg]at h;simp only[Δ,ω]at h;obtain⟨rfl,e⟩|⟨d,a,hd,e⟩|⟨_,e⟩|⟨_,a,i,e⟩:=pi hg<;>rw[e]at h<;>subst h
  exact .inl ⟨rfl,rfl⟩;have c:=NO hg;unfold VM at c;rw[hb]at c;simp only[hd,Bool.or_false,φ,beq_iff_eq]at c;exact .inr ⟨d,rfl,hd,c.resolve_left d⟩;cases hb
  rw[hb]at a;cases a
def rX{b}(h:PV.funcs[f]?=V fn)(hb:fn.body=V b):P0.inits.idxOf? f=Z:=by
 rw[EH];have:f≠2:=by
  rintro rfl;obtain⟨h,_⟩|⟨_,_,h,_⟩:=vT h hb
  cases h
  trivial
 grind
def Dk(g):PV.stepOf g=Z:=by
 unfold Program.stepOf;rw[Array.findIdx?_eq_none_iff];intro f a;have:=Θ.1 EG f<|Array.mem_toList_iff.2 a;unfold Di at this
 grind
def aeK(S):ge ((cV LV).with S) LV 166:=by
 refine⟨λf=>EI f,λf fn b d h hb=>?_,λf fn b h hb=>rX h hb,Dk,Ic,λ_=>Iff.rfl,λ_=>Iff.rfl,sound⟩;obtain⟨h,_⟩|⟨_,a,_,c⟩:=vT h hb
 grind
 trivial
def uE:ge (cV LV).eH LV 166:=by
 refine⟨λf=>EJ f,λf fn b c h hb=>?_,λf fn b h hb=>rX h hb,Dk,Ic,λ_=>Iff.rfl,λ_=>Iff.rfl,sound⟩;obtain⟨h,_⟩|⟨_,d,_,a⟩:=vT h hb
 exact absurd h c;exact⟨h,a⟩
def dN{b c x}{f:b->Sem c}{P w w' r}(h:(x>>=f).run P w=.ok r w'):∃a w1,x.run P w=.ok a w1/\(f a).run P w1=.ok r w':=by
 rw[Sem.run_bind]at h;cases hx:x.run P w with
 |ok a w1=>rw[hx]at h;exact⟨a,w1,rfl,h⟩
 |halt e w1=>simp_all
def Made.lp{a b}(h:Made.reckonStruct a b=V i):i.methods=#[]:=by
 unfold Made.reckonStruct at h;simp only[Option.bind_eq_bind,M,Option.pure_def,ω]at h
 grind
def Made.rY{a d}(h:Made.reckon a d=V i):i.methods=#[]:=by
 unfold Made.reckon at h;split at h
 obtain⟨j,_,h⟩:=M.1 h;split at h
 cases h
 split at h
 ·cases h
 obtain⟨s,_,h⟩:=M.1 h;cases h;rfl
 obtain⟨s,_,h⟩:=M.1 h;cases h;rfl
 obtain⟨j,_,h⟩:=M.1 h;obtain⟨s,_,h⟩:=M.1 h;cases h;rfl
 obtain⟨j,_,h⟩:=M.1 h;obtain⟨s,_,h⟩:=M.1 h;obtain⟨b,_,h⟩:=M.1 h;obtain⟨c,_,h⟩:=M.1 h;cases h;rfl
 obtain⟨j,_,h⟩:=M.1 h;obtain⟨s,_,h⟩:=M.1 h;cases h;rfl
 obtain⟨s,_,h⟩:=M.1 h;cases h;rfl
 obtain⟨j,_,h⟩:=M.1 h;obtain⟨s,_,h⟩:=M.1 h;cases h;rfl
 exact Made.lp h;cases h
def vU{T:Tables}(h:T.info? t=V i):T.types[t]?=V i\/i.methods=#[]:=by
 unfold Tables.info? at h;split at h
 grind
 unfold Made.depth at h;unfold Made.infoAt at h;split at h
 grind
 obtain⟨d,_,h⟩:=M.1 h;exact .inr<|Made.rY h
def QZ(P:Program)(name:String)(f:FuncId):Prop:=∃(t:TypeId) (i:TypeInfo) (m:Method) (b:Bool),P.types[t]?=V i/\m∈i.methods/\m.name=name/\m.func=V (f,b)
theorem n8{P:Program}{name:String}:∀(n:Nat) (t:TypeId) (v:Value) (w:World) (r:FuncId×Value) (w':World),(method n t v name).run P w=.ok r w'->QZ P name r.1
 |0,t,v,w,r,w',h=>by simp[method,unsupported,Γ]at h
 |n+1,t,v,w,r,w',h=>by
  unfold method at h;obtain⟨i,l,c,h⟩:=dN h;have hi:P.info? t=V i:=by
   simp only[typeInfo,Sem.run_bind,run_program,Result.andThen]at c;split at c
   rename_i j g;cases c
   exact g;simp[stuck,Γ]at c
  split at h
  rename_i m d;obtain⟨⟨o,x⟩,p,_,h⟩:=dN h;dsimp only at h;split at h
  obtain⟨y,k,_,h⟩:=dN h;split at h
  exact n8 n _ _ _ _ _ h;simp[runtimePanic,Γ]at h;simp[stuck,Γ]at h;rename_i f b e;obtain⟨y,k,_,h⟩:=dN h;cases h
  have a:=Array.mem_of_find?_eq_some d;obtain h0|h0:=vU hi
  exact⟨t,i,m,b,h0,a,by simpa using (Array.find?_some d),e⟩;rw[h0]at a;simp at a;simp[stuck,Γ]at h
def Bv{name}(g:name= "Error"\/name= "String")(h:QZ PV name f):PV.funcs[f]?=V na:=by
 obtain⟨t,i,m,b,d,c,h3,h4⟩:=h;have:=Θ.1 NM i<|Array.mem_toList_iff.2<|Array.mem_of_getElem? d;unfold aeJ at this;obtain⟨k,a,rfl⟩:=Array.mem_iff_getElem.1 c;have:=Array.all_eq_true.1 this k a;have e:(i.methods[k].name== "Error"||i.methods[k].name== "String")=U:=by grind
 rw[e]at this;simp only[if_true,h4]at this;exact Id f<|ψ.1 this
def mute:FV PV:=by
 intro v t a name c w f b j h;have g:name= "Error"\/name= "String":=by
  unfold panicText at c
  grind
 unfold invoke callMethod at h;simp only[List.getElem?_toArray,List.getElem?_cons_zero]at h;obtain⟨p,i,l,h⟩:=dN h;obtain⟨⟨m,o⟩,n,e,h⟩:=dN h;have hd:=Bv g<|n8 _ _ _ _ _ _ e;dsimp only at h hd;unfold callFunc at h;obtain⟨q,k,h3,h⟩:=dN h;have d:q=PV:=by
  rw[run_program]at h3;cases h3
  rfl
 rw[d,hd]at h;dsimp only at h;rw[jV.name,jV.body,jV.next,jV.row,jV.init]at h;simp only[Bool.false_eq_true,if_false,if_true]at h;obtain⟨_,w4,_,h⟩:=dN h;simp[unsupported,Γ]at h
end
end Vc
namespace Vc
open Go Go.Conc Ph gO
open Go.ConcM (OsLater)
section
open Classical in
noncomputable def shut (H:Array Obj):Array Obj:=H.map λo=>if Hx LV o then o else bE
variable{H:Array Obj}{b:Nat}
def pj(H):(shut H).size=H.size:=by simp[shut]
def NP{o}(h:(shut H)[b]?=V o):Hx LV o:=by
 unfold shut at h;rw[Array.getElem?_map]at h;obtain⟨a,_,rfl⟩:=Option.map_eq_some_iff.1 h;split
 omega;rfl
def vV{o}(h:H[b]?=V o)(a:Hx LV o):(shut H)[b]?=V o:=by
 unfold shut
 grind
def Bw{cs e f}(h:H[b]?=V (.cells cs e f)):(shut H)[b]?=V (.cells cs e f):=vV h trivial
def Ig{f fn b}(y:f≠166)(u:PV.funcs[f]?=V fn)(t:fn.body=V b)(args){W Post l}(n:∀o,W.heap[0]?=V o->Hx LV o)(p:∀A,gO.Ends PV Post<|solo (G (Ψ PV f args .normal) [])<|bL W (shut W.heap) A 0)(q:∀v h w S,Post v h->HR (cV LV) W S h w->OsLater W.os w.os->Kept (Hx LV) W S w->l v w):
 no P0 l (solo (G (Ψ P0 f args .normal) []) W) #[]:=by
 have hF:=aeK λ_=>False;have e:Ψ P0 f args .normal=Ψ PV f args .normal:=rq hF y u t args .normal;have r:OkG (cV LV) LV 166 (G (Ψ PV f args .normal) []):=⟨(xK (c:=(cV LV).with λ_=>False) hF y u t args<|.inl rfl).oT,λx B=>by simp[G]at B,rfl⟩;have a:pL (cV LV) (shut W.heap):=λb o h=>NP h;have d:gO.Node (cV LV) LV 166 (G (Ψ PV f args .normal) []) (shut W.heap):=⟨a,rfl,.inl r⟩;have C:HR (cV LV) W (λb=>∃o,W.heap[b]?=V o/\¬Hx LV o) (shut W.heap) W:=λk=>⟨λ_ _ _=>rfl,(pj _).symm,λb hb=>by
  show W.heap[b]?=(shut W.heap)[b]?;cases m:W.heap[b]? with
  |none=>exact(Array.getElem?_eq_none (by rw[pj];exact Array.getElem?_eq_none_iff.1 m)).symm
  |some o=>refine(vV m ?_).symm;apply Classical.byContradiction;intro d;exact hb ⟨o,m,d⟩,λb ⟨o,m,d⟩=>by
  refine .inr ?_;show(shut W.heap)[b]?=_;unfold shut;rw[Array.getElem?_map,m];simp[d],λb ⟨o,m,d⟩=>by
  rw[Bq];obtain rfl|hb:=Nat.eq_zero_or_pos b
  exact absurd (n o m) d;exact hb,rfl,a⟩
 rw[e];refine FZ aeK uE H7 q (xO uE mute d p) a rfl _ (.inl ⟨rfl,r⟩) (Go.ConcN.sumTo 1 λ_=>0) #[G (Ψ PV f args .normal) []] W Z #[] (λ_=>0) _ .refl rfl ⟨λi g h0 z=>?_,λj E=>?_⟩ (pW (past_nil.mono (Nat.zero_le _)) λ_ h=>h.elim) C (.refl _) ⟨rfl,rfl,.refl,λb o hb d=>⟨⟨o,hb,d⟩,hb⟩,λb o hb m ⟨D,s,d⟩=>by
  rw[hb]at s;cases s
  exact d m⟩
 ·have:i<1:=(Array.getElem?_eq_some_iff.1 z).1;omega
 simp[Deaf,Trace.deaf]
def ends_of_calls{f fn b}(i:PV.funcs[f]?=V fn)(d:fn.body=V b){args w Post}(h:Calls PV f args w λe w'=>∃v,e=.returned v/\Post v w'.heap):
 gO.Ends PV Post (solo (G (Ψ PV f args .normal) []) w):=by
 obtain⟨e,w',fr,⟨v,rfl,c⟩,hc,a,g⟩:=h [];have hi:PV.inits.idxOf? fr.fn=Z:=by rw[a];exact rX i d
 obtain⟨n,j⟩:=(hc);refine⟨n+1,v,w',?_,c⟩;have:=gO.runN_add n 1 j;refine this.trans ?_;simp only[runN,(step_leave_done g hi)]
end
end Vc
namespace Vc
open Go Go.Conc Go.ChangeShapes Go.WideShapes Go.ChangeAt Go.RowKit Ph gO
open Go.ConcM (OsLater)
def own:ownKnob Tryz.prog.godebug=Z:=by kernel_rfl
def et:Tryz.prog.globalNamed "errors.errorType"=V 0:=by kernel_rfl
def rt:(Tryz.prog.cutTypes.find? (·.1== "internal/reflectlite.rtype")).map (·.2)=V 273:=by kernel_rfl
def VO:((List.range 363).filter λt=>Tryz.prog.rowNamed t [101,114,114,111,114])=[174]:=by kernel_rfl
def aeN:Tryz.prog.types.size=363:=by kernel_rfl
def EL:Value:=.iface 273<|.agg #[.pointer (1,174)]
def uF:List (String×DataW Unit):=[("errors.errorType",Rows.laid_errors_errorType)]
def rZ{W}(h:laidMetH I uF W):W.cell? ⟨0,0,Z⟩=V EL:=by obtain⟨name,u,ty,e1,e2,e3,e4,b⟩:=h.2 _<|χ.2 rfl;have c:=(Ξ e1).symm;subst c;obtain rfl:=Ξ<|rt.symm.trans e2;have a:ty∈(List.range 363).filter λt=>Tryz.prog.rowNamed t [101,114,114,111,114]:=List.mem_filter.2 ⟨υ.2 (by rw[<-aeN];exact e3),e4⟩;rw[VO]at a;obtain rfl:=χ.1 a;rw[(by kernel_rfl:typeHandle I 174=.pointer (1,174))]at b;have:=World.var?_cell et b 0;simpa[EL]using this
noncomputable def uG(os:Os):World:=
 let w0:=World.holding I os ⟨#[],#[],[]⟩
 {w0 with heap:=w0.heap.modify 0 λ
   |.cells _ t frozen=>.cells #[EL] t frozen
   |o=>o}
def tF(os args):laidMetH I uF ((uG os).forCall (λ_ _=>0) ⟨#[],args,[]⟩).memory:=laidMetH_of_parts (laidMet_nil _ _) (by kernel_rfl)
def vW{H d a os f fn s F g fresh c}(h:os.Started)(x:Tryz.prog.funcs[f]?=V fn) (k:∃(w:World) (tape:Tape) (i:Input),w.os=os/\(w.forCall tape i).Shaped I/\i.vars=[]/\Input.okWide I (w.forCall tape i) .any w f i/\
 ((s.pre d I fn g Y (w.forCall tape i).memory i.args/\laidMetH I uF (w.forCall tape i).memory)/\sizedMet d I fn (Ω s) Y (w.forCall tape i).memory i.args)/\a.holds I (lone (Ψ I f i.args .normal) [] (w.forCall tape i))) (l:∀W base args (ds gs:List (DataW H)) before,
 (∀(j:Nat) t v,fn.params[j]?=V t->args[j]?=V v->Value.okWide I W .any base t v) ->
 DataW.Whole d I fn.params.toList s.vars Y W args.toList ds gs before->
 g.all (PathCond.test I ⟨fn.params.toList,ds,s.plain.varTypes I,gs⟩)=U->
 (DataW.weightsEach I (fn.params.toList++s.plain.varTypes I)<|ds++gs).all (·<=reachBytes)=U->
 W.cell? ⟨0,0,Z⟩=V EL->
 no I (λv A=>s.post d I fn Y fresh c Y W args v {A with os:=W.os}/\OsLater W.os A.os) (solo (G (Ψ I f args .normal) []) W) #[]):
 ReturnsInLeavingWide a ο os f .any (λw args=>(s.pre d I fn g Y w args/\laidMetH I uF w)/\sizedMet d I fn (Ω s) Y w args) ((Ω s).postWith d I fn F (outsideKept [.timePasses]) Y fresh c):=by
 refine returnsInLeavingWide_of_good own h k ?_;intro w tape i _ _ _ u q r;obtain⟨_,_,_,J,p,_,_,_,_,n⟩:=u;have e:=Ξ<|p.symm.trans x;subst e;obtain⟨⟨⟨ds,gs,before,hw,hc⟩,E⟩,hz⟩:=q;obtain⟨b,m,o,y,C,D,B,h3,h4⟩:=l (w.forCall tape i) w i.args ds gs before n (DataW.Whole.of_heap (w':=w.forCall tape i) (by rfl) hw) hc (hz.weights hw)<|rZ (W:=w.forCall tape i)<|E.of_heap<|by rfl
 obtain⟨v,e,z,r1,r2,r3,r4⟩:=h4;exact⟨b,m,o,y,C,D,B,h3,v,e,postWith_blind<|postWith_of_post z.1 z.2,r1,r2,r3,r4⟩
def v6(n:Nat)(H0:Array Obj)(v:Value)(h:Array Obj):Prop:=v=.bool U/\n<=h.size/\∀b,b<n->h[b]?=H0[b]?
def EM{W w:World}{h S v}(f:v6 W (shut W.heap) v h)(e:HR (cV LV) W S h w)(c:Kept (Hx LV) W S w):Below W W {w with os:=W.os}:=by
 obtain⟨rfl,i,g⟩:=f;refine⟨rfl,c.tape,c.output,?_,λb hb=>?_⟩;have:w.heap.size=h.size:=(e 0).size
 grind
 show w.heap[b]?=W.heap[b]?;obtain⟨o,a⟩:∃o,W.heap[b]?=V o:=⟨_,Array.getElem?_eq_getElem hb⟩;by_cases d:Hx LV o
 have e1:w.heap[b]?=h[b]?:=(e 0).same b<|c.fair b o a d;rw[e1,g b hb,vV a d,a];rw[(c.R9 b o a d).2,a]
def JO(f:FuncId):Prop:=∀u a mc l,Kn.By u (.slice a l.length mc) l->Calls PV f #[.slice a l.length mc] u λe w'=>∃v,e=.returned v/\v6 u.heap.size u.heap v w'.heap
def NE:Tryz.prog.underlying 24=V (.slice 3):=by kernel_rfl
def afH:Tryz.prog.underlying 3=V (.int .i64):=by kernel_rfl
def aal:Tryz.prog.cellsOf 3=1:=by kernel_rfl
def Xn{W b o x}(a:Tape)(h:W.cell? ⟨b,o,Z⟩=V x):(bL W (shut W.heap) a 0).cell? ⟨b,o,Z⟩=V x:=by
 obtain⟨c,d,e,g0,_,_⟩:=gO.qR h;simp only[World.cell?,bL,(Bw g0)]at h⊢
 grind
def Xo{H g W r b0 v}{d:DataW H}{ps}(x:Value.okWide I W r b0 24 v)(h:DataW.Trod g I W 0 (λ_=>U) U 24 v d ps):
 ∃(a:Option Addr) (mc:Nat) (l:List Int),v=.slice a l.length mc/\(∀k,Kn.By (bL W (shut W.heap) k 0) (.slice a l.length mc) l)/\∀o,Below W.heap.size W o->∀sp,(∀p∈ps,sp p.block=U) ->DataW.Trod g I o 0 sp U 24 v d ps:=by
 obtain⟨a,len,f,rfl⟩:=okWide_slice NE x;obtain⟨t,w⟩:=h;obtain⟨e,s⟩|⟨a,len,f,zs,e,_,u,q,hz,s,hc,hw⟩:=open_ints NE afH aal w
 injection e with e _
 injection e with e1 e2 e3
 subst e1 e2 e3;cases s
 exact⟨Z,0,[],rfl,λk=>⟨Z,0,rfl,.refl,by omega,λh=>absurd h<|by simp⟩,λo _ sp _=>shut_slice_nil NE⟩;injection e with e _
 injection e with e1 e2 e3
 subst e1 e2 e3;cases s
 simp only[if_true]at hz;have c:(zs.take len).length=len:=by simp;omega
 refine⟨V a,f,zs.take len,by rw[c],λk=>⟨V a,f,rfl,by rw[c];exact u,by unfold maxLen at q;exact q,λh0=>?_⟩,λo hb sp hs=>⟨2,?_⟩⟩;obtain⟨b,off,rfl,j⟩:=ints_at hc (by omega);refine⟨b,off,rfl,by show b<(shut W.heap).size;rw[pj];exact Kn.az<|j 0<|by omega,λi n hi=>?_⟩;rw[List.getElem?_take]at hi;split at hi
 have m:=j i (List.getElem?_eq_some_iff.1 hi).1;rw[List.getD,hi]at m;exact Xn k m;cases hi
 refine shut_ints 0 NE afH aal (Nat.zero_le _) u q ?_ (λi hi=>?_) hw
 ·obtain h0|h0:=Nat.eq_zero_or_pos zs.length
  ·split<;>omega
  have m:sp a.block=U:=hs (.cell a.block<|a.off+0)<|List.mem_map.2 ⟨0,υ.2 h0,rfl⟩;rw[if_pos m];exact hz
 rw[hb.cell (block_lt_of_cell<|hc i hi)];exact hc i hi
noncomputable abbrev gP:Program:=Tryz.pinned.checked.prog
noncomputable abbrev gF:Func:=Tryz.f16
abbrev gC:OpenClaim:=Rows.gcBackRow
abbrev gS:ChangeSpec:=Rows.gcBackSpec
def R1:gF.params.toList=[24]:=by kernel_rfl
def aam:gF.resultTypes.toList=[4]:=by kernel_rfl
def Qg(i:JO 16)(os)(c:os.Started)(H)(g:TypeId×Value->H)(F):
 ReturnsInLeavingWide gC.assume ο os 16 .any (λw args=>(gS.pre g I gF [] Y w args/\laidMetH I uF w)/\sizedMet g I gF (Ω gS) Y w args)
  ((Ω gS).postWith g I gF F (outsideKept [.timePasses]) Y U Y):=by
 refine vW c (by kernel_rfl) ?_ ?_;exact⟨uG os,λ_ _=>0,⟨#[],#[.slice Z 0 0],[]⟩,rfl,World.shaped_of_B (by kernel_rfl) (by kernel_rfl),rfl,(Input.okWide_of_okWideB (by kernel_rfl)).2,
  ⟨⟨ChangeSpec.pre_of_preB (fuel:=8)<|by kernel_rfl,tF os _⟩,sizedMet_of_sizedB (fuel:=8)<|by kernel_rfl⟩,by
  simp only[Assume.holds];refine⟨λh=>?_,λ_=>?_,λh=>?_,λd h=>?_,λd h=>?_,λh=>?_⟩;cases (rfl:gC.assume.fair=Y).symm.trans h
  exactλ_ _ _=>rfl
  cases (rfl:gC.assume.modest=Y).symm.trans h
  cases (rfl:gC.assume.brisk=Z).symm.trans h
  cases (rfl:gC.assume.punctual=Z).symm.trans h
  cases (rfl:gC.assume.roomy=Y).symm.trans h⟩
 intro W base args ds gs r k z _ _ G;have m:=z;obtain⟨p,q,A,K,rfl,_,_⟩:=z;rw[R1]at A;obtain⟨v,d,rfl,rfl,hd⟩:=trodAll_one A;obtain⟨rfl,rfl⟩:=trodVars_none K;obtain⟨a,mc,l,rfl,t,j⟩:=Xo (k 0 24 v (by kernel_rfl) rfl) hd;obtain⟨b,hb⟩:∃b,gF.body=V b:=by
  cases u:gF.body with
  |some b=>exact⟨b,rfl⟩
  |none=>exact absurd u (by intro h;have:gF.body.isSome=U:=by kernel_rfl
                            rw[h]at this;cases this)
 have n:PV.funcs[16]?=V gF:=by kernel_rfl
 obtain⟨E,L,N,g0,_,_⟩:=gO.qR G;refine Ig (f:=16) (by decide) n hb #[.slice a l.length mc] (Post:=v6 W.heap.size<|shut W.heap) (λo C=>?_) (λs=>?_) λv h w S B J y D=>?_;rw[g0]at C;cases C
 trivial;have:=i (bL W (shut W.heap) s 0) a mc l<|t s;rw[show(bL W (shut W.heap) s 0).heap.size=W.heap.size from pj _]at this;exact ends_of_calls n hb this;have e:=EM B J D;obtain⟨rfl,_,_⟩:=B;refine⟨⟨_,_,_,[],p,[],m,?_,?_,rfl,e.frame _,λh=>by cases h⟩,y⟩;rw[aam];exact trodAll_mk1<|shut_bool (by kernel_rfl) _;rw[R1];exact trodAll_mk1 (j _ e _ λx u=>by simpa using m.lt x (by simpa using u))
def kx0:(gC.wf<|Ω gS)=U:=by kernel_rfl
def kx1:(laidOutB gP)=U:=by kernel_rfl
def kx2:(mapsRowed gP)=U:=by kernel_rfl
def kx3:(gF.params.all (gP.readableRec ·))=U:=by kernel_rfl
def kx4:(namedTie gP gC.named gS.vars)=U:=by kernel_rfl
def kx5:((gC.stops==[]))=U:=by kernel_rfl
def kx6:((gP.stops==[]))=U:=by kernel_rfl
def kx7:((gC.knobs==[]))=U:=by kernel_rfl
def kx8:((gP.stopKnobs==[]))=U:=by kernel_rfl
def kx9:((gC.inPlace==gP.inPlace 16))=U:=by kernel_rfl
def amu:((gC.unfollowed==gP.unfollowed 16))=U:=by kernel_rfl
def amv:((gC.recurses==gP.recurses 16))=U:=by kernel_rfl
def amw:((gC.named==gP.varsNamed 16))=U:=by kernel_rfl
def amx:((gC.maps==(gF.params.toList++gS.plain.varTypes gP).any (gP.mapsRec ·)))=U:=by kernel_rfl
def amy:((gC.ifaces==(gF.params.toList++gS.plain.varTypes gP).any (gP.ifacesRec ·)))=U:=by kernel_rfl
def amz:((gC.mapsOut==gP.mapsAmong gF.resultTypes.toList))=U:=by kernel_rfl
def amA:((gC.loops==(gF.params.toList++gS.plain.varTypes gP).any (gP.loopsFrom ·)))=U:=by kernel_rfl
def amB:((gC.wideKeys==(gF.params.toList++gS.plain.varTypes gP++gF.resultTypes.toList).any (gP.wideKeysFrom ·)))=U:=by kernel_rfl
def amC:(gS.vars.all (gP.varReadable ·))=U:=by kernel_rfl
def amD:(gF.resultTypes.all λt=>gP.readableRec t&&decide (t<gP.types.size))=U:=by kernel_rfl
def amE:((gC.ifacesOut==gF.resultTypes.toList.any (gP.ifacesRec ·)))=U:=by kernel_rfl
def amF:((gC.loopsOut==gF.resultTypes.toList.any (gP.loopsFrom ·)))=U:=by kernel_rfl
def amG:((gC.plainKeys==gP.plainKeys))=U:=by kernel_rfl
def amH:(gC.shortTexts.isNone)=U:=by kernel_rfl
def amI:(gP.stopsHeard)=U:=by kernel_rfl
def amJ:(gP.mayEnter)=U:=by kernel_rfl
def amK:((gC.lifted==gP.liftsFinal))=U:=by kernel_rfl
def amL:((gP.make==V gC.make))=U:=by kernel_rfl
def amM:((gC.kinds==(if gC.domain.isEmpty then []else gF.params.toList.map λt=>match gP.underlying t with|some (.int k)=>V k|_=>Z)))=U:=by kernel_rfl
def amN:((gC.pinned==gC.pinnedBy))=U:=by kernel_rfl
def amO:((gC.veiled==(gF.params.toList++gS.plain.varTypes gP++gF.resultTypes.toList).any (gP.veiledRec ·)))=U:=by kernel_rfl
def amP:(gC.veiledFits gP gF.params.toList<|gF.params.toList++gS.plain.varTypes gP++gF.resultTypes.toList)=U:=by kernel_rfl
def sb{a b}(h:a=U)(k:b=U):(a&&b)=U:=by rw[h,k];rfl
def aef:joinedFacts gP 16 gF gS gC=U:=by unfold joinedFacts;exact sb (sb (sb (sb (sb (sb (sb (sb (sb (sb (sb (sb (sb (sb (sb (sb (sb (sb (sb (sb (sb (sb (sb (sb (sb (sb (sb (sb (sb (sb (sb (kx0) kx1) kx2) kx3) kx4) kx5) kx6) kx7) kx8) kx9) amu) amv) amw) amx) amy) amz) amA) amB) amC) amD) amE) amF) amG) amH) amI) amJ) amK) amL) amM) amN) amO) amP
def fnN:gP.funcNamed gC.func=V 16:=by kernel_rfl
def ag7:gF.isInstance gP gC.origin gC.targs:=of_decide_eq_true (by kernel_rfl)
def ag8:gF.isWrapper gP gC.wrapper gC.mainSum:=by unfold Func.isWrapper;first|(rw[if_pos (by decide+kernel)];kernel_rfl)|(rw[if_neg (by decide+kernel)];exact⟨rfl,rfl⟩)
def aan:gP.funcs[16]?=V gF:=by kernel_rfl
def hi4:gC.initsInPlace=[]/\gC.initsUnfollowed=Y/\gC.initsRecurse=Y/\gC.initsNamed=[]/\gC.initsPassed=[]:=by trivial
def Rp(b:JO 16):Rows.GcBackSaid:=
 OpenClaim.holds_of_wide_leaving_time (s:=gS) (c:=gC) 16 gF rfl rfl rfl rfl rfl rfl rfl hi4 rfl rfl rfl rfl rfl fnN aan aef ag7 ag8
  (λos a H d _ F=>Qg b os a H d F)
def NQ:gC.start=.entering:=rfl
def VR:gP.mainIs=V (Rows.gcBackCard.stood.harness.1,Rows.gcBackCard.stood.harness.2.toList):=by kernel_rfl
def NR:Claim7.isSixth {stood:={row:=gC,standIns:=[],harness:=Rows.gcBackCard.stood.harness,looks:=U},kinds:=[]}=Y:=by kernel_rfl
def NS:U=gP.looks []:=by kernel_rfl
def VS:gC.wfByText (Ω gS)=U:=by kernel_rfl
def VU:U=gC.goesBy gP:=by kernel_rfl
def aeg:gP.wantsStandIn 24=Y:=by kernel_rfl
def Xp(a:JO 16):Rows.GcBackCardSaid:=by
 have e:=Claim7.new_of_sixth (Rp a) Rows.gcBackCard.stood.harness U NQ ⟨rfl,rfl⟩ VR NR (by
  intro f fn d b;have e1:=Ξ<|d.symm.trans fnN;subst e1;have e2:=Ξ<|b.symm.trans aan;subst e2;exact⟨NS,λj t c=>by
   obtain _|j:=j
   cases c
   exact aeg;simp at c⟩)
 exact⟨Claim7.tied_new_at .later [.handle] U e VS,λD g=>(by cases g),gcBack_row_tie,(λh=>by cases h),VU⟩
end Vc
